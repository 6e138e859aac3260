import PyProof.Rows.All
import PySem.Str
import PyProof.ReprReads
import HandS.ForMost
import HandS.Deep
import HandS.TupAny
import HandS.TupMul
import HandS.IsInst
import HandS.Style
import HandS.Codes
import KE.KDictKeyed
import KE.KeyNested
import HandS.More
import PyProof.ReprBulk
import HandS.SortInts
import HandS.RaiseMore
import HandS.Conv
import HandS.Star
import HandS.TupLe
import HandS.SetFor
import HandS.Walk
import HandS.TryOnly
import KE.GoesEnum
import KE.GoesZip
import KE.GoesEnumKw
import KE.KDictZip
import KE.KDictItemsList
import HandS.ExcValue
import PySem.Challenge.RW_bitsasked_k79_formulas_put_together
set_option autoImplicit false
set_option linter.all false
/-! A small Python over plain data: data, syntax, evaluator. No heap here. -/
namespace Bq
open PySem (Str PyData)

/-! ### data -/
inductive D where
  | non | bl (b : Bool) | int (i : Int) | str (s : Str)
  | tup (xs : List D) | lst (xs : List D)
  /-- a dict; t: its keys are tuples (else ints and texts) -/
  | dic (t : Bool) (kvs : List (D × D))
deriving Inhabited

mutual
/-- Python's == (dicts: never) -/
def eqv : D → D → Bool
  | .non, .non => true
  | .bl a, .bl b => a == b
  | .bl a, .int j => (if a then 1 else 0) == j
  | .int i, .bl b => i == (if b then 1 else 0)
  | .int i, .int j => i == j
  | .str x, .str y => x == y
  | .tup xs, .tup ys => eqvs xs ys
  | .lst xs, .lst ys => eqvs xs ys
  | _, _ => false
def eqvs : List D → List D → Bool
  | [], [] => true
  | x :: xs, y :: ys => eqv x y && eqvs xs ys
  | _, _ => false
end
mutual
def dep : D → Nat
  | .tup xs => deps xs + 1
  | .lst xs => deps xs + 1
  | _ => 0
def deps : List D → Nat
  | [] => 0
  | x :: xs => max (dep x) (deps xs)
end
mutual
/-- no dict within, and texts of signs -/
def plain : D → Bool
  | .str s => PySem.PyData.strOk s
  | .tup xs => plains xs
  | .lst xs => plains xs
  | .dic _ _ => false
  | _ => true
def plains : List D → Bool
  | [] => true
  | x :: xs => plain x && plains xs
end
mutual
/-- what the library calls it -/
def toPy : D → PyData
  | .non => .none
  | .bl b => .bool b
  | .int i => .int i
  | .str s => .str s
  | .tup xs => .tuple (toPys xs)
  | .lst xs => .list (toPys xs)
  | .dic _ _ => .dict []
def toPys : List D → List PyData
  | [] => []
  | x :: xs => toPy x :: toPys xs
end
mutual
/-- a bound for the length of repr -/
def wid : D → Nat
  | .non | .bl _ => 8
  | .int i => 8 + i.natAbs.log2
  | .str s => 8 + 10 * s.length
  | .tup xs => 8 + wids xs
  | .lst xs => 8 + wids xs
  | .dic _ _ => 8
def wids : List D → Nat
  | [] => 0
  | x :: xs => 2 + wid x + wids xs
end
mutual
def ints10 : D → Bool
  | .int i => decide (i.natAbs.log2 < 1920)
  | .tup xs => ints10s xs
  | .lst xs => ints10s xs
  | .dic _ _ => false
  | _ => true
def ints10s : List D → Bool
  | [] => true
  | x :: xs => ints10 x && ints10s xs
end
/-- what repr gives; none: too large, or a dict within -/
def shown (d : D) : Option Str :=
  if plain d && ints10 d && decide (dep d ≤ 150) && decide (wid d ≤ 1000000) then some (PyData.shown (toPy d)) else none

/-- Python's kinds, for what is sorted: ints, texts, tuples of told kinds, sequences of one kind -/
inductive Ty where
  | int | str | bool | tup (ts : List Ty) | tups (t : Ty) | lsts (t : Ty)
mutual
def hasTy : Ty → D → Bool
  | .int, .int _ => true
  | .str, .str _ => true
  | .bool, .bl _ => true
  | .tup ts, .tup xs => hasTys ts xs
  | .tups t, .tup xs => hasAll t xs
  | .lsts t, .lst xs => hasAll t xs
  | _, _ => false
def hasTys : List Ty → List D → Bool
  | [], [] => true
  | t :: ts, x :: xs => hasTy t x && hasTys ts xs
  | _, _ => false
def hasAll : Ty → List D → Bool
  | _, [] => true
  | t, x :: xs => hasTy t x && hasAll t xs
end
def ltNats : List Nat → List Nat → Bool
  | [], [] => false
  | [], _ :: _ => true
  | _ :: _, [] => false
  | a :: as, b :: bs => if a = b then ltNats as bs else decide (a < b)
mutual
/-- < of data of one kind -/
def ltD : D → D → Bool
  | .bl a, .bl b => !a && b
  | .int i, .int j => decide (i < j)
  | .str x, .str y => ltNats x.cps.toList y.cps.toList
  | .tup xs, .tup ys => ltDs xs ys
  | .lst xs, .lst ys => ltDs xs ys
  | _, _ => false
def ltDs : List D → List D → Bool
  | [], [] => false
  | [], _ :: _ => true
  | _ :: _, [] => false
  | x :: xs, y :: ys => if eqv x y then ltDs xs ys else ltD x y
end
/-- a stable sort by keys -/
def isort : List (D × D) → List (D × D)
  | [] => []
  | (k, x) :: r => insBefore k x (isort r)
where insBefore (k x : D) : List (D × D) → List (D × D)
  | [] => [(k, x)]
  | (l, y) :: r => if ltD l k then (l, y) :: insBefore k x r else (k, x) :: (l, y) :: r

/-! ### what may be drawn -/
inductive M (α : Type) : Type where
  | ret (a : α) | fail | pick (k : Int) (c : Int → M α)
namespace M
variable {α β : Type}
def bind : M α → (α → M β) → M β
  | .ret a, f => f a
  | .fail, _ => .fail
  | .pick k c, f => .pick k fun r => (c r).bind f
def all : M α → (α → Prop) → Prop
  | .ret a, Q => Q a
  | .fail, _ => False
  | .pick k c, Q => ∀ r, 0 ≤ r → r < k → (c r).all Q
def opt : Option α → M α
  | some a => .ret a
  | none => .fail
@[simp] theorem bind_ret (a : α) (f : α → M β) : (M.ret a).bind f = f a := rfl
@[simp] theorem bind_fail (f : α → M β) : (M.fail : M α).bind f = .fail := rfl
@[simp] theorem all_ret (a : α) (Q : α → Prop) : (M.ret a).all Q = Q a := rfl
@[simp] theorem all_fail (Q : α → Prop) : (M.fail : M α).all Q = False := rfl
@[simp] theorem opt_some (a : α) : opt (some a) = .ret a := rfl
theorem all_bind : ∀ (m : M α) (f : α → M β) (Q : β → Prop), (m.bind f).all Q = m.all fun a => (f a).all Q
  | .ret _, _, _ => rfl
  | .fail, _, _ => rfl
  | .pick k c, f, Q => by
    have h : ∀ r, ((c r).bind f).all Q = (c r).all fun a => (f a).all Q := fun r => all_bind (c r) f Q
    show (∀ r, 0 ≤ r → r < k → ((c r).bind f).all Q) = ∀ r, 0 ≤ r → r < k → (c r).all fun a => (f a).all Q
    simp only [h]
theorem all_mono {Q Q' : α → Prop} (h : ∀ a, Q a → Q' a) : ∀ {m : M α}, m.all Q → m.all Q'
  | .ret a, q => h a q
  | .fail, q => q
  | .pick k c, q => fun r h0 h1 => all_mono h (q r h0 h1)
theorem bind_assoc {γ : Type} : ∀ (m : M α) (f : α → M β) (g : β → M γ), (m.bind f).bind g = m.bind fun a => (f a).bind g
  | .ret _, _, _ => rfl
  | .fail, _, _ => rfl
  | .pick k c, f, g => by
    show M.pick k _ = M.pick k _
    congr 1
    funext r
    exact bind_assoc (c r) f g
end M

/-! ### values, slots -/
inductive Vl where
  | d (x : D) | src | fn (g : Nat)
/-- a slot: unset; a value that is shared; a list or dict that this name alone has -/
inductive Sl where
  | u | vl (x : Vl) | ow (x : D)
abbrev Env := List Sl
/-- an operand: a value; the own list of a slot; a list or dict just made -/
inductive Od where
  | vl (x : Vl) | own (i : Nat) | fr (x : D)
namespace Od
/-- what it is as data -/
def res (env : Env) : Od → Option D
  | .vl (.d x) => some x
  | .vl _ => none
  | .fr x => some x
  | .own i => match env[i]? with
    | some (.ow x) => some x
    | some (.vl (.d x)) => some x
    | _ => none
/-- shared from now on -/
def frz (env : Env) : Od → Option (Vl × Env)
  | .vl x => some (x, env)
  | .fr x => some (.d x, env)
  | .own i => match env[i]? with
    | some (.ow x) => some (.d x, env.set i (.vl (.d x)))
    | some (.vl x) => some (x, env)
    | _ => none
def norm : Od → Od
  | .fr x => .vl (.d x)
  | o => o
def int (i : Int) : Od := .vl (.d (.int i))
def bl (b : Bool) : Od := .vl (.d (.bl b))
end Od

/-- an own list is there -/
def ownL (env : Env) (i : Nat) : Bool := match env[i]? with
  | some (.ow (.lst _)) => true
  | _ => false

/-- an own list or dict is there -/
def ownO (env : Env) (i : Nat) : Bool := match env[i]? with
  | some (.ow _) => true
  | _ => false

/-! ### syntax -/
inductive BOp where | add | sub | mul | fdiv | mod | shl | pow
inductive COp where | eq | ne | lt | le | gt | ge | mem | nmem
/-- classes that isinstance is asked about -/
inductive Cl where | int | bool | str | tuple | list | dict
inductive Tg where
  | nm (i : Nat) | tp (ts : List Tg)
/-- built-ins, of operands -/
inductive Bi where
  | len | list | tuple | int | abs | sum | min1 (t : Ty) | max1 (t : Ty) | min2 | max2 | all | any | repr | isi (c : Cl) | sorted (t : Ty)
  | rng1 | dict | set | lenset | zipl
mutual
inductive Ex where
  | v (i : Nat) | non | bl (b : Bool) | int (i : Int) | str (s : Str) | gfn (g : Nat)
  | bin (o : BOp) (a b : Ex) | neg (a : Ex)
  | cmp (o : COp) (a b : Ex) | chn (o p : COp) (a b c : Ex)
  | isN (pos : Bool) (a : Ex) | isB (pos : Bool) (b : Bool) (a : Ex)
  | nt (a : Ex) | bop (isAnd : Bool) (es : Exs) | ite (c a b : Ex)
  | tup (es : Exs) | lst (es : Exs) | dnew (t : Bool) | dsp (ks : List D) (es : Exs)
  | ix (a i : Ex) | sl (a : Ex) (lo hi : Ox) | rev (a : Ex)
  | call (g : Nat) (es : Exs) | callv (i : Nat) (es : Exs)
  | bi (b : Bi) (es : Exs)
  | pop (i : Nat) | popAt (i : Nat) (e : Ex) | cnt (a x : Ex)
  | pick (s : Nat) (k : Ex)
  | lc (elt : Ex) (g : Tg) (it : It) (ifs : Exs) (own fz : List Nat)
  | srt (a : Ex) (g : Nat) (t : Ty)
inductive Exs where
  | nil | cons (e : Ex) (r : Exs) | star (e : Ex) (r : Exs)
inductive Ox where
  | no | so (e : Ex)
inductive It where
  | seq (e : Ex) | rg1 (a : Ex) | rg2 (a b : Ex) | rg3 (a b c : Ex) | enu (e : Ex) | zip (es : Exs) (strict : Bool)
end
mutual
inductive St where
  | asg (i : Nat) (e : Ex) | par (is : List Nat) (es : Exs) | asgT (g : Tg) (e : Ex)
  | setI (i : Nat) (k e : Ex)
  | aug (i : Nat) (o : BOp) (e : Ex)
  | app (i : Nat) (e : Ex) | ext (i : Nat) (e : Ex)
  | iff (c : Ex) (a b : Sts) | wh (c : Ex) (b : Sts) | fr (g : Tg) (it : It) (b : Sts)
  | ret (e : Ex) | retN | pass
  /-- no statement of the program: own lists and dicts shared -/
  | shr (is : List Nat)
inductive Sts where
  | nil | cons (s : St) (r : Sts)
end
/-- a def: how many parameters, how many further names -/
structure Df where
  np : Nat
  nl : Nat
  body : Sts

/-! ### operations on data -/
def cap : Nat := 1000000
def bnd64 (i : Int) : Bool := decide (i.natAbs < 18446744073709551616)
def rep (k : Nat) (xs : List D) : List D := match k with
  | 0 => []
  | k + 1 => xs ++ rep k xs
def binop : BOp → D → D → Option Od
  | .add, .int i, .int j => some (.int (i + j))
  | .add, .lst a, .lst b => if a.length + b.length ≤ cap then some (.fr (.lst (a ++ b))) else none
  | .add, .tup a, .tup b => if a.length + b.length ≤ cap then some (.vl (.d (.tup (a ++ b)))) else none
  | .sub, .int i, .int j => some (.int (i - j))
  | .mul, .int i, .int j => if bnd64 i || bnd64 j then some (.int (i * j)) else none
  | .mul, .lst a, .int k => if 0 ≤ k ∧ k.natAbs ≤ 1000000 ∧ a.length * k.toNat ≤ cap then some (.fr (.lst (rep k.toNat a))) else none
  | .mul, .tup a, .int k => if k = 1 then some (.vl (.d (.tup a))) else if 2 ≤ k ∧ k.natAbs ≤ 1000 ∧ a.isEmpty = false ∧ a.length ≤ 1000 then some (.vl (.d (.tup (rep k.toNat a)))) else none
  | .fdiv, .int i, .int j => if 0 < j ∧ j.natAbs < 1073741824 then some (.int (i / j)) else none
  | .mod, .int i, .int j => if 0 < j then some (.int (i % j)) else none
  | .shl, .int i, .int j => if 0 ≤ j ∧ j.natAbs ≤ 1000000 ∧ i.natAbs < 18446744073709551616 then some (.int (i * 2 ^ j.toNat)) else none
  | .pow, .int i, .int j => if 0 ≤ j ∧ j.natAbs ≤ 1000000 ∧ i.natAbs < 18446744073709551616 then some (.int (i ^ j.toNat)) else none
  | _, _, _ => none
mutual
/-- may be a key of a dict of tuples -/
def keyT : D → Bool
  | .tup xs => keyTs xs
  | _ => false
def keyIn : D → Bool
  | .non | .int _ | .str _ => true
  | .tup xs => keyTs xs
  | _ => false
def keyTs : List D → Bool
  | [] => true
  | x :: xs => keyIn x && keyTs xs
end
def keyOk (t : Bool) (k : D) : Bool := if t then keyT k && decide (dep k ≤ 8) else match k with
  | .int _ | .str _ => true
  | _ => false
def dget (k : D) : List (D × D) → Option D
  | [] => none
  | (l, v) :: r => if eqv l k then some v else dget k r
def dput (k v : D) (kvs : List (D × D)) : List (D × D) :=
  if kvs.any (fun p => eqv p.1 k) then kvs.map (fun p => if eqv p.1 k then (p.1, v) else p) else kvs ++ [(k, v)]
def dputs : List D → List D → List (D × D) → List (D × D)
  | k :: ks, x :: xs, kvs => dputs ks xs (dput k x kvs)
  | _, _, kvs => kvs
/-- x == y may be asked -/
def eqOk (x y : D) : Bool := plain x && plain y && decide (min (dep x) (dep y) ≤ 150)
def memOk (x : D) (ys : List D) : Bool := plain x && plains ys && decide (dep x ≤ 150)
def cmpop : COp → D → D → Option Bool
  | .eq, .str x, .str y => some (x == y)
  | .ne, .str x, .str y => some (!(x == y))
  | .eq, x, y => if eqOk x y then some (eqv x y) else none
  | .ne, x, y => if eqOk x y then some (!eqv x y) else none
  | .lt, .int i, .int j => some (decide (i < j))
  | .le, .int i, .int j => some (decide (i ≤ j))
  | .gt, .int i, .int j => some (decide (j < i))
  | .ge, .int i, .int j => some (decide (j ≤ i))
  | .lt, .tup a, .tup b => if hasAll .int a && hasAll .int b then some (ltDs a b) else none
  | .mem, x, .tup ys => if memOk x ys then some (ys.any fun y => eqv y x) else none
  | .mem, x, .lst ys => if memOk x ys then some (ys.any fun y => eqv y x) else none
  | .nmem, x, .tup ys => if memOk x ys then some (!ys.any fun y => eqv y x) else none
  | .nmem, x, .lst ys => if memOk x ys then some (!ys.any fun y => eqv y x) else none
  | .mem, x, .dic t kvs => if keyOk t x then some (dget x kvs).isSome else none
  | .nmem, x, .dic t kvs => if keyOk t x then some (!(dget x kvs).isSome) else none
  | _, _, _ => none
/-- an item by a number that may be negative -/
def atD (xs : List D) (i : Int) : Option D := if 0 ≤ i then (if i < xs.length then xs[i.toNat]? else none) else if -(xs.length : Int) ≤ i then xs[(i + xs.length).toNat]? else none
def index : D → D → Option D
  | .tup xs, .int i => atD xs i
  | .lst xs, .int i => atD xs i
  | .dic t kvs, k => if keyOk t k then dget k kvs else none
  | _, _ => none
/-- a slice's end as a place -/
def cutAt (n dflt : Nat) : Option Int → Nat
  | none => dflt
  | some i => if i < 0 then (i + n).toNat else min i.toNat n
def cut (xs : List D) (lo hi : Option Int) : List D := (xs.drop (cutAt xs.length 0 lo)).take (cutAt xs.length xs.length hi - cutAt xs.length 0 lo)
def slice : D → Option Int → Option Int → Option Od
  | .tup xs, lo, hi => some (.vl (.d (.tup (cut xs lo hi))))
  | .lst xs, lo, hi => some (.fr (.lst (cut xs lo hi)))
  | _, _, _ => none
def toInts : List D → Option (List Int)
  | [] => some []
  | .int i :: r => (toInts r).map (i :: ·)
  | _ :: _ => none
def toBools : List D → Option (List Bool)
  | [] => some []
  | .bl b :: r => (toBools r).map (b :: ·)
  | _ :: _ => none
def itemsOf : D → Option (List D)
  | .tup xs => some xs
  | .lst xs => some xs
  | .dic _ kvs => some (kvs.map (·.1))
  | _ => none
def seqOf : D → Option (List D)
  | .tup xs => some xs
  | .lst xs => some xs
  | _ => none
def isCl : Cl → D → Option Bool
  | _, .dic true _ => none
  | .int, .int _ => some true
  | .int, .bl _ => some true
  | .bool, .bl _ => some true
  | .str, .str _ => some true
  | .tuple, .tup _ => some true
  | .list, .lst _ => some true
  | .dict, .dic _ _ => some true
  | _, _ => some false
def insI (n : Int) : List Int → List Int
  | [] => [n]
  | m :: r => if m < n then m :: insI n r else n :: m :: r
def sortI : List Int → List Int
  | [] => []
  | n :: r => insI n (sortI r)
def rangeD (lo : Int) : Nat → List D
  | 0 => []
  | n + 1 => .int lo :: rangeD (lo + 1) n
/-- from lo by steps of c -/
def stepsD (lo c : Int) : Nat → List D
  | 0 => []
  | n + 1 => .int lo :: stepsD (lo + c) c n
def zipD : List D → List D → List D
  | x :: xs, y :: ys => .tup [x, y] :: zipD xs ys
  | _, _ => []
def small (i : Int) : Bool := decide (i.natAbs ≤ 1000000)
def bi : Bi → List D → Option Od
  | .len, [.tup xs] => some (.int xs.length)
  | .len, [.lst xs] => some (.int xs.length)
  | .len, [.dic false kvs] => some (.int kvs.length)
  | .list, [.tup xs] => some (.fr (.lst xs))
  | .list, [.lst xs] => some (.fr (.lst xs))
  | .tuple, [.tup xs] => some (.vl (.d (.tup xs)))
  | .tuple, [.lst xs] => some (.vl (.d (.tup xs)))
  | .int, [.int i] => some (.int i)
  | .int, [.bl b] => some (.int (if b then 1 else 0))
  | .abs, [.int i] => some (.int (if i < 0 then -i else i))
  | .sum, [.lst xs] => (toInts xs).map fun ns => .int ns.sum
  | .min1 .int, [.lst (x :: xs)] => match toInts (x :: xs) with
    | some (n :: ns) => some (.int (ns.foldl (fun a b => if b < a then b else a) n))
    | _ => none
  | .max1 .int, [.lst (x :: xs)] => match toInts (x :: xs) with
    | some (n :: ns) => some (.int (ns.foldl (fun a b => if a < b then b else a) n))
    | _ => none
  | .min1 .int, [.tup (x :: xs)] => match toInts (x :: xs) with
    | some (n :: ns) => some (.int (ns.foldl (fun a b => if b < a then b else a) n))
    | _ => none
  | .max1 .int, [.tup (x :: xs)] => match toInts (x :: xs) with
    | some (n :: ns) => some (.int (ns.foldl (fun a b => if a < b then b else a) n))
    | _ => none
  | .min2, [.int i, .int j] => some (.int (if j < i then j else i))
  | .max2, [.int i, .int j] => some (.int (if j > i then j else i))
  | .all, [.lst xs] => (toBools xs).map fun bs => .bl (bs.all id)
  | .any, [.lst xs] => (toBools xs).map fun bs => .bl (bs.any id)
  | .repr, [x] => (shown x).map fun s => .vl (.d (.str s))
  | .isi c, [x] => (isCl c x).map Od.bl
  | .sorted .int, [.lst xs] => (toInts xs).map fun ns => .fr (.lst ((sortI ns).map D.int))
  | .zipl, [.lst xs, .lst ys] => if xs.length = ys.length then some (.fr (.lst (zipD xs ys))) else none
  | .lenset, [.tup xs] => (toInts xs).bind fun ns => if ns.length ≤ 1000 then some (.int ns.eraseDups.length) else none
  | .rng1, [.int n] => if small n then some (.fr (.lst (rangeD 0 n.toNat))) else none
  | _, _ => none
/-! ### the evaluator; cl: what a call of a def gives -/
def two {α : Type} (p q : Od) (env : Env) (f : D → D → Option α) : M α :=
  match p.norm.res env, q.norm.res env with
  | some x, some y => M.opt (f x y)
  | _, _ => .fail
def resAll (env : Env) : List Od → Option (List D)
  | [] => some []
  | o :: r => match o.res env, resAll env r with
    | some x, some xs => some (x :: xs)
    | _, _ => none
def vlDs : List Vl → Option (List D)
  | [] => some []
  | .d x :: r => (vlDs r).map (x :: ·)
  | _ :: _ => none
def lcLoop (step : D → Env → M (Option D × Env)) : List D → Env → M (List D × Env)
  | [], env => .ret ([], env)
  | x :: xs, env => (step x env).bind fun (o, env) => (lcLoop step xs env).bind fun (ys, env) => .ret (match o with | some y => y :: ys | none => ys, env)
/-- the slots of a comprehension's own names forgotten -/
def unset (env : Env) : List Nat → Env
  | [] => env
  | i :: r => (unset env r).set i .u
/-- .. and as they were ahead of it -/
def back (old new : Env) : List Nat → Env
  | [] => new
  | i :: r => (back old new r).set i (match old[i]? with | some s => s | none => .u)
/-- an own list or dict shared -/
def shr (env : Env) (i : Nat) : Env := match env[i]? with
  | some (.ow x) => env.set i (.vl (.d x))
  | _ => env
def shrs (env : Env) : List Nat → Env
  | [] => env
  | i :: r => shrs (shr env i) r
def noOwn (env : Env) (own : List Nat) : Bool := own.all fun i => match env[i]? with
  | some (.ow _) => false
  | _ => true
mutual
/-- a target takes a value -/
def asgTg : Tg → D → Env → Option Env
  | .nm i, x, env => some (env.set i (.vl (.d x)))
  | .tp ts, .tup xs, env => asgTgs ts xs env
  | .tp ts, .lst xs, env => asgTgs ts xs env
  | .tp _, _, _ => none
def asgTgs : List Tg → List D → Env → Option Env
  | [], [], env => some env
  | t :: ts, x :: xs, env => (asgTg t x env).bind fun env => asgTgs ts xs env
  | _, _, _ => none
end
def zip3D : List D → List D → List D → List D
  | x :: xs, y :: ys, z :: zs => .tup [x, y, z] :: zip3D xs ys zs
  | _, _, _ => []
def enumD (i : Int) : List D → List D
  | [] => []
  | x :: xs => .tup [.int i, x] :: enumD (i + 1) xs
def zipAll (strict : Bool) : List D → Option (List D)
  | [a, b] => match seqOf a, seqOf b with
    | some xs, some ys => if !strict || xs.length == ys.length then some (zipD xs ys) else none
    | _, _ => none
  | [a, b, c] => if strict then none else match seqOf a, seqOf b, seqOf c with
    | some xs, some ys, some zs => some (zip3D xs ys zs)
    | _, _, _ => none
  | _ => none
def keysBy (cl : Nat → List Vl → M D) (g : Nat) : List D → M (List (D × D))
  | [] => .ret []
  | x :: xs => (cl g [.d x]).bind fun k => (keysBy cl g xs).bind fun ks => .ret ((k, x) :: ks)
def exsLen : Exs → Nat
  | .nil => 0
  | .cons _ r => exsLen r + 1
  | .star _ r => exsLen r + 1
section
variable (cl : Nat → List Vl → M D)
mutual
def evO : Ex → Env → M (Od × Env)
  | .v i, env => match env[i]? with
    | some (.vl x) => .ret (.vl x, env)
    | some (.ow _) => .ret (.own i, env)
    | _ => .fail
  | .non, env => .ret (.vl (.d .non), env)
  | .bl b, env => .ret (.bl b, env)
  | .int i, env => .ret (.int i, env)
  | .str s, env => .ret (.vl (.d (.str s)), env)
  | .gfn g, env => .ret (.vl (.fn g), env)
  | .bin o a b, env => (evO a env).bind fun (p, env) => (evO b env).bind fun (q, env) => (two p q env (binop o)).bind fun r => .ret (r, env)
  | .neg a, env => (evO a env).bind fun (p, env) => match p.res env with
    | some (.int i) => .ret (.int (-i), env)
    | _ => .fail
  | .cmp o a b, env => (evO a env).bind fun (p, env) => (evO b env).bind fun (q, env) => (two p q env fun x y => (cmpop o x y).map Od.bl).bind fun r => .ret (r, env)
  | .chn o o2 a b c, env => (evO a env).bind fun (p, env) => (evO b env).bind fun (q, env) => (two p q env (cmpop o)).bind fun r =>
      if r then (evO c env).bind fun (s, env) => (two q s env (cmpop o2)).bind fun r => .ret (.bl r, env) else .ret (.bl false, env)
  | .isN pos a, env => (evO a env).bind fun (p, env) => match p.norm.res env with
    | some .non => .ret (.bl pos, env)
    | some _ => .ret (.bl (!pos), env)
    | none => .fail
  | .isB pos b a, env => (evO a env).bind fun (p, env) => match p with
    | .vl (.d (.bl c)) => .ret (.bl ((b == c) == pos), env)
    | _ => .fail
  | .nt a, env => (evO a env).bind fun (p, env) => match p with
    | .vl (.d (.bl c)) => .ret (.bl (!c), env)
    | _ => .fail
  | .bop isAnd es, env => (evB isAnd es env).bind fun (b, env) => .ret (.bl b, env)
  | .ite c a b, env => (evO c env).bind fun (p, env) => match p with
    | .vl (.d (.bl true)) => evO a env
    | .vl (.d (.bl false)) => evO b env
    | _ => .fail
  | .tup es, env => (evVs es env).bind fun (vs, env) => match vlDs vs with
    | some xs => if xs.length ≤ cap then .ret (.vl (.d (.tup xs)), env) else .fail
    | none => .fail
  | .lst es, env => (evVs es env).bind fun (vs, env) => match vlDs vs with
    | some xs => if xs.length ≤ cap then .ret (.fr (.lst xs), env) else .fail
    | none => .fail
  | .dnew t, env => .ret (.fr (.dic t []), env)
  | .dsp ks es, env => (evVs es env).bind fun (vs, env) => match vlDs vs with
    | some xs => if ks.length = xs.length then .ret (.fr (.dic false (dputs ks xs [])), env) else .fail
    | none => .fail
  | .ix a i, env => (evO a env).bind fun (p, env) => (evO i env).bind fun (q, env) => (two p q env fun x y => (index x y).map fun r => .vl (.d r)).bind fun r => .ret (r, env)
  | .sl a lo hi, env => (evO a env).bind fun (p, env) => (evX lo env).bind fun (l, env) => (evX hi env).bind fun (h, env) =>
      match p.norm.res env with
      | some x => (M.opt (slice x l h)).bind fun r => .ret (r, env)
      | none => .fail
  | .rev a, env => (evO a env).bind fun (p, env) => match p.norm.res env with
    | some (.lst xs) => .ret (.fr (.lst xs.reverse), env)
    | some (.tup xs) => .ret (.vl (.d (.tup xs.reverse)), env)
    | _ => .fail
  | .call g es, env => (evVs es env).bind fun (vs, env) => (cl g vs).bind fun x => .ret (.vl (.d x), env)
  | .callv i es, env => match env[i]? with
    | some (.vl (.fn g)) => (evVs es env).bind fun (vs, env) => (cl g vs).bind fun x => .ret (.vl (.d x), env)
    | _ => .fail
  | .bi b es, env => (evOs es env).bind fun (os, env) => match resAll env os with
    | some xs => (M.opt (bi b xs)).bind fun r => .ret (r, env)
    | none => .fail
  | .pop i, env => match env[i]? with
    | some (.ow (.lst xs)) => match xs.getLast? with
      | some x => .ret (.vl (.d x), env.set i (.ow (.lst xs.dropLast)))
      | none => .fail
    | _ => .fail
  | .popAt i e, env => if ownL env i then (evO e env).bind fun (p, env) => match p, env[i]? with
    | .vl (.d (.int k)), some (.ow (.lst xs)) => if 0 ≤ k ∧ k.natAbs < 1000000 then match xs[k.toNat]? with
      | some x => .ret (.vl (.d x), env.set i (.ow (.lst (xs.eraseIdx k.toNat))))
      | none => .fail else .fail
    | _, _ => .fail else .fail
  | .cnt a x, env => (evO a env).bind fun (p, env) => match p with
    | .vl (.d (.tup xs)) => (evO x env).bind fun (q, env) => match q with
      | .vl (.d (.int k)) => match toInts xs with
        | some ns => .ret (.int (ns.count k), env)
        | none => .fail
      | _ => .fail
    | _ => .fail
  | .pick s k, env => match env[s]? with
    | some (.vl .src) => (evO k env).bind fun (p, env) => match p with
      | .vl (.d (.int n)) => if n < 2 then .ret (.int 0, env) else if n.natAbs < 1000000000 then .pick n fun r => .ret (.int r, env) else .fail
      | _ => .fail
    | _ => .fail
  | .lc elt g it ifs own fz, env => (evIt it env).bind fun (xs, env) => if noOwn env own && decide (xs.length ≤ cap) then
      (lcLoop (fun x env => match asgTg g x env with
        | some env => (evB true ifs env).bind fun (b, env) => if b then (evO elt env).bind fun (o, env) => match o.frz env with
            | some (.d y, env) => .ret (some y, unset env own)
            | _ => .fail
          else .ret (none, unset env own)
        | none => .fail) xs (unset (shrs env fz) own)).bind fun (ys, env2) => .ret (.fr (.lst ys), back env env2 own)
      else .fail
  | .srt a g t, env => (evO a env).bind fun (p, env) => match (p.norm.res env).bind itemsOf with
    | some xs => (keysBy cl g xs).bind fun ks => if hasAll t (ks.map (·.1)) && decide (xs.length ≤ cap) then .ret (.fr (.lst ((isort ks).map (·.2))), env) else .fail
    | none => .fail
def evX : Ox → Env → M (Option Int × Env)
  | .no, env => .ret (none, env)
  | .so e, env => (evO e env).bind fun (p, env) => match p with
    | .vl (.d (.int i)) => if small i then .ret (some i, env) else .fail
    | _ => .fail
/-- and, or: of truth values, the last one by itself -/
def evB (isAnd : Bool) : Exs → Env → M (Bool × Env)
  | .nil, env => .ret (isAnd, env)
  | .cons e r, env => (evO e env).bind fun (p, env) => match p with
    | .vl (.d (.bl b)) => if b == isAnd then evB isAnd r env else .ret (b, env)
    | _ => .fail
  | .star _ _, _ => .fail
/-- arguments, items: shared from then on -/
def evVs : Exs → Env → M (List Vl × Env)
  | .nil, env => .ret ([], env)
  | .cons e r, env => (evO e env).bind fun (o, env) => match o.frz env with
    | some (x, env) => (evVs r env).bind fun (xs, env) => .ret (x :: xs, env)
    | none => .fail
  | .star e r, env => (evO e env).bind fun (o, env) => match (o.norm.res env).bind seqOf with
    | some ys => (evVs r env).bind fun (xs, env) => .ret (ys.map Vl.d ++ xs, env)
    | none => .fail
/-- operands of a built-in -/
def evOs : Exs → Env → M (List Od × Env)
  | .nil, env => .ret ([], env)
  | .cons e r, env => (evO e env).bind fun (o, env) => (evOs r env).bind fun (os, env) => .ret (o.norm :: os, env)
  | .star _ _, _ => .fail
def evIt : It → Env → M (List D × Env)
  | .seq e, env => (evO e env).bind fun (o, env) => match o.frz env with
    | some (.d x, env) => (M.opt (seqOf x)).bind fun xs => .ret (xs, env)
    | _ => .fail
  | .rg1 a, env => (evO a env).bind fun (p, env) => match p with
    | .vl (.d (.int n)) => if small n then .ret (rangeD 0 n.toNat, env) else .fail
    | _ => .fail
  | .rg2 a b, env => (evO a env).bind fun (p, env) => (evO b env).bind fun (q, env) => match p, q with
    | .vl (.d (.int m)), .vl (.d (.int n)) => if small m && small n then .ret (rangeD m (n - m).toNat, env) else .fail
    | _, _ => .fail
  | .rg3 a b c, env => (evO a env).bind fun (p, env) => (evO b env).bind fun (q, env) => (evO c env).bind fun (r, env) => match p, q, r with
    | .vl (.d (.int m)), .vl (.d (.int n)), .vl (.d (.int k)) => if small m && small n && k == -1 then .ret (stepsD m k (m - n).toNat, env) else .fail
    | _, _, _ => .fail
  | .enu e, env => (evO e env).bind fun (o, env) => match o.frz env with
    | some (.d x, env) => (M.opt (seqOf x)).bind fun xs => .ret (enumD 0 xs, env)
    | _ => .fail
  | .zip es strict, env => (evVs es env).bind fun (vs, env) => match vlDs vs with
    | some xs => (M.opt (if xs.length == exsLen es then zipAll strict xs else none)).bind fun zs => .ret (zs, env)
    | none => .fail
end
/-- what a statement comes to -/
inductive Fl where
  | nx | rt (x : D)
/-- x, y: own lists shared; made ones stay alone -/
def evPar : Exs → Env → M (List Od × Env)
  | .nil, env => .ret ([], env)
  | .cons e r, env => (evO cl e env).bind fun (o, env) => match o with
    | .fr x => (evPar r env).bind fun (os, env) => .ret (.fr x :: os, env)
    | o => match o.frz env with
      | some (x, env) => (evPar r env).bind fun (os, env) => .ret (.vl x :: os, env)
      | none => .fail
  | .star _ _, _ => .fail
def putOds : List Nat → List Od → Env → Option Env
  | [], [], env => some env
  | i :: is, .fr x :: os, env => putOds is os (env.set i (.ow x))
  | i :: is, .vl x :: os, env => putOds is os (env.set i (.vl x))
  | _, _, _ => none
def wfuel : Nat := 1000000
def whLoop (c : Env → M (Bool × Env)) (b : Env → M (Fl × Env)) : Nat → Env → M (Fl × Env)
  | 0, _ => .fail
  | k + 1, env => (c env).bind fun (t, env) => if t then (b env).bind fun (f, env) => match f with
      | .nx => whLoop c b k env
      | .rt x => .ret (.rt x, env)
    else .ret (.nx, env)
def frLoop (g : Tg) (b : Env → M (Fl × Env)) : List D → Env → M (Fl × Env)
  | [], env => .ret (.nx, env)
  | x :: xs, env => match asgTg g x env with
    | some env => (b env).bind fun (f, env) => match f with
      | .nx => frLoop g b xs env
      | .rt x => .ret (.rt x, env)
    | none => .fail
def evT (e : Ex) (env : Env) : M (Bool × Env) := (evO cl e env).bind fun (p, env) => match p with
  | .vl (.d (.bl b)) => .ret (b, env)
  | _ => .fail
mutual
def evS : St → Env → M (Fl × Env)
  | .asg i e, env => (evO cl e env).bind fun (o, env) => match o with
    | .fr x => .ret (.nx, env.set i (.ow x))
    | o => match o.frz env with
      | some (x, env) => .ret (.nx, env.set i (.vl x))
      | none => .fail
  | .par is es, env => (evPar cl es env).bind fun (os, env) => (M.opt (putOds is os env)).bind fun env => .ret (.nx, env)
  | .asgT g e, env => (evO cl e env).bind fun (o, env) => match o.frz env with
    | some (.d x, env) => (M.opt (asgTg g x env)).bind fun env => .ret (.nx, env)
    | _ => .fail
  | .setI i k e, env => (evO cl e env).bind fun (o, env) => match o.frz env with
    | some (.d x, env) => if ownO env i then (evO cl k env).bind fun (q, env) => match q.norm.res env, env[i]? with
      | some (.int j), some (.ow (.lst xs)) => if 0 ≤ j ∧ j < xs.length then .ret (.nx, env.set i (.ow (.lst (xs.set j.toNat x)))) else .fail
      | some k, some (.ow (.dic t kvs)) => if keyOk t k && decide (kvs.length < cap) then .ret (.nx, env.set i (.ow (.dic t (dput k x kvs)))) else .fail
      | _, _ => .fail else .fail
    | _ => .fail
  | .aug i o e, env => match env[i]? with
    | some (.vl (.d (.int a))) => (evO cl e env).bind fun (q, env) => match q, o with
      | .vl (.d (.int b)), .add => .ret (.nx, env.set i (.vl (.d (.int (a + b)))))
      | .vl (.d (.int b)), .sub => .ret (.nx, env.set i (.vl (.d (.int (a - b)))))
      | _, _ => .fail
    | _ => .fail
  | .app i e, env => if ownL env i then (evO cl e env).bind fun (o, env) => match o.frz env with
    | some (.d x, env) => match env[i]? with
      | some (.ow (.lst xs)) => if xs.length < cap then .ret (.nx, env.set i (.ow (.lst (xs ++ [x])))) else .fail
      | _ => .fail
    | _ => .fail else .fail
  | .ext i e, env => if ownL env i then (evO cl e env).bind fun (o, env) => match o.norm.res env, env[i]? with
    | some (.lst ys), some (.ow (.lst xs)) => if xs.length + ys.length ≤ cap then .ret (.nx, env.set i (.ow (.lst (xs ++ ys)))) else .fail
    | _, _ => .fail else .fail
  | .iff c a b, env => (evT cl c env).bind fun (t, env) => if t then evSs a env else evSs b env
  | .wh c b, env => whLoop (fun env => evT cl c env) (fun env => evSs b env) wfuel env
  | .fr g it b, env => (evIt cl it env).bind fun (xs, env) => frLoop g (fun env => evSs b env) xs env
  | .ret e, env => (evO cl e env).bind fun (o, env) => match o.frz env with
    | some (.d x, env) => .ret (.rt x, env)
    | _ => .fail
  | .retN, env => .ret (.rt .non, env)
  | .pass, env => .ret (.nx, env)
  | .shr is, env => .ret (.nx, shrs env is)
def evSs : Sts → Env → M (Fl × Env)
  | .nil, env => .ret (.nx, env)
  | .cons s r, env => (evS s env).bind fun (f, env) => match f with
    | .nx => evSs r env
    | .rt x => .ret (.rt x, env)
end
end
/-- a table of defs -/
abbrev Tab := Nat → Option Df
/-- a def called, at most so deep -/
def run (Φ : Tab) : Nat → Nat → List Vl → M D
  | 0, _, _ => .fail
  | k + 1, g, vs => match Φ g with
    | some f => if vs.length = f.np then (evSs (run Φ k) f.body (vs.map Sl.vl ++ List.replicate f.nl .u)).bind fun (fl, _) => match fl with
        | .rt x => .ret x
        | .nx => .ret .non
      else .fail
    | none => .fail
def lcStep (cl : Nat → List Vl → M D) (elt : Ex) (g : Tg) (ifs : Exs) (own : List Nat) (x : D) (env : Env) : M (Option D × Env) := match asgTg g x env with
  | some env => (evB cl true ifs env).bind fun (b, env) => if b then (evO cl elt env).bind fun (o, env) => match o.frz env with
      | some (.d y, env) => .ret (some y, unset env own)
      | _ => .fail
    else .ret (none, unset env own)
  | none => .fail
theorem lc_eq {cl : Nat → List Vl → M D} (elt : Ex) (g : Tg) (it : It) (ifs : Exs) (own fz : List Nat) (env : Env) : evO cl (.lc elt g it ifs own fz) env = (evIt cl it env).bind fun r => if (noOwn r.2 own && decide (r.1.length ≤ cap)) = true then
      (lcLoop (lcStep cl elt g ifs own) r.1 (unset (shrs r.2 fz) own)).bind fun q => .ret (.fr (.lst q.1), back r.2 q.2 own) else .fail := by
  simp only [evO]
  rfl
end Bq

set_option Elab.async false
set_option autoImplicit false
set_option linter.all false
set_option maxRecDepth 100000
/-! What a value of the heap is as data. -/
namespace Bq
open PySem PySem.Spec PyProof.Rows L2

/-- the program, the world, the written part, the module's names; the defs by their numbers -/
structure Wd where
  P : Program
  w : World
  K : PySem.W.Frag
  mg : Str → Option Value
  fa : Nat → Addr

/-- a dict of tuple keys at a, by its entries -/
def dtφ (P : Program) (w : World) (a : Addr) (xs : List (NestedKey × Addr × Value)) : Heap → Prop := fun h =>
  ∃ o es ep, h.get? a = some o ∧ o.ExactDict ∧ o.data = .dict es ep ∧ es.toList = xs.map (entryOfKey (nestedKind P w)) ∧ (xs.map (·.1)).Nodup
def dtO (Z : Wd) (a : Addr) (xs : List (NestedKey × Addr × Value)) : HO := .ext (dtφ Z.P Z.w a xs)
def kD : Key → D
  | .inl i => .int i
  | .inr s => .str s
mutual
def nkD : NestedKey → D
  | .none => .non
  | .num i => .int i
  | .text s => .str s
  | .tup ks => .tup (nkDs ks)
def nkDs : List NestedKey → List D
  | [] => []
  | k :: ks => nkD k :: nkDs ks
end
section
variable (Z : Wd) (F : Hp)
mutual
/-- v is d, in the part F of the heap -/
def Rp : D → V → Prop
  | .non, v => v = .non
  | .bl b, v => v = .bl b
  | .int i, v => v = .int i
  | .str s, v => v = .str s
  | .tup ds, v => ∃ a xs, v = .ref a ∧ F a = some (.tup xs) ∧ RpAll ds xs
  | .lst ds, v => ∃ a xs, v = .ref a ∧ F a = some (.lst xs) ∧ RpAll ds xs
  | .dic false kvs, v => ∃ a xs, v = .ref a ∧ F a = some (.dK xs) ∧ RpK kvs xs
  | .dic true kvs, v => ∃ a xs, v = .ref a ∧ F a = some (dtO Z a xs) ∧ (a == sysModules) = false ∧ RpT kvs xs
def RpAll : List D → List V → Prop
  | [], vs => vs = []
  | d :: ds, vs => ∃ v r, vs = v :: r ∧ Rp d v ∧ RpAll ds r
def RpK : List (D × D) → List (Key × V) → Prop
  | [], xs => xs = []
  | (k, d) :: r, xs => ∃ k' v ys, xs = (k', v) :: ys ∧ k = kD k' ∧ Rp d v ∧ RpK r ys
def RpT : List (D × D) → List (NestedKey × Addr × Value) → Prop
  | [], xs => xs = []
  | (k, d) :: r, xs => ∃ k' b u v ys, xs = (k', b, u) :: ys ∧ k = nkD k' ∧ k'.depth ≤ 8 ∧ (∃ ks, k' = .tup ks) ∧ Rp k (.ref b) ∧ RelV v u ∧ Rp d v ∧ RpT r ys
end
end
/-- one heap's tracked things are the other's -/
def Le (F F' : Hp) : Prop := ∀ a o, F a = some o → F' a = some o
theorem Le.refl (F : Hp) : Le F F := fun _ _ h => h
theorem Le.trans {F G H : Hp} (h : Le F G) (k : Le G H) : Le F H := fun a o e => k a o (h a o e)
theorem Le.rd {F G : Hp} (h : Le F G) {a : Addr} {u : HO} (r : Rd F a u) : Rd G a u := by
  rcases r with e | ⟨o, e⟩
  · exact .inl (h _ _ e)
  · exact .inr ⟨o, h _ _ e⟩
theorem Le.sqL {F G : Hp} (h : Le F G) {K : PySem.W.Frag} {a : Addr} {xs : List V} (r : SqL K F a xs) : SqL K G a xs := by
  rcases r with e | e
  · exact .inl (h.rd e)
  · exact .inr e
theorem Le.sqT {F G : Hp} (h : Le F G) {K : PySem.W.Frag} {a : Addr} {xs : List V} (r : SqT K F a xs) : SqT K G a xs := by
  rcases r with e | e
  · exact .inl (h.rd e)
  · exact .inr e
section
variable {Z : Wd} {F G : Hp}
mutual
theorem Rp.mono (h : Le F G) : ∀ (d : D) (v : V), Rp Z F d v → Rp Z G d v
  | .non, _, q => q
  | .bl _, _, q => q
  | .int _, _, q => q
  | .str _, _, q => q
  | .tup ds, v, q => by
    obtain ⟨a, xs, e, s, r⟩ := q
    exact ⟨a, xs, e, h _ _ s, RpAll.mono h ds xs r⟩
  | .lst ds, v, q => by
    obtain ⟨a, xs, e, s, r⟩ := q
    exact ⟨a, xs, e, h _ _ s, RpAll.mono h ds xs r⟩
  | .dic false kvs, v, q => by
    obtain ⟨a, xs, e, s, r⟩ := q
    exact ⟨a, xs, e, h _ _ s, RpK.mono h kvs xs r⟩
  | .dic true kvs, v, q => by
    obtain ⟨a, xs, e, s, ns, r⟩ := q
    exact ⟨a, xs, e, h _ _ s, ns, RpT.mono h kvs xs r⟩
theorem RpAll.mono (h : Le F G) : ∀ (ds : List D) (vs : List V), RpAll Z F ds vs → RpAll Z G ds vs
  | [], _, q => q
  | d :: ds, vs, q => by
    obtain ⟨v, r, e, a, b⟩ := q
    exact ⟨v, r, e, Rp.mono h d v a, RpAll.mono h ds r b⟩
theorem RpK.mono (h : Le F G) : ∀ (ds : List (D × D)) (vs : List (Key × V)), RpK Z F ds vs → RpK Z G ds vs
  | [], _, q => q
  | (k, d) :: ds, vs, q => by
    obtain ⟨k', v, ys, e, ek, a, b⟩ := q
    exact ⟨k', v, ys, e, ek, Rp.mono h d v a, RpK.mono h ds ys b⟩
theorem RpT.mono (h : Le F G) : ∀ (ds : List (D × D)) (vs : List (NestedKey × Addr × Value)), RpT Z F ds vs → RpT Z G ds vs
  | [], _, q => q
  | (k, d) :: ds, vs, q => by
    obtain ⟨k', b, u, v, ys, e, ek, dk, tk, hk, ru, a, c⟩ := q
    exact ⟨k', b, u, v, ys, e, ek, dk, tk, Rp.mono h k _ hk, ru, Rp.mono h d v a, RpT.mono h ds ys c⟩
end
theorem RpAll.length : ∀ (ds : List D) (vs : List V), RpAll Z F ds vs → vs.length = ds.length
  | [], _, q => by
    have e : _ = [] := q
    rw [e] <;> rfl
  | d :: ds, vs, q => by
    obtain ⟨v, r, e, a, b⟩ := q
    rw [e, List.length_cons, List.length_cons, RpAll.length ds r b]
theorem RpAll.nil_iff {vs : List V} : RpAll Z F [] vs ↔ vs = [] := Iff.rfl
theorem RpAll.cons {d : D} {ds : List D} {v : V} {vs : List V} (a : Rp Z F d v) (b : RpAll Z F ds vs) : RpAll Z F (d :: ds) (v :: vs) := ⟨v, vs, rfl, a, b⟩
theorem RpAll.get : ∀ (ds : List D) (vs : List V), RpAll Z F ds vs → ∀ (i : Nat) (d : D), ds[i]? = some d → ∃ v, vs[i]? = some v ∧ Rp Z F d v
  | [], _, _, i, d, h => by simp at h
  | d :: ds, vs, q, i, d', h => by
    obtain ⟨v, r, e, a, b⟩ := q
    subst e
    cases i with
    | zero =>
      have e : d = d' := by simpa using h
      subst e
      exact ⟨v, rfl, a⟩
    | succ i => exact RpAll.get ds r b i d' (by simpa using h)
theorem RpAll.get' : ∀ (ds : List D) (vs : List V), RpAll Z F ds vs → ∀ (i : Nat) (v : V), vs[i]? = some v → ∃ d, ds[i]? = some d ∧ Rp Z F d v
  | [], vs, q, i, d, h => by
    have e : vs = [] := q
    subst e; simp at h
  | d :: ds, vs, q, i, v', h => by
    obtain ⟨v, r, e, a, b⟩ := q
    subst e
    cases i with
    | zero =>
      have e : v = v' := by simpa using h
      subst e
      exact ⟨d, rfl, a⟩
    | succ i => exact RpAll.get' ds r b i v' (by simpa using h)
theorem RpAll.append : ∀ (ds : List D) (vs : List V) (es : List D) (us : List V), RpAll Z F ds vs → RpAll Z F es us → RpAll Z F (ds ++ es) (vs ++ us)
  | [], vs, es, us, q, p => by
    have e : vs = [] := q
    subst e; exact p
  | d :: ds, vs, es, us, q, p => by
    obtain ⟨v, r, e, a, b⟩ := q
    subst e
    exact .cons a (RpAll.append ds r es us b p)
theorem RpAll.take : ∀ (n : Nat) (ds : List D) (vs : List V), RpAll Z F ds vs → RpAll Z F (ds.take n) (vs.take n)
  | 0, ds, vs, _ => by simp [RpAll.nil_iff]
  | n + 1, [], vs, q => by
    have e : vs = [] := q
    subst e; exact rfl
  | n + 1, d :: ds, vs, q => by
    obtain ⟨v, r, e, a, b⟩ := q
    subst e
    exact .cons a (RpAll.take n ds r b)
theorem RpAll.drop : ∀ (n : Nat) (ds : List D) (vs : List V), RpAll Z F ds vs → RpAll Z F (ds.drop n) (vs.drop n)
  | 0, ds, vs, q => q
  | n + 1, [], vs, q => by
    have e : vs = [] := q
    subst e; exact rfl
  | n + 1, d :: ds, vs, q => by
    obtain ⟨v, r, e, a, b⟩ := q
    subst e
    exact RpAll.drop n ds r b
theorem RpAll.reverse : ∀ (ds : List D) (vs : List V), RpAll Z F ds vs → RpAll Z F ds.reverse vs.reverse
  | [], vs, q => by
    have e : vs = [] := q
    subst e; exact rfl
  | d :: ds, vs, q => by
    obtain ⟨v, r, e, a, b⟩ := q
    subst e
    rw [List.reverse_cons, List.reverse_cons]
    exact RpAll.append _ _ _ _ (RpAll.reverse ds r b) (.cons a rfl)
theorem RpAll.set : ∀ (ds : List D) (vs : List V) (i : Nat) (d : D) (v : V), RpAll Z F ds vs → Rp Z F d v → RpAll Z F (ds.set i d) (vs.set i v)
  | [], vs, i, d, v, q, _ => by
    have e : vs = [] := q
    subst e; exact rfl
  | d' :: ds, vs, i, d, v, q, p => by
    obtain ⟨v', r, e, a, b⟩ := q
    subst e
    cases i with
    | zero => exact .cons p b
    | succ i => exact .cons a (RpAll.set ds r i d v b p)
theorem RpAll.erase : ∀ (ds : List D) (vs : List V) (i : Nat), RpAll Z F ds vs → RpAll Z F (ds.eraseIdx i) (vs.eraseIdx i)
  | [], vs, i, q => by
    have e : vs = [] := q
    subst e; exact rfl
  | d' :: ds, vs, i, q => by
    obtain ⟨v', r, e, a, b⟩ := q
    subst e
    cases i with
    | zero => exact b
    | succ i => exact .cons a (RpAll.erase ds r i b)
theorem RpAll.dropLast (ds : List D) (vs : List V) (q : RpAll Z F ds vs) : RpAll Z F ds.dropLast vs.dropLast := by
  rw [List.dropLast_eq_take, List.dropLast_eq_take, q.length]
  exact RpAll.take _ _ _ q
theorem RpAll.rep : ∀ (k : Nat) (ds : List D) (vs : List V), RpAll Z F ds vs → RpAll Z F (rep k ds) (List.replicate k vs).flatten
  | 0, ds, vs, _ => rfl
  | k + 1, ds, vs, q => by
    rw [List.replicate_succ, List.flatten_cons]
    exact RpAll.append _ _ _ _ q (RpAll.rep k ds vs q)
theorem RpAll.ints : ∀ (ds : List D) (vs : List V) (ns : List Int), RpAll Z F ds vs → toInts ds = some ns → vs = ns.map V.int
  | [], vs, ns, q, e => by
    have e' : vs = [] := q
    have e2 : ns = [] := by simpa [toInts] using e.symm
    subst e' e2; rfl
  | d :: ds, vs, ns, q, e => by
    obtain ⟨v, r, e', a, b⟩ := q
    subst e'
    cases d with
    | int i =>
      have a' : v = .int i := a
      subst a'
      simp only [toInts] at e
      cases h : toInts ds with
      | none => rw [h] at e; cases e
      | some ms =>
        rw [h] at e
        have e2 : i :: ms = ns := by simpa using e
        subst e2
        rw [RpAll.ints ds r ms b h]
        rfl
    | _ => simp [toInts] at e
theorem RpAll.bools : ∀ (ds : List D) (vs : List V) (ns : List Bool), RpAll Z F ds vs → toBools ds = some ns → vs = ns.map V.bl
  | [], vs, ns, q, e => by
    have e' : vs = [] := q
    have e2 : ns = [] := by simpa [toBools] using e.symm
    subst e' e2; rfl
  | d :: ds, vs, ns, q, e => by
    obtain ⟨v, r, e', a, b⟩ := q
    subst e'
    cases d with
    | bl i =>
      have a' : v = .bl i := a
      subst a'
      simp only [toBools] at e
      cases h : toBools ds with
      | none => rw [h] at e; cases e
      | some ms =>
        rw [h] at e
        have e2 : i :: ms = ns := by simpa using e
        subst e2
        rw [RpAll.bools ds r ms b h]
        rfl
    | _ => simp [toBools] at e
mutual
/-- the layer's own word for it, where no dict is within -/
theorem Rp.dp : ∀ (d : D) (v : V), plain d = true → Rp Z F d v → Dp Z.K F v (toPy d)
  | .non, _, _, q => by cases (show _ = V.non from q); exact .non
  | .bl b, _, _, q => by cases (show _ = V.bl b from q); exact .bl b
  | .int i, _, _, q => by cases (show _ = V.int i from q); exact .int i
  | .str s, _, _, q => by cases (show _ = V.str s from q); exact .str s
  | .tup ds, v, p, q => by
    obtain ⟨a, xs, e, s, r⟩ := q
    subst e
    exact .tup (.of s) (RpAll.dp ds xs p r)
  | .lst ds, v, p, q => by
    obtain ⟨a, xs, e, s, r⟩ := q
    subst e
    exact .lst (.of s) (RpAll.dp ds xs p r)
  | .dic _ _, _, p, _ => by cases p
theorem RpAll.dp : ∀ (ds : List D) (vs : List V), plains ds = true → RpAll Z F ds vs → DpAll Z.K F vs (toPys ds)
  | [], vs, _, q => by
    have e : vs = [] := q
    subst e; exact .nil
  | d :: ds, vs, p, q => by
    obtain ⟨v, r, e, a, b⟩ := q
    subst e
    have p' : (plain d && plains ds) = true := p
    rw [Bool.and_eq_true] at p'
    exact .cons (Rp.dp d v p'.1 a) (RpAll.dp ds r p'.2 b)
end
end
mutual
theorem canLay_of : ∀ d : D, plain d = true → PyData.canLay0 (toPy d) = true
  | .non, _ => rfl
  | .bl _, _ => rfl
  | .int _, _ => rfl
  | .str s, h => h
  | .tup xs, h => canLays_of xs h
  | .lst xs, h => canLays_of xs h
  | .dic _ _, h => by cases h
theorem canLays_of : ∀ ds : List D, plains ds = true → PyData.canLayAll0 (toPys ds) = true
  | [], _ => rfl
  | d :: ds, h => by
    have p' : (plain d && plains ds) = true := h
    rw [Bool.and_eq_true] at p'
    show (PyData.canLay0 (toPy d) && PyData.canLayAll0 (toPys ds)) = true
    rw [canLay_of d p'.1, canLays_of ds p'.2]
    rfl
end
mutual
theorem eqv_py : ∀ d e : D, plain d = true → plain e = true → PyData.eqv (toPy d) (toPy e) = eqv d e
  | .non, e, _, h => by cases e <;> first | rfl | cases h
  | .bl b, e, _, h => by cases e <;> first | rfl | cases h
  | .int i, e, _, h => by cases e <;> first | rfl | cases h
  | .str s, e, _, h => by cases e <;> first | rfl | cases h
  | .tup xs, e, g, h => by
    cases e with
    | tup ys => exact eqvs_py xs ys g h
    | dic _ _ => cases h
    | _ => rfl
  | .lst xs, e, g, h => by
    cases e with
    | lst ys => exact eqvs_py xs ys g h
    | dic _ _ => cases h
    | _ => rfl
  | .dic _ _, _, g, _ => by cases g
theorem eqvs_py : ∀ d e : List D, plains d = true → plains e = true → PyData.eqvAll (toPys d) (toPys e) = eqvs d e
  | [], [], _, _ => rfl
  | [], _ :: _, _, _ => rfl
  | _ :: _, [], _, _ => rfl
  | x :: xs, y :: ys, g, h => by
    have g' : (plain x && plains xs) = true := g
    have h' : (plain y && plains ys) = true := h
    rw [Bool.and_eq_true] at g' h'
    show (PyData.eqv (toPy x) (toPy y) && PyData.eqvAll (toPys xs) (toPys ys)) = (eqv x y && eqvs xs ys)
    rw [eqv_py x y g'.1 h'.1, eqvs_py xs ys g'.2 h'.2]
end
mutual
theorem depth_py : ∀ d : D, plain d = true → (toPy d).depth = dep d
  | .non, _ => rfl
  | .bl _, _ => rfl
  | .int _, _ => rfl
  | .str s, _ => rfl
  | .tup xs, h => by
    show PyData.depthAll (toPys xs) + 1 = deps xs + 1
    rw [depths_py xs h]
  | .lst xs, h => by
    show PyData.depthAll (toPys xs) + 1 = deps xs + 1
    rw [depths_py xs h]
  | .dic _ _, h => by cases h
theorem depths_py : ∀ ds : List D, plains ds = true → PyData.depthAll (toPys ds) = deps ds
  | [], _ => rfl
  | d :: ds, h => by
    have p' : (plain d && plains ds) = true := h
    rw [Bool.and_eq_true] at p'
    show max (PyData.depth (toPy d)) (PyData.depthAll (toPys ds)) = max (dep d) (deps ds)
    rw [depth_py d p'.1, depths_py ds p'.2]
end
end Bq

set_option Elab.async false
set_option autoImplicit false
set_option linter.all false
set_option maxRecDepth 100000
/-! The evaluator's state against slots and heap. H: all that is tracked; F: what is shared, and stays for ever. -/
namespace Bq
open PySem PySem.Spec PyProof.Rows L2

/-- where the drawn numbers come from: the dict, the list of cells -/
structure Srcs where
  s : Addr
  c : Addr
def srcO (S : Srcs) (left mixed turn : Int) : HO := .dK [(.inr "cells", .ref S.c), (.inr "left", .int left), (.inr "mixed", .int mixed), (.inr "turn", .int turn)]
def SrcOk (H : Hp) (S : Srcs) : Prop := S.s ≠ S.c ∧ (∃ l m t, H S.s = some (srcO S l m t)) ∧ ∃ ns : List Int, H S.c = some (.lst (ns.map V.int))
section
variable (Z : Wd) (S : Srcs) (F0 H0 : Hp)
def RpV (F : Hp) : Vl → V → Prop
  | .d x, v => Rp Z F x v
  | .src, v => v = .ref S.s
  | .fn g, v => v = .ref (Z.fa g)
/-- the object at p is the list or dict x; what is in it is shared -/
def OwnObj (H F : Hp) (p : Addr) : D → Prop
  | .lst ds => ∃ vs, H p = some (.lst vs) ∧ RpAll Z F ds vs
  | .dic false kvs => ∃ xs, H p = some (.dK xs) ∧ RpK Z F kvs xs
  | .dic true kvs => ∃ xs, H p = some (dtO Z p xs) ∧ (p == sysModules) = false ∧ RpT Z F kvs xs
  | _ => False
structure OwnAt (H F : Hp) (p : Addr) (x : D) : Prop where
  ob : OwnObj Z H F p x
  nf : F p = none
  ns : p ≠ S.s
  nc : p ≠ S.c
  n0 : H0 p = none
structure Rel (T : List (Addr × D)) (env : Env) (σ : L2.St) (H F : Hp) : Prop where
  src : SrcOk H S
  sub : Le F H
  fs : F S.s = none
  fc : F S.c = none
  keep : ∀ a o, H0 a = some o → a ≠ S.s → a ≠ S.c → H a = some o
  f0 : Le F0 F
  new : ∀ a, H0 a ≠ none → F0 a = none → F a = none
  len : env.length = σ.length
  slot : ∀ (i : Nat) (x : Vl), env[i]? = some (Sl.vl x) → ∃ v, σ[i]? = some (some v) ∧ RpV Z S F x v
  own : ∀ (i : Nat) (x : D), env[i]? = some (Sl.ow x) → ∃ p : Addr, σ[i]? = some (some (V.ref p)) ∧ OwnAt Z S H0 H F p x
  tmp : ∀ q ∈ T, OwnAt Z S H0 H F q.1 q.2
  sep : ∀ (i j : Nat) (x y : D) (p : Addr), env[i]? = some (Sl.ow x) → env[j]? = some (.ow y) → σ[i]? = some (some (V.ref p)) → σ[j]? = some (some (V.ref p)) → i = j
  sepT : ∀ (i : Nat) (x : D) (p : Addr), env[i]? = some (Sl.ow x) → σ[i]? = some (some (V.ref p)) → ∀ q ∈ T, q.1 ≠ p
  ndT : (T.map (·.1)).Nodup
/-- nobody else has p -/
def Alone (T : List (Addr × D)) (env : Env) (σ : L2.St) (p : Addr) : Prop := (∀ (i : Nat) (x : D), env[i]? = some (Sl.ow x) → σ[i]? ≠ some (some (V.ref p))) ∧ ∀ q ∈ T, q.1 ≠ p
def OdOk (T : List (Addr × D)) (env : Env) (σ : L2.St) (H F : Hp) : Od → V → Prop
  | .vl x, v => RpV Z S F x v
  | .own i, v => σ[i]? = some (some v)
  | .fr x, v => ∃ p, v = .ref p ∧ OwnAt Z S H0 H F p x ∧ Alone T env σ p
/-- as one looks at it now: its own object in H, what is in it shared -/
def Pk (H F : Hp) : D → V → Prop
  | .lst ds, v => ∃ a xs, v = .ref a ∧ H a = some (.lst xs) ∧ RpAll Z F ds xs
  | .dic false kvs, v => ∃ a xs, v = .ref a ∧ H a = some (.dK xs) ∧ RpK Z F kvs xs
  | .dic true kvs, v => ∃ a xs, v = .ref a ∧ H a = some (dtO Z a xs) ∧ (a == sysModules) = false ∧ RpT Z F kvs xs
  | x, v => Rp Z F x v
end
section
variable {Z : Wd} {S : Srcs} {F0 H0 : Hp} {T : List (Addr × D)} {env : Env} {σ : L2.St} {H F G : Hp}
theorem RpV.mono (h : Le F G) {x : Vl} {v : V} (q : RpV Z S F x v) : RpV Z S G x v := by
  cases x with
  | d x => exact Rp.mono h x v q
  | src => exact q
  | fn g => exact q
theorem Rp.pk (h : Le F H) : ∀ {x : D} {v : V}, Rp Z F x v → Pk Z H F x v
  | .lst ds, v, ⟨a, xs, e, s, r⟩ => ⟨a, xs, e, h _ _ s, r⟩
  | .dic false kvs, v, ⟨a, xs, e, s, r⟩ => ⟨a, xs, e, h _ _ s, r⟩
  | .dic true kvs, v, ⟨a, xs, e, s, n, r⟩ => ⟨a, xs, e, h _ _ s, n, r⟩
  | .non, _, q => q
  | .bl _, _, q => q
  | .int _, _, q => q
  | .str _, _, q => q
  | .tup _, _, q => q
theorem Pk.rp (h : Le F H) : ∀ {x : D} {v : V}, Pk Z H F x v → Rp Z H x v
  | .lst ds, v, ⟨a, xs, e, s, r⟩ => ⟨a, xs, e, s, RpAll.mono h _ _ r⟩
  | .dic false kvs, v, ⟨a, xs, e, s, r⟩ => ⟨a, xs, e, s, RpK.mono h _ _ r⟩
  | .dic true kvs, v, ⟨a, xs, e, s, n, r⟩ => ⟨a, xs, e, s, n, RpT.mono h _ _ r⟩
  | .non, _, q => q
  | .bl _, _, q => q
  | .int _, _, q => q
  | .str _, _, q => q
  | .tup _, _, q => Rp.mono h _ _ q
theorem OwnObj.pk {p : Addr} : ∀ {x : D}, OwnObj Z H F p x → Pk Z H F x (.ref p)
  | .lst ds, ⟨vs, e, r⟩ => ⟨p, vs, rfl, e, r⟩
  | .dic false kvs, ⟨xs, e, r⟩ => ⟨p, xs, rfl, e, r⟩
  | .dic true kvs, ⟨xs, e, n, r⟩ => ⟨p, xs, rfl, e, n, r⟩
theorem OwnObj.some {p : Addr} : ∀ {x : D}, OwnObj Z H F p x → ∃ o, H p = some o
  | .lst ds, ⟨vs, e, r⟩ => ⟨_, e⟩
  | .dic false kvs, ⟨xs, e, r⟩ => ⟨_, e⟩
  | .dic true kvs, ⟨xs, e, n, r⟩ => ⟨_, e⟩
theorem OwnObj.mono {p : Addr} {H' : Hp} (h : Le F G) (e : H' p = H p) : ∀ {x : D}, OwnObj Z H F p x → OwnObj Z H' G p x
  | .lst ds, ⟨vs, q, r⟩ => ⟨vs, e.trans q, RpAll.mono h _ _ r⟩
  | .dic false kvs, ⟨xs, q, r⟩ => ⟨xs, e.trans q, RpK.mono h _ _ r⟩
  | .dic true kvs, ⟨xs, q, n, r⟩ => ⟨xs, e.trans q, n, RpT.mono h _ _ r⟩
/-- shared: then it is the datum for ever -/
theorem OwnObj.rp {p : Addr} (h : Le F G) (e : G p = H p) : ∀ {x : D}, OwnObj Z H F p x → Rp Z G x (.ref p)
  | .lst ds, ⟨vs, q, r⟩ => ⟨p, vs, rfl, e.trans q, RpAll.mono h _ _ r⟩
  | .dic false kvs, ⟨xs, q, r⟩ => ⟨p, xs, rfl, e.trans q, RpK.mono h _ _ r⟩
  | .dic true kvs, ⟨xs, q, n, r⟩ => ⟨p, xs, rfl, e.trans q, n, RpT.mono h _ _ r⟩
theorem OwnAt.mono {p : Addr} {x : D} {H' : Hp} (h : Le F G) (e : H' p = H p) (g : G p = none) (q : OwnAt Z S H0 H F p x) : OwnAt Z S H0 H' G p x := ⟨q.ob.mono h e, g, q.ns, q.nc, q.n0⟩

theorem Le.upd {p : Addr} {o : HO} (n : F p = none) : Le F (upd F p o) := fun a u e => by
  by_cases h : a = p
  · subst h; rw [n] at e; cases e
  · rw [upd_ne h]; exact e
theorem Rel.odPk (R : Rel Z S F0 H0 T env σ H F) {o : Od} {v : V} {x : D} (q : OdOk Z S H0 T env σ H F o v) (e : o.res env = some x) : Pk Z H F x v := by
  cases o with
  | vl y =>
    cases y with
    | d y =>
      have e' : y = x := by simpa [Od.res] using e
      subst e'
      exact Rp.pk R.sub q
    | src => simp [Od.res] at e
    | fn g => simp [Od.res] at e
  | fr y =>
    have e' : y = x := by simpa [Od.res] using e
    subst e'
    obtain ⟨p, rfl, a, _⟩ := q
    exact a.ob.pk
  | own i =>
    have q' : σ[i]? = some (some v) := q
    simp only [Od.res] at e
    cases hi : env[i]? with
    | none => rw [hi] at e; cases e
    | some s =>
      rw [hi] at e
      cases s with
      | u => cases e
      | ow y =>
        have e' : y = x := by simpa using e
        subst e'
        obtain ⟨p, h1, h2⟩ := R.own i y hi
        rw [q'] at h1
        cases h1
        exact h2.ob.pk
      | vl y =>
        cases y with
        | d y =>
          have e' : y = x := by simpa using e
          subst e'
          obtain ⟨u, h1, h2⟩ := R.slot i _ hi
          rw [q'] at h1
          cases h1
          exact Rp.pk R.sub h2
        | src => cases e
        | fn g => cases e
/-- something made and shared at once -/
theorem Rel.free (R : Rel Z S F0 H0 T env σ H F) {p : Addr} (n : H p = none) : F p = none ∧ p ≠ S.s ∧ p ≠ S.c ∧ H0 p = none ∧ Alone T env σ p := by
  have nf : F p = none := by
    cases e : F p with
    | none => rfl
    | some o => have := R.sub p o e; rw [n] at this; cases this
  obtain ⟨_, ⟨l, m, t, hs⟩, ns, hc⟩ := R.src
  have ps : p ≠ S.s := fun e => by subst e; rw [n] at hs; cases hs
  have pc : p ≠ S.c := fun e => by subst e; rw [n] at hc; cases hc
  refine ⟨nf, ps, pc, ?_, fun i x e1 e2 => ?_, fun q hq e => ?_⟩
  · cases e : H0 p with
    | none => rfl
    | some o => have := R.keep p o e ps pc; rw [n] at this; cases this
  · obtain ⟨p', h1, h2⟩ := R.own i x e1
    rw [e2] at h1; cases h1
    obtain ⟨o, h3⟩ := h2.ob.some
    rw [n] at h3; cases h3
  · obtain ⟨o, h3⟩ := (R.tmp q hq).ob.some
    rw [e, n] at h3; cases h3
/-- a change of the heap that leaves all that is tracked, F grown -/
theorem Rel.grow (R : Rel Z S F0 H0 T env σ H F) {H' G : Hp} (hH : Le H H') (hF : Le F G) (sub : Le G H') (hn : ∀ a, F a = none → H a ≠ none → G a = none) (h0 : ∀ a, F a = none → G a ≠ none → H0 a = none) : Rel Z S F0 H0 T env σ H' G := by
  obtain ⟨hd, ⟨l, m, t, hs⟩, ns, hc⟩ := R.src
  have ow : ∀ p x, OwnAt Z S H0 H F p x → OwnAt Z S H0 H' G p x := fun p x q => by
    obtain ⟨o, e⟩ := q.ob.some
    exact q.mono hF ((hH p o e).trans e.symm) (hn p q.nf (by rw [e]; simp))
  refine ⟨⟨hd, ⟨l, m, t, hH _ _ hs⟩, ns, hH _ _ hc⟩, sub, hn _ R.fs (by rw [hs]; simp), hn _ R.fc (by rw [hc]; simp), fun a o e n1 n2 => hH a o (R.keep a o e n1 n2), R.f0.trans hF, fun a n1 n2 => ?_, R.len, fun i x e => ?_, fun i x e => ?_, fun q hq => ow _ _ (R.tmp q hq), R.sep, R.sepT, R.ndT⟩
  · cases e : G a with
    | none => rfl
    | some o => exact absurd (h0 a (R.new a n1 n2) (by rw [e]; simp)) n1
  · obtain ⟨v, h1, h2⟩ := R.slot i x e
    exact ⟨v, h1, h2.mono hF⟩
  · obtain ⟨p, h1, h2⟩ := R.own i x e
    exact ⟨p, h1, ow p x h2⟩
theorem Rel.laidF (R : Rel Z S F0 H0 T env σ H F) {p : Addr} {o : HO} (n : H p = none) : Rel Z S F0 H0 T env σ (upd H p o) (upd F p o) := by
  obtain ⟨nf, ps, pc, n0, al⟩ := R.free n
  refine R.grow (Le.upd n) (Le.upd nf) (fun a u e => ?_) (fun a e1 e2 => ?_) fun a e1 e2 => ?_
  · by_cases h : a = p
    · subst h; rw [upd_same] at e ⊢; exact e
    · rw [upd_ne h] at e ⊢; exact R.sub a u e
  · have h : a ≠ p := fun z => by subst z; exact e2 n
    rw [upd_ne h]; exact e1
  · by_cases h : a = p
    · subst h; exact n0
    · rw [upd_ne h] at e2; exact absurd e1 e2
theorem Rel.laid (R : Rel Z S F0 H0 T env σ H F) {p : Addr} {o : HO} (n : H p = none) : Rel Z S F0 H0 T env σ (upd H p o) F := by
  obtain ⟨nf, ps, pc, n0, al⟩ := R.free n
  exact R.grow (Le.upd n) (Le.refl F) (R.sub.trans (Le.upd n)) (fun a e _ => e) fun a e1 e2 => absurd e1 e2
theorem Rel.laid_fr (R : Rel Z S F0 H0 T env σ H F) {p : Addr} {o : HO} {x : D} (n : H p = none) (hx : OwnObj Z (upd H p o) F p x) :
    Rel Z S F0 H0 T env σ (upd H p o) F ∧ OdOk Z S H0 T env σ (upd H p o) F (.fr x) (.ref p) := by
  obtain ⟨nf, ps, pc, n0, al⟩ := R.free n
  exact ⟨R.laid n, p, rfl, ⟨hx, nf, ps, pc, n0⟩, al⟩
theorem Rel.laid_tup (R : Rel Z S F0 H0 T env σ H F) {p : Addr} {ds : List D} {vs : List V} (n : H p = none) (hx : RpAll Z F ds vs) :
    Rel Z S F0 H0 T env σ (upd H p (.tup vs)) (upd F p (.tup vs)) ∧ Le F (upd F p (.tup vs)) ∧ Rp Z (upd F p (.tup vs)) (.tup ds) (.ref p) := by
  have l : Le F (upd F p (.tup vs)) := Le.upd (R.free n).1
  exact ⟨R.laidF n, l, p, vs, rfl, upd_same, RpAll.mono l _ _ hx⟩
/-- p is shared from now on -/
theorem Rel.share (R : Rel Z S F0 H0 T env σ H F) {p : Addr} {o : HO} {x : D} (a : OwnAt Z S H0 H F p x) (e : H p = some o) (al : Alone T env σ p) : Rel Z S F0 H0 T env σ H (upd F p o) ∧ Le F (upd F p o) ∧ Rp Z (upd F p o) x (.ref p) := by
  have l : Le F (upd F p o) := Le.upd a.nf
  have sub : Le (upd F p o) H := fun b u q => by
    by_cases h : b = p
    · subst h; rw [upd_same] at q; cases q; exact e
    · rw [upd_ne h] at q; exact R.sub b u q
  have oth : ∀ q y, OwnAt Z S H0 H F q y → q ≠ p → OwnAt Z S H0 H (upd F p o) q y := fun q y w hq => w.mono l rfl (by rw [upd_ne hq]; exact w.nf)
  refine ⟨⟨R.src, sub, by rw [upd_ne a.ns.symm]; exact R.fs, by rw [upd_ne a.nc.symm]; exact R.fc, R.keep, R.f0.trans l, fun b n1 n2 => ?_, R.len, fun i y hi => ?_, fun i y hi => ?_, fun q hq => oth _ _ (R.tmp q hq) (al.2 q hq), R.sep, R.sepT, R.ndT⟩, l, a.ob.rp l (by rw [upd_same, e])⟩
  · have h : b ≠ p := fun z => by subst z; exact n1 a.n0
    rw [upd_ne h]; exact R.new b n1 n2
  · obtain ⟨v, h1, h2⟩ := R.slot i y hi
    exact ⟨v, h1, h2.mono l⟩
  · obtain ⟨q, h1, h2⟩ := R.own i y hi
    exact ⟨q, h1, oth q y h2 fun z => al.1 i y hi (by rw [h1, z])⟩
theorem get_set {α : Type} {l : List α} {i j : Nat} {a b : α} (h : (l.set i a)[j]? = some b) : (i = j ∧ a = b ∧ i < l.length) ∨ (i ≠ j ∧ l[j]? = some b) := by
  by_cases e : i = j
  · subst e
    by_cases hl : i < l.length
    · rw [List.getElem?_set_self hl] at h
      exact .inl ⟨rfl, Option.some.inj h, hl⟩
    · rw [List.getElem?_eq_none (by simpa using hl)] at h; cases h
  · rw [List.getElem?_set_ne e] at h
    exact .inr ⟨e, h⟩
/-- the evaluator's slot i forgotten, or given another word for what is there -/
theorem Rel.word (R : Rel Z S F0 H0 T env σ H F) {i : Nat} {s : Sl} (hs : ∀ y, s ≠ .ow y) (h : ∀ x, s = .vl x → ∃ v, σ[i]? = some (some v) ∧ RpV Z S F x v) : Rel Z S F0 H0 T (env.set i s) σ H F := by
  refine ⟨R.src, R.sub, R.fs, R.fc, R.keep, R.f0, R.new, by rw [List.length_set]; exact R.len, fun j y hj => ?_, fun j y hj => ?_, R.tmp, fun j k x y p h1 h2 h3 h4 => ?_, fun j y p h1 h2 => ?_, R.ndT⟩
  · rcases get_set hj with ⟨rfl, rfl, _⟩ | ⟨_, e⟩
    · exact h y rfl
    · exact R.slot j y e
  · rcases get_set hj with ⟨rfl, e, _⟩ | ⟨_, e⟩
    · exact absurd e (hs y)
    · exact R.own j y e
  · rcases get_set h1 with ⟨_, e, _⟩ | ⟨_, e1⟩
    · exact absurd e (hs x)
    · rcases get_set h2 with ⟨_, e, _⟩ | ⟨_, e2⟩
      · exact absurd e (hs y)
      · exact R.sep j k x y p e1 e2 h3 h4
  · rcases get_set h1 with ⟨_, e, _⟩ | ⟨_, e1⟩
    · exact absurd e (hs y)
    · exact R.sepT j y p e1 h2
/-- an operand is shared -/
theorem Rel.frz (R : Rel Z S F0 H0 T env σ H F) {o : Od} {v : V} {x : Vl} {env' : Env} (q : OdOk Z S H0 T env σ H F o v) (e : o.frz env = some (x, env')) :
    ∃ G, Rel Z S F0 H0 T env' σ H G ∧ Le F G ∧ RpV Z S G x v := by
  cases o with
  | vl y =>
    have e' : y = x ∧ env = env' := by simpa [Od.frz] using e
    obtain ⟨rfl, rfl⟩ := e'
    exact ⟨F, R, Le.refl F, q⟩
  | fr y =>
    have e' : Vl.d y = x ∧ env = env' := by simpa [Od.frz] using e
    obtain ⟨rfl, rfl⟩ := e'
    obtain ⟨p, rfl, a, al⟩ := q
    obtain ⟨o, ho⟩ := a.ob.some
    obtain ⟨R', l, r⟩ := R.share a ho al
    exact ⟨_, R', l, r⟩
  | own i =>
    have q' : σ[i]? = some (some v) := q
    simp only [Od.frz] at e
    cases hi : env[i]? with
    | none => rw [hi] at e; cases e
    | some s =>
      rw [hi] at e
      cases s with
      | u => cases e
      | vl y =>
        have e' : y = x ∧ env = env' := by simpa using e
        obtain ⟨rfl, rfl⟩ := e'
        obtain ⟨u, h1, h2⟩ := R.slot i y hi
        rw [q'] at h1; cases h1
        exact ⟨F, R, Le.refl F, h2⟩
      | ow y =>
        have e' : Vl.d y = x ∧ env.set i (.vl (.d y)) = env' := by simpa using e
        obtain ⟨rfl, rfl⟩ := e'
        obtain ⟨p, h1, a⟩ := R.own i y hi
        rw [q'] at h1; cases h1
        obtain ⟨o, ho⟩ := a.ob.some
        -- the slot's word is forgotten first, then p is shared
        have R1 : Rel Z S F0 H0 T (env.set i .u) σ H F := R.word (fun y z => by cases z) fun x z => by cases z
        have al : Alone T (env.set i .u) σ p := ⟨fun j z hj hz => by
          rcases get_set hj with ⟨_, c, _⟩ | ⟨ne, c⟩
          · cases c
          · exact ne (R.sep i j y z p hi c q' hz), fun w hw => R.sepT i y p hi q' w hw⟩
        obtain ⟨R2, l, r⟩ := R1.share a ho al
        have R3 : Rel Z S F0 H0 T ((env.set i .u).set i (.vl (.d y))) σ H (upd F p o) := R2.word (fun z c => by cases c) fun z c => by
          cases c
          exact ⟨_, q', r⟩
        rw [List.set_set] at R3
        exact ⟨_, R3, l, r⟩
end
end Bq

set_option Elab.async false
set_option autoImplicit false
set_option linter.all false
set_option maxRecDepth 100000
/-! Operators, comparisons, subscripts: the evaluator's and the model's. -/
namespace Bq
open PySem PySem.Spec PyProof.Rows L2

abbrev zOf (X : Cx) (fa : Nat → Addr) : Wd := ⟨X.prog, X.w, X.K, X.mg, fa⟩
/-- what a construct owes: at each state that fits what the evaluator says, Q -/
def Post (Z : Wd) (S : Srcs) (F0 H0 : Hp) (T : List (Addr × D)) (env : Env) (σ : L2.St) (F : Hp) (o : Od) (Q : VK) : Prop :=
  ∀ v H' F', Rel Z S F0 H0 T env σ H' F' → Le F F' → OdOk Z S H0 T env σ H' F' o v → Q v H'
/-- a rule of two values serves an operation on data -/
def Op2 (Z : Wd) (r : R2) (f : D → D → Option Od) : Prop :=
  ∀ {S : Srcs} {F0 H0 : Hp} {T : List (Addr × D)} {env : Env} {σ : L2.St} {H F : Hp} {dx dy : D} {x y : V} {o : Od} {Q : VK},
    Rel Z S F0 H0 T env σ H F → Pk Z H F dx x → Pk Z H F dy y → f dx dy = some o → Post Z S F0 H0 T env σ F o Q → r x y H Q
section
variable {Z : Wd} {S : Srcs} {F0 H0 : Hp} {T : List (Addr × D)} {env : Env} {σ : L2.St} {H F : Hp} {Q : VK}
theorem Post.val {d : D} {v : V} (h : Post Z S F0 H0 T env σ F (.vl (.d d)) Q) (R : Rel Z S F0 H0 T env σ H F) (q : Rp Z F d v) : Q v H := h v H F R (Le.refl F) q
theorem Post.int {i : Int} (h : Post Z S F0 H0 T env σ F (.int i) Q) (R : Rel Z S F0 H0 T env σ H F) : Q (.int i) H := h _ H F R (Le.refl F) rfl
theorem Post.bl {b : Bool} (h : Post Z S F0 H0 T env σ F (.bl b) Q) (R : Rel Z S F0 H0 T env σ H F) : Q (.bl b) H := h _ H F R (Le.refl F) rfl
theorem Post.lst {ds : List D} {vs : List V} (h : Post Z S F0 H0 T env σ F (.fr (.lst ds)) Q) (R : Rel Z S F0 H0 T env σ H F) (q : RpAll Z F ds vs) : ∀ p, H p = none → Q (.ref p) (upd H p (.lst vs)) := fun p n => by
  obtain ⟨R', o⟩ := R.laid_fr (o := .lst vs) (x := .lst ds) n ⟨vs, upd_same, q⟩
  exact h _ _ F R' (Le.refl F) o
theorem Post.tup {ds : List D} {vs : List V} (h : Post Z S F0 H0 T env σ F (.vl (.d (.tup ds))) Q) (R : Rel Z S F0 H0 T env σ H F) (q : RpAll Z F ds vs) : ∀ p, H p = none → Q (.ref p) (upd H p (.tup vs)) := fun p n => by
  obtain ⟨R', l, o⟩ := R.laid_tup n q
  exact h _ _ _ R' l o
theorem cap_le {n : Nat} (h : n ≤ cap) : n ≤ sizeLine := Nat.le_trans h (by decide)
theorem capI {n : Nat} (h : n ≤ cap) : n < sizeLine := Nat.lt_of_le_of_lt h (by decide)

theorem Pk.lst {ds : List D} {v : V} (q : Pk Z H F (.lst ds) v) : ∃ a xs, v = .ref a ∧ H a = some (.lst xs) ∧ RpAll Z F ds xs := q
theorem Pk.tup {ds : List D} {v : V} (l : Le F H) (q : Pk Z H F (.tup ds) v) : ∃ a xs, v = .ref a ∧ H a = some (.tup xs) ∧ F a = some (.tup xs) ∧ RpAll Z F ds xs := by
  obtain ⟨a, xs, e, h, r⟩ := (show Rp Z F (.tup ds) v from q)
  exact ⟨a, xs, e, l _ _ h, h, r⟩
end
section
variable {X : Cx} {fa : Nat → Addr}
/-! ### arithmetic -/
def rAdd (K : PySem.W.Frag) : R2 := fun x y H Q => rI0 (fun i j => .int (i + j)) x y H Q ∨ rCat x y H Q ∨ rCatA K x y H Q
theorem or_add : OpR X (binaryOp .Add) (rAdd X.K) := OpR.or op_add (OpR.or op_cat op_catA)
theorem add_ok : Op2 (zOf X fa) (rAdd X.K) (binop .add) := by
  intro S F0 H0 T env σ H F dx dy x y o Q R px py e h
  cases dx <;> cases dy <;> simp only [binop] at e <;> try cases e
  · cases (show x = V.int _ from px); cases (show y = V.int _ from py)
    exact .inl ⟨_, _, rfl, rfl, h.int R⟩
  · split at e
    · rename_i hz
      cases e
      obtain ⟨a, xs, rfl, ha, _, ra⟩ := Pk.tup R.sub px
      obtain ⟨b, ys, rfl, hb, _, rb⟩ := Pk.tup R.sub py
      have la := ra.length
      have lb := rb.length
      refine .inr (.inr ⟨a, b, xs, ys, rfl, rfl, .of ha, .of hb, cap_le (by rw [la, lb]; exact hz), fun e => ?_, fun n e => ?_, fun _ _ => h.tup R (ra.append _ _ _ _ rb)⟩)
      · subst e
        have e0 : (_ : List D) = [] := List.length_eq_zero_iff.mp la.symm
        subst e0
        exact h.val R py
      · subst e
        have e0 : (_ : List D) = [] := List.length_eq_zero_iff.mp lb.symm
        subst e0
        rw [List.append_nil] at h
        exact h.val R px
    · cases e
  · split at e
    · rename_i hz
      cases e
      obtain ⟨a, xs, rfl, ha, ra⟩ := px
      obtain ⟨b, ys, rfl, hb, rb⟩ := py
      exact .inr (.inl ⟨a, b, xs, ys, rfl, rfl, ha, hb, cap_le (by rw [ra.length, rb.length]; exact hz), h.lst R (ra.append _ _ _ _ rb)⟩)
    · cases e
theorem int2 {Z : Wd} {H F : Hp} {i j : Int} {x y : V} (px : Pk Z H F (.int i) x) (py : Pk Z H F (.int j) y) : x = .int i ∧ y = .int j := ⟨px, py⟩
theorem sub_ok : Op2 (zOf X fa) (rI0 fun i j => .int (i - j)) (binop .sub) := by
  intro S F0 H0 T env σ H F dx dy x y o Q R px py e h
  cases dx <;> cases dy <;> simp only [binop] at e <;> cases e
  obtain ⟨rfl, rfl⟩ := int2 px py
  exact ⟨_, _, rfl, rfl, h.int R⟩
def rMulB : R2 := fun x y H Q => rI CMul (fun i j => .int (i * j)) x y H Q ∨ rRep x y H Q
/-- a tuple taken once is that tuple -/
def rRep1 (K : PySem.W.Frag) : R2 := fun x y H Q => ∃ l xs, x = .ref l ∧ y = .int 1 ∧ SqT K H l xs ∧ Q (.ref l) H
theorem tuple_mul1 (l : Addr) (items : Array Value) (n : Nat) (dd : Option Addr) (sl : Array (Option Value)) (u : Tok) :
    Meets (Builtin.«tuple.__mul__» ⟨[.ref l, .int 1 u], []⟩) (fun _ R s => s.heap.get? l = some { cls := .type "tuple", dict := dd, data := .seq items n, slots := sl } ∧ R (.ok (.ret (Value.ref l))) s) :=
  .of_wp fun prog w A R s h => by
    obtain ⟨hp, g, d, tk, os⟩ := s
    obtain ⟨hl, h⟩ := h
    have f1 := AutoSeq1.idx_int
    have c0 : (decide ((1 : Int) < -(2 ^ 63)) || decide ((1 : Int) ≥ 2 ^ 63)) = false := by decide
    have c1 : (items.isEmpty || (1 : Int) == 1) = true := by simp
    wp_walk using wpAny_loadPart' hl
    repeat (first
      | (refine wpAny_ite_false (decide_eq_false (by rw [c0]; exact Bool.false_ne_true)) ?_; wp_walk using wpAny_loadPart' hl)
      | (refine wpAny_ite_true (decide_eq_true c1) ?_; wp_walk using wpAny_loadPart' hl))
    all_goals exact ⟨_, rfl, h⟩
theorem op_rep1 : OpR X (binaryOp .Mult) (rRep1 X.K) := by
  intro pins s σ H x y v u Q I rx ry h
  obtain ⟨l, xs, rfl, rfl, hT, q⟩ := h
  cases rx
  obtain ⟨t, rfl⟩ := ry
  obtain ⟨its, r, ⟨⟨cls, dd, data, sl⟩, ho, hc, n, hd⟩, hs⟩ := I.tuple hT
  simp only at hc hd
  subst hc hd
  refine wpAny_binaryOp_repeat_ref (T := "tuple") (U := "int") (by decide) ⟨_, ho, rfl⟩ (fun s' => typeIs_int s' 1 t) noFill_tuple_mul F.fills_int_mul F.slot_int_rmul repeat_tuple F.slot_int_index.lookup
    (call_meets F.slot_int_rmul (typeIs_int s 1 t) F.entry_int_rmul (F.args_int_rmul_2 _ _) (int_rmul_tuple 1 t l its.toArray n dd sl)
      ⟨ho, rfl, ⟨_, ho, rfl⟩, call_meets F.slot_tuple_mul ⟨_, ho, rfl⟩ F.entry_tuple_mul (F.args_tuple_mul_2 _ _) (tuple_mul1 l its.toArray n dd sl t) ⟨ho, ?_⟩⟩)
  exact ⟨.ref l, H, I, rfl, q⟩
def rMulA (K : PySem.W.Frag) : R2 := fun x y H Q => rMulB x y H Q ∨ rRepT K x y H Q ∨ rRep1 K x y H Q
theorem or_mul : OpR X (binaryOp .Mult) (rMulA X.K) := OpR.or (OpR.or op_mul op_rep) (OpR.or op_repT op_rep1)
theorem bnd64_ok {i j : Int} (h : (bnd64 i || bnd64 j) = true) : CMul i j := by
  unfold bnd64 at h
  simp only [Bool.or_eq_true, decide_eq_true_eq] at h
  unfold CMul
  omega
theorem mul_ok : Op2 (zOf X fa) (rMulA X.K) (binop .mul) := by
  intro S F0 H0 T env σ H F dx dy x y o Q R px py e h
  cases dx <;> cases dy <;> simp only [binop] at e <;> try cases e
  · split at e
    · rename_i hz
      cases e
      obtain ⟨rfl, rfl⟩ := int2 px py
      exact .inl (.inl ⟨_, _, rfl, rfl, bnd64_ok hz, h.int R⟩)
    · cases e
  · split at e
    · rename_i hz
      cases e
      obtain ⟨a, xs, rfl, ha, _, ra⟩ := Pk.tup R.sub px
      cases (show y = V.int _ from py)
      exact .inr (.inr ⟨a, xs, rfl, by rw [hz], .of ha, h.val R px⟩)
    · split at e
      rotate_left
      · cases e
      rename_i hz
      cases e
      obtain ⟨a, xs, rfl, ha, _, ra⟩ := Pk.tup R.sub px
      cases (show y = V.int _ from py)
      have la := ra.length
      refine .inr (.inl ⟨a, _, xs, rfl, rfl, .of ha, fun e => ?_, hz.1, by omega, by rw [la]; exact hz.2.2.2, h.tup R (ra.rep _ _ _)⟩)
      subst e
      have e0 : (_ : List D) = [] := List.length_eq_zero_iff.mp la.symm
      subst e0
      have := hz.2.2.1
      simp at this
  · split at e
    · rename_i hz
      cases e
      obtain ⟨a, xs, rfl, ha, ra⟩ := px
      cases (show y = V.int _ from py)
      exact .inl (.inr ⟨a, _, xs, rfl, rfl, ha, by omega, by omega, cap_le (by rw [ra.length]; exact hz.2.2), h.lst R (ra.rep _ _ _)⟩)
    · cases e
theorem fdiv_ok : Op2 (zOf X fa) (rI CDiv fun i j => .int (i / j)) (binop .fdiv) := by
  intro S F0 H0 T env σ H F dx dy x y o Q R px py e h
  cases dx <;> cases dy <;> simp only [binop] at e <;> try cases e
  split at e
  · rename_i hz
    cases e
    obtain ⟨rfl, rfl⟩ := int2 px py
    exact ⟨_, _, rfl, rfl, (by unfold CDiv; omega), h.int R⟩
  · cases e
theorem mod_ok : Op2 (zOf X fa) (rI (fun _ j => 0 < j) fun i j => .int (i % j)) (binop .mod) := by
  intro S F0 H0 T env σ H F dx dy x y o Q R px py e h
  cases dx <;> cases dy <;> simp only [binop] at e <;> try cases e
  split at e
  · rename_i hz
    cases e
    obtain ⟨rfl, rfl⟩ := int2 px py
    exact ⟨_, _, rfl, rfl, hz, h.int R⟩
  · cases e
theorem shl_ok : Op2 (zOf X fa) (rI CPow fun i j => .int (i * 2 ^ j.toNat)) (binop .shl) := by
  intro S F0 H0 T env σ H F dx dy x y o Q R px py e h
  cases dx <;> cases dy <;> simp only [binop] at e <;> try cases e
  split at e
  · rename_i hz
    cases e
    obtain ⟨rfl, rfl⟩ := int2 px py
    exact ⟨_, _, rfl, rfl, (by unfold CPow; omega), h.int R⟩
  · cases e
theorem pow_ok : Op2 (zOf X fa) (rI CPow fun i j => .int (i ^ j.toNat)) (binop .pow) := by
  intro S F0 H0 T env σ H F dx dy x y o Q R px py e h
  cases dx <;> cases dy <;> simp only [binop] at e <;> try cases e
  split at e
  · rename_i hz
    cases e
    obtain ⟨rfl, rfl⟩ := int2 px py
    exact ⟨_, _, rfl, rfl, (by unfold CPow; omega), h.int R⟩
  · cases e

/-! ### comparisons -/
def cmpOd (o : COp) (x y : D) : Option Od := (cmpop o x y).map Od.bl
def rEqP (K : PySem.W.Frag) (neg : Bool) : R2 := fun x y H Q => ∃ d e, Dp K H x d ∧ Dp K H y e ∧ d.canLay0 = true ∧ e.canLay0 = true ∧ min d.depth e.depth ≤ 150 ∧ Q (.bl (PyData.eqv d e != neg)) H
def rEqS (neg : Bool) : R2 := fun x y H Q => ∃ a b, x = .str a ∧ y = .str b ∧ Q (.bl ((a == b) != neg)) H
theorem or_eqP (hu : X.A.units + 200 < cLine) : OpR X (compareOp .Eq) (rEqP X.K false) := by
  intro pins s σ H x y v u Q I rx ry h
  obtain ⟨d, e, hd, he, c1, c2, hz, q⟩ := h
  obtain ⟨as, r1⟩ := Dp.reads I d x v hd rx
  obtain ⟨bs, r2⟩ := Dp.reads I e y u he ry
  exact SeqAt.compareEq_reads r1 r2 c1 c2 (by omega) ⟨.bl _, H, I, rfl, by simpa using q⟩
theorem or_neP (hu : X.A.units + 200 < cLine) : OpR X (compareOp .NotEq) (rEqP X.K true) := by
  intro pins s σ H x y v u Q I rx ry h
  obtain ⟨d, e, hd, he, c1, c2, hz, q⟩ := h
  obtain ⟨as, r1⟩ := Dp.reads I d x v hd rx
  obtain ⟨bs, r2⟩ := Dp.reads I e y u he ry
  exact SeqAt.compareNe_reads r1 r2 c1 c2 (by omega) ⟨.bl _, H, I, rfl, by simpa using q⟩
theorem or_eqS : OpR X (compareOp .Eq) (rEqS false) := by
  intro pins s σ H x y v u Q I rx ry h
  obtain ⟨a, b, rfl, rfl, q⟩ := h
  refine op_eq pins s σ H _ _ v u Q I rx ry ⟨rfl, ?_⟩
  have e : decide (V.str a = V.str b) = ((a == b) != false) := by
    rw [Bool.eq_iff_iff]; simp
  rw [e]; exact q
theorem or_neS : OpR X (compareOp .NotEq) (rEqS true) := by
  intro pins s σ H x y v u Q I rx ry h
  obtain ⟨a, b, rfl, rfl, q⟩ := h
  refine op_ne pins s σ H _ _ v u Q I rx ry ⟨rfl, ?_⟩
  have e : (!decide (V.str a = V.str b)) = ((a == b) != true) := by
    rw [Bool.eq_iff_iff]; simp
  rw [e]; exact q
def rEqA (K : PySem.W.Frag) (neg : Bool) : R2 := fun x y H Q => rEqS neg x y H Q ∨ rEqP K neg x y H Q
theorem or_eqA (hu : X.A.units + 200 < cLine) : OpR X (compareOp .Eq) (rEqA X.K false) := OpR.or or_eqS (or_eqP hu)
theorem or_neA (hu : X.A.units + 200 < cLine) : OpR X (compareOp .NotEq) (rEqA X.K true) := OpR.or or_neS (or_neP hu)
theorem eq_core {Z : Wd} {S : Srcs} {F0 H0 : Hp} {T : List (Addr × D)} {env : Env} {σ : L2.St} {H F : Hp} {dx dy : D} {x y : V} {Q : VK} {neg : Bool} (R : Rel Z S F0 H0 T env σ H F) (px : Pk Z H F dx x) (py : Pk Z H F dy y)
    (c : eqOk dx dy = true) (h : Q (.bl (eqv dx dy != neg)) H) : rEqA Z.K neg x y H Q := by
  unfold eqOk at c
  simp only [Bool.and_eq_true, decide_eq_true_eq] at c
  refine .inr ⟨toPy dx, toPy dy, (px.rp R.sub).dp _ _ c.1.1, (py.rp R.sub).dp _ _ c.1.2, canLay_of _ c.1.1, canLay_of _ c.1.2, ?_, ?_⟩
  · rw [depth_py _ c.1.1, depth_py _ c.1.2]; exact c.2
  · rw [eqv_py _ _ c.1.1 c.1.2]; exact h
theorem eq_ok : Op2 (zOf X fa) (rEqA X.K false) (cmpOd .eq) := by
  intro S F0 H0 T env σ H F dx dy x y o Q R px py e h
  by_cases hs : ∃ a b, dx = .str a ∧ dy = .str b
  · obtain ⟨a, b, rfl, rfl⟩ := hs
    cases (show x = V.str a from px); cases (show y = V.str b from py)
    have e' : Od.bl (a == b) = o := by simpa [cmpOd, cmpop] using e
    subst e'
    refine .inl ⟨a, b, rfl, rfl, ?_⟩
    simpa using h.bl R
  · have e2 : cmpop .eq dx dy = if eqOk dx dy then some (eqv dx dy) else none := by
      cases dx <;> cases dy <;> first | rfl | exact absurd ⟨_, _, rfl, rfl⟩ hs
    unfold cmpOd at e
    rw [e2] at e
    split at e
    · rename_i c
      cases e
      exact eq_core R px py c (by simpa using h.bl R)
    · cases e
theorem ne_ok : Op2 (zOf X fa) (rEqA X.K true) (cmpOd .ne) := by
  intro S F0 H0 T env σ H F dx dy x y o Q R px py e h
  by_cases hs : ∃ a b, dx = .str a ∧ dy = .str b
  · obtain ⟨a, b, rfl, rfl⟩ := hs
    cases (show x = V.str a from px); cases (show y = V.str b from py)
    have e' : Od.bl (!(a == b)) = o := by simpa [cmpOd, cmpop] using e
    subst e'
    refine .inl ⟨a, b, rfl, rfl, ?_⟩
    simpa using h.bl R
  · have e2 : cmpop .ne dx dy = if eqOk dx dy then some (!eqv dx dy) else none := by
      cases dx <;> cases dy <;> first | rfl | exact absurd ⟨_, _, rfl, rfl⟩ hs
    unfold cmpOd at e
    rw [e2] at e
    split at e
    · rename_i c
      cases e
      exact eq_core R px py c (by simpa using h.bl R)
    · cases e
theorem cmpI {op : COp} {g : Int → Int → Bool} (hg : ∀ i j, cmpop op (.int i) (.int j) = some (g i j)) (hn : ∀ x y o, cmpOd op x y = some o → ∃ i j, x = .int i ∧ y = .int j) : Op2 (zOf X fa) (rI0 fun i j => .bl (g i j)) (cmpOd op) := by
  intro S F0 H0 T env σ H F dx dy x y o Q R px py e h
  obtain ⟨i, j, rfl, rfl⟩ := hn _ _ _ e
  obtain ⟨rfl, rfl⟩ := int2 px py
  unfold cmpOd at e
  rw [hg] at e
  cases e
  exact ⟨_, _, rfl, rfl, h.bl R⟩
theorem le_ok : Op2 (zOf X fa) (rI0 fun i j => .bl (decide (i ≤ j))) (cmpOd .le) := cmpI (fun _ _ => rfl) fun x y o e => by
  cases x <;> cases y <;> first | exact ⟨_, _, rfl, rfl⟩ | (simp [cmpOd, cmpop] at e)
theorem gt_ok : Op2 (zOf X fa) (rI0 fun i j => .bl (decide (j < i))) (cmpOd .gt) := cmpI (fun _ _ => rfl) fun x y o e => by
  cases x <;> cases y <;> first | exact ⟨_, _, rfl, rfl⟩ | (simp [cmpOd, cmpop] at e)
theorem ge_ok : Op2 (zOf X fa) (rI0 fun i j => .bl (decide (j ≤ i))) (cmpOd .ge) := cmpI (fun _ _ => rfl) fun x y o e => by
  cases x <;> cases y <;> first | exact ⟨_, _, rfl, rfl⟩ | (simp [cmpOd, cmpop] at e)
def rLtA (K : PySem.W.Frag) : R2 := fun x y H Q => rI0 (fun i j => .bl (decide (i < j))) x y H Q ∨ rLtT K x y H Q
theorem or_ltA (hu : X.A.units < cLine) : OpR X (compareOp .Lt) (rLtA X.K) := OpR.or op_lt (op_ltT hu)
theorem allInts : ∀ {ds : List D}, hasAll .int ds = true → ∃ ns : List Int, ds = ns.map D.int
  | [], _ => ⟨[], rfl⟩
  | d :: ds, h => by
    have h' : (hasTy .int d && hasAll .int ds) = true := by simpa [hasAll] using h
    rw [Bool.and_eq_true] at h'
    obtain ⟨ns, e⟩ := allInts h'.2
    cases d with
    | int i => exact ⟨i :: ns, by rw [e]; rfl⟩
    | _ => cases h'.1
theorem RpAll.intsV {Z : Wd} {F : Hp} : ∀ {ns : List Int} {vs : List V}, RpAll Z F (ns.map D.int) vs → vs = ns.map V.int
  | [], vs, q => q
  | n :: ns, vs, q => by
    obtain ⟨v, r, e, a, b⟩ := q
    cases (show v = V.int n from a)
    rw [e, RpAll.intsV b]
    rfl
theorem ltDs_ints : ∀ ns ms : List Int, ltDs (ns.map D.int) (ms.map D.int) = HT.lexLt ns ms
  | [], [] => rfl
  | [], _ :: _ => rfl
  | _ :: _, [] => rfl
  | n :: ns, m :: ms => by
    show (if eqv (.int n) (.int m) = true then ltDs (ns.map D.int) (ms.map D.int) else ltD (.int n) (.int m)) = if n = m then HT.lexLt ns ms else decide (n < m)
    rw [ltDs_ints ns ms]
    show (if (n == m) = true then _ else _) = _
    by_cases e : n = m
    · rw [if_pos e, if_pos (by simp [e])]
    · rw [if_neg e, if_neg (by simp [e])]
      rfl
theorem lt_ok : Op2 (zOf X fa) (rLtA X.K) (cmpOd .lt) := by
  intro S F0 H0 T env σ H F dx dy x y o Q R px py e h
  cases dx <;> cases dy <;> simp only [cmpOd, cmpop, Option.map_none, Option.map_some] at e <;> try cases e
  · obtain ⟨rfl, rfl⟩ := int2 px py
    exact .inl ⟨_, _, rfl, rfl, h.bl R⟩
  · split at e
    · rename_i c
      cases e
      rw [Bool.and_eq_true] at c
      obtain ⟨ns, rfl⟩ := allInts c.1
      obtain ⟨ms, rfl⟩ := allInts c.2
      obtain ⟨a, xs, rfl, ha, _, ra⟩ := Pk.tup R.sub px
      obtain ⟨b, ys, rfl, hb, _, rb⟩ := Pk.tup R.sub py
      cases ra.intsV
      cases rb.intsV
      refine .inr ⟨a, b, ns, ms, rfl, rfl, .of ha, .of hb, ?_⟩
      rw [← ltDs_ints]
      exact h.bl R
    · cases e
end
end Bq

set_option Elab.async false
set_option autoImplicit false
set_option linter.all false
set_option maxRecDepth 100000
/-! Dicts: of ints and texts, of tuples. -/
namespace Bq
open PySem PySem.Spec PyProof.Rows L2
/-! ### keys -/
mutual
theorem nk_eqv : ∀ a b : NestedKey, eqv (nkD a) (nkD b) = decide (a = b)
  | .none, .none => by simp [nkD, eqv]
  | .none, .num _ => by simp [nkD, eqv]
  | .none, .text _ => by simp [nkD, eqv]
  | .none, .tup _ => by simp [nkD, eqv]
  | .num _, .none => by simp [nkD, eqv]
  | .num a, .num b => by
    show (a == b) = _
    rw [Bool.eq_iff_iff]; simp
  | .num _, .text _ => by simp [nkD, eqv]
  | .num _, .tup _ => by simp [nkD, eqv]
  | .text _, .none => by simp [nkD, eqv]
  | .text _, .num _ => by simp [nkD, eqv]
  | .text a, .text b => by
    show (a == b) = _
    rw [Bool.eq_iff_iff]; simp
  | .text _, .tup _ => by simp [nkD, eqv]
  | .tup _, .none => by simp [nkD, eqv]
  | .tup _, .num _ => by simp [nkD, eqv]
  | .tup _, .text _ => by simp [nkD, eqv]
  | .tup as, .tup bs => by
    show eqvs (nkDs as) (nkDs bs) = _
    rw [nks_eqv as bs, Bool.eq_iff_iff]; simp
theorem nks_eqv : ∀ a b : List NestedKey, eqvs (nkDs a) (nkDs b) = decide (a = b)
  | [], [] => by simp [nkDs, eqvs]
  | [], _ :: _ => by simp [nkDs, eqvs]
  | _ :: _, [] => by simp [nkDs, eqvs]
  | a :: as, b :: bs => by
    show (eqv (nkD a) (nkD b) && eqvs (nkDs as) (nkDs bs)) = _
    rw [nk_eqv a b, nks_eqv as bs, Bool.eq_iff_iff]
    simp
end
theorem kD_eqv (a b : Key) : eqv (kD a) (kD b) = decide (a = b) := by
  cases a <;> cases b
  · rename_i x y
    show (x == y) = _
    rw [Bool.eq_iff_iff]; simp
  · simp [kD, eqv]
  · simp [kD, eqv]
  · rename_i x y
    show (x == y) = _
    rw [Bool.eq_iff_iff]; simp
mutual
theorem key_nk : ∀ x : D, keyIn x = true → ∃ k, x = nkD k ∧ k.depth = dep x
  | .non, _ => ⟨.none, rfl, rfl⟩
  | .int i, _ => ⟨.num i, rfl, rfl⟩
  | .str s, _ => ⟨.text s, rfl, rfl⟩
  | .tup xs, h => by
    obtain ⟨ks, e, d⟩ := keys_nk xs h
    exact ⟨.tup ks, by rw [e]; rfl, by show NestedKey.depthAll ks + 1 = deps xs + 1; rw [d]⟩
  | .bl _, h => by cases h
  | .lst _, h => by cases h
  | .dic _ _, h => by cases h
theorem keys_nk : ∀ xs : List D, keyTs xs = true → ∃ ks, xs = nkDs ks ∧ NestedKey.depthAll ks = deps xs
  | [], _ => ⟨[], rfl, rfl⟩
  | x :: xs, h => by
    have h' : (keyIn x && keyTs xs) = true := h
    rw [Bool.and_eq_true] at h'
    obtain ⟨k, e, d⟩ := key_nk x h'.1
    obtain ⟨ks, es, ds⟩ := keys_nk xs h'.2
    exact ⟨k :: ks, by rw [e, es]; rfl, by show max k.depth (NestedKey.depthAll ks) = max (dep x) (deps xs); rw [d, ds]⟩
end
theorem keyOk_t {x : D} (h : keyOk true x = true) : ∃ ks, x = nkD (.tup ks) ∧ (NestedKey.tup ks).depth ≤ 8 := by
  have h' : (keyT x && decide (dep x ≤ 8)) = true := h
  rw [Bool.and_eq_true, decide_eq_true_eq] at h'
  cases x with
  | tup xs =>
    obtain ⟨ks, e, d⟩ := keys_nk xs h'.1
    exact ⟨ks, by rw [e]; rfl, by show NestedKey.depthAll ks + 1 ≤ 8; rw [d]; exact h'.2⟩
  | _ => cases h'.1
theorem keyOk_f {x : D} (h : keyOk false x = true) : ∃ k, x = kD k := by
  cases x with
  | int i => exact ⟨.inl i, rfl⟩
  | str s => exact ⟨.inr s, rfl⟩
  | _ => cases h
theorem kD_V {Z : Wd} {F : Hp} {k : Key} {v : V} (q : Rp Z F (kD k) v) : v = kV k := by
  cases k <;> exact q
section
variable {X : Cx} {fa : Nat → Addr} {pins : List (Addr × Obj)} {σ : L2.St} {H F : Hp} {s : Shared}
mutual
theorem nested_is (I : Inv X pins σ H s) : ∀ (k : NestedKey) (v : V) (u : Value), Rp (zOf X fa) H (nkD k) v → RelV v u → NestedIs s.heap k u
  | .none, v, u, q, r => by
    cases (show v = V.non from q)
    cases r; exact .none
  | .num i, v, u, q, r => by
    cases (show v = V.int i from q)
    obtain ⟨t, rfl⟩ := r
    exact .int i t
  | .text x, v, u, q, r => by
    cases (show v = V.str x from q)
    obtain ⟨t, rfl⟩ := r
    exact .text x t
  | .tup ks, v, u, q, r => by
    obtain ⟨a, xs, rfl, ha, ra⟩ := q
    cases r
    obtain ⟨_, its, rv, o, h1, h2, n, h3⟩ := (show ObjOk X.prog X.w H s.heap a (.tup xs) from I.hok a _ ha)
    exact .tup h1 h2 h3 (by simpa using nesteds_is I ks xs its ra rv)
theorem nesteds_is (I : Inv X pins σ H s) : ∀ (ks : List NestedKey) (vs : List V) (us : List Value), RpAll (zOf X fa) H (nkDs ks) vs → Vals vs us → NestedAll s.heap ks us
  | [], vs, us, q, r => by
    cases (show vs = [] from q)
    cases r; exact .nil
  | k :: ks, vs, us, q, r => by
    obtain ⟨v, rs, rfl, a, b⟩ := q
    cases r with
    | cons r1 r2 => exact .cons (nested_is I k v _ a r1) (nesteds_is I ks rs _ b r2)
end
theorem RpT.is (I : Inv X pins σ H s) : ∀ (kvs : List (D × D)) (xs : List (NestedKey × Addr × Value)), RpT (zOf X fa) H kvs xs → ∀ x ∈ xs, (nestedKind X.prog X.w).is s.heap x.1 x.2.1
  | [], xs, q, x, hx => by
    cases (show xs = [] from q)
    cases hx
  | (k, d) :: r, xs, q, x, hx => by
    obtain ⟨k', b, u, v, ys, rfl, rfl, dk, _, hk, _, _, t⟩ := q
    rcases List.mem_cons.mp hx with rfl | hx
    · exact ⟨nested_is I k' _ _ hk rfl, dk⟩
    · exact RpT.is I r ys t x hx
theorem dt_ofH (I : Inv X pins σ H s) {a : Addr} {xs : List (NestedKey × Addr × Value)} {kvs : List (D × D)} (h : H a = some (dtO (zOf X fa) a xs)) (r : RpT (zOf X fa) H kvs xs) : s.heap.DictOfH (nestedKind X.prog X.w) a xs := by
  obtain ⟨⟨o, es, ep, h1, h2, h3, h4, h5⟩, _⟩ := (show ObjOk X.prog X.w H s.heap a (dtO (zOf X fa) a xs) from I.hok a _ h)
  exact ⟨o, es, ep, h1, h2, h3, h4, RpT.is I kvs xs r, h5⟩
theorem dt_objOk {P : Program} {w : World} {K : PySem.W.Frag} {mg : Str → Option Value} {H' : Hp} {h' : Heap} {a : Addr} {xs : List (NestedKey × Addr × Value)} (d : h'.DictOfH (nestedKind P w) a xs) : ObjOk P w H' h' a (dtO ⟨P, w, K, mg, fa⟩ a xs) := by
  obtain ⟨o, es, ep, h1, h2, h3, h4, _, h5⟩ := d
  refine ⟨⟨o, es, ep, h1, h2, h3, h4, h5⟩, ⟨o, h1⟩, fun g1 g2 q k => ?_⟩
  obtain ⟨o', es', ep', q1, q2, q3, q4, q5⟩ := q
  exact ⟨o', es', ep', k _ q1, q2, q3, q4, q5⟩
theorem RpT.length {Z : Wd} : ∀ (kvs : List (D × D)) (xs : List (NestedKey × Addr × Value)), RpT Z F kvs xs → xs.length = kvs.length
  | [], xs, q => by cases (show xs = [] from q); rfl
  | (k, d) :: r, xs, q => by
    obtain ⟨k', b, u, v, ys, rfl, rfl, dk, _, hk, _, _, t⟩ := q
    rw [List.length_cons, List.length_cons, RpT.length r ys t]
theorem RpK.length {Z : Wd} : ∀ (kvs : List (D × D)) (xs : List (Key × V)), RpK Z F kvs xs → xs.length = kvs.length
  | [], xs, q => by cases (show xs = [] from q); rfl
  | (k, d) :: r, xs, q => by
    obtain ⟨k', v, ys, rfl, rfl, _, t⟩ := q
    rw [List.length_cons, List.length_cons, RpK.length r ys t]
theorem RpT.at {Z : Wd} (k : NestedKey) : ∀ (kvs : List (D × D)) (xs : List (NestedKey × Addr × Value)), RpT Z F kvs xs →
    match dget (nkD k) kvs with
    | some d => ∃ b u v, atKey xs k = some (b, u) ∧ RelV v u ∧ Rp Z F d v
    | none => atKey xs k = none
  | [], xs, q => by cases (show xs = [] from q); rfl
  | (k0, d) :: r, xs, q => by
    obtain ⟨k', b, u, v, ys, rfl, rfl, dk, _, hk, ru, rd, t⟩ := q
    have ih := RpT.at k r ys t
    show match (if eqv (nkD k') (nkD k) = true then some d else dget (nkD k) r) with
      | some d => _
      | none => _
    rw [nk_eqv]
    by_cases e : k' = k
    · subst e
      rw [if_pos (by simp)]
      exact ⟨b, u, v, by simp [atKey, List.find?_cons], ru, rd⟩
    · rw [if_neg (by simp [e])]
      have hat : atKey ((k', b, u) :: ys) k = atKey ys k := by simp [atKey, List.find?_cons, e]
      rw [hat]
      exact ih
theorem RpK.at {Z : Wd} (k : Key) : ∀ (kvs : List (D × D)) (xs : List (Key × V)), RpK Z F kvs xs →
    match dget (kD k) kvs with
    | some d => ∃ v, valV xs k = some v ∧ Rp Z F d v
    | none => valV xs k = none
  | [], xs, q => by cases (show xs = [] from q); rfl
  | (k0, d) :: r, xs, q => by
    obtain ⟨k', v, ys, rfl, rfl, rd, t⟩ := q
    have ih := RpK.at k r ys t
    show match (if eqv (kD k') (kD k) = true then some d else dget (kD k) r) with
      | some d => _
      | none => _
    rw [kD_eqv]
    by_cases e : k' = k
    · subst e
      rw [if_pos (by simp)]
      exact ⟨v, valV_pos rfl, rd⟩
    · rw [if_neg (by simp [e]), valV_neg e]
      exact ih
theorem RpT.any {Z : Wd} (k : NestedKey) : ∀ (kvs : List (D × D)) (xs : List (NestedKey × Addr × Value)), RpT Z F kvs xs → kvs.any (fun p => eqv p.1 (nkD k)) = (atKey xs k).isSome
  | [], xs, q => by cases (show xs = [] from q); rfl
  | (k0, d) :: r, xs, q => by
    obtain ⟨k', b, u, v, ys, rfl, rfl, dk, _, hk, ru, rd, t⟩ := q
    rw [List.any_cons, RpT.any k r ys t, nk_eqv]
    by_cases e : k' = k
    · subst e; simp [atKey, List.find?_cons]
    · simp [atKey, List.find?_cons, e]
theorem RpT.putMap {Z : Wd} (k : NestedKey) {u : Value} {v : V} {d : D} (ru : RelV v u) (rd : Rp Z F d v) : ∀ (kvs : List (D × D)) (xs : List (NestedKey × Addr × Value)), RpT Z F kvs xs →
    RpT Z F (kvs.map fun p => if eqv p.1 (nkD k) then (p.1, d) else p) (xs.map (putAt k u))
  | [], xs, q => by cases (show xs = [] from q); exact rfl
  | (k0, d0) :: r, xs, q => by
    obtain ⟨k', b, u', v', ys, rfl, rfl, dk, tk, hk, ru', rd', t⟩ := q
    have ih := RpT.putMap k ru rd r ys t
    rw [List.map_cons, List.map_cons]
    simp only [nk_eqv]
    by_cases e : k' = k
    · subst e
      rw [if_pos (by simp)]
      exact ⟨k', b, u, v, ys.map (putAt k' u), by simp [putAt], rfl, dk, tk, hk, ru, rd, ih⟩
    · rw [if_neg (by simp [e])]
      exact ⟨k', b, u', v', ys.map (putAt k u), by simp [putAt, e], rfl, dk, tk, hk, ru', rd', ih⟩
theorem RpT.snoc {Z : Wd} {k : NestedKey} {b : Addr} {u : Value} {v : V} {d : D} (hk : Rp Z F (nkD k) (.ref b)) (dk : k.depth ≤ 8) (tk : ∃ ks, k = .tup ks) (ru : RelV v u) (rd : Rp Z F d v) : ∀ (kvs : List (D × D)) (xs : List (NestedKey × Addr × Value)), RpT Z F kvs xs →
    RpT Z F (kvs ++ [(nkD k, d)]) (xs ++ [(k, b, u)])
  | [], xs, q => by
    cases (show xs = [] from q)
    exact ⟨k, b, u, v, [], rfl, rfl, dk, tk, hk, ru, rd, rfl⟩
  | (k0, d0) :: r, xs, q => by
    obtain ⟨k', b', u', v', ys, rfl, rfl, dk', tk', hk', ru', rd', t⟩ := q
    exact ⟨k', b', u', v', ys ++ [(k, b, u)], rfl, rfl, dk', tk', hk', ru', rd', RpT.snoc hk dk tk ru rd r ys t⟩
theorem RpT.put {Z : Wd} {k : NestedKey} {b : Addr} {u : Value} {v : V} {d : D} (hk : Rp Z F (nkD k) (.ref b)) (dk : k.depth ≤ 8) (tk : ∃ ks, k = .tup ks) (ru : RelV v u) (rd : Rp Z F d v) {kvs : List (D × D)} {xs : List (NestedKey × Addr × Value)} (q : RpT Z F kvs xs) :
    RpT Z F (dput (nkD k) d kvs) (storedH xs k b u) := by
  unfold dput storedH
  rw [RpT.any k kvs xs q]
  by_cases e : (atKey xs k).isSome = true
  · rw [if_pos e, if_pos e]; exact RpT.putMap k ru rd kvs xs q
  · rw [if_neg e, if_neg e]; exact RpT.snoc hk dk tk ru rd kvs xs q
theorem RpK.any {Z : Wd} (k : Key) : ∀ (kvs : List (D × D)) (xs : List (Key × V)), RpK Z F kvs xs → kvs.any (fun p => eqv p.1 (kD k)) = xs.any fun kv => decide (kv.1 = k)
  | [], xs, q => by cases (show xs = [] from q); rfl
  | (k0, d) :: r, xs, q => by
    obtain ⟨k', v, ys, rfl, rfl, rd, t⟩ := q
    rw [List.any_cons, List.any_cons, RpK.any k r ys t, kD_eqv]
theorem RpK.putMap {Z : Wd} (k : Key) {v : V} {d : D} (rd : Rp Z F d v) : ∀ (kvs : List (D × D)) (xs : List (Key × V)), RpK Z F kvs xs →
    RpK Z F (kvs.map fun p => if eqv p.1 (kD k) then (p.1, d) else p) (xs.map fun kv => if kv.1 = k then (kv.1, v) else kv)
  | [], xs, q => by cases (show xs = [] from q); exact rfl
  | (k0, d0) :: r, xs, q => by
    obtain ⟨k', v', ys, rfl, rfl, rd', t⟩ := q
    have ih := RpK.putMap k rd r ys t
    rw [List.map_cons, List.map_cons]
    simp only [kD_eqv]
    by_cases e : k' = k
    · subst e
      rw [if_pos (by simp)]
      exact ⟨k', v, _, by rw [if_pos rfl], rfl, rd, ih⟩
    · rw [if_neg (by simp [e])]
      exact ⟨k', v', _, by rw [if_neg e], rfl, rd', ih⟩
theorem RpK.snoc {Z : Wd} {k : Key} {v : V} {d : D} (rd : Rp Z F d v) : ∀ (kvs : List (D × D)) (xs : List (Key × V)), RpK Z F kvs xs → RpK Z F (kvs ++ [(kD k, d)]) (xs ++ [(k, v)])
  | [], xs, q => by
    cases (show xs = [] from q)
    exact ⟨k, v, [], rfl, rfl, rd, rfl⟩
  | (k0, d0) :: r, xs, q => by
    obtain ⟨k', v', ys, rfl, rfl, rd', t⟩ := q
    exact ⟨k', v', ys ++ [(k, v)], rfl, rfl, rd', RpK.snoc rd r ys t⟩
theorem RpK.put {Z : Wd} {k : Key} {v : V} {d : D} (rd : Rp Z F d v) {kvs : List (D × D)} {xs : List (Key × V)} (q : RpK Z F kvs xs) : RpK Z F (dput (kD k) d kvs) (putK xs k v) := by
  unfold dput putK
  rw [RpK.any k kvs xs q]
  by_cases e : (xs.any fun kv => decide (kv.1 = k)) = true
  · rw [if_pos e, if_pos e]; exact RpK.putMap k rd kvs xs q
  · rw [if_neg e, if_neg e]; exact RpK.snoc rd kvs xs q

/-! ### the rules -/
def rDIn (Z : Wd) (neg : Bool) : R2 := fun x y H Q => ∃ F t kvs k, Le F H ∧ Pk Z H F (.dic t kvs) y ∧ Pk Z H F k x ∧ keyOk t k = true ∧ Q (.bl ((dget k kvs).isSome != neg)) H
theorem room_nested {A : Around} (hu : A.units + 200 < cLine) (P : Program) (w : World) : (nestedKind P w).room A.in1 := by
  show A.units + 1 + 8 < cLine
  omega
theorem or_dIn (hu : X.A.units + 200 < cLine) : OpR X (compareOp .In) (rDIn (zOf X fa) false) := by
  intro pins s σ H x y v u Q I rx ry h
  obtain ⟨F, t, kvs, k, le, py, px, hk, q⟩ := h
  cases t with
  | false =>
    obtain ⟨k', rfl⟩ := keyOk_f hk
    obtain ⟨a, xs, rfl, ha, r⟩ := py
    have ex : x = kV k' := kD_V (Pk.rp le px)
    subst ex
    cases ry
    refine d_in (by omega) I (.k (k := k') ha) rx fun s' I' => ⟨.bl _, H, I', rfl, ?_⟩
    have m := RpK.at k' kvs xs r
    cases e : dget (kD k') kvs with
    | some d => rw [e] at m q; obtain ⟨w, hw, _⟩ := m; rw [hw]; exact q
    | none => rw [e] at m q; have m : valV xs k' = none := m; rw [m]; exact q
  | true =>
    obtain ⟨ks, rfl, dk⟩ := keyOk_t hk
    obtain ⟨a, xs, rfl, ha, ns, r⟩ := py
    have rk := Pk.rp le px
    obtain ⟨b, _, rfl, _⟩ := id rk
    cases rx
    cases ry
    refine wpAny_in_heap (room_nested hu _ _) (⟨nested_is I _ _ _ rk rfl, dk⟩ : (nestedKind X.prog X.w).is s.heap (.tup ks) b) ns (dt_ofH I ha (RpT.mono le _ _ r)) ⟨.bl _, H, I.tok _, rfl, ?_⟩
    have m := RpT.at (.tup ks) kvs xs r
    cases e : dget (nkD (.tup ks)) kvs with
    | some d => rw [e] at m q; obtain ⟨_, _, _, hw, _⟩ := m; rw [hw]; exact q
    | none => rw [e] at m q; have m : atKey xs (.tup ks) = none := m; rw [m]; exact q
theorem or_dNotIn (hu : X.A.units + 200 < cLine) : OpR X (compareOp .NotIn) (rDIn (zOf X fa) true) := by
  intro pins s σ H x y v u Q I rx ry h
  obtain ⟨F, t, kvs, k, le, py, px, hk, q⟩ := h
  cases t with
  | false =>
    obtain ⟨k', rfl⟩ := keyOk_f hk
    obtain ⟨a, xs, rfl, ha, r⟩ := py
    have ex : x = kV k' := kD_V (Pk.rp le px)
    subst ex
    cases ry
    refine d_notIn (by omega) I (.k (k := k') ha) rx fun s' I' => ⟨.bl _, H, I', rfl, ?_⟩
    have m := RpK.at k' kvs xs r
    cases e : dget (kD k') kvs with
    | some d => rw [e] at m q; obtain ⟨w, hw, _⟩ := m; rw [hw]; exact q
    | none => rw [e] at m q; have m : valV xs k' = none := m; rw [m]; exact q
  | true =>
    obtain ⟨ks, rfl, dk⟩ := keyOk_t hk
    obtain ⟨a, xs, rfl, ha, ns, r⟩ := py
    have rk := Pk.rp le px
    obtain ⟨b, _, rfl, _⟩ := id rk
    cases rx
    cases ry
    refine wpAny_notIn_heap (room_nested hu _ _) (⟨nested_is I _ _ _ rk rfl, dk⟩ : (nestedKind X.prog X.w).is s.heap (.tup ks) b) ns (dt_ofH I ha (RpT.mono le _ _ r)) ⟨.bl _, H, I.tok _, rfl, ?_⟩
    have m := RpT.at (.tup ks) kvs xs r
    cases e : dget (nkD (.tup ks)) kvs with
    | some d => rw [e] at m q; obtain ⟨_, _, _, hw, _⟩ := m; rw [hw]; exact q
    | none => rw [e] at m q; have m : atKey xs (.tup ks) = none := m; rw [m]; exact q
def rDGet (Z : Wd) : R2 := fun x y H Q => ∃ F t kvs k d, Le F H ∧ Pk Z H F (.dic t kvs) x ∧ Pk Z H F k y ∧ keyOk t k = true ∧ dget k kvs = some d ∧ ∀ v, Rp Z F d v → Q v H
theorem ix_dict (hu : X.A.units + 200 < cLine) : IxR X (rDGet (zOf X fa)) := by
  intro value slice pins s σ H x y v u Q I rx ry h hs
  obtain ⟨F, t, kvs, k, d, le, px, py, hk, hd, q⟩ := h
  cases t with
  | false =>
    obtain ⟨k', rfl⟩ := keyOk_f hk
    obtain ⟨a, xs, rfl, ha, r⟩ := px
    have ex : y = kV k' := kD_V (Pk.rp le py)
    subst ex
    cases rx
    have m := RpK.at k' kvs xs r
    rw [hd] at m
    obtain ⟨z, hz, rz⟩ := m
    obtain ⟨_, _, vs, rel, dd⟩ := dk_of I.hok ha
    refine tail_any dd.typeIs PySem.F.slot_dict_getitem.lookup ?_ hs
    exact d_getItem (by omega) I (show DGet H a (kV k') (some z) from by rw [← hz]; exact .k ha) ry fun w' s' I' rw' => ⟨z, H, I', rw', q z rz⟩
  | true =>
    obtain ⟨ks, rfl, dk⟩ := keyOk_t hk
    obtain ⟨a, xs, rfl, ha, ns, r⟩ := px
    have rk := Pk.rp le py
    obtain ⟨b, _, rfl, _⟩ := id rk
    cases rx
    cases ry
    have m := RpT.at (.tup ks) kvs xs r
    rw [hd] at m
    obtain ⟨b', u', v', hat, ru, rd⟩ := m
    have dd := dt_ofH I ha (RpT.mono le _ _ r)
    refine tail_any dd.typeIs PySem.F.slot_dict_getitem.lookup ?_ hs
    exact wpAny_getItem_heap (room_nested hu _ _) (⟨nested_is I _ _ _ rk rfl, dk⟩ : (nestedKind X.prog X.w).is s.heap (.tup ks) b) dd hat ⟨v', H, I.tok _, ru, q v' rd⟩
def rDSet (Z : Wd) : V → V → V → Hp → (Hp → Prop) → Prop := fun o i v H Q => ∃ F t kvs k d p, Le F H ∧ F p = none ∧ o = .ref p ∧ OwnObj Z H F p (.dic t kvs) ∧ Pk Z H F k i ∧ Rp Z F d v ∧ keyOk t k = true ∧ kvs.length < cap ∧
  ∀ ob, OwnObj Z (upd H p ob) F p (.dic t (dput k d kvs)) → Q (upd H p ob)
theorem set_dictA (hu : X.A.units + 200 < cLine) : PSet X (rDSet (zOf X fa)) := by
  intro pins s σ H o i v ov iv u Q I ro ri rv h
  obtain ⟨F, t, kvs, k, d, p, le, nf, rfl, ob, pi, rd, hk, hl, q⟩ := h
  cases ro
  cases t with
  | false =>
    obtain ⟨k', rfl⟩ := keyOk_f hk
    obtain ⟨xs, hp, r⟩ := ob
    have ex : i = kV k' := kD_V (Pk.rp le pi)
    subst ex
    refine d_setItem (by omega) I (.k (k := k') (v := v) hp (capI (by rw [RpK.length _ _ r]; omega))) ri rv fun s' I' => ⟨_, I', q _ ⟨_, upd_same, RpK.put rd r⟩⟩
  | true =>
    obtain ⟨ks, rfl, dk⟩ := keyOk_t hk
    obtain ⟨xs, hp, ns, r⟩ := ob
    have rkF : Rp (zOf X fa) F (nkD (.tup ks)) i := pi
    have rk := Rp.mono le _ _ rkF
    obtain ⟨b, _, rfl, _⟩ := id rk
    cases ri
    have dd := dt_ofH I hp (RpT.mono le _ _ r)
    refine wpAny_setItem_heap (hsz := cap_le (by rw [RpT.length _ _ r]; omega)) (room_nested hu _ _) (⟨nested_is I _ _ _ rk rfl, dk⟩ : (nestedKind X.prog X.w).is s.heap (.tup ks) b) dd fun h' dd' hs => ⟨upd H p (dtO (zOf X fa) p (storedH xs (.tup ks) b u)), ?_, q _ ⟨_, upd_same, ns, RpT.put rkF dk ⟨ks, rfl⟩ rv rd r⟩⟩
    have he : ∃ q, h'.get? p = some q := let ⟨q, _, _, hq, _⟩ := dd'; ⟨q, hq⟩
    exact d_write I (by rw [hp]; exact True.intro) hs he (dt_objOk dd')
end
/-! ### as the evaluator says it -/
section
variable {X : Cx} {fa : Nat → Addr}
def rMemP (K : PySem.W.Frag) (neg : Bool) : R2 := fun x y H Q => ∃ d ds, Dp K H x d ∧ (Dp K H y (.list ds) ∨ Dp K H y (.tuple ds)) ∧ d.canLay0 = true ∧ PyData.canLayAll0 ds = true ∧ d.depth ≤ 150 ∧ Q (.bl ((ds.any fun z => PyData.eqv z d) != neg)) H
theorem or_memP (hu : X.A.units + 200 < cLine) : OpR X (compareOp .In) (rMemP X.K false) := by
  intro pins s σ H x y v u Q I rx ry h
  obtain ⟨d, ds, hd, he, c1, c2, hz, q⟩ := h
  obtain ⟨as, r1⟩ := Dp.reads I d x v hd rx
  rcases he with he | he
  · obtain ⟨bs, r2⟩ := Dp.reads I _ y u he ry
    exact SeqAt.in_list_reads r2 r1 c2 c1 (by omega) ⟨.bl _, H, I, rfl, by simpa using q⟩
  · obtain ⟨bs, r2⟩ := Dp.reads I _ y u he ry
    exact SeqAt.in_tuple_reads r2 r1 c2 c1 (by omega) ⟨.bl _, H, I, rfl, by simpa using q⟩
theorem or_nmemP (hu : X.A.units + 200 < cLine) : OpR X (compareOp .NotIn) (rMemP X.K true) := by
  intro pins s σ H x y v u Q I rx ry h
  obtain ⟨d, ds, hd, he, c1, c2, hz, q⟩ := h
  obtain ⟨as, r1⟩ := Dp.reads I d x v hd rx
  rcases he with he | he
  · obtain ⟨bs, r2⟩ := Dp.reads I _ y u he ry
    exact SeqAt.notIn_list_reads r2 r1 c2 c1 (by omega) ⟨.bl _, H, I, rfl, by simpa using q⟩
  · obtain ⟨bs, r2⟩ := Dp.reads I _ y u he ry
    exact SeqAt.notIn_tuple_reads r2 r1 c2 c1 (by omega) ⟨.bl _, H, I, rfl, by simpa using q⟩
def rMemA (Z : Wd) (neg : Bool) : R2 := fun x y H Q => rMemP Z.K neg x y H Q ∨ rDIn Z neg x y H Q
theorem or_memA (hu : X.A.units + 200 < cLine) : OpR X (compareOp .In) (rMemA (zOf X fa) false) := OpR.or (or_memP hu) (or_dIn hu)
theorem or_nmemA (hu : X.A.units + 200 < cLine) : OpR X (compareOp .NotIn) (rMemA (zOf X fa) true) := OpR.or (or_nmemP hu) (or_dNotIn hu)
theorem any_py {x : D} (hx : plain x = true) : ∀ ys : List D, plains ys = true → ((toPys ys).any fun z => PyData.eqv z (toPy x)) = ys.any fun y => eqv y x
  | [], _ => rfl
  | y :: ys, h => by
    have h' : (plain y && plains ys) = true := h
    rw [Bool.and_eq_true] at h'
    show (PyData.eqv (toPy y) (toPy x) || (toPys ys).any fun z => PyData.eqv z (toPy x)) = (eqv y x || ys.any fun y => eqv y x)
    rw [any_py hx ys h'.2, eqv_py y x h'.1 hx]
theorem mem_core {Z : Wd} {S : Srcs} {F0 H0 : Hp} {T : List (Addr × D)} {env : Env} {σ : L2.St} {H F : Hp} {dx : D} {ys : List D} {x y : V} {Q : VK} {neg : Bool} (R : Rel Z S F0 H0 T env σ H F) (px : Pk Z H F dx x) (py : Pk Z H F (.tup ys) y ∨ Pk Z H F (.lst ys) y)
    (c : memOk dx ys = true) (h : Q (.bl ((ys.any fun y => eqv y dx) != neg)) H) : rMemA Z neg x y H Q := by
  unfold memOk at c
  simp only [Bool.and_eq_true, decide_eq_true_eq] at c
  refine .inl ⟨toPy dx, toPys ys, (px.rp R.sub).dp _ _ c.1.1, ?_, canLay_of _ c.1.1, canLays_of _ c.1.2, by rw [depth_py _ c.1.1]; exact c.2, by rw [any_py c.1.1 _ c.1.2]; exact h⟩
  rcases py with py | py
  · exact .inr ((py.rp R.sub).dp (.tup ys) _ c.1.2)
  · exact .inl ((py.rp R.sub).dp (.lst ys) _ c.1.2)
theorem mem_ok : Op2 (zOf X fa) (rMemA (zOf X fa) false) (cmpOd .mem) := by
  intro S F0 H0 T env σ H F dx dy x y o Q R px py e h
  cases dy with
  | tup ys =>
    simp only [cmpOd, cmpop] at e
    split at e
    · rename_i c
      cases e
      exact mem_core R px (.inl py) c (by simpa using h.bl R)
    · cases e
  | lst ys =>
    simp only [cmpOd, cmpop] at e
    split at e
    · rename_i c
      cases e
      exact mem_core R px (.inr py) c (by simpa using h.bl R)
    · cases e
  | dic t kvs =>
    simp only [cmpOd, cmpop] at e
    split at e
    · rename_i c
      cases e
      exact .inr ⟨F, t, kvs, dx, R.sub, py, px, c, by simpa using h.bl R⟩
    · cases e
  | _ => simp [cmpOd, cmpop] at e
theorem nmem_ok : Op2 (zOf X fa) (rMemA (zOf X fa) true) (cmpOd .nmem) := by
  intro S F0 H0 T env σ H F dx dy x y o Q R px py e h
  cases dy with
  | tup ys =>
    simp only [cmpOd, cmpop] at e
    split at e
    · rename_i c
      cases e
      exact mem_core R px (.inl py) c (by simpa using h.bl R)
    · cases e
  | lst ys =>
    simp only [cmpOd, cmpop] at e
    split at e
    · rename_i c
      cases e
      exact mem_core R px (.inr py) c (by simpa using h.bl R)
    · cases e
  | dic t kvs =>
    simp only [cmpOd, cmpop] at e
    split at e
    · rename_i c
      cases e
      exact .inr ⟨F, t, kvs, dx, R.sub, py, px, c, by simpa using h.bl R⟩
    · cases e
  | _ => simp [cmpOd, cmpop] at e
def rIxA (Z : Wd) : R2 := fun x y H Q => rIxL Z.K x y H Q ∨ rIxT Z.K x y H Q ∨ rDGet Z x y H Q
theorem ix_all (hu : X.A.units + 200 < cLine) : IxR X (rIxA (zOf X fa)) := ix_list.or (ix_tup.or (ix_dict hu))
theorem at_core {Z : Wd} {F : Hp} {ds : List D} {vs : List V} {i : Int} {d : D} (r : RpAll Z F ds vs) (e : atD ds i = some d) : ∃ v, atI vs i = some v ∧ Rp Z F d v := by
  have hl := r.length
  unfold atD at e
  unfold atI ixN
  rw [hl]
  by_cases h0 : 0 ≤ i
  · rw [if_pos h0] at e ⊢
    by_cases h1 : i < (ds.length : Int)
    · rw [if_pos h1] at e ⊢
      exact r.get _ _ _ _ e
    · rw [if_neg h1] at e; cases e
  · rw [if_neg h0] at e ⊢
    by_cases h1 : -(ds.length : Int) ≤ i
    · rw [if_pos h1] at e ⊢
      exact r.get _ _ _ _ e
    · rw [if_neg h1] at e; cases e
theorem ix_ok : Op2 (zOf X fa) (rIxA (zOf X fa)) (fun x y => (index x y).map fun r => .vl (.d r)) := by
  intro S F0 H0 T env σ H F dx dy x y o Q R px py e h
  obtain ⟨d, e1, rfl⟩ := Option.map_eq_some_iff.mp e
  cases dx with
  | tup ds =>
    cases dy with
    | int i =>
      obtain ⟨a, xs, rfl, ha, _, ra⟩ := Pk.tup R.sub px
      cases (show y = V.int i from py)
      obtain ⟨v, hv, rv⟩ := at_core ra e1
      exact .inr (.inl ⟨a, xs, i, v, rfl, rfl, .of ha, hv, h.val R rv⟩)
    | _ => cases e1
  | lst ds =>
    cases dy with
    | int i =>
      obtain ⟨a, xs, rfl, ha, ra⟩ := px
      cases (show y = V.int i from py)
      obtain ⟨v, hv, rv⟩ := at_core ra e1
      exact .inl ⟨a, xs, i, v, rfl, rfl, .of ha, hv, h.val R rv⟩
    | _ => cases e1
  | dic t kvs =>
    have e2 : (if keyOk t dy = true then dget dy kvs else none) = some d := by cases dy <;> exact e1
    split at e2
    · rename_i c
      exact .inr (.inr ⟨F, t, kvs, dy, d, R.sub, px, py, c, e2, fun v rv => h.val R rv⟩)
    · cases e2
  | _ => cases dy <;> cases e1
end
end Bq

set_option Elab.async false
set_option autoImplicit false
set_option linter.all false
set_option maxRecDepth 100000
/-! Readings: what the evaluator says of an expression, as a reading of the layer; the expressions without calls, one lemma each. -/
namespace Bq
open PySem PySem.Spec PyProof.Rows L2
section
variable (Z : Wd) (cl : Nat → List Vl → M D)
def rdO (e : Ex) : TE := fun σ H Q => ∃ S F0 H0 T env F, Rel Z S F0 H0 T env σ H F ∧ (evO cl e env).all fun r => Post Z S F0 H0 T r.2 σ F r.1 Q
/-- the same from any evaluation that ends in an operand -/
def rdM (m : Env → M (Od × Env)) : TE := fun σ H Q => ∃ S F0 H0 T env F, Rel Z S F0 H0 T env σ H F ∧ (m env).all fun r => Post Z S F0 H0 T r.2 σ F r.1 Q
def PostB (S : Srcs) (F0 H0 : Hp) (T : List (Addr × D)) (env : Env) (σ : L2.St) (F : Hp) (b : Bool) (Q : Bool → Hp → Prop) : Prop := ∀ H' F', Rel Z S F0 H0 T env σ H' F' → Le F F' → Q b H'
def rdT (m : Env → M (Bool × Env)) : TT := fun σ H Q => ∃ S F0 H0 T env F, Rel Z S F0 H0 T env σ H F ∧ (m env).all fun r => PostB Z S F0 H0 T r.2 σ F r.1 Q
def RpVs (S : Srcs) (F : Hp) : List Vl → List V → Prop
  | [], vs => vs = []
  | x :: xs, vs => ∃ v r, vs = v :: r ∧ RpV Z S F x v ∧ RpVs S F xs r
def rdVs (es : Exs) : TA := fun σ H Q => ∃ S F0 H0 T env F, Rel Z S F0 H0 T env σ H F ∧ (evVs cl es env).all fun r => ∀ vs H' F', Rel Z S F0 H0 T r.2 σ H' F' → Le F F' → RpVs Z S F' r.1 vs → Q vs H'
/-- operands that are not just made -/
def OdsOk (S : Srcs) (H0 : Hp) (T : List (Addr × D)) (env : Env) (σ : L2.St) (H F : Hp) : List Od → List V → Prop
  | [], vs => vs = []
  | o :: os, vs => ∃ v r, vs = v :: r ∧ (∀ x, o ≠ .fr x) ∧ OdOk Z S H0 T env σ H F o v ∧ OdsOk S H0 T env σ H F os r
def rdOs (es : Exs) : TA := fun σ H Q => ∃ S F0 H0 T env F, Rel Z S F0 H0 T env σ H F ∧ (evOs cl es env).all fun r => ∀ vs H' F', Rel Z S F0 H0 T r.2 σ H' F' → Le F F' → OdsOk Z S H0 T r.2 σ H' F' r.1 vs → Q vs H'
end
theorem PE.imp {X : Cx} {e : Expr} {t t' : TE} (h : PE X e t) (i : ∀ σ H Q, t' σ H Q → t σ H Q) : PE X e t' := ⟨fun pins s σ H Q I q => h.run pins s σ H Q I (i σ H Q q)⟩
theorem PT.imp {X : Cx} {e : Expr} {t t' : TT} (h : PT X e t) (i : ∀ σ H Q, t' σ H Q → t σ H Q) : PT X e t' := ⟨fun pins s σ H Q I q => h.run pins s σ H Q I (i σ H Q q)⟩
theorem PW.imp {X : Cx} {e : Expr} {t t' : TT} (h : PW X e t) (i : ∀ σ H Q, t' σ H Q → t σ H Q) : PW X e t' := ⟨fun wh pins s σ H Q I q => h.run wh pins s σ H Q I (i σ H Q q)⟩
theorem PA.imp {X : Cx} {e : List Expr} {t t' : TA} (h : PA X e t) (i : ∀ σ H Q, t' σ H Q → t σ H Q) : PA X e t' := ⟨fun pos pins s σ H Q I q => h.run pos pins s σ H Q I (i σ H Q q)⟩
section
variable {Z : Wd} {cl : Nat → List Vl → M D} {S : Srcs} {F0 H0 : Hp} {T : List (Addr × D)} {env : Env} {σ : L2.St} {H F : Hp} {Q : VK}
theorem rdO_M {e : Ex} : rdO Z cl e = rdM Z (evO cl e) := rfl
theorem Post.mono {o : Od} {F' : Hp} (l : Le F F') (h : Post Z S F0 H0 T env σ F o Q) : Post Z S F0 H0 T env σ F' o Q := fun v H' G R l' q => h v H' G R (l.trans l') q
/-- from one evaluation to the next -/
theorem rd_bind {m : Env → M (Od × Env)} {k : Od × Env → M (Od × Env)} {Q' : VK} (R : Rel Z S F0 H0 T env σ H F) (h : ((m env).bind k).all fun r => Post Z S F0 H0 T r.2 σ F r.1 Q)
    (step : ∀ o env' v H' F', Rel Z S F0 H0 T env' σ H' F' → Le F F' → OdOk Z S H0 T env' σ H' F' o v → ((k (o, env')).all fun r => Post Z S F0 H0 T r.2 σ F' r.1 Q) → Q' v H') : rdM Z m σ H Q' := by
  refine ⟨S, F0, H0, T, env, F, R, ?_⟩
  rw [M.all_bind] at h
  refine M.all_mono (fun r hr => ?_) h
  intro v H' F' R' l q
  exact step r.1 r.2 v H' F' R' l q (M.all_mono (fun _ p => p.mono l) hr)
/-- a just made operand is shared -/
theorem Rel.norm (R : Rel Z S F0 H0 T env σ H F) {o : Od} {v : V} (q : OdOk Z S H0 T env σ H F o v) : ∃ G, Rel Z S F0 H0 T env σ H G ∧ Le F G ∧ OdOk Z S H0 T env σ H G o.norm v ∧ ∀ x, o.norm ≠ .fr x := by
  cases o with
  | vl x => exact ⟨F, R, Le.refl F, q, fun _ e => by cases e⟩
  | own i => exact ⟨F, R, Le.refl F, q, fun _ e => by cases e⟩
  | fr x =>
    obtain ⟨G, R', l, r⟩ := R.frz (o := .fr x) q rfl
    exact ⟨G, R', l, r, fun _ e => by cases e⟩
/-- what is no maker's stays as it is when heap and shared part grow -/
theorem OdOk.keep {o : Od} {v : V} {env' : Env} {H' F' : Hp} {T' : List (Addr × D)} (l : Le F F') (n : ∀ x, o ≠ .fr x) (q : OdOk Z S H0 T env σ H F o v) : OdOk Z S H0 T' env' σ H' F' o v := by
  cases o with
  | vl x => exact RpV.mono l q
  | own i => exact q
  | fr x => exact absurd rfl (n x)
theorem norm_norm (o : Od) : o.norm.norm = o.norm := by cases o <;> rfl
/-- two operands, then an operation on data -/
theorem rd_two {a : Env → M (Od × Env)} {b : Env → M (Od × Env)} {r : R2} {f : D → D → Option Od} (hop : Op2 Z r f) :
    rdM Z (fun env => (a env).bind fun p => (b p.2).bind fun q => (two p.1 q.1 q.2 f).bind fun o => .ret (o, q.2)) σ H Q → tOp r (rdM Z a) (rdM Z b) σ H Q := by
  rintro ⟨S, F0, H0, T, env, F, R, h⟩
  refine rd_bind R h fun p env1 x H1 F1 R1 l1 q1 h1 => ?_
  obtain ⟨F2, R2, l2, q2, n2⟩ := R1.norm q1
  refine rd_bind R2 (M.all_mono (fun _ z => z.mono l2) h1) fun q env2 y H3 F3 R3 l3 q3 h3 => ?_
  obtain ⟨F4, R4, l4, q4, n4⟩ := R3.norm q3
  have q2' : OdOk Z S H0 T env2 σ H3 F4 p.norm x := q2.keep (l3.trans l4) n2
  simp only [two] at h3
  cases e1 : p.norm.res env2 with
  | none => rw [e1] at h3; exact False.elim h3
  | some dx =>
    cases e2 : q.norm.res env2 with
    | none => rw [e1, e2] at h3; exact False.elim h3
    | some dy =>
      rw [e1, e2] at h3
      simp only at h3
      cases e3 : f dx dy with
      | none => rw [e3] at h3; exact False.elim h3
      | some o =>
        rw [e3] at h3
        exact hop R4 (R4.odPk q2' e1) (R4.odPk q4 e2) e3 (Post.mono l4 h3)
/-- an operand that must be a datum of one kind -/
theorem bl_of {o : Od} {v : V} {b : Bool} (e : o = .vl (.d (.bl b))) (q : OdOk Z S H0 T env σ H F o v) : v = .bl b := by subst e; exact q
end
/-! ### statics -/
structure Cm where
  N : List Str
  fnm : Nat → Str
  has : Nat → Bool
def visB (sc : Scope) (x : Str) : Bool := match sc.names.lookup x with
  | some .local => true
  | some .cell => true
  | some .free => true
  | _ => false
def locB (sc : Scope) (x : Str) : Bool := match sc.names.lookup x with
  | some .local => true
  | some .cell => true
  | _ => false
def glB (sc : Scope) (x : Str) : Bool := match sc.names.lookup x with
  | some .globalImplicit => true
  | _ => false
/-- a written scope and the one that runs -/
def ScOk (sc sc' : Scope) : Prop := ∀ x k, sc.names.lookup x = some k → ∃ k', sc'.names.lookup x = some k' ∧ (k' = k ∨ (k = .free ∧ k' = .cell))
structure CxOk (c : Cm) (k : Nat) (sc : Scope) (X : Cx) : Prop where
  calm : X.calm = true
  hN : X.N = c.N
  nd : X.N.Nodup
  room : Room k X.A
  gds : X.A.guards = some []
  xe : X.xe = fun _ _ => False
  sco : ScOk sc X.env.scope
  kind : X.env.scope.kind = .function
  fn : ∀ x, sc.names.lookup x = some .cell → X.fn x = true
section
variable {c : Cm} {k : Nat} {sc : Scope} {X : Cx}
theorem CxOk.hu (C : CxOk c k sc X) : X.A.units + 200 < cLine := by have := C.room.un; omega
theorem CxOk.vis (C : CxOk c k sc X) {x : Str} (h : visB sc x = true) : Vis X.env.scope x := by
  unfold visB at h
  split at h
  · rename_i e
    obtain ⟨k', e', r⟩ := C.sco x _ e
    rcases r with rfl | ⟨z, _⟩
    · exact .inl e'
    · cases z
  · rename_i e
    obtain ⟨k', e', r⟩ := C.sco x _ e
    rcases r with rfl | ⟨z, _⟩
    · exact .inr (.inl e')
    · cases z
  · rename_i e
    obtain ⟨k', e', r⟩ := C.sco x _ e
    rcases r with rfl | ⟨_, rfl⟩
    · exact .inr (.inr e')
    · exact .inr (.inl e')
  · cases h
theorem CxOk.gl (C : CxOk c k sc X) {x : Str} (h : glB sc x = true) : Gl X x := by
  unfold glB at h
  split at h
  · rename_i e
    obtain ⟨k', e', r⟩ := C.sco x _ e
    rcases r with rfl | ⟨z, _⟩
    · exact e'
    · cases z
  · cases h
theorem CxOk.loc (C : CxOk c k sc X) {x : Str} (h : locB sc x = true) : Loc X.env.scope x ∧ (X.fn x = true ∨ X.env.scope.names.lookup x = some .local) := by
  unfold locB at h
  split at h
  · rename_i e
    obtain ⟨k', e', r⟩ := C.sco x _ e
    rcases r with rfl | ⟨z, _⟩
    · exact ⟨.inl e', .inr e'⟩
    · cases z
  · rename_i e
    obtain ⟨k', e', r⟩ := C.sco x _ e
    rcases r with rfl | ⟨z, _⟩
    · exact ⟨.inr e', .inl (C.fn x e)⟩
    · cases z
  · cases h
end
/-! ### one lemma for a form -/
section
variable {c : Cm} {k : Nat} {sc : Scope} {X : Cx} {fa : Nat → Addr} {cl : Nat → List Vl → M D}
theorem e_var {i : Nat} {x : Str} {pos : Pos} (C : CxOk c k sc X) (hi : c.N[i]? = some x) (hv : visB sc x = true) (h1 : (x == ("__debug__" : Str)) = false) (h2 : (x == ("__classdict__" : Str)) = false) : PE X (.Name x pos) (rdO (zOf X fa) cl (.v i)) := by
  refine PE.imp (pe_var (i := i) (by rw [C.hN]; exact hi) (C.vis hv) h1 h2) fun σ H Q h => ?_
  obtain ⟨S, F0, H0, T, env, F, R, h⟩ := h
  simp only [evO] at h
  cases e : env[i]? with
  | none => rw [e] at h; exact False.elim h
  | some s =>
    rw [e] at h
    cases s with
    | u => exact False.elim h
    | vl y =>
      obtain ⟨v, h1, h2⟩ := R.slot i y e
      exact ⟨v, h1, h v H F R (Le.refl F) h2⟩
    | ow y =>
      obtain ⟨p, h1, h2⟩ := R.own i y e
      exact ⟨_, h1, h (.ref p) H F R (Le.refl F) h1⟩
theorem e_val {e : Expr} {v : V} {m : Ex} {x : Vl} (h : PE X e (tC v)) (hx : ∀ S F, RpV (zOf X fa) S F x v) (he : ∀ env, evO cl m env = .ret (.vl x, env)) : PE X e (rdO (zOf X fa) cl m) := by
  refine PE.imp h fun σ H Q h => ?_
  obtain ⟨S, F0, H0, T, env, F, R, h⟩ := h
  rw [he] at h
  exact h v H F R (Le.refl F) (hx S F)
theorem e_bin {o : BOp} {op : Operator} {r : R2} {a b : Expr} {ma mb : Ex} {pos : Pos} (ho : OpR X (binaryOp op) r) (hop : Op2 (zOf X fa) r (binop o)) (ha : PE X a (rdO (zOf X fa) cl ma)) (hb : PE X b (rdO (zOf X fa) cl mb)) :
    PE X (.BinOp a op b pos) (rdO (zOf X fa) cl (.bin o ma mb)) := PE.imp (pe_op ho ha hb) fun σ H Q h => rd_two hop h
theorem e_cmp {o : COp} {op : CmpOp} {r : R2} {a b : Expr} {ma mb : Ex} {pos : Pos} (ho : OpR X (compareOp op) r) (hop : Op2 (zOf X fa) r (cmpOd o)) (ha : PE X a (rdO (zOf X fa) cl ma)) (hb : PE X b (rdO (zOf X fa) cl mb)) (hm : behindInMarks op b = false) :
    PE X (.Compare a [op] [b] pos) (rdO (zOf X fa) cl (.cmp o ma mb)) := PE.imp (pe_cmpR ho ha hb hm) fun σ H Q h => rd_two hop h
theorem e_ix {a b : Expr} {ma mb : Ex} {pos : Pos} (C : CxOk c k sc X) (ha : PE X a (rdO (zOf X fa) cl ma)) (hb : PE X b (rdO (zOf X fa) cl mb)) (hs : PlainIx b) :
    PE X (.Subscript a b pos) (rdO (zOf X fa) cl (.ix ma mb)) := PE.imp (pe_ix (ix_all C.hu) ha hb hs) fun σ H Q h => rd_two ix_ok h
/-- the truth of what is a bool -/
theorem t_val {e : Expr} {m : Env → M (Od × Env)} (h : PE X e (rdM (zOf X fa) m)) (he : ∀ whole, isTrue e X.env whole = (do let v ← whole; standAt e.pos; holding [v] (truthy v))) :
    PT X e (rdT (zOf X fa) fun env => (m env).bind fun p => match p.1 with | .vl (.d (.bl b)) => .ret (b, p.2) | _ => .fail) := by
  refine PT.imp (pt_val h he) fun σ H Q h => ?_
  obtain ⟨S, F0, H0, T, env, F, R, h⟩ := h
  refine ⟨S, F0, H0, T, env, F, R, ?_⟩
  rw [M.all_bind] at h
  refine M.all_mono (fun r hr => ?_) h
  intro v H' F' R' l q
  obtain ⟨o, env'⟩ := r
  cases o with
  | vl x =>
    cases x with
    | d x =>
      cases x with
      | bl b => exact ⟨b, q, hr H' F' R' l⟩
      | _ => exact False.elim hr
    | _ => exact False.elim hr
  | _ => exact False.elim hr
/-- what evT says -/
theorem evT_eq (m : Ex) : evT cl m = fun env => (evO cl m env).bind fun p => match p.1 with | .vl (.d (.bl b)) => .ret (b, p.2) | _ => .fail := rfl
/-- a test from its parts' reading where the layer has one for the test -/
theorem tB_of {t : TE} {m : Env → M (Od × Env)} (i : ∀ σ H Q, rdM (zOf X fa) m σ H Q → t σ H Q) {σ : L2.St} {H : Hp} {Q : Bool → Hp → Prop}
    (h : rdT (zOf X fa) (fun env => (m env).bind fun p => match p.1 with | .vl (.d (.bl b)) => .ret (b, p.2) | _ => .fail) σ H Q) : tTest t σ H Q := by
  obtain ⟨S, F0, H0, T, env, F, R, h⟩ := h
  refine i _ _ _ ⟨S, F0, H0, T, env, F, R, ?_⟩
  rw [M.all_bind] at h
  refine M.all_mono (fun r hr => ?_) h
  intro v H' F' R' l q
  obtain ⟨o, env'⟩ := r
  cases o with
  | vl x =>
    cases x with
    | d x =>
      cases x with
      | bl b => exact ⟨b, q, hr H' F' R' l⟩
      | _ => exact False.elim hr
    | _ => exact False.elim hr
  | _ => exact False.elim hr
theorem t_cmp {o : COp} {op : CmpOp} {r : R2} {a b : Expr} {ma mb : Ex} {pos : Pos} (ho : OpR X (compareOp op) r) (hop : Op2 (zOf X fa) r (cmpOd o)) (ha : PE X a (rdO (zOf X fa) cl ma)) (hb : PE X b (rdO (zOf X fa) cl mb)) (hm : behindInMarks op b = false) :
    PT X (.Compare a [op] [b] pos) (rdT (zOf X fa) (evT cl (.cmp o ma mb))) := PT.imp (pt_cmpR ho ha hb hm) fun σ H Q h => tB_of (fun σ H Q h => rd_two hop h) h
theorem chain_rd {o o2 : COp} {r r' : R2} {ma mb mc : Ex} (h1 : Op2 (zOf X fa) r (cmpOd o)) (h2 : Op2 (zOf X fa) r' (cmpOd o2)) : ∀ σ H Q, rdO (zOf X fa) cl (.chn o o2 ma mb mc) σ H Q → tChain r r' (rdO (zOf X fa) cl ma) (rdO (zOf X fa) cl mb) (rdO (zOf X fa) cl mc) σ H Q := by
  intro σ H Q h
  obtain ⟨S, F0, H0, T, env, F, R, h⟩ := h
  simp only [evO] at h
  refine rd_bind R h fun p env1 x H1 F1 R1 l1 q1 h1' => ?_
  obtain ⟨F2, R2, l2, q2, n2⟩ := R1.norm q1
  refine rd_bind R2 (M.all_mono (fun _ z => z.mono l2) h1') fun q env2 y H3 F3 R3 l3 q3 h3 => ?_
  obtain ⟨F4, R4, l4, q4, n4⟩ := R3.norm q3
  have q2' : OdOk (zOf X fa) S H0 T env2 σ H3 F4 p.norm x := q2.keep (l3.trans l4) n2
  simp only [two] at h3
  cases e1 : p.norm.res env2 with
  | none => rw [e1] at h3; exact False.elim h3
  | some dx =>
    cases e2 : q.norm.res env2 with
    | none => rw [e1, e2] at h3; exact False.elim h3
    | some dy =>
      rw [e1, e2] at h3
      simp only at h3
      cases e3 : cmpop o dx dy with
      | none => rw [e3] at h3; exact False.elim h3
      | some b =>
        rw [e3] at h3
        refine h1 R4 (R4.odPk q2' e1) (R4.odPk q4 e2) (o := .bl b) (by unfold cmpOd; rw [e3]; rfl) fun z H5 F5 R5 l5 q5 => ⟨b, q5, ?_⟩
        cases b with
        | false => exact Post.mono (l4.trans l5) h3 _ H5 F5 R5 (Le.refl F5) rfl
        | true =>
          have h3' : ((evO cl mc env2).bind fun s => (two q s.1 s.2 (cmpop o2)).bind fun r => .ret (Od.bl r, s.2)).all fun r => Post (zOf X fa) S F0 H0 T r.2 σ F5 r.1 Q := M.all_mono (fun _ z => z.mono (l4.trans l5)) h3
          refine rd_bind R5 h3' fun w env3 u H6 F6 R6 l6 q6 h6 => ?_
          obtain ⟨F7, R7, l7, q7, n7⟩ := R6.norm q6
          have q4' : OdOk (zOf X fa) S H0 T env3 σ H6 F7 q.norm y := q4.keep (l5.trans (l6.trans l7)) n4
          simp only [two] at h6
          cases e4 : q.norm.res env3 with
          | none => rw [e4] at h6; exact False.elim h6
          | some dy' =>
            cases e5 : w.norm.res env3 with
            | none => rw [e4, e5] at h6; exact False.elim h6
            | some dz =>
              rw [e4, e5] at h6
              simp only at h6
              cases e6 : cmpop o2 dy' dz with
              | none => rw [e6] at h6; exact False.elim h6
              | some b2 =>
                rw [e6] at h6
                exact h2 R7 (R7.odPk q4' e4) (R7.odPk q7 e5) (o := .bl b2) (by unfold cmpOd; rw [e6]; rfl) (Post.mono l7 h6)
theorem e_neg {a : Expr} {ma : Ex} {pos : Pos} (ha : PE X a (rdO (zOf X fa) cl ma)) : PE X (.UnaryOp .USub a pos) (rdO (zOf X fa) cl (.neg ma)) := by
  refine PE.imp (pe_un un_neg ha) fun σ H Q h => ?_
  obtain ⟨S, F0, H0, T, env, F, R, h⟩ := h
  simp only [evO] at h
  refine rd_bind R h fun p env1 x H1 F1 R1 l1 q1 h1 => ?_
  cases e : p.res env1 with
  | none => simp only [e] at h1; exact False.elim h1
  | some d =>
    simp only [e] at h1
    cases d with
    | int i =>
      have hx : x = V.int i := R1.odPk q1 e
      exact ⟨i, hx, h1 _ H1 F1 R1 (Le.refl F1) rfl⟩
    | _ => exact False.elim h1
theorem pk_non {Z : Wd} {H F : Hp} {d : D} {v : V} (q : Pk Z H F d v) : decide (v = .non) = match d with | .non => true | _ => false := by
  have ref : ∀ p, v = .ref p → decide (v = .non) = false := fun p e => by subst e; rfl
  cases d with
  | non => cases (show v = V.non from q); rfl
  | bl b => cases (show v = V.bl b from q); rfl
  | int b => cases (show v = V.int b from q); rfl
  | str b => cases (show v = V.str b from q); rfl
  | tup ds => obtain ⟨a, _, e, _⟩ := q; rw [ref a e]
  | lst ds => obtain ⟨a, _, e, _⟩ := q; rw [ref a e]
  | dic t kvs => cases t <;> (obtain ⟨a, _, e, _⟩ := q; rw [ref a e])
end
end Bq

set_option Elab.async false
set_option autoImplicit false
set_option linter.all false
set_option maxRecDepth 100000
/-! min and max of a tuple of ints. -/
namespace Bq
open PySem PySem.Spec PyProof.Rows L2
section
variable {prog : Program} {w : World} {A : Around} {E : Value → Shared → Prop} {s : Shared} {l : Addr} {its : List Value} {ns : List Int} {Q : Value → Shared → Prop}
theorem old_keptT {h' : Heap} (hk : ∀ b o, b ∉ [s.heap.objs.size] → (s.heap.push { cls := .type "tuple_iterator", data := .fields #[.ref l, .int 0 0] }).get? b = some o → h'.get? b = some o) :
    ∀ b o, s.heap.get? b = some o → h'.get? b = some o := fun b o e => by
  refine hk b o (fun hm => ?_) (Heap.get?_push_of_some _ e)
  rcases List.mem_cons.mp hm with e1 | hm
  · exact absurd (e1 ▸ Heap.lt_size e) (Nat.lt_irrefl _)
  · cases hm
theorem fp_lt (hlt : l < s.heap.objs.size) : ∀ b ∈ [s.heap.objs.size, l], b < (s.heap.push { cls := .type "tuple_iterator", data := .fields #[.ref l, .int 0 0] }).objs.size := fun b hb => by
  rw [Heap.size_push]
  rcases List.mem_cons.mp hb with rfl | hb
  · exact Nat.lt_succ_self _
  · rcases List.mem_cons.mp hb with rfl | hb
    · exact Nat.lt_succ_of_lt hlt
    · cases hb
theorem minT_raw (hh : A.handled = none) (hl : s.heap.IsTuple l its.toArray) (hi : IntsAre its ns) (hne : 0 < ns.length)
    (h : ∀ h' tk M t', (∀ b o, s.heap.get? b = some o → h'.get? b = some o) → M ∈ ns → (∀ a, a ∈ ns → M ≤ a) → Q (.int M t') { s with heap := h', toks := tk }) : wpAny (model prog w) A (call (.builtin "min") [.ref l]) Q E s := by
  obtain ⟨xs, e⟩ := hi.allInts.items
  have hn : numsOf (intItems xs).toList = ns := by rw [← e]; exact hi.numsOf
  rw [nums_intItems] at hn
  subst hn
  rw [e] at hl
  have hsz : 0 < xs.size := by simpa using hne
  have hlt : l < s.heap.objs.size := by obtain ⟨_, e, _⟩ := hl; exact Heap.lt_size e
  refine call_min_walk (wpAny_pyIter_tuple hl ?_)
  refine ⟨_, _, _, _, _, _, _, rfl, Walks.tuple (A := A.in1) hh _ l (Nat.ne_of_lt hlt) (intItems xs), ⟨⟨_, Heap.get?_push_size _ rfl, rfl, rfl⟩, hl.push _⟩, fp_lt hlt, by simpa [intItems] using hsz, CmpOf.ints_lt (numAt xs) (fun _ _ => intItems_at), fun v h' tk hP hk => ?_⟩
  have hv : (intItems xs)[argBest (fun i j => decide (numAt xs i < numAt xs j)) (xs.size - 1)]? = some v := by simpa [intItems] using hP
  obtain ⟨t, rfl⟩ := intItems_at hv
  obtain ⟨h1, h2⟩ := argBest_lt (numAt xs) (xs.size - 1)
  refine h h' tk _ t (old_keptT hk) ?_ fun a ha => ?_
  · rw [numAt_eq]; exact PySem.getD_mem (by rw [List.length_map, Array.length_toList]; omega)
  · obtain ⟨j, hj, rfl⟩ := mem_getD ha
    rw [List.length_map, Array.length_toList] at hj
    rw [← numAt_eq]; exact h2 j (by omega)
theorem maxT_raw (hh : A.handled = none) (hl : s.heap.IsTuple l its.toArray) (hi : IntsAre its ns) (hne : 0 < ns.length)
    (h : ∀ h' tk M t', (∀ b o, s.heap.get? b = some o → h'.get? b = some o) → M ∈ ns → (∀ a, a ∈ ns → a ≤ M) → Q (.int M t') { s with heap := h', toks := tk }) : wpAny (model prog w) A (call (.builtin "max") [.ref l]) Q E s := by
  obtain ⟨xs, e⟩ := hi.allInts.items
  have hn : numsOf (intItems xs).toList = ns := by rw [← e]; exact hi.numsOf
  rw [nums_intItems] at hn
  subst hn
  rw [e] at hl
  have hsz : 0 < xs.size := by simpa using hne
  have hlt : l < s.heap.objs.size := by obtain ⟨_, e, _⟩ := hl; exact Heap.lt_size e
  refine call_max_walk (wpAny_pyIter_tuple hl ?_)
  refine ⟨_, _, _, _, _, _, _, rfl, Walks.tuple (A := A.in1) hh _ l (Nat.ne_of_lt hlt) (intItems xs), ⟨⟨_, Heap.get?_push_size _ rfl, rfl, rfl⟩, hl.push _⟩, fp_lt hlt, by simpa [intItems] using hsz, CmpOf.ints_gt (numAt xs) (fun _ _ => intItems_at), fun v h' tk hP hk => ?_⟩
  have hv : (intItems xs)[argBest (fun i j => decide (numAt xs i > numAt xs j)) (xs.size - 1)]? = some v := by simpa [intItems] using hP
  obtain ⟨t, rfl⟩ := intItems_at hv
  obtain ⟨h1, h2⟩ := argBest_gt (numAt xs) (xs.size - 1)
  refine h h' tk _ t (old_keptT hk) ?_ fun a ha => ?_
  · rw [numAt_eq]; exact PySem.getD_mem (by rw [List.length_map, Array.length_toList]; omega)
  · obtain ⟨j, hj, rfl⟩ := mem_getD ha
    rw [List.length_map, Array.length_toList] at hj
    rw [← numAt_eq]; exact h2 j (by omega)
end
section
variable {X : Cx}
/-- min, max of a list or tuple of ints -/
def rMinS (K : PySem.W.Frag) : List V → Hp → VK → Prop := fun vs H Q => ∃ (a : Addr) (ns : List Int), vs = [V.ref a] ∧ (SqL K H a (ns.map V.int) ∨ SqT K H a (ns.map V.int)) ∧ 0 < ns.length ∧ ∀ m, m ∈ ns → (∀ y, y ∈ ns → m ≤ y) → Q (.int m) H
def rMaxS (K : PySem.W.Frag) : List V → Hp → VK → Prop := fun vs H Q => ∃ (a : Addr) (ns : List Int), vs = [V.ref a] ∧ (SqL K H a (ns.map V.int) ∨ SqT K H a (ns.map V.int)) ∧ 0 < ns.length ∧ ∀ m, m ∈ ns → (∀ y, y ∈ ns → y ≤ m) → Q (.int m) H
theorem cr_minS (hc : X.calm = true) : CallR X (.builtin "min") (rMinS X.K) := by
  intro pins s σ H vs us Q I r h
  obtain ⟨a, ns, rfl, hs | hs, hne, q⟩ := h
  · exact cr_min hc pins s σ H _ us Q I r ⟨a, ns, rfl, hs, hne, q⟩
  · obtain ⟨its, rv, hl, _⟩ := I.tuple hs
    rw [Vals.ref1 r]
    exact minT_raw (I.ok.hd hc) hl rv.ints hne fun h' tk m t' hk h1 h2 => ⟨.int _, H, I.kept hk, ⟨_, rfl⟩, q m h1 h2⟩
theorem cr_maxS (hc : X.calm = true) : CallR X (.builtin "max") (rMaxS X.K) := by
  intro pins s σ H vs us Q I r h
  obtain ⟨a, ns, rfl, hs | hs, hne, q⟩ := h
  · exact cr_max hc pins s σ H _ us Q I r ⟨a, ns, rfl, hs, hne, q⟩
  · obtain ⟨its, rv, hl, _⟩ := I.tuple hs
    rw [Vals.ref1 r]
    exact maxT_raw (I.ok.hd hc) hl rv.ints hne fun h' tk m t' hk h1 h2 => ⟨.int _, H, I.kept hk, ⟨_, rfl⟩, q m h1 h2⟩
end
end Bq

set_option Elab.async false
set_option autoImplicit false
set_option linter.all false
set_option maxRecDepth 100000
/-! Built-ins. -/
namespace Bq
open PySem PySem.Spec PyProof.Rows L2
/-- operands as data -/
def PkAll (Z : Wd) (H F : Hp) : List D → List V → Prop
  | [], vs => vs = []
  | d :: ds, vs => ∃ v r, vs = v :: r ∧ Pk Z H F d v ∧ PkAll Z H F ds r
def BiR (Z : Wd) (r : List V → Hp → VK → Prop) (b : Bi) : Prop :=
  ∀ {S : Srcs} {F0 H0 : Hp} {T : List (Addr × D)} {env : Env} {σ : L2.St} {H F : Hp} {ds : List D} {vs : List V} {o : Od} {Q : VK},
    Rel Z S F0 H0 T env σ H F → PkAll Z H F ds vs → bi b ds = some o → Post Z S F0 H0 T env σ F o Q → r vs H Q
section
variable {Z : Wd} {S : Srcs} {F0 H0 : Hp} {T : List (Addr × D)} {env : Env} {σ : L2.St} {H F : Hp}
theorem OdsOk.pks (R : Rel Z S F0 H0 T env σ H F) : ∀ (os : List Od) (vs : List V) (ds : List D), OdsOk Z S H0 T env σ H F os vs → resAll env os = some ds → PkAll Z H F ds vs
  | [], vs, ds, q, e => by
    cases (show vs = [] from q)
    have e' : ds = [] := by simpa [resAll] using e.symm
    subst e'; exact rfl
  | o :: os, vs, ds, q, e => by
    obtain ⟨v, r, rfl, _, q1, q2⟩ := q
    simp only [resAll] at e
    cases e1 : o.res env with
    | none => rw [e1] at e; cases e
    | some x =>
      cases e2 : resAll env os with
      | none => rw [e1, e2] at e; cases e
      | some xs =>
        rw [e1, e2] at e
        cases e
        exact ⟨v, r, rfl, R.odPk q1 e1, OdsOk.pks R os r xs q2 e2⟩
theorem pk1 {d : D} {vs : List V} (q : PkAll Z H F [d] vs) : ∃ v, vs = [v] ∧ Pk Z H F d v := by
  obtain ⟨v, r, rfl, p, e⟩ := q
  cases (show r = [] from e)
  exact ⟨v, rfl, p⟩
theorem pk2 {d e : D} {vs : List V} (q : PkAll Z H F [d, e] vs) : ∃ v u, vs = [v, u] ∧ Pk Z H F d v ∧ Pk Z H F e u := by
  obtain ⟨v, r, rfl, p, q⟩ := q
  obtain ⟨u, rfl, p'⟩ := pk1 q
  exact ⟨v, u, rfl, p, p'⟩
end
section
variable {X : Cx} {fa : Nat → Addr}
def rLen (K : PySem.W.Frag) : List V → Hp → VK → Prop := fun xs H Q => (∃ p ys, xs = [.ref p] ∧ (SqL K H p ys ∨ SqT K H p ys) ∧ Q (.int ys.length) H) ∨ ∃ a kvs, xs = [V.ref a] ∧ H a = some (.dK kvs) ∧ Q (.int kvs.length) H
theorem cr_len : CallR X (.builtin "len") (rLen X.K) := CallR.or call_len_seq call_lenD
theorem len_ok : BiR (zOf X fa) (rLen X.K) .len := by
  intro S F0 H0 T env σ H F ds vs o Q R ps e h
  match ds, ps, e with
  | [.tup xs], ps, e =>
    have e : some (Od.int xs.length) = some o := e
    cases e
    obtain ⟨v, rfl, p⟩ := pk1 ps
    obtain ⟨a, ys, rfl, ha, _, r⟩ := Pk.tup R.sub p
    refine .inl ⟨a, ys, rfl, .inr (.of ha), ?_⟩
    rw [r.length]; exact h.int R
  | [.lst xs], ps, e =>
    have e : some (Od.int xs.length) = some o := e
    cases e
    obtain ⟨v, rfl, a, ys, rfl, ha, r⟩ := pk1 ps
    refine .inl ⟨a, ys, rfl, .inl (.of ha), ?_⟩
    rw [r.length]; exact h.int R
  | [.dic false kvs], ps, e =>
    have e : some (Od.int kvs.length) = some o := e
    cases e
    obtain ⟨v, rfl, a, ys, rfl, ha, r⟩ := pk1 ps
    refine .inr ⟨a, ys, rfl, ha, ?_⟩
    rw [RpK.length _ _ r]; exact h.int R
def rListOf (K : PySem.W.Frag) : List V → Hp → VK → Prop := fun xs H Q => ∃ p ys, xs = [.ref p] ∧ (SqL K H p ys ∨ SqT K H p ys) ∧ ∀ l, H l = none → Q (.ref l) (upd H l (.lst ys))
theorem list_ok : BiR (zOf X fa) (rListOf X.K) .list := by
  intro S F0 H0 T env σ H F ds vs o Q R ps e h
  match ds, ps, e with
  | [.tup xs], ps, e =>
    have e : some (Od.fr (.lst xs)) = some o := e
    cases e
    obtain ⟨v, rfl, p⟩ := pk1 ps
    obtain ⟨a, ys, rfl, ha, _, r⟩ := Pk.tup R.sub p
    exact ⟨a, ys, rfl, .inr (.of ha), h.lst R r⟩
  | [.lst xs], ps, e =>
    have e : some (Od.fr (.lst xs)) = some o := e
    cases e
    obtain ⟨v, rfl, a, ys, rfl, ha, r⟩ := pk1 ps
    exact ⟨a, ys, rfl, .inl (.of ha), h.lst R r⟩
def rTupOf (K : PySem.W.Frag) : List V → Hp → VK → Prop := fun xs H Q => ∃ p ys, xs = [.ref p] ∧ ((SqL K H p ys ∧ ∀ l, H l = none → Q (.ref l) (upd H l (.tup ys))) ∨ (SqT K H p ys ∧ Q (.ref p) H))
theorem tuple_ok : BiR (zOf X fa) (rTupOf X.K) .tuple := by
  intro S F0 H0 T env σ H F ds vs o Q R ps e h
  match ds, ps, e with
  | [.tup xs], ps, e =>
    have e : some (Od.vl (.d (.tup xs))) = some o := e
    cases e
    obtain ⟨v, rfl, p⟩ := pk1 ps
    obtain ⟨a, ys, rfl, ha, hf, r⟩ := Pk.tup R.sub p
    exact ⟨a, ys, rfl, .inr ⟨.of ha, h.val R ⟨a, ys, rfl, hf, r⟩⟩⟩
  | [.lst xs], ps, e =>
    have e : some (Od.vl (.d (.tup xs))) = some o := e
    cases e
    obtain ⟨v, rfl, a, ys, rfl, ha, r⟩ := pk1 ps
    exact ⟨a, ys, rfl, .inl ⟨.of ha, h.tup R r⟩⟩
def rInt1 : List V → Hp → VK → Prop := fun xs H Q => (∃ i, xs = [.int i] ∧ Q (.int i) H) ∨ ∃ k, xs = [.bl k] ∧ Q (.int (if k then 1 else 0)) H
theorem int_ok : BiR (zOf X fa) rInt1 .int := by
  intro S F0 H0 T env σ H F ds vs o Q R ps e h
  match ds, ps, e with
  | [.int i], ps, e =>
    have e : some (Od.int i) = some o := e
    cases e
    obtain ⟨v, rfl, p⟩ := pk1 ps
    cases (show v = V.int i from p)
    exact .inl ⟨i, rfl, h.int R⟩
  | [.bl b], ps, e =>
    have e : some (Od.int (if b then 1 else 0)) = some o := e
    cases e
    obtain ⟨v, rfl, p⟩ := pk1 ps
    cases (show v = V.bl b from p)
    exact .inr ⟨b, rfl, h.int R⟩
theorem abs_ok : BiR (zOf X fa) (fun xs H Q => ∃ i, xs = [.int i] ∧ Q (.int (if i < 0 then -i else i)) H) .abs := by
  intro S F0 H0 T env σ H F ds vs o Q R ps e h
  match ds, ps, e with
  | [.int i], ps, e =>
    have e : some (Od.int (if i < 0 then -i else i)) = some o := e
    cases e
    obtain ⟨v, rfl, p⟩ := pk1 ps
    cases (show v = V.int i from p)
    exact ⟨i, rfl, h.int R⟩
theorem sum_ok : BiR (zOf X fa) (rSum X.K) .sum := by
  intro S F0 H0 T env σ H F ds vs o Q R ps e h
  match ds, ps, e with
  | [.lst xs], ps, e =>
    have e : (toInts xs).map (fun ns => Od.int ns.sum) = some o := e
    obtain ⟨ns, e1, rfl⟩ := Option.map_eq_some_iff.mp e
    obtain ⟨v, rfl, a, ys, rfl, ha, r⟩ := pk1 ps
    cases r.ints _ _ _ e1
    exact ⟨a, ns, rfl, .of ha, h.int R⟩
theorem fold_min : ∀ (ns : List Int) (n : Int), let m := ns.foldl (fun a b => if b < a then b else a) n; (m = n ∨ m ∈ ns) ∧ m ≤ n ∧ ∀ y ∈ ns, m ≤ y
  | [], n => ⟨.inl rfl, Int.le_refl n, fun _ h => by cases h⟩
  | k :: ns, n => by
    obtain ⟨h1, h2, h3⟩ := fold_min ns (if k < n then k else n)
    refine ⟨?_, ?_, fun y hy => ?_⟩
    · rcases h1 with h1 | h1
      · by_cases hk : k < n
        · rw [if_pos hk] at h1; exact .inr (by simp only [List.foldl_cons, if_pos hk]; rw [h1]; exact List.mem_cons_self)
        · rw [if_neg hk] at h1; exact .inl (by simp only [List.foldl_cons, if_neg hk]; exact h1)
      · exact .inr (List.mem_cons_of_mem _ h1)
    · show List.foldl _ (if k < n then k else n) ns ≤ n
      by_cases hk : k < n
      · rw [if_pos hk] at h2 ⊢; omega
      · rw [if_neg hk] at h2 ⊢; exact h2
    · show List.foldl _ (if k < n then k else n) ns ≤ y
      rcases List.mem_cons.mp hy with rfl | hy
      · by_cases hk : y < n
        · rw [if_pos hk] at h2 ⊢; exact h2
        · rw [if_neg hk] at h2 ⊢; omega
      · exact h3 y hy
theorem fold_max : ∀ (ns : List Int) (n : Int), let m := ns.foldl (fun a b => if a < b then b else a) n; (m = n ∨ m ∈ ns) ∧ n ≤ m ∧ ∀ y ∈ ns, y ≤ m
  | [], n => ⟨.inl rfl, Int.le_refl n, fun _ h => by cases h⟩
  | k :: ns, n => by
    obtain ⟨h1, h2, h3⟩ := fold_max ns (if n < k then k else n)
    refine ⟨?_, ?_, fun y hy => ?_⟩
    · rcases h1 with h1 | h1
      · by_cases hk : n < k
        · rw [if_pos hk] at h1; exact .inr (by simp only [List.foldl_cons, if_pos hk]; rw [h1]; exact List.mem_cons_self)
        · rw [if_neg hk] at h1; exact .inl (by simp only [List.foldl_cons, if_neg hk]; exact h1)
      · exact .inr (List.mem_cons_of_mem _ h1)
    · show n ≤ List.foldl _ (if n < k then k else n) ns
      by_cases hk : n < k
      · rw [if_pos hk] at h2 ⊢; omega
      · rw [if_neg hk] at h2 ⊢; exact h2
    · show y ≤ List.foldl _ (if n < k then k else n) ns
      rcases List.mem_cons.mp hy with rfl | hy
      · by_cases hk : n < y
        · rw [if_pos hk] at h2 ⊢; exact h2
        · rw [if_neg hk] at h2 ⊢; omega
      · exact h3 y hy
theorem min1_ok : BiR (zOf X fa) (rMinS X.K) (.min1 .int) := by
  intro S F0 H0 T env σ H F ds vs o Q R ps e h
  match ds, ps, e with
  | [.lst (x :: xs)], ps, e =>
    have e : (match toInts (x :: xs) with | some (n :: ns) => some (Od.int (ns.foldl (fun a b => if b < a then b else a) n)) | _ => none) = some o := e
    obtain ⟨v, rfl, a, ys, rfl, ha, r⟩ := pk1 ps
    cases e1 : toInts (x :: xs) with
    | none => rw [e1] at e; cases e
    | some l =>
      cases l with
      | nil => rw [e1] at e; cases e
      | cons n ns =>
        rw [e1] at e
        cases e
        cases r.ints _ _ _ e1
        refine ⟨a, n :: ns, rfl, .inl (.of ha), by simp, fun m hm hle => ?_⟩
        obtain ⟨h1, h2, h3⟩ := fold_min ns n
        have e2 : m = ns.foldl (fun a b => if b < a then b else a) n := by
          refine Int.le_antisymm ?_ ?_
          · rcases h1 with h1 | h1
            · rw [h1]; exact hle n List.mem_cons_self
            · exact hle _ (List.mem_cons_of_mem _ h1)
          · rcases List.mem_cons.mp hm with rfl | hm
            · exact h2
            · exact h3 m hm
        rw [e2]; exact h.int R
  | [.tup (x :: xs)], ps, e =>
    have e : (match toInts (x :: xs) with | some (n :: ns) => some (Od.int (ns.foldl (fun a b => if b < a then b else a) n)) | _ => none) = some o := e
    obtain ⟨v, rfl, p⟩ := pk1 ps
    obtain ⟨a, ys, rfl, ha, _, r⟩ := Pk.tup R.sub p
    cases e1 : toInts (x :: xs) with
    | none => rw [e1] at e; cases e
    | some l =>
      cases l with
      | nil => rw [e1] at e; cases e
      | cons n ns =>
        rw [e1] at e
        cases e
        cases r.ints _ _ _ e1
        refine ⟨a, n :: ns, rfl, .inr (.of ha), by simp, fun m hm hle => ?_⟩
        obtain ⟨h1, h2, h3⟩ := fold_min ns n
        have e2 : m = ns.foldl (fun a b => if b < a then b else a) n := by
          refine Int.le_antisymm ?_ ?_
          · rcases h1 with h1 | h1
            · rw [h1]; exact hle n List.mem_cons_self
            · exact hle _ (List.mem_cons_of_mem _ h1)
          · rcases List.mem_cons.mp hm with rfl | hm
            · exact h2
            · exact h3 m hm
        rw [e2]; exact h.int R
theorem max1_ok : BiR (zOf X fa) (rMaxS X.K) (.max1 .int) := by
  intro S F0 H0 T env σ H F ds vs o Q R ps e h
  match ds, ps, e with
  | [.lst (x :: xs)], ps, e =>
    have e : (match toInts (x :: xs) with | some (n :: ns) => some (Od.int (ns.foldl (fun a b => if a < b then b else a) n)) | _ => none) = some o := e
    obtain ⟨v, rfl, a, ys, rfl, ha, r⟩ := pk1 ps
    cases e1 : toInts (x :: xs) with
    | none => rw [e1] at e; cases e
    | some l =>
      cases l with
      | nil => rw [e1] at e; cases e
      | cons n ns =>
        rw [e1] at e
        cases e
        cases r.ints _ _ _ e1
        refine ⟨a, n :: ns, rfl, .inl (.of ha), by simp, fun m hm hle => ?_⟩
        obtain ⟨h1, h2, h3⟩ := fold_max ns n
        have e2 : m = ns.foldl (fun a b => if a < b then b else a) n := by
          refine Int.le_antisymm ?_ ?_
          · rcases List.mem_cons.mp hm with rfl | hm
            · exact h2
            · exact h3 m hm
          · rcases h1 with h1 | h1
            · rw [h1]; exact hle n List.mem_cons_self
            · exact hle _ (List.mem_cons_of_mem _ h1)
        rw [e2]; exact h.int R
  | [.tup (x :: xs)], ps, e =>
    have e : (match toInts (x :: xs) with | some (n :: ns) => some (Od.int (ns.foldl (fun a b => if a < b then b else a) n)) | _ => none) = some o := e
    obtain ⟨v, rfl, p⟩ := pk1 ps
    obtain ⟨a, ys, rfl, ha, _, r⟩ := Pk.tup R.sub p
    cases e1 : toInts (x :: xs) with
    | none => rw [e1] at e; cases e
    | some l =>
      cases l with
      | nil => rw [e1] at e; cases e
      | cons n ns =>
        rw [e1] at e
        cases e
        cases r.ints _ _ _ e1
        refine ⟨a, n :: ns, rfl, .inr (.of ha), by simp, fun m hm hle => ?_⟩
        obtain ⟨h1, h2, h3⟩ := fold_max ns n
        have e2 : m = ns.foldl (fun a b => if a < b then b else a) n := by
          refine Int.le_antisymm ?_ ?_
          · rcases List.mem_cons.mp hm with rfl | hm
            · exact h2
            · exact h3 m hm
          · rcases h1 with h1 | h1
            · rw [h1]; exact hle n List.mem_cons_self
            · exact hle _ (List.mem_cons_of_mem _ h1)
        rw [e2]; exact h.int R
theorem min2_ok : BiR (zOf X fa) (fun xs H Q => ∃ i j, xs = [.int i, .int j] ∧ Q (.int (if j < i then j else i)) H) .min2 := by
  intro S F0 H0 T env σ H F ds vs o Q R ps e h
  match ds, ps, e with
  | [.int i, .int j], ps, e =>
    have e : some (Od.int (if j < i then j else i)) = some o := e
    cases e
    obtain ⟨v, u, rfl, p, p'⟩ := pk2 ps
    cases (show v = V.int i from p)
    cases (show u = V.int j from p')
    exact ⟨i, j, rfl, h.int R⟩
theorem max2_ok : BiR (zOf X fa) (fun xs H Q => ∃ i j, xs = [.int i, .int j] ∧ Q (.int (if j > i then j else i)) H) .max2 := by
  intro S F0 H0 T env σ H F ds vs o Q R ps e h
  match ds, ps, e with
  | [.int i, .int j], ps, e =>
    have e : some (Od.int (if j > i then j else i)) = some o := e
    cases e
    obtain ⟨v, u, rfl, p, p'⟩ := pk2 ps
    cases (show v = V.int i from p)
    cases (show u = V.int j from p')
    exact ⟨i, j, rfl, h.int R⟩
theorem all_ok : BiR (zOf X fa) (rAll X.K) .all := by
  intro S F0 H0 T env σ H F ds vs o Q R ps e h
  match ds, ps, e with
  | [.lst xs], ps, e =>
    have e : (toBools xs).map (fun ns => Od.bl (ns.all id)) = some o := e
    obtain ⟨ns, e1, rfl⟩ := Option.map_eq_some_iff.mp e
    obtain ⟨v, rfl, a, ys, rfl, ha, r⟩ := pk1 ps
    cases r.bools _ _ _ e1
    exact ⟨a, ns, rfl, .of ha, h.bl R⟩
theorem any_ok : BiR (zOf X fa) (rAny X.K) .any := by
  intro S F0 H0 T env σ H F ds vs o Q R ps e h
  match ds, ps, e with
  | [.lst xs], ps, e =>
    have e : (toBools xs).map (fun ns => Od.bl (ns.any id)) = some o := e
    obtain ⟨ns, e1, rfl⟩ := Option.map_eq_some_iff.mp e
    obtain ⟨v, rfl, a, ys, rfl, ha, r⟩ := pk1 ps
    cases r.bools _ _ _ e1
    exact ⟨a, ns, rfl, .of ha, h.bl R⟩
/-! repr -/
mutual
theorem shown_wid : ∀ d : D, plain d = true → (PyData.shown (toPy d)).length ≤ wid d
  | .non, _ => by
    have e : (PyData.shown .none).length = 4 := rfl
    show (PyData.shown .none).length ≤ 8
    omega
  | .bl b, _ => by
    have e : (PyData.shown (.bool b)).length ≤ 5 := by cases b <;> decide
    show (PyData.shown (.bool b)).length ≤ 8
    omega
  | .int i, _ => by
    show (Str.ofString (toString i)).length ≤ 8 + i.natAbs.log2
    rw [PySem.ofString_length]
    have := int_text_length_le (a := i) (k := i.natAbs.log2 + 1) (by omega) (by omega)
    omega
  | .str x, h => by
    have hx : ∀ c ∈ x.cps.toList, c < 16 ^ 8 := fun c hc => by
      have h' : x.cps.all (· < 0x110000) = true := h
      rw [Array.all_eq_true_iff_forall_mem] at h'
      have := h' c (by simpa using hc)
      simp only [decide_eq_true_eq] at this
      omega
    have e := StrLaws.reprText_len x hx
    show (reprText x).length ≤ 8 + 10 * x.length
    omega
  | .lst xs, h => by
    have h1 := showns_wid xs h
    have h2 := PySem.listText_len_le (PyData.shownAll (toPys xs))
    show (listText (PyData.shownAll (toPys xs))).length ≤ 8 + wids xs
    omega
  | .tup xs, h => by
    have h1 := showns_wid xs h
    have h2 := PySem.tupleText_len_le (PyData.shownAll (toPys xs))
    show (tupleText (PyData.shownAll (toPys xs))).length ≤ 8 + wids xs
    omega
  | .dic _ _, h => by cases h
theorem showns_wid : ∀ ds : List D, plains ds = true → ((PyData.shownAll (toPys ds)).map (·.length)).sum + 2 * (PyData.shownAll (toPys ds)).length ≤ wids ds
  | [], _ => Nat.le_refl 0
  | d :: ds, h => by
    have p' : (plain d && plains ds) = true := h
    rw [Bool.and_eq_true] at p'
    have h1 := shown_wid d p'.1
    have h2 := showns_wid ds p'.2
    show ((PyData.shown (toPy d)) :: PyData.shownAll (toPys ds) |>.map (·.length)).sum + 2 * (PyData.shown (toPy d) :: PyData.shownAll (toPys ds)).length ≤ 2 + wid d + wids ds
    rw [List.map_cons, List.sum_cons, List.length_cons]
    omega
end
mutual
theorem showable_of : ∀ d : D, ints10 d = true → PyData.showable (toPy d) = true
  | .non, _ => rfl
  | .bl _, _ => rfl
  | .int _, h => h
  | .str _, _ => rfl
  | .tup xs, h => showables_of xs h
  | .lst xs, h => showables_of xs h
  | .dic _ _, h => by cases h
theorem showables_of : ∀ ds : List D, ints10s ds = true → PyData.showableAll (toPys ds) = true
  | [], _ => rfl
  | d :: ds, h => by
    have p' : (ints10 d && ints10s ds) = true := h
    rw [Bool.and_eq_true] at p'
    show (PyData.showable (toPy d) && PyData.showableAll (toPys ds)) = true
    rw [showable_of d p'.1, showables_of ds p'.2]
    rfl
end
def rRepr (K : PySem.W.Frag) : List V → Hp → VK → Prop := fun vs H Q => ∃ x d, vs = [x] ∧ Dp K H x d ∧ d.canLay0 = true ∧ d.showable = true ∧ d.depth ≤ 150 ∧ d.shown.length ≤ sizeLine ∧ Q (.str d.shown) H
theorem cr_repr (hu : X.A.units + 200 < cLine) (hg : X.A.guards = some []) : CallR X (.builtin "repr") (rRepr X.K) := by
  intro pins s σ H vs us Q I r h
  obtain ⟨x, d, rfl, hd, cl, sh, dp, sz, q⟩ := h
  obtain ⟨u, rfl, ru⟩ := vals1 r
  have fin : ∀ (h' : Heap) (t tk : Nat), (∀ b o, s.heap.get? b = some o → h'.get? b = some o) → EP X pins σ Q (.str d.shown t) { s with heap := h', toks := tk } := fun h' t tk hk => ⟨.str _, H, I.kept hk, ⟨_, rfl⟩, q⟩
  have rd := Dp.reads I d x u hd ru
  cases hd with
  | non => cases (show u = Value.none from ru); exact PySem.P.repr_of_none ⟨.str _, H, I.tok _, ⟨_, rfl⟩, q⟩
  | bl b =>
    cases (show u = Value.bool b from ru)
    refine PySem.P.repr_of_bool ⟨.str _, H, I.tok _, ⟨_, rfl⟩, ?_⟩
    cases b <;> exact q
  | int i => obtain ⟨t, rfl⟩ := ru; exact PySem.P.repr_of_int (by simpa [PyData.showable] using sh) ⟨.str _, H, I.tok _, ⟨_, rfl⟩, q⟩
  | str z => obtain ⟨t, rfl⟩ := ru; exact PySem.P.repr_of_str ⟨.str _, H, I.tok _, ⟨_, rfl⟩, q⟩ sz
  | lst a b =>
    cases ru
    obtain ⟨as, rd⟩ := rd
    exact repr_of_reads' (h₀ := s.heap) rd sh (PyData.noDict_hsm (PyData.hasDict_of_canLay _ cl)) hg (by omega) (fun _ _ e => e) (fun h' t tk hk => fin h' t tk hk) sz
  | tup a b =>
    cases ru
    obtain ⟨as, rd⟩ := rd
    exact repr_of_reads' (h₀ := s.heap) rd sh (PyData.noDict_hsm (PyData.hasDict_of_canLay _ cl)) hg (by omega) (fun _ _ e => e) (fun h' t tk hk => fin h' t tk hk) sz
theorem repr_ok : BiR (zOf X fa) (rRepr X.K) .repr := by
  intro S F0 H0 T env σ H F ds vs o Q R ps e h
  match ds, ps, e with
  | [x], ps, e =>
    have e : (shown x).map (fun s => Od.vl (.d (.str s))) = some o := by cases x <;> exact e
    obtain ⟨s, e1, rfl⟩ := Option.map_eq_some_iff.mp e
    obtain ⟨v, rfl, p⟩ := pk1 ps
    unfold shown at e1
    split at e1
    · rename_i c
      cases e1
      simp only [Bool.and_eq_true, decide_eq_true_eq] at c
      refine ⟨v, toPy x, rfl, (p.rp R.sub).dp _ _ c.1.1.1, canLay_of _ c.1.1.1, showable_of _ c.1.1.2, by rw [depth_py _ c.1.1.1]; exact c.1.2, ?_, h.val R rfl⟩
      exact Nat.le_trans (shown_wid x c.1.1.1) (Nat.le_trans c.2 (by decide))
    · cases e1
/-! isinstance: the class is a further argument of the call -/
def clV : Cl → V
  | .int => .ty "int"
  | .bool => .ty "bool"
  | .str => .ty "str"
  | .tuple => .ty "tuple"
  | .list => .ty "list"
  | .dict => .ty "dict"
def rIsiC (K : PySem.W.Frag) (c : Cl) : List V → Hp → VK → Prop := fun vs H Q => ∃ x, vs = [x] ∧ rIsi K [x, clV c] H Q
def dTy : D → String
  | .non => "NoneType"
  | .bl _ => "bool"
  | .int _ => "int"
  | .str _ => "str"
  | .tup _ => "tuple"
  | .lst _ => "list"
  | .dic _ _ => "dict"
def clS : Cl → String
  | .int => "int"
  | .bool => "bool"
  | .str => "str"
  | .tuple => "tuple"
  | .list => "list"
  | .dict => "dict"
theorem tyx {Z : Wd} {H F : Hp} (le : Le F H) : ∀ {d : D} {v : V}, Pk Z H F d v → (∀ kvs, d ≠ .dic true kvs) → TyX Z.K H v (.type (dTy d))
  | .non, v, q, _ => by cases (show v = V.non from q); exact .base .non
  | .bl b, v, q, _ => by cases (show v = V.bl b from q); exact .base (.bl b)
  | .int b, v, q, _ => by cases (show v = V.int b from q); exact .base (.int b)
  | .str b, v, q, _ => by cases (show v = V.str b from q); exact .base (.str b)
  | .tup ds, v, q, _ => by obtain ⟨a, xs, rfl, ha, _, _⟩ := Pk.tup le q; exact .base (.tup ha)
  | .lst ds, v, q, _ => by obtain ⟨a, xs, rfl, ha, _⟩ := q; exact .base (.lst ha)
  | .dic false kvs, v, q, _ => by obtain ⟨a, xs, rfl, ha, _⟩ := q; exact .base (.dK ha)
  | .dic true kvs, v, q, n => absurd rfl (n kvs)
theorem kits : ∀ a ∈ ["NoneType", "bool", "int", "str", "tuple", "list", "dict"], ∀ b ∈ ["int", "bool", "str", "tuple", "list", "dict"], kitB a b = some (a == b || (a == "bool" && b == "int")) := by decide +kernel
theorem clS_mem (c : Cl) : clS c ∈ ["int", "bool", "str", "tuple", "list", "dict"] := by cases c <;> simp [clS]
theorem dTy_mem (d : D) : dTy d ∈ ["NoneType", "bool", "int", "str", "tuple", "list", "dict"] := by cases d <;> simp [dTy]
theorem isCl_eq (c : Cl) (d : D) {b : Bool} (h : isCl c d = some b) : (dTy d == clS c || (dTy d == "bool" && clS c == "int")) = b := by
  cases c <;> cases d <;> first
    | (cases h; rfl)
    | (rename_i t kvs; cases t <;> first | (cases h; rfl) | cases h)
theorem isi_ok (c : Cl) : BiR (zOf X fa) (rIsiC X.K c) (.isi c) := by
  intro S F0 H0 T env σ H F ds vs o Q R ps e h
  match ds, ps, e with
  | [x], ps, e =>
    have e : (isCl c x).map Od.bl = some o := by cases x <;> exact e
    obtain ⟨b, e1, rfl⟩ := Option.map_eq_some_iff.mp e
    obtain ⟨v, rfl, p⟩ := pk1 ps
    refine ⟨v, rfl, ?_⟩
    have n : ∀ kvs, x ≠ .dic true kvs := fun kvs z => by subst z; cases c <;> cases e1
    have ty := tyx R.sub p n
    have cv : ClsV (clV c) (.type (clS c)) := by cases c <;> exact .ty _
    exact ⟨v, clV c, _, _, b, rfl, cv, ty, kit_ty (by rw [kits _ (dTy_mem x) _ (clS_mem c), isCl_eq c x e1]), h.bl R⟩
/-! sorted, of ints -/
theorem insI_perm (n : Int) : ∀ l : List Int, (insI n l).Perm (n :: l)
  | [] => List.Perm.refl _
  | m :: r => by
    unfold insI
    split
    · exact ((insI_perm n r).cons m).trans (List.Perm.swap n m r)
    · exact List.Perm.refl _
theorem sortI_perm : ∀ l : List Int, (sortI l).Perm l
  | [] => List.Perm.refl _
  | n :: r => (insI_perm n (sortI r)).trans ((sortI_perm r).cons n)
theorem insI_sorted (n : Int) : ∀ l : List Int, l.Pairwise (· ≤ ·) → (insI n l).Pairwise (· ≤ ·)
  | [], _ => List.pairwise_singleton _ _
  | m :: r, h => by
    obtain ⟨h1, h2⟩ := List.pairwise_cons.mp h
    unfold insI
    split
    · rename_i c
      refine List.pairwise_cons.mpr ⟨fun y hy => ?_, insI_sorted n r h2⟩
      rcases List.mem_cons.mp ((insI_perm n r).mem_iff.mp hy) with rfl | hy
      · omega
      · exact h1 y hy
    · rename_i c
      refine List.pairwise_cons.mpr ⟨fun y hy => ?_, h⟩
      rcases List.mem_cons.mp hy with rfl | hy
      · omega
      · have := h1 y hy; omega
theorem sortI_sorted : ∀ l : List Int, (sortI l).Pairwise (· ≤ ·)
  | [] => .nil
  | n :: r => insI_sorted n _ (sortI_sorted r)
theorem sortI_the {l m : List Int} (p : m.Perm l) (s : m.Pairwise (· ≤ ·)) : m = sortI l :=
  (p.trans (sortI_perm l).symm).eq_of_pairwise (fun _ _ _ _ h1 h2 => Int.le_antisymm h1 h2) s (sortI_sorted l)
theorem RpAll.ofInts {Z : Wd} {F : Hp} : ∀ ns : List Int, RpAll Z F (ns.map D.int) (ns.map V.int)
  | [] => rfl
  | n :: ns => ⟨_, _, rfl, rfl, RpAll.ofInts ns⟩
theorem sorted_ok : BiR (zOf X fa) (rSortedI X.K) (.sorted .int) := by
  intro S F0 H0 T env σ H F ds vs o Q R ps e h
  match ds, ps, e with
  | [.lst xs], ps, e =>
    have e : (toInts xs).map (fun ns => Od.fr (.lst ((sortI ns).map D.int))) = some o := e
    obtain ⟨ns, e1, rfl⟩ := Option.map_eq_some_iff.mp e
    obtain ⟨v, rfl, a, ys, rfl, ha, r⟩ := pk1 ps
    cases r.ints _ _ _ e1
    refine ⟨a, ns, rfl, .of ha, fun ns' p pm so hp => ?_⟩
    cases sortI_the pm so
    exact h.lst R (RpAll.ofInts _) p hp
end
end Bq

set_option Elab.async false
set_option autoImplicit false
set_option linter.all false
set_option maxRecDepth 100000
/-! Expressions, second part: tests, displays, slices, arguments, built-ins. -/
namespace Bq
open PySem PySem.Spec PyProof.Rows L2
/-- a bool's own -/
def blM (m : Env → M (Od × Env)) : Env → M (Bool × Env) := fun env => (m env).bind fun p => match p.1 with | .vl (.d (.bl b)) => .ret (b, p.2) | _ => .fail
section
variable {c : Cm} {k : Nat} {sc : Scope} {X : Cx} {fa : Nat → Addr} {cl : Nat → List Vl → M D} {Z : Wd}
/-- the two readings of an expression -/
structure EOk (X : Cx) (fa : Nat → Addr) (cl : Nat → List Vl → M D) (m : Ex) (e : Expr) : Prop where
  pe : PE X e (rdO (zOf X fa) cl m)
  pt : PT X e (rdT (zOf X fa) (evT cl m))
theorem eok {m : Ex} {e : Expr} (h : PE X e (rdO (zOf X fa) cl m)) (he : ∀ whole, isTrue e X.env whole = (do let v ← whole; standAt e.pos; holding [v] (truthy v))) : EOk X fa cl m e := ⟨h, t_val h he⟩
theorem eokT {m : Ex} {e : Expr} {t : TE} (h : PE X e t) (h2 : PT X e (tTest t)) (i : ∀ σ H Q, rdO (zOf X fa) cl m σ H Q → t σ H Q) : EOk X fa cl m e :=
  ⟨PE.imp h i, PT.imp h2 fun σ H Q q => tB_of i q⟩
/-! ### is None, is True -/
theorem isN_rd {pos : Bool} {ma : Ex} : ∀ σ H Q, rdO Z cl (.isN pos ma) σ H Q → rdO Z cl ma σ H fun x H1 => Q (.bl (decide (x = .non) == pos)) H1 := by
  intro σ H Q h
  obtain ⟨S, F0, H0, T, env, F, R, h⟩ := h
  simp only [evO] at h
  refine rd_bind R h fun p env1 x H1 F1 R1 l1 q1 h1 => ?_
  obtain ⟨F2, R2, l2, q2, n2⟩ := R1.norm q1
  cases e : p.norm.res env1 with
  | none => simp only [e] at h1; exact False.elim h1
  | some d =>
    have pk := pk_non (R2.odPk q2 e)
    rw [pk]
    cases d with
    | non =>
      simp only [e] at h1
      have := h1 _ H1 F2 R2 l2 rfl
      cases pos <;> exact this
    | _ =>
      simp only [e] at h1
      have := h1 _ H1 F2 R2 l2 rfl
      cases pos <;> exact this
theorem e_isN {ma : Ex} {a : Expr} {j : Nat} {p pos : Pos} (ha : EOk X fa cl ma a) : EOk X fa cl (.isN true ma) (.Compare a [.Is] [.Constant .none j p] pos) :=
  eokT (pe_cmp (pc_isN ha.pe)) (pt_cmp (pc_isN ha.pe)) fun σ H Q h => by
    have := isN_rd σ H Q h
    simpa [tIsN] using this
theorem e_notN {ma : Ex} {a : Expr} {j : Nat} {p pos : Pos} (ha : EOk X fa cl ma a) : EOk X fa cl (.isN false ma) (.Compare a [.IsNot] [.Constant .none j p] pos) :=
  eokT (pe_cmp (pc_notN ha.pe)) (pt_cmp (pc_notN ha.pe)) fun σ H Q h => by
    have := isN_rd σ H Q h
    simpa [tNotN] using this
def rIsB (neg : Bool) : R2 := fun x y H Q => ∃ a b, x = .bl a ∧ y = .bl b ∧ Q (.bl (decide (a = b) != neg)) H
theorem op_isB : OpR X (compareOp .Is) (rIsB false) := by
  intro pins s σ H x y v u Q I rx ry h
  obtain ⟨a, b, h1, h2, q⟩ := h
  exact op_is_bl pins s σ H x y v u Q I rx ry ⟨a, b, h1, h2, by simpa using q⟩
theorem op_isnotB : OpR X (compareOp .IsNot) (rIsB true) := by
  intro pins s σ H x y v u Q I rx ry h
  obtain ⟨a, b, h1, h2, q⟩ := h
  exact op_isnot_bl pins s σ H x y v u Q I rx ry ⟨a, b, h1, h2, by simpa using q⟩
theorem isB_rd {pos b : Bool} {ma : Ex} : ∀ σ H Q, rdO Z cl (.isB pos b ma) σ H Q → tOp (rIsB (!pos)) (rdO Z cl ma) (tC (.bl b)) σ H Q := by
  intro σ H Q h
  obtain ⟨S, F0, H0, T, env, F, R, h⟩ := h
  simp only [evO] at h
  refine rd_bind R h fun p env1 x H1 F1 R1 l1 q1 h1 => ?_
  cases p with
  | vl y =>
    cases y with
    | d y =>
      cases y with
      | bl a =>
        have := h1 _ H1 F1 R1 (Le.refl F1) rfl
        refine ⟨a, b, q1, rfl, ?_⟩
        cases a <;> cases b <;> cases pos <;> exact this
      | _ => exact False.elim h1
    | _ => exact False.elim h1
  | _ => exact False.elim h1
theorem e_isB {ma : Ex} {a : Expr} {b : Bool} {j : Nat} {p pos : Pos} (ha : EOk X fa cl ma a) : EOk X fa cl (.isB true b ma) (.Compare a [.Is] [.Constant (.bool b) j p] pos) :=
  eokT (pe_cmpR op_isB ha.pe pe_bl rfl) (pt_cmpR op_isB ha.pe pe_bl rfl) isB_rd
theorem e_notB {ma : Ex} {a : Expr} {b : Bool} {j : Nat} {p pos : Pos} (ha : EOk X fa cl ma a) : EOk X fa cl (.isB false b ma) (.Compare a [.IsNot] [.Constant (.bool b) j p] pos) :=
  eokT (pe_cmpR op_isnotB ha.pe pe_bl rfl) (pt_cmpR op_isnotB ha.pe pe_bl rfl) isB_rd
/-! ### not, and, or, if -/
theorem nt_rd {ma : Ex} : ∀ σ H Q, rdO Z cl (.nt ma) σ H Q → tNotV (rdO Z cl ma) σ H Q := by
  intro σ H Q h
  obtain ⟨S, F0, H0, T, env, F, R, h⟩ := h
  simp only [evO] at h
  refine rd_bind R h fun p env1 x H1 F1 R1 l1 q1 h1 => ?_
  cases p with
  | vl y =>
    cases y with
    | d y =>
      cases y with
      | bl a => exact ⟨a, q1, h1 _ H1 F1 R1 (Le.refl F1) rfl⟩
      | _ => exact False.elim h1
    | _ => exact False.elim h1
  | _ => exact False.elim h1
theorem rdT_bind {m : Env → M (Bool × Env)} {k : Bool × Env → M (Bool × Env)} {S : Srcs} {F0 H0 : Hp} {T : List (Addr × D)} {env : Env} {σ : L2.St} {H F : Hp} {Q Q' : Bool → Hp → Prop}
    (R : Rel Z S F0 H0 T env σ H F) (h : ((m env).bind k).all fun r => PostB Z S F0 H0 T r.2 σ F r.1 Q)
    (step : ∀ b env' H' F', Rel Z S F0 H0 T env' σ H' F' → Le F F' → ((k (b, env')).all fun r => PostB Z S F0 H0 T r.2 σ F' r.1 Q) → Q' b H') : rdT Z m σ H Q' := by
  refine ⟨S, F0, H0, T, env, F, R, ?_⟩
  rw [M.all_bind] at h
  refine M.all_mono (fun r hr => ?_) h
  intro H' F' R' l
  exact step r.1 r.2 H' F' R' l (M.all_mono (fun _ p H2 F2 R2 l2 => p H2 F2 R2 (l.trans l2)) hr)
theorem M.fail_bind_all {α β : Type} {m : M α} {k : α → M β} {P : β → Prop} (h : (m.bind k).all P) : m.all fun a => (k a).all P := by rw [M.all_bind] at h; exact h
/-- a test by way of the bool -/
theorem evT_all {m : Ex} {env : Env} {P : Bool × Env → Prop} (h : (evT cl m env).all P) : (evO cl m env).all fun r => ∃ b, r.1 = .bl b ∧ P (b, r.2) := by
  unfold evT at h
  rw [M.all_bind] at h
  refine M.all_mono (fun r hr => ?_) h
  obtain ⟨o, env'⟩ := r
  cases o with
  | vl y =>
    cases y with
    | d y =>
      cases y with
      | bl a => exact ⟨a, rfl, hr⟩
      | _ => exact False.elim hr
    | _ => exact False.elim hr
  | _ => exact False.elim hr
theorem evT_of {m : Ex} {env : Env} {P : Bool × Env → Prop} (h : (evO cl m env).all fun r => ∃ b, r.1 = .bl b ∧ P (b, r.2)) : (evT cl m env).all P := by
  unfold evT
  rw [M.all_bind]
  refine M.all_mono (fun r hr => ?_) h
  obtain ⟨o, env'⟩ := r
  obtain ⟨b, e, hp⟩ := hr
  subst e
  exact hp
theorem nt_all {m : Ex} {env : Env} {P : Bool × Env → Prop} (h : (evT cl (.nt m) env).all P) : (evT cl m env).all fun r => P (!r.1, r.2) := by
  have h := evT_all h
  simp only [evO] at h
  rw [M.all_bind] at h
  refine evT_of (M.all_mono (fun r hr => ?_) h)
  obtain ⟨o, env'⟩ := r
  cases o with
  | vl y =>
    cases y with
    | d y =>
      cases y with
      | bl a =>
        obtain ⟨b, e, hp⟩ := hr
        have e' : (!a) = b := by simpa [Od.bl] using e
        subst e'
        exact ⟨a, rfl, hp⟩
      | _ => exact False.elim hr
    | _ => exact False.elim hr
  | _ => exact False.elim hr
theorem e_nt {ma : Ex} {a : Expr} {pos : Pos} (ha : EOk X fa cl ma a) : EOk X fa cl (.nt ma) (.UnaryOp .Not a pos) := by
  refine ⟨PE.imp (pe_not ha.pe) nt_rd, PT.imp (pt_not ha.pt) fun σ H Q h => ?_⟩
  obtain ⟨S, F0, H0, T, env, F, R, h⟩ := h
  exact ⟨S, F0, H0, T, env, F, R, M.all_mono (fun r hr H' F' R' l => hr H' F' R' l) (nt_all h)⟩
/-- the items, each with its two readings -/
def AllE (X : Cx) (fa : Nat → Addr) (cl : Nat → List Vl → M D) : Exs → List Expr → Prop
  | .nil, as => as = []
  | .cons m r, as => ∃ a as', as = a :: as' ∧ EOk X fa cl m a ∧ AllE X fa cl r as'
  | .star _ _, _ => False
theorem evB_cons {isAnd : Bool} {m : Ex} {r : Exs} {env : Env} {P : Bool × Env → Prop} (h : (evB cl isAnd (.cons m r) env).all P) : (evO cl m env).all fun q => ∃ b, q.1 = .bl b ∧ if b = isAnd then (evB cl isAnd r q.2).all P else P (b, q.2) := by
  simp only [evB] at h
  rw [M.all_bind] at h
  refine M.all_mono (fun q hq => ?_) h
  obtain ⟨o, env'⟩ := q
  cases o with
  | vl y =>
    cases y with
    | d y =>
      cases y with
      | bl a =>
        refine ⟨a, rfl, ?_⟩
        simp only at hq
        by_cases e : a = isAnd
        · subst e
          simpa using hq
        · have e' : (a == isAnd) = false := by simpa using e
          rw [e'] at hq
          rw [if_neg e]
          exact hq
      | _ => exact False.elim hq
    | _ => exact False.elim hq
  | _ => exact False.elim hq
def rdB (Z : Wd) (cl : Nat → List Vl → M D) (isAnd : Bool) (es : Exs) : TE := rdM Z fun env => (evB cl isAnd es env).bind fun r => .ret (.bl r.1, r.2)
theorem rdB_cons {isAnd : Bool} {m : Ex} {r : Exs} {σ : L2.St} {H : Hp} {Q : VK} (h : rdB Z cl isAnd (.cons m r) σ H Q) :
    rdO Z cl m σ H fun x H1 => ∃ b, x = .bl b ∧ if b = isAnd then rdB Z cl isAnd r σ H1 Q else Q (.bl b) H1 := by
  obtain ⟨S, F0, H0, T, env, F, R, h⟩ := h
  rw [M.all_bind] at h
  have h := evB_cons h
  refine ⟨S, F0, H0, T, env, F, R, M.all_mono (fun q hq => ?_) h⟩
  obtain ⟨b, e, hq⟩ := hq
  intro v H' F' R' l qv
  rw [e] at qv
  refine ⟨b, qv, ?_⟩
  split
  · rename_i hb
    rw [if_pos hb] at hq
    refine ⟨S, F0, H0, T, _, F', R', ?_⟩
    rw [M.all_bind]
    exact M.all_mono (fun z hz => hz.mono l) hq
  · rename_i hb
    rw [if_neg hb] at hq
    exact hq (.bl b) H' F' R' l rfl
theorem rdTB_cons {isAnd : Bool} {m : Ex} {r : Exs} {σ : L2.St} {H : Hp} {Q : Bool → Hp → Prop} (h : rdT Z (evB cl isAnd (.cons m r)) σ H Q) :
    rdT Z (evT cl m) σ H fun b H1 => if b = isAnd then rdT Z (evB cl isAnd r) σ H1 Q else Q b H1 := by
  obtain ⟨S, F0, H0, T, env, F, R, h⟩ := h
  have h := evB_cons h
  refine ⟨S, F0, H0, T, env, F, R, evT_of (M.all_mono (fun q hq => ?_) h)⟩
  obtain ⟨b, e, hq⟩ := hq
  refine ⟨b, e, ?_⟩
  intro H' F' R' l
  show if b = isAnd then _ else _
  split
  · rename_i hb
    rw [if_pos hb] at hq
    exact ⟨S, F0, H0, T, _, F', R', M.all_mono (fun z hz H2 F2 R2 l2 => hz H2 F2 R2 (l.trans l2)) hq⟩
  · rename_i hb
    rw [if_neg hb] at hq
    exact hq H' F' R' l
/-- the last one by itself -/
theorem rdB_nil {isAnd : Bool} {σ : L2.St} {H : Hp} {Q : VK} (h : rdB Z cl isAnd .nil σ H Q) : Q (.bl isAnd) H := by
  obtain ⟨S, F0, H0, T, env, F, R, h⟩ := h
  exact h _ H F R (Le.refl F) rfl
theorem rdTB_nil {isAnd : Bool} {σ : L2.St} {H : Hp} {Q : Bool → Hp → Prop} (h : rdT Z (evB cl isAnd .nil) σ H Q) : Q isAnd H := by
  obtain ⟨S, F0, H0, T, env, F, R, h⟩ := h
  exact h H F R (Le.refl F)
theorem and_ok {pos : Pos} : ∀ (es : Exs) (as : List Expr), AllE X fa cl es as → as ≠ [] → PE X (.BoolOp .And as pos) (rdB (zOf X fa) cl true es) ∧ PW X (.BoolOp .And as pos) (rdT (zOf X fa) (evB cl true es))
  | .nil, as, h, n => absurd h n
  | .star _ _, as, h, n => h.elim
  | .cons m .nil, as, h, n => by
    obtain ⟨a, as', rfl, ha, rfl⟩ := h
    refine ⟨PE.imp (pe_one ha.pe) fun σ H Q h => ?_, PW.imp (pw_and1 ha.pt) fun σ H Q h => ?_⟩
    · obtain ⟨S, F0, H0, T, env, F, R, h⟩ := rdB_cons h
      refine ⟨S, F0, H0, T, env, F, R, M.all_mono (fun q hq v H' F' R' l qv => ?_) h⟩
      obtain ⟨b, rfl, z⟩ := hq v H' F' R' l qv
      cases b with
      | true => exact rdB_nil (by simpa using z)
      | false => simpa using z
    · obtain ⟨S, F0, H0, T, env, F, R, h⟩ := rdTB_cons h
      refine ⟨S, F0, H0, T, env, F, R, M.all_mono (fun q hq H' F' R' l => ?_) h⟩
      have z := hq H' F' R' l
      cases hb : q.1 with
      | true => rw [hb] at z; exact rdTB_nil (by simpa using z)
      | false => rw [hb] at z; simpa using z
  | .cons m (.star _ _), as, h, n => by obtain ⟨a, as', rfl, ha, h⟩ := h; exact h.elim
  | .cons m (.cons m2 r), as, h, n => by
    obtain ⟨a, as', rfl, ha, h⟩ := h
    obtain ⟨b, as'', rfl, hb, hr⟩ := id h
    have ih := and_ok (pos := pos) (.cons m2 r) (b :: as'') h (by simp)
    refine ⟨PE.imp (pe_and ha.pe ih.1) fun σ H Q h => ?_, PW.imp (pw_and ha.pt ih.2) fun σ H Q h => ?_⟩
    · obtain ⟨S, F0, H0, T, env, F, R, h⟩ := rdB_cons h
      refine ⟨S, F0, H0, T, env, F, R, M.all_mono (fun q hq v H' F' R' l qv => ?_) h⟩
      obtain ⟨b, rfl, z⟩ := hq v H' F' R' l qv
      refine ⟨b, rfl, ?_⟩
      cases b with
      | true => simpa using z
      | false => simpa using z
    · obtain ⟨S, F0, H0, T, env, F, R, h⟩ := rdTB_cons h
      refine ⟨S, F0, H0, T, env, F, R, M.all_mono (fun q hq H' F' R' l => ?_) h⟩
      have z := hq H' F' R' l
      cases hb : q.1 with
      | true => rw [hb] at z; simpa using z
      | false => rw [hb] at z; simpa using z
theorem or_ok {pos : Pos} : ∀ (es : Exs) (as : List Expr), AllE X fa cl es as → as ≠ [] → PE X (.BoolOp .Or as pos) (rdB (zOf X fa) cl false es) ∧ PW X (.BoolOp .Or as pos) (rdT (zOf X fa) (evB cl false es))
  | .nil, as, h, n => absurd h n
  | .star _ _, as, h, n => h.elim
  | .cons m .nil, as, h, n => by
    obtain ⟨a, as', rfl, ha, rfl⟩ := h
    refine ⟨PE.imp (pe_one ha.pe) fun σ H Q h => ?_, PW.imp (pw_or1 ha.pt) fun σ H Q h => ?_⟩
    · obtain ⟨S, F0, H0, T, env, F, R, h⟩ := rdB_cons h
      refine ⟨S, F0, H0, T, env, F, R, M.all_mono (fun q hq v H' F' R' l qv => ?_) h⟩
      obtain ⟨b, rfl, z⟩ := hq v H' F' R' l qv
      cases b with
      | false => exact rdB_nil (by simpa using z)
      | true => simpa using z
    · obtain ⟨S, F0, H0, T, env, F, R, h⟩ := rdTB_cons h
      refine ⟨S, F0, H0, T, env, F, R, M.all_mono (fun q hq H' F' R' l => ?_) h⟩
      have z := hq H' F' R' l
      cases hb : q.1 with
      | false => rw [hb] at z; exact rdTB_nil (by simpa using z)
      | true => rw [hb] at z; simpa using z
  | .cons m (.star _ _), as, h, n => by obtain ⟨a, as', rfl, ha, h⟩ := h; exact h.elim
  | .cons m (.cons m2 r), as, h, n => by
    obtain ⟨a, as', rfl, ha, h⟩ := h
    obtain ⟨b, as'', rfl, hb, hr⟩ := id h
    have ih := or_ok (pos := pos) (.cons m2 r) (b :: as'') h (by simp)
    refine ⟨PE.imp (pe_or ha.pe ih.1) fun σ H Q h => ?_, PW.imp (pw_or ha.pt ih.2) fun σ H Q h => ?_⟩
    · obtain ⟨S, F0, H0, T, env, F, R, h⟩ := rdB_cons h
      refine ⟨S, F0, H0, T, env, F, R, M.all_mono (fun q hq v H' F' R' l qv => ?_) h⟩
      obtain ⟨b, rfl, z⟩ := hq v H' F' R' l qv
      refine ⟨b, rfl, ?_⟩
      cases b with
      | false => simpa using z
      | true => simpa using z
    · obtain ⟨S, F0, H0, T, env, F, R, h⟩ := rdTB_cons h
      refine ⟨S, F0, H0, T, env, F, R, M.all_mono (fun q hq H' F' R' l => ?_) h⟩
      have z := hq H' F' R' l
      cases hb : q.1 with
      | false => rw [hb] at z; simpa using z
      | true => rw [hb] at z; simpa using z
theorem evT_bop {isAnd : Bool} {es : Exs} {env : Env} {P : Bool × Env → Prop} (h : (evT cl (.bop isAnd es) env).all P) : (evB cl isAnd es env).all P := by
  have h := evT_all h
  simp only [evO] at h
  rw [M.all_bind] at h
  refine M.all_mono (fun r hr => ?_) h
  obtain ⟨b, e, hp⟩ := hr
  have e' : r.1 = b := by simpa [Od.bl] using e
  subst e'
  exact hp
theorem e_and {es : Exs} {as : List Expr} {pos : Pos} (h : AllE X fa cl es as) (n : as ≠ []) : EOk X fa cl (.bop true es) (.BoolOp .And as pos) := by
  obtain ⟨h1, h2⟩ := and_ok (pos := pos) es as h n
  refine ⟨PE.imp h1 fun σ H Q h => h, PT.imp h2.pt fun σ H Q h => ?_⟩
  obtain ⟨S, F0, H0, T, env, F, R, h⟩ := h
  exact ⟨S, F0, H0, T, env, F, R, evT_bop h⟩
theorem e_or {es : Exs} {as : List Expr} {pos : Pos} (h : AllE X fa cl es as) (n : as ≠ []) : EOk X fa cl (.bop false es) (.BoolOp .Or as pos) := by
  obtain ⟨h1, h2⟩ := or_ok (pos := pos) es as h n
  refine ⟨PE.imp h1 fun σ H Q h => h, PT.imp h2.pt fun σ H Q h => ?_⟩
  obtain ⟨S, F0, H0, T, env, F, R, h⟩ := h
  exact ⟨S, F0, H0, T, env, F, R, evT_bop h⟩
theorem ite_all {mc ma mb : Ex} {env : Env} {P : Od × Env → Prop} (h : (evO cl (.ite mc ma mb) env).all P) : (evT cl mc env).all fun r => if r.1 = true then (evO cl ma r.2).all P else (evO cl mb r.2).all P := by
  simp only [evO] at h
  rw [M.all_bind] at h
  refine evT_of (M.all_mono (fun r hr => ?_) h)
  obtain ⟨o, env'⟩ := r
  cases o with
  | vl y =>
    cases y with
    | d y =>
      cases y with
      | bl a => cases a <;> exact ⟨_, rfl, hr⟩
      | _ => exact False.elim hr
    | _ => exact False.elim hr
  | _ => exact False.elim hr
theorem isTrue_ite {e1 e2 e3 : Expr} {pos : Pos} {env : PySem.Env} {whole : Sem Value} : isTrue (.IfExp e1 e2 e3 pos) env whole = (do if ← isTrue e1 env (eval e1 env) then isTrue e2 env (eval e2 env) else isTrue e3 env (eval e3 env)) := by
  first | rfl | simp only [isTrue]
theorem pt_ifExp {e1 e2 e3 : Expr} {pos : Pos} {t1 t2 t3 : TT} (h1 : PT X e1 t1) (h2 : PT X e2 t2) (h3 : PT X e3 t3) : PT X (.IfExp e1 e2 e3 pos) (fun σ H Q => t1 σ H fun b H1 => if b = true then t2 σ H1 Q else t3 σ H1 Q) := by
  refine ⟨fun pins s σ H Q I h => ?_⟩
  rw [isTrue_ite]
  refine wpAny_bind (thn (h1.run pins s σ H _ I h) fun d s1 ⟨H1, I1, q1⟩ => ?_)
  cases d with
  | true => exact h2.run pins s1 σ H1 Q I1 q1
  | false => exact h3.run pins s1 σ H1 Q I1 q1
theorem e_ite {mc ma mb : Ex} {e1 e2 e3 : Expr} {pos : Pos} (h1 : EOk X fa cl mc e1) (h2 : EOk X fa cl ma e2) (h3 : EOk X fa cl mb e3) : EOk X fa cl (.ite mc ma mb) (.IfExp e1 e2 e3 pos) := by
  refine ⟨PE.imp (pe_ifExp h1.pt h2.pe h3.pe) fun σ H Q h => ?_, PT.imp (pt_ifExp h1.pt h2.pt h3.pt) fun σ H Q h => ?_⟩
  · obtain ⟨S, F0, H0, T, env, F, R, h⟩ := h
    refine ⟨S, F0, H0, T, env, F, R, M.all_mono (fun r hr H' F' R' l => ?_) (ite_all h)⟩
    show if r.1 = true then _ else _
    split
    · rename_i hb
      rw [if_pos hb] at hr
      exact ⟨S, F0, H0, T, _, F', R', M.all_mono (fun z hz => hz.mono l) hr⟩
    · rename_i hb
      rw [if_neg hb] at hr
      exact ⟨S, F0, H0, T, _, F', R', M.all_mono (fun z hz => hz.mono l) hr⟩
  · obtain ⟨S, F0, H0, T, env, F, R, h⟩ := h
    refine ⟨S, F0, H0, T, env, F, R, M.all_mono (fun r hr H' F' R' l => ?_) (ite_all (evT_all h))⟩
    show if r.1 = true then _ else _
    split
    · rename_i hb
      rw [if_pos hb] at hr
      exact ⟨S, F0, H0, T, _, F', R', evT_of (M.all_mono (fun z hz => hz.elim fun b hb => ⟨b, hb.1, fun H2 F2 R2 l2 => hb.2 H2 F2 R2 (l.trans l2)⟩) hr)⟩
    · rename_i hb
      rw [if_neg hb] at hr
      exact ⟨S, F0, H0, T, _, F', R', evT_of (M.all_mono (fun z hz => hz.elim fun b hb => ⟨b, hb.1, fun H2 F2 R2 l2 => hb.2 H2 F2 R2 (l.trans l2)⟩) hr)⟩
end
end Bq

set_option Elab.async false
set_option autoImplicit false
set_option linter.all false
set_option maxRecDepth 100000
set_option maxHeartbeats 4000000
/-! t[::-1] of a tuple. -/
namespace Bq
open PySem PySem.Spec PyProof.Rows L2 HT
section
variable {prog : Program} {w : World} {A : Around} {E : Value → Shared → Prop} {s : Shared}
theorem rev_fm {α : Type} (xs : Array α) : ((List.range xs.size).filterMap fun (k : Nat) => xs[(((xs.size : Nat) : Int) - 1 + (k : Int) * -1).toNat]?) = xs.toList.reverse := by
  have e : ((List.range xs.size).filterMap fun (k : Nat) => xs[(((xs.size : Nat) : Int) - 1 + (k : Int) * -1).toNat]?) = (List.map (fun k => xs.size - 1 - k) (List.range xs.size)).filterMap (xs[·]?) := by
    rw [List.filterMap_map]
    congr 1
    funext k
    show xs[_]? = xs[xs.size - 1 - k]?
    congr 1
    omega
  rw [e, PySem.W.krv_range, List.filterMap_reverse, PySem.W.krv_all]
theorem places_rev (n : Nat) : Builtin.Slice.slicePlaces ((n : Int) - 1) (-1) (-1) = n := by
  unfold Builtin.Slice.slicePlaces
  rw [if_neg (by omega)]
  split
  · rw [show (- -1 : Int) = 1 by decide, Int.ediv_one]; omega
  · omega
theorem sliceApplied_rev {sl : Addr} {vl vu vs : Value} {n : Nat} {Q : Int × Int × Nat → Shared → Prop} (hs : s.heap.IsSliceOf sl vl vu vs) (pl : IsPart vl none) (pu : IsPart vu none) (ps : IsPart vs (some (-1)))
    (h : Q ((n : Int) - 1, -1, n) s) : wpAny (model prog w) A (Builtin.Slice.sliceApplied (.ref sl) (pure (n : Int))) Q E s := by
  obtain ⟨os, hos, hcs, hds⟩ := id hs
  unfold Builtin.Slice.sliceApplied Builtin.Slice.sliceFields
  refine wpAny_bind (wpAny_bind (wpAny_field hos hds (x := vl) rfl (wpAny_bind (wpAny_field hos hds (x := vu) rfl (wpAny_bind (wpAny_field hos hds (x := vs) rfl (wpAny_pure ?_)))))))
  refine wpAny_bind (slicePart_ ps ?_)
  show wpAny _ _ (if ((-1 : Int) == 0) = true then _ else _) _ _ s
  rw [if_neg (by decide)]
  refine wpAny_bind (slicePart_ pl (wpAny_bind (slicePart_ pu (wpAny_bind (wpAny_pure ?_)))))
  show wpAny _ _ (pure ((n : Int) - 1, (-1 : Int), Builtin.Slice.slicePlaces ((n : Int) - 1) (-1) (-1))) _ _ s
  rw [places_rev]
  exact wpAny_pure h
theorem getItem_tuple_rev {t sl : Addr} {items : Array Value} {vl vu vs : Value} {Q : Value → Shared → Prop} (ht : IsTup s.heap t items) (hs : s.heap.IsSliceOf sl vl vu vs) (pl : IsPart vl none) (pu : IsPart vu none) (ps : IsPart vs (some (-1)))
    (h : Q (.ref s.heap.objs.size) { s with heap := s.heap.push { cls := .type "tuple", data := .seq items.toList.reverse.toArray } })
    (hsz : items.size ≤ sizeLine) : wpAny (model prog w) A (getItem (.ref t) (.ref sl)) Q E s := by
  have htake : sizeOk (.seq items.toList.reverse.toArray) := by
    show items.toList.reverse.toArray.size ≤ sizeLine
    rw [List.size_toArray, List.length_reverse, Array.length_toList]
    exact hsz
  obtain ⟨os, hos, hcs, hds⟩ := id hs
  have hTs : s.TypeIs (.ref sl) "slice" := ⟨os, hos, hcs⟩
  unfold getItem
  try with_reducible refine wpAny_holding ?_
  first | refine wpAny_bind (wpAny_pure ?_) | skip
  refine wpAny_bind (wpAny_sequenceKey ht.typeIs (by decide) ?_)
  refine wpAny_bind (wpAny_callSpecial?_slot (name := Str.ofString "__getitem__") ht.typeIs PyProof.Rows.slot_tuple_getitem
    (wpAny_call_entry PyProof.Rows.slot_tuple_getitem ht.typeIs entry_tuple_getitem ?_ (args_tuple_getitem _ _)))
  show wpAny _ _ (Builtin.Tuple.tupleItemsOf (.ref t) >>= _) _ _ s
  refine wpAny_bind (tupleItemsOf_ ht ?_)
  refine wpAny_bind (wpAny_typeOf hTs ?_)
  rw [if_pos (by decide)]
  refine wpAny_bind (sliceApplied_rev hs pl pu ps ?_)
  show wpAny _ _ (if ((((items.size : Nat) : Int) - 1) == 0 && (-1 : Int) == 1 && items.size == items.size) = true then _ else _) _ _ s
  rw [if_neg (by simp), rev_fm]
  first
    | exact wpAny_bind (m := Builtin.Tuple.tupleExact _) (wpAny_newObj_type (wpAny_pure ⟨_, rfl, wpAny_pure h⟩) htake)
    | exact wpAny_bind (m := Builtin.Tuple.tupleExact _) (wpAny_newObj_type (wpAny_bind (wpAny_pure (wpAny_pure ⟨_, rfl, wpAny_pure h⟩))) htake)
    | exact wpAny_bind (wpAny_bind (m := Builtin.Tuple.tupleExact _) (wpAny_newObj_type (wpAny_pure (wpAny_pure ⟨_, rfl, wpAny_pure h⟩)) htake))
    | exact wpAny_bind (wpAny_bind (m := Builtin.Tuple.tupleExact _) (wpAny_newObj_type (wpAny_pure ⟨_, rfl, wpAny_pure h⟩) htake))
end
section
variable {X : Cx}
/-- xs[::-1] of a list or tuple -/
def tRevS (K : PySem.W.Frag) (te : TE) : TE := fun σ H Q => te σ H fun x H1 => (∃ a xs, x = .ref a ∧ SqL K H1 a xs ∧ ∀ p, H1 p = none → Q (.ref p) (upd H1 p (.lst xs.reverse))) ∨ (∃ a xs, x = .ref a ∧ SqT K H1 a xs ∧ ∀ p, H1 p = none → Q (.ref p) (upd H1 p (.tup xs.reverse)))
theorem pe_revS {e : Expr} {te : TE} {k : Nat} {p1 p2 p3 pos : Pos} (he : PE X e te) : PE X (.Subscript e (.Slice none none (some (.UnaryOp .USub (.Constant (.int 1) k p1) p2)) p3) pos) (tRevS X.K te) := by
  refine ⟨fun pins s σ H Q I h => ?_⟩
  refine Subscript_ (thn (he.run pins s σ H _ I h) fun v s1 ⟨x, H1, I1, r1, q1⟩ => ?_)
  have hst : PO X (some (.UnaryOp .USub (.Constant (.int 1) k p1) p2)) (tPart (tUn (rU fun i => .int (-i)) (tC (.int 1)))) := po_some (pe_un un_neg pe_int)
  refine wpAny_Slice (thn (po_none.run pins s1 σ H1 (fun o H2 => o = none ∧ H2 = H1) I1 ⟨rfl, rfl⟩) fun vl s2 ⟨l, H2, I2, pl, el, e2⟩ => ?_)
  subst el e2
  refine thn (po_none.run pins s2 σ H2 (fun o H3 => o = none ∧ H3 = H2) I2 ⟨rfl, rfl⟩) fun vu s3 ⟨u, H3, I3, pu, eu, e3⟩ => ?_
  subst eu e3
  refine thn (hst.run pins s3 σ H3 (fun o H4 => o = some (-1) ∧ H4 = H3) I3 ⟨1, rfl, -1, rfl, rfl, rfl⟩) fun vs s4 ⟨o, H4, I4, ps, eo, e4⟩ => ?_
  subst eo e4
  have I5 : Inv X pins σ H4 { s4 with heap := s4.heap.push { cls := .type "slice", data := .fields #[vl, vu, vs] } } := I4.kept (t' := s4.toks) fun b ob q => Heap.get?_push_of_some _ q
  rcases q1 with ⟨a, xs, ex, hx, q⟩ | ⟨a, xs, ex, hx, q⟩
  · subst ex
    cases r1
    obtain ⟨its, r, ht, hz⟩ := I5.list hx
    have hlen := r.length
    show wpAny (model X.prog X.w) X.A (subscriptTail e (.Slice none none (some (.UnaryOp .USub (.Constant (.int 1) k p1) p2)) p3) (.ref a) (.ref s4.heap.objs.size)) (EP X pins σ Q) X.xe { s4 with heap := s4.heap.push { cls := .type "slice", data := .fields #[vl, vu, vs] } }
    refine tail_any (ops := [.ref a, .ref s4.heap.objs.size]) ht.isList.typeIs (PySem.slot_list_getitem.lookup) ?_ (by with_unfolding_all rfl)
    refine wpAny_getItem_list_slice ht.isList (Heap.IsSliceOf.new _ vl vu vs) pl pu ps (by decide) ?_ (by rw [List.size_toArray]; omega)
    rw [PySem.W.krv_pick]
    refine ⟨.ref _, _, I5.laid (t' := s4.toks) (o := .lst xs.reverse) (fun b ob q => Heap.get?_push_of_some _ q) (Nat.le_refl _) ?_, rfl, q _ (I5.hok.fresh (Nat.le_refl _))⟩
    exact ⟨by rw [List.length_reverse]; exact hz, _, 0, r.reverse, Heap.get?_push_size _ rfl⟩
  · subst ex
    cases r1
    obtain ⟨its, r, ht, hz⟩ := I5.tuple hx
    have hlen := r.length
    show wpAny (model X.prog X.w) X.A (subscriptTail e (.Slice none none (some (.UnaryOp .USub (.Constant (.int 1) k p1) p2)) p3) (.ref a) (.ref s4.heap.objs.size)) (EP X pins σ Q) X.xe { s4 with heap := s4.heap.push { cls := .type "slice", data := .fields #[vl, vu, vs] } }
    refine tail_any (ops := [.ref a, .ref s4.heap.objs.size]) ht.typeIs (PyProof.Rows.slot_tuple_getitem.lookup) ?_ (by with_unfolding_all rfl)
    refine getItem_tuple_rev ht (Heap.IsSliceOf.new _ vl vu vs) pl pu ps ?_ (by rw [List.size_toArray]; omega)
    refine ⟨.ref _, _, I5.laid (t' := s4.toks) (o := .tup xs.reverse) (fun b ob q => Heap.get?_push_of_some _ q) (Nat.le_refl _) ?_, rfl, q _ (I5.hok.fresh (Nat.le_refl _))⟩
    exact ⟨by rw [List.length_reverse]; exact hz, _, r.reverse, IsTup.new _ _⟩
end
end Bq

set_option Elab.async false
set_option autoImplicit false
set_option linter.all false
set_option maxRecDepth 100000
/-! Expressions, third part: arguments, displays, slices, built-ins, methods, calls. -/
namespace Bq
open PySem PySem.Spec PyProof.Rows L2 StX
section
variable {c : Cm} {k : Nat} {sc : Scope} {X : Cx} {fa : Nat → Addr} {cl : Nat → List Vl → M D} {Z : Wd}
/-! ### arguments -/
def isStar : Expr → Bool
  | .Starred _ _ => true
  | _ => false
theorem each_plain {e : Expr} {es : List Expr} {env : PySem.Env} (h : isStar e = false) : starEach (e :: es) env = (false, eval e env) :: starEach es env := by
  cases e <;> first | rfl | cases h
theorem any_plain {pos : Pos} {env : PySem.Env} : ∀ {es : List Expr}, es.all (fun e => !isStar e) = true → (backTo pos (starEach es env)).any (·.1) = false
  | [], _ => rfl
  | e :: es, h => by
    rw [List.all_cons, Bool.and_eq_true] at h
    rw [each_plain (by simpa using h.1)]
    show (false || (backTo pos (starEach es env)).any (·.1)) = false
    rw [any_plain h.2]; rfl
/-- arguments, with stars -/
def AllA (X : Cx) (fa : Nat → Addr) (cl : Nat → List Vl → M D) : Exs → List Expr → Prop
  | .nil, as => as = []
  | .cons m r, as => ∃ a as', as = a :: as' ∧ isStar a = false ∧ EOk X fa cl m a ∧ AllA X fa cl r as'
  | .star m r, as => ∃ a p as', as = .Starred a p :: as' ∧ EOk X fa cl m a ∧ AllA X fa cl r as'
theorem RpVs.mono {S : Srcs} {F G : Hp} (h : Le F G) : ∀ {xs : List Vl} {vs : List V}, RpVs Z S F xs vs → RpVs Z S G xs vs
  | [], _, q => q
  | _ :: _, _, ⟨v, r, e, p, q⟩ => ⟨v, r, e, p.mono h, RpVs.mono h q⟩
theorem RpVs.app {S : Srcs} {F : Hp} : ∀ {ys : List D} {xs : List Vl} {us vs : List V}, RpAll Z F ys us → RpVs Z S F xs vs → RpVs Z S F (ys.map Vl.d ++ xs) (us ++ vs)
  | [], _, us, vs, q, p => by cases (show us = [] from q); exact p
  | y :: ys, _, us, vs, q, p => by
    obtain ⟨v, r, rfl, a, b⟩ := q
    exact ⟨v, r ++ vs, rfl, a, RpVs.app b p⟩
theorem RpVs.ds {S : Srcs} {F : Hp} : ∀ {xs : List Vl} {ds : List D} {vs : List V}, RpVs Z S F xs vs → vlDs xs = some ds → RpAll Z F ds vs
  | [], ds, vs, q, e => by
    cases (show vs = [] from q)
    have e' : [] = ds := by simpa [vlDs] using e
    subst e'; exact rfl
  | .d x :: r, ds, vs, ⟨v, r', e1, p, q⟩, e => by
    simp only [vlDs] at e
    obtain ⟨ds', e2, rfl⟩ := Option.map_eq_some_iff.mp e
    exact ⟨v, r', e1, p, RpVs.ds q e2⟩
  | .src :: r, ds, vs, _, e => by cases e
  | .fn _ :: r, ds, vs, _, e => by cases e
/-- what an evaluation of arguments owes -/
def rdA (Z : Wd) (m : Env → M (List Vl × Env)) : TA := fun σ H Q => ∃ S F0 H0 T env F, Rel Z S F0 H0 T env σ H F ∧ (m env).all fun r => ∀ vs H' F', Rel Z S F0 H0 T r.2 σ H' F' → Le F F' → RpVs Z S F' r.1 vs → Q vs H'
theorem rdA_bind {α : Type} {P : α × Env → Hp → Prop} {m : Env → M (Od × Env)} {f : Od × Env → M (α × Env)} {S : Srcs} {F0 H0 : Hp} {T : List (Addr × D)} {env : Env} {σ : L2.St} {H F : Hp} {Q' : VK}
    (mono : ∀ r F F', Le F F' → P r F → P r F') (R : Rel Z S F0 H0 T env σ H F) (h : ((m env).bind f).all fun r => P r F)
    (step : ∀ o env' v H' F', Rel Z S F0 H0 T env' σ H' F' → Le F F' → OdOk Z S H0 T env' σ H' F' o v → ((f (o, env')).all fun r => P r F') → Q' v H') : rdM Z m σ H Q' := by
  refine ⟨S, F0, H0, T, env, F, R, ?_⟩
  rw [M.all_bind] at h
  refine M.all_mono (fun r hr => ?_) h
  intro v H' F' R' l q
  exact step r.1 r.2 v H' F' R' l q (M.all_mono (fun _ p => mono _ _ _ l p) hr)
theorem vs_rd_cons {m : Ex} {r : Exs} : ∀ σ H Q, rdVs Z cl (.cons m r) σ H Q → tCons (rdO Z cl m) (rdVs Z cl r) σ H Q := by
  intro σ H Q h
  obtain ⟨S, F0, H0, T, env, F, R, h⟩ := h
  simp only [evVs] at h
  refine rdA_bind (P := fun r F => ∀ vs H' F', Rel Z S F0 H0 T r.2 σ H' F' → Le F F' → RpVs Z S F' r.1 vs → Q vs H') (fun r F F' l p vs H' F2 R2 l2 => p vs H' F2 R2 (l.trans l2)) R h fun o env' v H' F' R' l q hs => ?_
  cases e : o.frz env' with
  | none => simp only [e] at hs; exact False.elim hs
  | some z =>
    obtain ⟨x, env2⟩ := z
    simp only [e] at hs
    obtain ⟨G, RG, lG, rG⟩ := R'.frz q e
    rw [M.all_bind] at hs
    refine ⟨S, F0, H0, T, env2, G, RG, M.all_mono (fun z hz vs H2 F2 R2 l2 q2 => ?_) hs⟩
    exact hz (v :: vs) H2 F2 R2 (lG.trans l2) ⟨v, vs, rfl, rG.mono l2, q2⟩
theorem vs_rd_star {m : Ex} {r : Exs} : ∀ σ H Q, rdVs (zOf X fa) cl (.star m r) σ H Q → tStar X.K (rdO (zOf X fa) cl m) (rdVs (zOf X fa) cl r) σ H Q := by
  intro σ H Q h
  obtain ⟨S, F0, H0, T, env, F, R, h⟩ := h
  simp only [evVs] at h
  refine rdA_bind (P := fun r F => ∀ vs H' F', Rel (zOf X fa) S F0 H0 T r.2 σ H' F' → Le F F' → RpVs (zOf X fa) S F' r.1 vs → Q vs H') (fun r F F' l p vs H' F2 R2 l2 => p vs H' F2 R2 (l.trans l2)) R h fun o env' v H' F' R' l q hs => ?_
  obtain ⟨G, RG, lG, qG, nG⟩ := R'.norm q
  cases e : o.norm.res env' with
  | none => simp only [e] at hs; exact False.elim hs
  | some d =>
    simp only [e, Option.bind_some] at hs
    have pk := RG.odPk qG e
    have go : ∀ ys us, seqOf d = some ys → RpAll (zOf X fa) G ys us → rdVs (zOf X fa) cl r σ H' fun ws H2 => Q (us ++ ws) H2 := fun ys us e2 ru => by
      rw [e2] at hs
      simp only at hs
      rw [M.all_bind] at hs
      refine ⟨S, F0, H0, T, env', G, RG, M.all_mono (fun z hz vs H2 F2 R2 l2 q2 => ?_) hs⟩
      exact hz (us ++ vs) H2 F2 R2 (lG.trans l2) (RpVs.app (RpAll.mono l2 _ _ ru) q2)
    cases d with
    | lst ds =>
      obtain ⟨a, xs, rfl, ha, ra⟩ := pk
      exact ⟨a, xs, rfl, .inr (.of ha), go ds xs rfl ra⟩
    | tup ds =>
      obtain ⟨a, xs, rfl, ha, _, ra⟩ := Pk.tup RG.sub pk
      exact ⟨a, xs, rfl, .inl (.of ha), go ds xs rfl ra⟩
    | _ => simp only [seqOf] at hs; exact False.elim hs
theorem pa_vs : ∀ {es : Exs} {as : List Expr}, AllA X fa cl es as → PA X as (rdVs (zOf X fa) cl es)
  | .nil, as, h => by
    cases (show as = [] from h)
    refine PA.imp pa_nil fun σ H Q h => ?_
    obtain ⟨S, F0, H0, T, env, F, R, h⟩ := h
    exact h [] H F R (Le.refl F) rfl
  | .cons m r, as, h => by
    obtain ⟨a, as', rfl, ns, ha, hr⟩ := h
    exact PA.imp (pa_cons ha.pe (pa_vs hr) (each_plain ns)) vs_rd_cons
  | .star m r, as, h => by
    obtain ⟨a, p, as', rfl, ha, hr⟩ := h
    exact PA.imp (pa_star ha.pe (pa_vs hr) rfl) vs_rd_star
theorem os_rd_cons {m : Ex} {r : Exs} : ∀ σ H Q, rdOs Z cl (.cons m r) σ H Q → tCons (rdO Z cl m) (rdOs Z cl r) σ H Q := by
  intro σ H Q h
  obtain ⟨S, F0, H0, T, env, F, R, h⟩ := h
  simp only [evOs] at h
  refine rdA_bind (P := fun r F => ∀ vs H' F', Rel Z S F0 H0 T r.2 σ H' F' → Le F F' → OdsOk Z S H0 T r.2 σ H' F' r.1 vs → Q vs H') (fun r F F' l p vs H' F2 R2 l2 => p vs H' F2 R2 (l.trans l2)) R h fun o env' v H' F' R' l q hs => ?_
  obtain ⟨G, RG, lG, qG, nG⟩ := R'.norm q
  rw [M.all_bind] at hs
  refine ⟨S, F0, H0, T, env', G, RG, M.all_mono (fun z hz vs H2 F2 R2 l2 q2 => ?_) hs⟩
  exact hz (v :: vs) H2 F2 R2 (lG.trans l2) ⟨v, vs, rfl, nG, qG.keep l2 nG, q2⟩
theorem pa_os : ∀ {es : Exs} {as : List Expr}, AllA X fa cl es as → as.all (fun e => !isStar e) = true → PA X as (rdOs (zOf X fa) cl es)
  | .nil, as, h, _ => by
    cases (show as = [] from h)
    refine PA.imp pa_nil fun σ H Q h => ?_
    obtain ⟨S, F0, H0, T, env, F, R, h⟩ := h
    exact h [] H F R (Le.refl F) rfl
  | .cons m r, as, h, n => by
    obtain ⟨a, as', rfl, ns, ha, hr⟩ := h
    rw [List.all_cons, Bool.and_eq_true] at n
    exact PA.imp (pa_cons ha.pe (pa_os hr n.2) (each_plain ns)) os_rd_cons
  | .star m r, as, h, n => by
    obtain ⟨a, p, as', rfl, ha, hr⟩ := h
    rw [List.all_cons, Bool.and_eq_true] at n
    cases n.1
/-! ### displays -/
theorem e_tup {es : Exs} {as : List Expr} {x1 : Nat} {pos : Pos} (h : PA X as (rdVs (zOf X fa) cl es)) : PE X (.Tuple as x1 pos) (rdO (zOf X fa) cl (.tup es)) := by
  refine PE.imp (pe_tup h) fun σ H Q h => ?_
  obtain ⟨S, F0, H0, T, env, F, R, h⟩ := h
  simp only [evO] at h
  rw [M.all_bind] at h
  refine ⟨S, F0, H0, T, env, F, R, M.all_mono (fun r hr vs H' F' R' l q => ?_) h⟩
  cases e : vlDs r.1 with
  | none => simp only [e] at hr; exact False.elim hr
  | some xs =>
    simp only [e] at hr
    split at hr
    · rename_i hz
      have ra := q.ds e
      exact ⟨by rw [ra.length]; exact cap_le hz, (Post.mono l hr).tup R' ra⟩
    · exact False.elim hr
theorem e_lst {es : Exs} {as : List Expr} {pos : Pos} (h : PA X as (rdVs (zOf X fa) cl es)) : PE X (.List as pos) (rdO (zOf X fa) cl (.lst es)) := by
  refine PE.imp (pe_lst h) fun σ H Q h => ?_
  obtain ⟨S, F0, H0, T, env, F, R, h⟩ := h
  simp only [evO] at h
  rw [M.all_bind] at h
  refine ⟨S, F0, H0, T, env, F, R, M.all_mono (fun r hr vs H' F' R' l q => ?_) h⟩
  cases e : vlDs r.1 with
  | none => simp only [e] at hr; exact False.elim hr
  | some xs =>
    simp only [e] at hr
    split at hr
    · rename_i hz
      have ra := q.ds e
      exact ⟨by rw [ra.length]; exact cap_le hz, (Post.mono l hr).lst R' ra⟩
    · exact False.elim hr
theorem e_dnew {pos : Pos} : PE X (.Dict [] [] pos) (rdO (zOf X fa) cl (.dnew false)) := by
  refine PE.imp pe_dnewK fun σ H Q h => ?_
  obtain ⟨S, F0, H0, T, env, F, R, h⟩ := h
  simp only [evO] at h
  intro p hp
  obtain ⟨R', o⟩ := R.laid_fr (o := .dK []) (x := .dic false []) hp ⟨[], upd_same, rfl⟩
  exact h _ _ F R' (Le.refl F) o
/-! ### slices -/
theorem cut_rp {F : Hp} {ds : List D} {xs : List V} (r : RpAll Z F ds xs) (lo hi : Option Int) : RpAll Z F (cut ds lo hi) (cutV xs lo hi) := by
  have e : ∀ (n d : Nat) (o : Option Int), cutAt n d o = HT.sIx n d o := fun n d o => by cases o <;> rfl
  unfold cut cutV
  rw [r.length, e, e]
  exact (r.drop _ _ _).take _ _ _
def rSlLA (K : PySem.W.Frag) : V → Option Int → Option Int → Hp → VK → Prop := fun x lo hi H Q => rSlL K x lo hi H Q ∨ rSlA K x lo hi H Q
theorem slice_ok {S : Srcs} {F0 H0 : Hp} {T : List (Addr × D)} {env : Env} {σ : L2.St} {H F : Hp} {d : D} {x : V} {lo hi : Option Int} {o : Od} {Q : VK} (R : Rel (zOf X fa) S F0 H0 T env σ H F) (pk : Pk (zOf X fa) H F d x) (e : slice d lo hi = some o) (h : Post (zOf X fa) S F0 H0 T env σ F o Q) :
    rSlLA X.K x lo hi H Q := by
  cases d with
  | lst ds =>
    cases e
    obtain ⟨a, xs, rfl, ha, ra⟩ := pk
    exact .inl ⟨a, xs, rfl, .of ha, h.lst R (cut_rp ra lo hi)⟩
  | tup ds =>
    cases e
    obtain ⟨a, xs, rfl, ha, hf, ra⟩ := Pk.tup R.sub pk
    refine .inr ⟨a, xs, rfl, .of ha, fun hw => ?_, fun _ => h.tup R (cut_rp ra lo hi)⟩
    have e2 : cutV xs lo hi = xs := by
      unfold cutV
      rw [hw.1, hw.2, List.drop_zero, Nat.sub_zero, List.take_length]
    have rc := cut_rp ra lo hi
    rw [e2] at rc
    exact h.val R ⟨a, xs, rfl, hf, rc⟩
  | _ => cases e
theorem po_ok {ox : Ox} {oe : Option Expr} (h : match ox, oe with | .no, none => True | .so m, some e => PE X e (rdO (zOf X fa) cl m) | _, _ => False) :
    PO X oe (fun σ H Q => ∃ S F0 H0 T env F, Rel (zOf X fa) S F0 H0 T env σ H F ∧ (evX cl ox env).all fun r => ∀ H' F', Rel (zOf X fa) S F0 H0 T r.2 σ H' F' → Le F F' → Q r.1 H') := by
  cases ox with
  | no =>
    cases oe with
    | none =>
      refine ⟨fun pins s σ H Q I q => po_none.run pins s σ H Q I ?_⟩
      obtain ⟨S, F0, H0, T, env, F, R, q⟩ := q
      exact q H F R (Le.refl F)
    | some e => exact h.elim
  | so m =>
    cases oe with
    | none => exact h.elim
    | some e =>
      refine ⟨fun pins s σ H Q I q => (po_some h).run pins s σ H Q I ?_⟩
      obtain ⟨S, F0, H0, T, env, F, R, q⟩ := q
      simp only [evX] at q
      rw [M.all_bind] at q
      refine ⟨S, F0, H0, T, env, F, R, M.all_mono (fun r hr v H' F' R' l qv => ?_) q⟩
      obtain ⟨o, env'⟩ := r
      cases o with
      | vl y =>
        cases y with
        | d y =>
          cases y with
          | int i =>
            simp only at hr
            split at hr
            · exact ⟨i, qv, hr H' F' R' l⟩
            · exact False.elim hr
          | _ => exact False.elim hr
        | _ => exact False.elim hr
      | _ => exact False.elim hr
theorem e_sl {ma : Ex} {a : Expr} {lo hi : Ox} {lo' hi' : Option Expr} {p2 pos : Pos} (ha : PE X a (rdO (zOf X fa) cl ma))
    (h1 : match lo, lo' with | .no, none => True | .so m, some e => PE X e (rdO (zOf X fa) cl m) | _, _ => False) (h2 : match hi, hi' with | .no, none => True | .so m, some e => PE X e (rdO (zOf X fa) cl m) | _, _ => False) :
    PE X (.Subscript a (.Slice lo' hi' none p2) pos) (rdO (zOf X fa) cl (.sl ma lo hi)) := by
  refine PE.imp (pe_slice (SlR.or sl_list sl_tupA) ha (po_ok h1) (po_ok h2)) fun σ H Q h => ?_
  obtain ⟨S, F0, H0, T, env, F, R, h⟩ := h
  simp only [evO] at h
  refine rd_bind R h fun p env1 x H1 F1 R1 l1 q1 g1 => ?_
  obtain ⟨F2, R2, l2, q2, n2⟩ := R1.norm q1
  rw [M.all_bind] at g1
  refine ⟨S, F0, H0, T, env1, F2, R2, M.all_mono (fun r hr H3 F3 R3 l3 => ?_) g1⟩
  rw [M.all_bind] at hr
  refine ⟨S, F0, H0, T, r.2, F3, R3, M.all_mono (fun r2 hr2 H4 F4 R4 l4 => ?_) hr⟩
  have q4 : OdOk (zOf X fa) S H0 T r2.2 σ H4 F4 p.norm x := q2.keep (l3.trans l4) n2
  cases e : p.norm.res r2.2 with
  | none => simp only [e] at hr2; exact False.elim hr2
  | some d =>
    simp only [e] at hr2
    cases e2 : slice d r.1 r2.1 with
    | none => rw [e2] at hr2; exact False.elim hr2
    | some o =>
      rw [e2] at hr2
      exact slice_ok R4 (R4.odPk q4 e) e2 (Post.mono (l2.trans (l3.trans l4)) hr2)
theorem RpAll.rev {F : Hp} {ds : List D} {xs : List V} (r : RpAll Z F ds xs) : RpAll Z F ds.reverse xs.reverse := r.reverse _ _
/-- xs[::-1], xs a list or a tuple -/
theorem e_revL {ma : Ex} {a : Expr} {j : Nat} {p1 p2 p3 pos : Pos} (ha : PE X a (rdO (zOf X fa) cl ma)) : PE X (.Subscript a (.Slice none none (some (.UnaryOp .USub (.Constant (.int 1) j p1) p2)) p3) pos) (rdO (zOf X fa) cl (.rev ma)) := by
  refine PE.imp (pe_revS ha) fun σ H Q h => ?_
  obtain ⟨S, F0, H0, T, env, F, R, h⟩ := h
  simp only [evO] at h
  refine rd_bind R h fun p env1 x H1 F1 R1 l1 q1 h1 => ?_
  obtain ⟨F2, R2, l2, q2, n2⟩ := R1.norm q1
  cases e : p.norm.res env1 with
  | none => simp only [e] at h1; exact False.elim h1
  | some d =>
    have pk := R2.odPk q2 e
    cases d with
    | lst ds =>
      simp only [e] at h1
      obtain ⟨a, xs, rfl, ha, ra⟩ := pk
      exact .inl ⟨a, xs, rfl, .of ha, (Post.mono l2 h1).lst R2 ra.rev⟩
    | tup ds =>
      simp only [e] at h1
      obtain ⟨a, xs, rfl, ha, hf, ra⟩ := Pk.tup R2.sub pk
      exact .inr ⟨a, xs, rfl, .of ha, (Post.mono l2 h1).tup R2 ra.rev⟩
    | _ => simp only [e] at h1; exact False.elim h1
/-! ### built-ins -/
theorem bi_rd {b : Bi} {es : Exs} {r : List V → Hp → VK → Prop} (hb : BiR Z r b) : ∀ σ H Q, rdO Z cl (.bi b es) σ H Q → tCB r (rdOs Z cl es) σ H Q := by
  intro σ H Q h
  obtain ⟨S, F0, H0, T, env, F, R, h⟩ := h
  simp only [evO] at h
  rw [M.all_bind] at h
  refine ⟨S, F0, H0, T, env, F, R, M.all_mono (fun z hz vs H' F' R' l q => ?_) h⟩
  cases e : resAll z.2 z.1 with
  | none => simp only [e] at hz; exact False.elim hz
  | some ds =>
    simp only [e] at hz
    cases e2 : bi b ds with
    | none => rw [e2] at hz; exact False.elim hz
    | some o =>
      rw [e2] at hz
      exact hb R' (q.pks R' _ _ _ e) e2 (Post.mono l hz)
theorem all_cons {e : Expr} {es : List Expr} (h : (e :: es).all (fun e => !isStar e) = true) : isStar e = false ∧ es.all (fun e => !isStar e) = true := by
  rw [List.all_cons, Bool.and_eq_true] at h
  exact ⟨by simpa using h.1, h.2⟩
theorem e_biB {b : Bi} {es : Exs} {e : Expr} {as : List Expr} {x : Str} {id : String} {r : List V → Hp → VK → Prop} {p pos : Pos} (hb : BiR (zOf X fa) r b) (hc : CallR X (.builtin id) r) (hg : Gl X x) (hm : X.mg x = none) (hv : bootBuiltins x = some (.builtin id)) (hn : x ≠ "__name__") (hdb : (x == ("__debug__" : Str)) = false)
    (ha : AllA X fa cl es (e :: as)) (ns : (e :: as).all (fun e => !isStar e) = true) : PE X (.Call (.Name x p) (e :: as) [] pos) (rdO (zOf X fa) cl (.bi b es)) :=
  PE.imp (pe_callB hc hg hm hv (pa_os ha ns) hn hdb (each_plain (all_cons ns).1) (any_plain (all_cons ns).2)) (bi_rd hb)
theorem e_biT {b : Bi} {es : Exs} {e : Expr} {as : List Expr} {x : Str} {T : String} {r : List V → Hp → VK → Prop} {p pos : Pos} (hb : BiR (zOf X fa) r b) (hc : CallR X (.type T) r) (hg : Gl X x) (hm : X.mg x = none) (hv : bootBuiltins x = some (.type T)) (hn : x ≠ "__name__") (hdb : (x == ("__debug__" : Str)) = false)
    (ha : AllA X fa cl es (e :: as)) (ns : (e :: as).all (fun e => !isStar e) = true) : PE X (.Call (.Name x p) (e :: as) [] pos) (rdO (zOf X fa) cl (.bi b es)) :=
  PE.imp (pe_callTy hc hg hm hv (pa_os ha ns) hn hdb (each_plain (all_cons ns).1) (any_plain (all_cons ns).2)) (bi_rd hb)
/-- isinstance(e, T) -/
theorem e_isi {cc : Cl} {m : Ex} {e : Expr} {x y : Str} {p p2 pos : Pos} (hg : Gl X x) (hm : X.mg x = none) (hv : bootBuiltins x = some (.builtin "isinstance")) (hn : x ≠ "__name__") (hdb : (x == ("__debug__" : Str)) = false)
    (hg2 : Gl X y) (hm2 : X.mg y = none) (hv2 : bootBuiltins y = some (.type (clS cc))) (hn2 : y ≠ "__name__") (hdb2 : (y == ("__debug__" : Str)) = false) (ha : EOk X fa cl m e) (ns : isStar e = false) :
    PE X (.Call (.Name x p) [e, .Name y p2] [] pos) (rdO (zOf X fa) cl (.bi (.isi cc) (.cons m .nil))) := by
  have hy : PE X (.Name y p2) (tC (clV cc)) := pe_bltn hg2 hm2 hv2 (by cases cc <;> rfl) hn2 hdb2
  refine PE.imp (pe_callB (r := rIsi X.K) call_isi hg hm hv (pa_cons ha.pe (pa_cons hy pa_nil rfl) (each_plain ns)) hn hdb (each_plain ns) rfl) fun σ H Q h => ?_
  have h := bi_rd (isi_ok (X := X) (fa := fa) cc) σ H Q h
  have h := os_rd_cons σ H _ h
  obtain ⟨S, F0, H0, T, env, F, R, h⟩ := h
  refine ⟨S, F0, H0, T, env, F, R, M.all_mono (fun r hr v H' F' R' l q => ?_) h⟩
  obtain ⟨S2, F02, H02, T2, env2, F2, R2, h2⟩ := hr v H' F' R' l q
  obtain ⟨z, e, h3⟩ := h2 [] H' F2 R2 (Le.refl F2) rfl
  cases e
  exact h3
end
end Bq

set_option Elab.async false
set_option autoImplicit false
set_option linter.all false
set_option maxRecDepth 100000
/-! Expressions, fourth part: dicts of tuples, methods of lists, calls of defs, the draw. -/
namespace Bq
open PySem PySem.Spec PyProof.Rows L2 StX
section
variable {c : Cm} {k : Nat} {sc : Scope} {X : Cx} {fa : Nat → Addr} {cl : Nat → List Vl → M D} {Z : Wd}
/-! ### {} for tuple keys -/
def tDNewN (Z : Wd) : TE := fun _ H Q => ∀ p, H p = none → (p == sysModules) = false → Q (.ref p) (upd H p (dtO Z p []))
theorem pe_dnewN {pos : Pos} : PE X (.Dict [] [] pos) (tDNewN (zOf X fa)) := ⟨fun pins s σ H Q I h => by
  have nm : (s.heap.objs.size == sysModules) = false := beq_eq_false_iff_ne.mpr (Ne.symm (Nat.ne_of_lt I.big))
  refine wpAny_Dict_empty ⟨.ref s.heap.objs.size, _, I.laid (a := s.heap.objs.size) (o := dtO (zOf X fa) s.heap.objs.size []) (t' := s.toks) (fun _ _ q => Heap.get?_push_of_some _ q) (Nat.le_refl _) ?_, rfl, h _ (I.hok.fresh (Nat.le_refl _)) nm⟩
  refine dt_objOk (fa := fa) (K := X.K) (mg := X.mg) ?_
  exact ⟨_, #[], 0, Heap.get?_push_size _ rfl, ⟨rfl, rfl, rfl⟩, rfl, rfl, (fun _ z => by cases z), List.nodup_nil⟩⟩
theorem e_dnewN {pos : Pos} : PE X (.Dict [] [] pos) (rdO (zOf X fa) cl (.dnew true)) := by
  refine PE.imp (pe_dnewN (fa := fa)) fun σ H Q h => ?_
  obtain ⟨S, F0, H0, T, env, F, R, h⟩ := h
  simp only [evO] at h
  intro p hp nm
  obtain ⟨R', o⟩ := R.laid_fr (o := dtO (zOf X fa) p []) (x := .dic true []) hp ⟨[], upd_same, nm, rfl⟩
  exact h _ _ F R' (Le.refl F) o
/-! ### an own list changed -/
theorem Rel.setOwn {S : Srcs} {F0 H0 : Hp} {T : List (Addr × D)} {env : Env} {σ : L2.St} {H F : Hp} {i : Nat} {x x' : D} {p : Addr} {o : HO} (R : Rel Z S F0 H0 T env σ H F) (hi : env[i]? = some (.ow x)) (hp : σ[i]? = some (some (V.ref p))) (ho : OwnObj Z (upd H p o) F p x') :
    Rel Z S F0 H0 T (env.set i (.ow x')) σ (upd H p o) F := by
  obtain ⟨p', hp', a⟩ := R.own i x hi
  rw [hp] at hp'
  cases hp'
  obtain ⟨hd, ⟨l, m, t, hs⟩, ns, hc⟩ := R.src
  have oth : ∀ q y, q ≠ p → OwnAt Z S H0 H F q y → OwnAt Z S H0 (upd H p o) F q y := fun q y n w => w.mono (Le.refl F) (upd_ne n) w.nf
  refine ⟨⟨hd, ⟨l, m, t, by rw [upd_ne a.ns.symm]; exact hs⟩, ns, by rw [upd_ne a.nc.symm]; exact hc⟩, fun b u e => ?_, R.fs, R.fc, fun b u e n1 n2 => ?_, R.f0, R.new, by rw [List.length_set]; exact R.len, fun j y hj => ?_, fun j y hj => ?_, fun q hq => oth _ _ (R.sepT i x p hi hp q hq) (R.tmp q hq), fun j k y z q h1 h2 h3 h4 => ?_, fun j y q h1 h2 => ?_, R.ndT⟩
  · have n : b ≠ p := fun z => by subst z; rw [a.nf] at e; cases e
    rw [upd_ne n]; exact R.sub b u e
  · have n : b ≠ p := fun z => by subst z; rw [a.n0] at e; cases e
    rw [upd_ne n]; exact R.keep b u e n1 n2
  · rcases get_set hj with ⟨_, e, _⟩ | ⟨_, e⟩
    · cases e
    · exact R.slot j y e
  · rcases get_set hj with ⟨rfl, e, _⟩ | ⟨ne, e⟩
    · cases e
      exact ⟨p, hp, ho, a.nf, a.ns, a.nc, a.n0⟩
    · obtain ⟨q, h1, h2⟩ := R.own j y e
      exact ⟨q, h1, oth q y (fun z => ne (R.sep i j x y p hi e hp (by rw [h1, z]))) h2⟩
  · rcases get_set h1 with ⟨rfl, e, _⟩ | ⟨n1, e1⟩
    · rcases get_set h2 with ⟨rfl, e, _⟩ | ⟨n2, e2⟩
      · rfl
      · exact R.sep _ k x z q hi e2 h3 h4
    · rcases get_set h2 with ⟨rfl, e, _⟩ | ⟨n2, e2⟩
      · exact R.sep j _ y x q e1 hi h3 h4
      · exact R.sep j k y z q e1 e2 h3 h4
  · rcases get_set h1 with ⟨rfl, e, _⟩ | ⟨n1, e1⟩
    · exact R.sepT _ x q hi h2
    · exact R.sepT j y q e1 h2
theorem Rel.own_lst {S : Srcs} {F0 H0 : Hp} {T : List (Addr × D)} {env : Env} {σ : L2.St} {H F : Hp} {i : Nat} {ds : List D} (R : Rel Z S F0 H0 T env σ H F) (hi : env[i]? = some (.ow (.lst ds))) :
    ∃ p vs, σ[i]? = some (some (V.ref p)) ∧ H p = some (.lst vs) ∧ RpAll Z F ds vs := by
  obtain ⟨p, h1, a⟩ := R.own i _ hi
  obtain ⟨vs, h2, r⟩ := a.ob
  exact ⟨p, vs, h1, h2, r⟩
theorem fewA {e : Expr} {env : PySem.Env} {cpos : Pos} (ns : isStar e = false) : ((backTo cpos (starEach [e] env)).all (fun x => !x.1) && (backToKw cpos (keywordEach [] env)).all (fun x => x.1.isSome)
      && decide (([e] : List Expr).length + ([] : List Keyword).length + (if ([] : List Keyword).isEmpty then 0 else 1) < 30)) = true := by
  rw [each_plain ns]; rfl
theorem base_name {x name : Str} {p : Pos} {env : PySem.Env} {w : Sem Value} : attributeBase (.Name x p) name env w = w := rfl
/-- xs.pop() -/
theorem e_pop {i : Nat} {x : Str} {p apos cpos : Pos} (C : CxOk c k sc X) (hi : c.N[i]? = some x) (hv : visB sc x = true) (h1 : (x == ("__debug__" : Str)) = false) (h2 : (x == ("__classdict__" : Str)) = false) (hl : (apos.endLine == cpos.line) = true) :
    PE X (.Call (.Attribute (.Name x p) "pop" apos) [] [] cpos) (rdO (zOf X fa) cl (.pop i)) := by
  refine PE.imp (pe_bm0 (T := "list") (r := rPop) PySem.F.plainAttrs_list PySem.F.slot_list_pop PySem.F.type_list_pop mt_pop (pe_var (i := i) (by rw [C.hN]; exact hi) (C.vis hv) h1 h2) rfl hl) fun σ H Q h => ?_
  obtain ⟨S, F0, H0, T, env, F, R, h⟩ := h
  simp only [evO] at h
  cases e : env[i]? with
  | none => rw [e] at h; exact False.elim h
  | some s =>
    rw [e] at h
    cases s with
    | u => exact False.elim h
    | vl y => exact False.elim h
    | ow y =>
      cases y with
      | lst ds =>
        simp only at h
        cases e2 : ds.getLast? with
        | none => rw [e2] at h; exact False.elim h
        | some d =>
          rw [e2] at h
          obtain ⟨q, vs, hs, hq, r⟩ := R.own_lst e
          rw [List.getLast?_eq_getElem?] at e2
          obtain ⟨v, hv', rv⟩ := r.get _ _ _ _ e2
          refine ⟨_, hs, .inl ⟨rfl, vs, .of hq⟩, q, vs, v, rfl, rfl, hq, by rw [r.length]; exact hv', ?_⟩
          exact h v _ F (R.setOwn e hs ⟨_, upd_same, r.dropLast _ _⟩) (Le.refl F) rv
      | _ => exact False.elim h
theorem seqIx {i : Int} {n : Nat} (h0 : 0 ≤ i) (h1 : i < n) : seqIndex? i n = some i.toNat := by
  unfold seqIndex?
  have e : (if i < 0 then i + (n : Int) else i) = i := if_neg (by omega)
  simp only [e]
  rw [if_pos (by simp only [Bool.and_eq_true, decide_eq_true_eq]; exact ⟨h0, h1⟩)]
theorem ownL_some {env : Env} {i : Nat} (h : ownL env i = true) : ∃ ds, env[i]? = some (.ow (.lst ds)) := by
  unfold ownL at h
  split at h
  · rename_i ds e; exact ⟨ds, e⟩
  · cases h
/-- xs.pop(e) -/
theorem e_popAt {i : Nat} {x : Str} {m : Ex} {e : Expr} {p apos cpos : Pos} (C : CxOk c k sc X) (hi : c.N[i]? = some x) (hv : visB sc x = true) (h1 : (x == ("__debug__" : Str)) = false) (h2 : (x == ("__classdict__" : Str)) = false) (hl : (apos.endLine == cpos.line) = true)
    (he : PE X e (rdO (zOf X fa) cl m)) (ns : isStar e = false) : PE X (.Call (.Attribute (.Name x p) "pop" apos) [e] [] cpos) (rdO (zOf X fa) cl (.popAt i m)) := by
  refine PE.imp (pe_bm (T := "list") (r := rPopAt) PySem.F.plainAttrs_list PySem.F.slot_list_pop PySem.F.type_list_pop mt_popAt (pe_var (i := i) (by rw [C.hN]; exact hi) (C.vis hv) h1 h2) (pa_cons he pa_nil (each_plain ns)) rfl (fewA ns) hl (each_plain ns) rfl) fun σ H Q h => ?_
  obtain ⟨S, F0, H0, T, env, F, R, h⟩ := h
  simp only [evO] at h
  split at h
  · rename_i ho
    obtain ⟨ds, e0⟩ := ownL_some ho
    obtain ⟨q, vs, hs, hq, r⟩ := R.own_lst e0
    refine ⟨_, hs, .inl ⟨rfl, vs, .of hq⟩, ?_⟩
    refine rd_bind R h fun o env1 y H1 F1 R1 l1 q1 g1 => ?_
    show rPopAt (.ref q) [y] H1 Q
    cases o with
    | vl z =>
      cases z with
      | d z =>
        cases z with
        | int j =>
          cases (show y = V.int j from q1)
          simp only at g1
          cases e1 : env1[i]? with
          | none => rw [e1] at g1; exact False.elim g1
          | some s =>
            rw [e1] at g1
            cases s with
            | u => exact False.elim g1
            | vl y => exact False.elim g1
            | ow y =>
              cases y with
              | lst ds =>
                simp only at g1
                split at g1
                · rename_i hj
                  cases e2 : ds[j.toNat]? with
                  | none => rw [e2] at g1; exact False.elim g1
                  | some d =>
                    rw [e2] at g1
                    obtain ⟨q', vs', hs', hq', r'⟩ := R1.own_lst e1
                    rw [hs] at hs'
                    cases hs'
                    obtain ⟨v, hv', rv⟩ := r'.get _ _ _ _ e2
                    have hlt : j.toNat < vs'.length := by rw [List.getElem?_eq_some_iff] at hv'; exact hv'.1
                    refine ⟨q, vs', j, j.toNat, v, rfl, rfl, hq', by omega, by omega, seqIx hj.1 (by omega), hv', ?_⟩
                    exact g1 v _ F1 (R1.setOwn e1 hs ⟨_, upd_same, r'.erase _ _ _⟩) (Le.refl F1) rv
                · exact False.elim g1
              | _ => exact False.elim g1
        | _ => exact False.elim g1
      | _ => exact False.elim g1
    | _ => exact False.elim g1
  · exact False.elim h
/-! ### calls -/
/-- the state behind a call -/
theorem Rel.called {S : Srcs} {F0 H0 : Hp} {T : List (Addr × D)} {env : Env} {σ : L2.St} {H F H' F' : Hp} (R : Rel Z S F0 H0 T env σ H F) (hs : SrcOk H' S) (hF : Le F F') (sub : Le F' H') (hn : ∀ a, H a ≠ none → F a = none → F' a = none)
    (hk : ∀ a o, H a = some o → a ≠ S.s → a ≠ S.c → H' a = some o) : Rel Z S F0 H0 T env σ H' F' := by
  obtain ⟨hd, ⟨l, m, t, h1⟩, ns, h2⟩ := R.src
  have ow : ∀ p x, OwnAt Z S H0 H F p x → OwnAt Z S H0 H' F' p x := fun p x q => by
    obtain ⟨o, e⟩ := q.ob.some
    exact ⟨q.ob.mono hF ((hk p o e q.ns q.nc).trans e.symm), hn p (by rw [e]; simp) q.nf, q.ns, q.nc, q.n0⟩
  have s0 : F' S.s = none := hn _ (by rw [h1]; simp) R.fs
  have c0 : F' S.c = none := hn _ (by rw [h2]; simp) R.fc
  refine ⟨hs, sub, s0, c0, fun a o e n1 n2 => hk a o (R.keep a o e n1 n2) n1 n2, R.f0.trans hF, fun a n1 n2 => ?_, R.len, fun i x e => ?_, fun i x e => ?_, fun q hq => ow _ _ (R.tmp q hq), R.sep, R.sepT, R.ndT⟩
  · by_cases e1 : a = S.s
    · rw [e1]; exact s0
    by_cases e2 : a = S.c
    · rw [e2]; exact c0
    cases e : H0 a with
    | none => exact absurd e n1
    | some o => exact hn a (by rw [R.keep a o e e1 e2]; simp) (R.new a n1 n2)
  · obtain ⟨v, h1, h2⟩ := R.slot i x e
    exact ⟨v, h1, h2.mono hF⟩
  · obtain ⟨p, h1, h2⟩ := R.own i x e
    exact ⟨p, h1, ow p x h2⟩
abbrev SpG := List V → Hp → VK → Prop
/-- what a def promises: what the evaluator says of the data that the arguments are -/
def spF (Z : Wd) (clg : List Vl → M D) : SpG := fun vs H Q => ∃ S F as, SrcOk H S ∧ Le F H ∧ F S.s = none ∧ F S.c = none ∧ RpVs Z S F as vs ∧
  (clg as).all fun d => ∀ v H' F', SrcOk H' S → Le F F' → Le F' H' → (∀ a, H a ≠ none → F a = none → F' a = none) → (∀ a o, H a = some o → a ≠ S.s → a ≠ S.c → H' a = some o) → Rp Z F' d v → Q v H'
/-- the draw of a number below n -/
def spPick : SpG := fun vs H Q => ∃ (S : Srcs) (n : Int), SrcOk H S ∧ vs = [.ref S.s, .int n] ∧ n < 1000000000 ∧
  ∀ (r : Int) (H' : Hp), SrcOk H' S → (if n < 2 then r = 0 else 0 ≤ r ∧ r < n) → (∀ a o, H a = some o → a ≠ S.s → a ≠ S.c → H' a = some o) → Q (.int r) H'
def FnG (Z : Wd) (base : Heap) (k : Nat) (f : Addr) (sp : SpG) : Prop :=
  ∀ (A : Around) (outer : List PySem.Env) (s : Shared) (H : Hp) (us : List Value) (vs : List V) (Q : VK), Room k A → A.guards = some [] → Env0 Z.P Z.w Z.K Z.mg base A outer s H → Vals vs us → sp vs H Q →
    codeAny (model Z.P Z.w) A (.call (.ref f) ⟨us, []⟩) (fun r s' => match r with | .ok (.ret u) => CE outer Z.P Z.w H s Q u s' | _ => False) s
/-- the callee runs -/
theorem run_fnG {f : Addr} {sp : SpG} {pins : List (Addr × Obj)} {σ : L2.St} {H : Hp} {s : Shared} {Q : VK} {us : List Value} {vs : List V} (G : FnG (zOf X fa) X.base k f sp) (C : CxOk c k sc X) (I : Inv X pins σ H s) (r : Vals vs us) (h : sp vs H Q) :
    wpAny (model X.prog X.w) X.A (call (.ref f) us) (EP X pins σ Q) X.xe s := by
  refine wpAny_call (codeAny_mono (G X.A X.stack s H us vs Q C.room C.gds I.env0 r h) fun r s' hq => ?_)
  cases r with
  | error e => exact hq.elim
  | ok fl =>
    cases fl with
    | ret u => exact I.after hq
    | next => exact False.elim hq
    | brk => exact False.elim hq
    | cont => exact False.elim hq
theorem pe_callG {f : Addr} {sp : SpG} {x : Str} {e : Expr} {es : List Expr} {t : TA} {p pos : Pos} (G : FnG (zOf X fa) X.base k f sp) (C : CxOk c k sc X) (hg : Gl X x) (hm : X.mg x = some (.ref f)) (hk : PySem.W.keepIn X.K (.ref f) = true)
    (ha : PA X (e :: es) t) (hdb : (x == ("__debug__" : Str)) = false) (ns : (e :: es).all (fun e => !isStar e) = true) : PE X (.Call (.Name x p) (e :: es) [] pos) (fun σ H Q => t σ H fun vs H1 => sp vs H1 Q) := by
  refine ⟨fun pins s σ H Q I h => ?_⟩
  refine wpAny_Call_Name_kw (ld_glob I hg hm ?_ hdb)
  refine PySem.W.callWith_K (h₀ := X.base) I.ok.mod.kin hk (thn (ha.run pos pins s σ H _ I h) fun us s1 ⟨vs, H1, I1, r, q⟩ => ⟨I1.kIn, ?_⟩) (each_plain (all_cons ns).1) (any_plain (all_cons ns).2)
  exact run_fnG G C I1 r q
theorem pe_callG0 {f : Addr} {sp : SpG} {x : Str} {p pos : Pos} (G : FnG (zOf X fa) X.base k f sp) (C : CxOk c k sc X) (hg : Gl X x) (hm : X.mg x = some (.ref f)) (hk : PySem.W.keepIn X.K (.ref f) = true)
    (hdb : (x == ("__debug__" : Str)) = false) : PE X (.Call (.Name x p) [] [] pos) (fun σ H Q => tNil σ H fun vs H1 => sp vs H1 Q) := by
  refine ⟨fun pins s σ H Q I h => ?_⟩
  refine wpAny_Call_Name_kw (ld_glob I hg hm ?_ hdb)
  exact PySem.W.callWith_K0 I.kIn hk (run_fnG (us := []) G C I .nil h)
theorem call_rd {g : Nat} {es : Exs} : ∀ σ H Q, rdO Z cl (.call g es) σ H Q → rdVs Z cl es σ H fun vs H1 => spF Z (cl g) vs H1 Q := by
  intro σ H Q h
  obtain ⟨S, F0, H0, T, env, F, R, h⟩ := h
  simp only [evO] at h
  rw [M.all_bind] at h
  refine ⟨S, F0, H0, T, env, F, R, M.all_mono (fun z hz vs H' F' R' l q => ?_) h⟩
  rw [M.all_bind] at hz
  refine ⟨S, F', z.1, R'.src, R'.sub, R'.fs, R'.fc, q, M.all_mono (fun d hd v H2 F2 s2 l2 sub2 n2 k2 rd => ?_) hz⟩
  exact hd v H2 F2 (R'.called s2 l2 sub2 n2 k2) (l.trans l2) rd
theorem e_call {g : Nat} {f : Addr} {x : Str} {es : Exs} {as : List Expr} {p pos : Pos} (G : FnG (zOf X fa) X.base k f (spF (zOf X fa) (cl g))) (C : CxOk c k sc X) (hg : Gl X x) (hm : X.mg x = some (.ref f)) (hk : PySem.W.keepIn X.K (.ref f) = true) (hdb : (x == ("__debug__" : Str)) = false)
    (ha : AllA X fa cl es as) (ns : as.all (fun e => !isStar e) = true) : PE X (.Call (.Name x p) as [] pos) (rdO (zOf X fa) cl (.call g es)) := by
  cases as with
  | nil =>
    refine PE.imp (pe_callG0 G C hg hm hk hdb) fun σ H Q h => ?_
    have h := call_rd σ H Q h
    cases es with
    | nil =>
      obtain ⟨S, F0, H0, T, env, F, R, h⟩ := h
      exact h [] H F R (Le.refl F) rfl
    | cons m r => obtain ⟨a, as', e, _⟩ := ha; cases e
    | star m r => obtain ⟨a, p, as', e, _⟩ := ha; cases e
  | cons a as => exact PE.imp (pe_callG G C hg hm hk (pa_vs ha) hdb ns) call_rd
/-- .. with stars behind the first argument -/
theorem e_callS {g : Nat} {f : Addr} {x : Str} {es : Exs} {a : Expr} {as : List Expr} {p pos : Pos} (G : FnG (zOf X fa) X.base k f (spF (zOf X fa) (cl g))) (C : CxOk c k sc X) (hg : Gl X x) (hm : X.mg x = some (.ref f)) (hk : PySem.W.keepIn X.K (.ref f) = true) (hdb : (x == ("__debug__" : Str)) = false)
    (ha : AllA X fa cl es (a :: as)) (n1 : isStar a = false) (ns : (backTo pos (starEach as X.env)).any (·.1) = true) : PE X (.Call (.Name x p) (a :: as) [] pos) (rdO (zOf X fa) cl (.call g es)) := by
  refine PE.imp (t := fun σ H Q => rdVs (zOf X fa) cl es σ H fun vs H1 => spF (zOf X fa) (cl g) vs H1 Q) ⟨fun pins s σ H Q I h => ?_⟩ call_rd
  refine wpAny_Call_Name_kw (ld_glob I hg hm ?_ hdb)
  refine PySem.W.callWith_S2 (h₀ := X.base) I.ok.mod.kin hk (thn ((pa_vs ha).run pos pins s σ H _ I h) fun us s1 ⟨vs, H1, I1, r, q⟩ => ⟨I1.kIn, ?_⟩) (each_plain n1) ns
  exact run_fnG G C I1 r q
/-- v(e, ..), v a name that holds a def -/
theorem e_callv {i : Nat} {x : Str} {es : Exs} {a : Expr} {as : List Expr} {p pos : Pos} (G : ∀ g, PySem.W.keepIn X.K (.ref (fa g)) = true ∧ FnG (zOf X fa) X.base k (fa g) (spF (zOf X fa) (cl g))) (C : CxOk c k sc X) (hi : c.N[i]? = some x) (hv : visB sc x = true) (h1 : (x == ("__debug__" : Str)) = false) (h2 : (x == ("__classdict__" : Str)) = false)
    (ha : AllA X fa cl es (a :: as)) (ns : (a :: as).all (fun e => !isStar e) = true) : PE X (.Call (.Name x p) (a :: as) [] pos) (rdO (zOf X fa) cl (.callv i es)) := by
  refine ⟨fun pins s σ H Q I h => ?_⟩
  obtain ⟨S, F0, H0, T, env, F, R, h⟩ := h
  simp only [evO] at h
  cases e : env[i]? with
  | none => rw [e] at h; exact False.elim h
  | some sl =>
    rw [e] at h
    cases sl with
    | u => exact False.elim h
    | ow y => exact False.elim h
    | vl y =>
      cases y with
      | d y => exact False.elim h
      | src => exact False.elim h
      | fn g =>
        simp only at h
        obtain ⟨v, hs, rv⟩ := R.slot i _ e
        cases (show v = V.ref (fa g) from rv)
        have hcall : rdVs (zOf X fa) cl es σ H fun vs H1 => spF (zOf X fa) (cl g) vs H1 Q := call_rd (g := g) (es := es) σ H Q ⟨S, F0, H0, T, env, F, R, by simp only [evO]; exact h⟩
        refine wpAny_Call_Name_kw (thn ((pe_var (pos := p) (i := i) (by rw [C.hN]; exact hi) (C.vis hv) h1 h2).run pins s σ H (fun v H1 => v = .ref (fa g) ∧ H1 = H) I ⟨.ref (fa g), hs, rfl, rfl⟩) fun u s1 ⟨v, H1, I1, r1, ev, eH⟩ => ?_)
        subst ev
        rw [eH] at I1
        cases r1
        obtain ⟨hk, G⟩ := G g
        refine PySem.W.callWith_K (h₀ := X.base) I.ok.mod.kin hk (thn ((pa_vs ha).run pos pins s1 σ H _ I1 hcall) fun us s2 ⟨vs, H2, I2, r, q⟩ => ⟨I2.kIn, ?_⟩) (each_plain (all_cons ns).1) (any_plain (all_cons ns).2)
        exact run_fnG G C I2 r q
theorem e_pick {i : Nat} {y : Str} {f : Addr} {m : Ex} {e : Expr} {x : Str} {p p2 pos : Pos} (G : FnG (zOf X fa) X.base k f spPick) (C : CxOk c k sc X) (hg : Gl X x) (hm : X.mg x = some (.ref f)) (hk : PySem.W.keepIn X.K (.ref f) = true) (hdb : (x == ("__debug__" : Str)) = false)
    (hi : c.N[i]? = some y) (hv : visB sc y = true) (h1 : (y == ("__debug__" : Str)) = false) (h2 : (y == ("__classdict__" : Str)) = false) (he : EOk X fa cl m e) (ns : isStar e = false) : PE X (.Call (.Name x p) [.Name y p2, e] [] pos) (rdO (zOf X fa) cl (.pick i m)) := by
  refine PE.imp (pe_callG G C hg hm hk (pa_cons (pe_var (i := i) (by rw [C.hN]; exact hi) (C.vis hv) h1 h2) (pa_cons he.pe pa_nil (each_plain ns)) rfl) hdb (by show (!false && (!isStar e && true)) = true; rw [ns]; rfl)) fun σ H Q h => ?_
  obtain ⟨S, F0, H0, T, env, F, R, h⟩ := h
  simp only [evO] at h
  cases e : env[i]? with
  | none => rw [e] at h; exact False.elim h
  | some sl =>
    rw [e] at h
    cases sl with
    | u => exact False.elim h
    | ow y => exact False.elim h
    | vl y =>
      cases y with
      | d y => exact False.elim h
      | fn y => exact False.elim h
      | src =>
        simp only at h
        obtain ⟨v, hs, rv⟩ := R.slot i _ e
        cases (show v = V.ref S.s from rv)
        refine ⟨.ref S.s, hs, ?_⟩
        refine rd_bind R h fun o env1 y H1 F1 R1 l1 q1 g1 => ?_
        show spPick [.ref S.s, y] H1 Q
        cases o with
        | vl z =>
          cases z with
          | d z =>
            cases z with
            | int n =>
              cases (show y = V.int n from q1)
              have nu : ∀ {a : Addr} {o : HO}, F1 a = some o → a ≠ S.s ∧ a ≠ S.c := fun {a o} ha => ⟨fun z => (by subst z; rw [R1.fs] at ha; cases ha), fun z => (by subst z; rw [R1.fc] at ha; cases ha)⟩
              have hcl : ∀ H' : Hp, SrcOk H' S → (∀ a o, H1 a = some o → a ≠ S.s → a ≠ S.c → H' a = some o) → Rel (zOf X fa) S F0 H0 T env1 σ H' F1 := fun H' s' hk => R1.called s' (Le.refl F1) (fun a o ha => hk a o (R1.sub a o ha) (nu ha).1 (nu ha).2) (fun a _ h => h) hk
              simp only at g1
              split at g1
              · rename_i hn
                refine ⟨S, n, R1.src, rfl, by omega, fun r H' s' hr hk => ?_⟩
                rw [if_pos hn] at hr
                subst hr
                exact g1 _ H' F1 (hcl H' s' hk) (Le.refl F1) rfl
              · rename_i hn
                split at g1
                · rename_i hb
                  refine ⟨S, n, R1.src, rfl, (by omega), fun r H' s' hr hk => ?_⟩
                  rw [if_neg hn] at hr
                  exact g1 r hr.1 hr.2 _ H' F1 (hcl H' s' hk) (Le.refl F1) rfl
                · exact False.elim g1
            | _ => exact False.elim g1
          | _ => exact False.elim g1
        | _ => exact False.elim g1
end
end Bq

set_option Elab.async false
set_option autoImplicit false
set_option linter.all false
set_option maxRecDepth 100000
/-! len(set(t)) of a tuple of ints. -/
namespace Bq
open PySem PySem.Spec PyProof.Rows L2 StX
/-! ### how many unlike numbers -/
theorem mem_erd (l : List Int) (k : Int) : k ∈ l.eraseDups ↔ k ∈ l := by simp
theorem nodup_erd (l : List Int) : l.eraseDups.Nodup := by
  induction h : l.length using Nat.strongRecOn generalizing l with
  | ind n ih =>
    cases l with
    | nil => simp [List.eraseDups]
    | cons a r =>
      rw [List.eraseDups_cons, List.nodup_cons]
      refine ⟨fun hm => ?_, ih _ (by
        have := List.length_filter_le (fun b => !b == a) r
        simp only [List.length_cons] at h
        omega) _ rfl⟩
      rw [mem_erd, List.mem_filter] at hm
      simp at hm
def rLenSet (K : PySem.W.Frag) : List V → Hp → VK → Prop := fun vs H Q => ∃ x, vs = [x] ∧ ∃ (l : Addr) (ns : List Int), x = .ref l ∧ SqT K H l (ns.map V.int) ∧ ns.length ≤ 1000 ∧ Q (.int (ns.eraseDups.length : Nat)) H
def tLenSetT (K : PySem.W.Frag) (ta : TE) : TE := fun σ H Q => ta σ H fun x H1 => rLenSet K [x] H1 Q
theorem pe_lenSetT {X : Cx} {a : Expr} {ta : TE} {p p2 q pos : Pos} (hg : Gl X "len") (hm : X.mg "len" = none) (hg2 : Gl X "set") (hm2 : X.mg "set" = none) (ha : PE X a ta) (hc : X.calm = true)
    (na : starEach [a] X.env = (false, eval a X.env) :: starEach [] X.env) : PE X (.Call (.Name "len" p) [.Call (.Name "set" p2) [a] [] q] [] pos) (tLenSetT X.K ta) := by
  refine ⟨fun pins s σ H Q I h => ?_⟩
  refine Call_ (ld_blt I hg hm PySem.boot_len ?_)
  refine PyProof.Rows.callWith_builtin1 (PyProof.Rows.args_cons ?_ rfl) rfl rfl
  refine Call_ (ld_blt I hg2 hm2 PyProof.Rows.boot_set ?_)
  refine PyProof.Rows.callWith_type1 (PyProof.Rows.args_cons (thn (ha.run pins s σ H _ I h) fun v s1 ⟨x, H1, I1, r1, q1⟩ => PyProof.Rows.args_nil ?_) na) na rfl
  obtain ⟨x', ex, l, ns, rfl, hq, hl, q1⟩ := q1
  cases ex
  cases r1
  obtain ⟨its, r, pl, hz⟩ := I1.tuple hq
  refine call_set_tupI ns (I1.ok.hd hc) pl (by simpa using ints_of_vals r) (by unfold scanBound; omega) fun h' tk c hS hcl hk => ?_
  refine PyProof.Rows.args_nil ?_
  obtain ⟨o, es, ep, t, ho, hex, hd, _, hnd, hmem, _, hf, hn, _, _⟩ := hS
  have I2 : Inv X pins σ H1 { s1 with heap := h', toks := tk } := I1.kept fun b o e => hk b o e
  have hlen : c = ns.eraseDups.length := by
    have hp : (es.toList.map keyOf).Perm ns.eraseDups := by
      rw [List.perm_ext_iff_of_nodup hnd (nodup_erd ns)]
      intro k
      rw [← hmem k, mem_erd, decide_eq_true_iff]
    have := hp.length_eq
    rw [List.length_map, Array.length_toList] at this
    omega
  exact call_len_set ho hex hd hf (by rw [hn]; omega) ⟨.int c, H1, I2.tok _, ⟨_, by rw [hn]⟩, by rw [hlen]; exact q1⟩
section
variable {X : Cx} {fa : Nat → Addr} {cl : Nat → List Vl → M D} {c : Cm} {k : Nat} {sc : Scope}
theorem lenset_ok : BiR (zOf X fa) (rLenSet X.K) .lenset := by
  intro S F0 H0 T env σ H F ds vs o Q R ps e h
  match ds, ps, e with
  | [.tup xs], ps, e =>
    have e : ((toInts xs).bind fun ns => if ns.length ≤ 1000 then some (Od.int ns.eraseDups.length) else none) = some o := e
    obtain ⟨ns, e1, e2⟩ := Option.bind_eq_some_iff.mp e
    split at e2
    · rename_i hl
      cases e2
      obtain ⟨v, rfl, p⟩ := pk1 ps
      obtain ⟨a, ys, rfl, ha, _, r⟩ := Pk.tup R.sub p
      cases r.ints _ _ _ e1
      exact ⟨_, rfl, a, ns, rfl, .of ha, hl, h.int R⟩
    · cases e2
theorem e_lenset {m : Ex} {e : Expr} {p p2 q pos : Pos} (C : CxOk c k sc X) (hg : Gl X "len") (hm : X.mg "len" = none) (hg2 : Gl X "set") (hm2 : X.mg "set" = none) (ha : EOk X fa cl m e) (ns : isStar e = false) :
    PE X (.Call (.Name "len" p) [.Call (.Name "set" p2) [e] [] q] [] pos) (rdO (zOf X fa) cl (.bi .lenset (.cons m .nil))) := by
  refine PE.imp (pe_lenSetT hg hm hg2 hm2 ha.pe C.calm (each_plain ns)) fun σ H Q h => ?_
  have h := bi_rd (lenset_ok (X := X) (fa := fa)) σ H Q h
  have h := os_rd_cons σ H _ h
  obtain ⟨S, F0, H0, T, env, F, R, h⟩ := h
  refine ⟨S, F0, H0, T, env, F, R, M.all_mono (fun r hr v H' F' R' l q => ?_) h⟩
  obtain ⟨S2, F02, H02, T2, env2, F2, R2, h2⟩ := hr v H' F' R' l q
  exact h2 [] H' F2 R2 (Le.refl F2) rfl
end
end Bq

set_option Elab.async false
set_option autoImplicit false
set_option linter.all false
set_option maxRecDepth 100000
/-! Targets, iteration, comprehensions. -/
namespace Bq
open PySem PySem.Spec PyProof.Rows L2 StX
/-! ### targets -/
mutual
def tgNames : Tg → List Nat
  | .nm i => [i]
  | .tp ts => tgsNames ts
def tgsNames : List Tg → List Nat
  | [] => []
  | t :: ts => tgNames t ++ tgsNames ts
end
/-- the same slots but for some -/
def SameBut (is : List Nat) (σ σ' : L2.St) : Prop := σ'.length = σ.length ∧ ∀ j, j ∉ is → σ'[j]? = σ[j]?
def rdG (Z : Wd) (g : Tg) : TG := fun x σ H Q => ∃ S F0 H0 T env F d env', Rel Z S F0 H0 T env σ H F ∧ Rp Z F d x ∧ asgTg g d env = some env' ∧ ∀ σ', SameBut (tgNames g) σ σ' → Rel Z S F0 H0 T env' σ' H F → Q σ' H
def rdGs (Z : Wd) (gs : List Tg) : TGs := fun xs σ H Q => ∃ S F0 H0 T env F ds env', Rel Z S F0 H0 T env σ H F ∧ RpAll Z F ds xs ∧ asgTgs gs ds env = some env' ∧ ∀ σ', SameBut (tgsNames gs) σ σ' → Rel Z S F0 H0 T env' σ' H F → Q σ' H
section
variable {Z : Wd} {S : Srcs} {F0 H0 : Hp} {T : List (Addr × D)} {env : Env} {σ : L2.St} {H F : Hp}
theorem Rel.setVl {i : Nat} {x : Vl} {v : V} (R : Rel Z S F0 H0 T env σ H F) (q : RpV Z S F x v) : Rel Z S F0 H0 T (env.set i (.vl x)) (σ.set i (some v)) H F := by
  refine ⟨R.src, R.sub, R.fs, R.fc, R.keep, R.f0, R.new, by rw [List.length_set, List.length_set]; exact R.len, fun j y hj => ?_, fun j y hj => ?_, R.tmp, fun j k y z p h1 h2 h3 h4 => ?_, fun j y p h1 h2 => ?_, R.ndT⟩
  · rcases get_set hj with ⟨rfl, e, hl⟩ | ⟨n, e⟩
    · cases e
      exact ⟨v, by rw [List.getElem?_set_self (by rw [← R.len]; exact hl)], q⟩
    · rw [List.getElem?_set_ne n]; exact R.slot j y e
  · rcases get_set hj with ⟨rfl, e, hl⟩ | ⟨n, e⟩
    · cases e
    · rw [List.getElem?_set_ne n]; exact R.own j y e
  · rcases get_set h1 with ⟨_, e, _⟩ | ⟨n1, e1⟩
    · cases e
    · rcases get_set h2 with ⟨_, e, _⟩ | ⟨n2, e2⟩
      · cases e
      · rw [List.getElem?_set_ne n1] at h3
        rw [List.getElem?_set_ne n2] at h4
        exact R.sep j k y z p e1 e2 h3 h4
  · rcases get_set h1 with ⟨_, e, _⟩ | ⟨n1, e1⟩
    · cases e
    · rw [List.getElem?_set_ne n1] at h2
      exact R.sepT j y p e1 h2
/-- a name takes what was just made -/
theorem Rel.setFr {i : Nat} {x : D} {p : Addr} (R : Rel Z S F0 H0 T env σ H F) (a : OwnAt Z S H0 H F p x) (al : Alone T env σ p) : Rel Z S F0 H0 T (env.set i (.ow x)) (σ.set i (some (V.ref p))) H F := by
  have no : ∀ {j : Nat} {y : D}, i ≠ j → env[j]? = some (Sl.ow y) → σ[j]? ≠ some (some (V.ref p)) := fun {j y} _ e => al.1 j y e
  refine ⟨R.src, R.sub, R.fs, R.fc, R.keep, R.f0, R.new, by rw [List.length_set, List.length_set]; exact R.len, fun j y hj => ?_, fun j y hj => ?_, R.tmp, fun j k y z q h1 h2 h3 h4 => ?_, fun j y q h1 h2 => ?_, R.ndT⟩
  · rcases get_set hj with ⟨rfl, e, hl⟩ | ⟨n, e⟩
    · cases e
    · rw [List.getElem?_set_ne n]; exact R.slot j y e
  · rcases get_set hj with ⟨rfl, e, hl⟩ | ⟨n, e⟩
    · cases e
      exact ⟨p, by rw [List.getElem?_set_self (by rw [← R.len]; exact hl)], a⟩
    · rw [List.getElem?_set_ne n]; exact R.own j y e
  · rcases get_set h1 with ⟨rfl, e, hl⟩ | ⟨n1, e1⟩
    · rcases get_set h2 with ⟨rfl, _, _⟩ | ⟨n2, e2⟩
      · rfl
      · rw [List.getElem?_set_self (by rw [← R.len]; exact hl)] at h3
        cases h3
        rw [List.getElem?_set_ne n2] at h4
        exact absurd h4 (no n2 e2)
    · rw [List.getElem?_set_ne n1] at h3
      rcases get_set h2 with ⟨rfl, _, hl⟩ | ⟨n2, e2⟩
      · rw [List.getElem?_set_self (by rw [← R.len]; exact hl)] at h4
        cases h4
        exact absurd h3 (no n1 e1)
      · rw [List.getElem?_set_ne n2] at h4
        exact R.sep j k y z q e1 e2 h3 h4
  · rcases get_set h1 with ⟨rfl, e, hl⟩ | ⟨n1, e1⟩
    · rw [List.getElem?_set_self (by rw [← R.len]; exact hl)] at h2
      cases h2
      exact al.2
    · rw [List.getElem?_set_ne n1] at h2
      exact R.sepT j y q e1 h2
end
section
variable {c : Cm} {k : Nat} {sc : Scope} {X : Cx} {fa : Nat → Addr} {cl : Nat → List Vl → M D} {Z : Wd}
theorem SameBut.refl (is : List Nat) (σ : L2.St) : SameBut is σ σ := ⟨rfl, fun _ _ => rfl⟩
theorem SameBut.trans {is js : List Nat} {σ σ' σ'' : L2.St} (h : SameBut is σ σ') (h' : SameBut js σ' σ'') : SameBut (is ++ js) σ σ'' :=
  ⟨h'.1.trans h.1, fun j n => (h'.2 j fun m => n (List.mem_append_right _ m)).trans (h.2 j fun m => n (List.mem_append_left _ m))⟩
theorem SameBut.mono {is js : List Nat} {σ σ' : L2.St} (h : SameBut is σ σ') (s : ∀ i ∈ is, i ∈ js) : SameBut js σ σ' := ⟨h.1, fun j n => h.2 j fun m => n (s j m)⟩
theorem g_nm {i : Nat} {x : Str} {pos : Pos} (C : CxOk c k sc X) (hi : c.N[i]? = some x) (hx : locB sc x = true) : PG X (.Name x pos) (rdG (zOf X fa) (.nm i)) := by
  obtain ⟨l, f⟩ := C.loc hx
  refine ⟨fun pins s σ H v u Q I r h => (pg_name C.nd (by rw [C.hN]; exact hi) l f).run pins s σ H v u Q I r ?_⟩
  obtain ⟨S, F0, H0, T, env, F, d, env', R, rd, e, h⟩ := h
  have e' : env.set i (.vl (.d d)) = env' := by simpa [asgTg] using e
  subst e'
  refine h _ ⟨List.length_set .., fun j n => ?_⟩ (R.setVl rd)
  rw [List.getElem?_set_ne]
  intro z; subst z; exact n (by simp [tgNames])
theorem pg_seq {es : List Expr} {kk : Nat} {t : TGs} {n : Nat} {pos : Pos} (hc : X.calm = true) (h : PGs X es t) (hn : (assignEach es X.env).length = n) (hst : (assignEach es X.env).findIdx? (·.1) = none) :
    PG X (.Tuple es kk pos) (fun v σ H Q => gTup X.K n t v σ H Q ∨ gLst X.K n t v σ H Q) := ⟨fun pins s σ H v u Q I r q => q.elim (fun q => (pg_tup hc h hn hst).run pins s σ H v u Q I r q) fun q => (pg_lst hc h hn hst).run pins s σ H v u Q I r q⟩
theorem as_plain {e : Expr} {es : List Expr} {env : PySem.Env} (h : isStar e = false) : assignEach (e :: es) env = (false, assign e env) :: assignEach es env := by
  cases e <;> first | rfl | cases h
theorem as_all {env : PySem.Env} : ∀ {es : List Expr}, es.all (fun e => !isStar e) = true → (assignEach es env).length = es.length ∧ (assignEach es env).findIdx? (·.1) = none
  | [], _ => ⟨rfl, rfl⟩
  | e :: es, h => by
    obtain ⟨h1, h2⟩ := as_all (env := env) (all_cons h).2
    rw [as_plain (all_cons h).1]
    refine ⟨by rw [List.length_cons, List.length_cons, h1], ?_⟩
    rw [List.findIdx?_cons]
    simp [h2]
theorem asg_len : ∀ (gs : List Tg) (ds : List D) (env env' : Env), asgTgs gs ds env = some env' → gs.length = ds.length
  | [], [], _, _, _ => rfl
  | [], _ :: _, _, _, h => by simp [asgTgs] at h
  | _ :: _, [], _, _, h => by simp [asgTgs] at h
  | g :: gs, d :: ds, env, env', h => by
    simp only [asgTgs] at h
    cases e : asgTg g d env with
    | none => rw [e] at h; cases h
    | some e1 => rw [e] at h; rw [List.length_cons, List.length_cons, asg_len gs ds e1 env' h]
theorem g_tp {gs : List Tg} {es : List Expr} {kk : Nat} {pos : Pos} (C : CxOk c k sc X) (h : PGs X es (rdGs (zOf X fa) gs)) (hl : es.length = gs.length) (ns : es.all (fun e => !isStar e) = true) : PG X (.Tuple es kk pos) (rdG (zOf X fa) (.tp gs)) := by
  refine ⟨fun pins s σ H v u Q I r q => (pg_seq C.calm h (as_all ns).1 (as_all ns).2).run pins s σ H v u Q I r ?_⟩
  obtain ⟨S, F0, H0, T, env, F, d, env', R, rd, e, q⟩ := q
  cases d with
  | tup ds =>
    have e : asgTgs gs ds env = some env' := e
    obtain ⟨a, xs, rfl, hf, ra⟩ := rd
    exact .inl ⟨a, xs, rfl, .of (R.sub _ _ hf), by rw [ra.length, hl, asg_len _ _ _ _ e], S, F0, H0, T, env, F, ds, env', R, ra, e, q⟩
  | lst ds =>
    have e : asgTgs gs ds env = some env' := e
    obtain ⟨a, xs, rfl, hf, ra⟩ := rd
    exact .inr ⟨a, xs, rfl, .of (R.sub _ _ hf), by rw [ra.length, hl, asg_len _ _ _ _ e], S, F0, H0, T, env, F, ds, env', R, ra, e, q⟩
  | _ => simp [asgTg] at e
theorem gs_nil : PGs X [] (rdGs (zOf X fa) []) := ⟨fun pins s σ H vs us Q I r h => pgs_nil.run pins s σ H vs us Q I r (by
  obtain ⟨S, F0, H0, T, env, F, ds, env', R, ra, e, h⟩ := h
  cases ds with
  | nil =>
    cases (show vs = [] from ra)
    have e' : env = env' := by simpa [asgTgs] using e
    subst e'
    exact ⟨rfl, h σ (SameBut.refl _ _) R⟩
  | cons d ds => simp [asgTgs] at e)⟩
theorem gs_cons {g : Tg} {gs : List Tg} {e : Expr} {es : List Expr} (h1 : PG X e (rdG (zOf X fa) g)) (h2 : PGs X es (rdGs (zOf X fa) gs)) (ns : isStar e = false) : PGs X (e :: es) (rdGs (zOf X fa) (g :: gs)) := by
  refine ⟨fun pins s σ H vs us Q I r h => (pgs_cons h1 h2 (by rw [as_plain ns]; rfl)).run pins s σ H vs us Q I r ?_⟩
  obtain ⟨S, F0, H0, T, env, F, ds, env', R, ra, e, h⟩ := h
  cases ds with
  | nil => simp [asgTgs] at e
  | cons d ds =>
    obtain ⟨v, r', rfl, rd, rr⟩ := ra
    simp only [asgTgs] at e
    cases e1 : asgTg g d env with
    | none => rw [e1] at e; cases e
    | some env1 =>
      rw [e1] at e
      refine ⟨v, r', rfl, S, F0, H0, T, env, F, d, env1, R, rd, e1, fun σ1 s1 R1 => ?_⟩
      exact ⟨S, F0, H0, T, env1, F, ds, env', R1, rr, e, fun σ2 s2 R2 => h σ2 (s1.trans s2) R2⟩
/-! ### what an iterable gives -/
/-- the i-th item: shared, or a new tuple of shared things -/
def YD (Z : Wd) (Fs : Hp) (xs : List D) (i : Nat) (H : Hp) (v : V) (H' : Hp) : Prop :=
  ∃ d, xs[i]? = some d ∧ ((H' = H ∧ Rp Z Fs d v) ∨ ∃ T vs ds, v = .ref T ∧ H T = none ∧ H' = upd H T (.tup vs) ∧ d = .tup ds ∧ RpAll Z Fs ds vs)
theorem YD.rel {S : Srcs} {F0 H0 : Hp} {T : List (Addr × D)} {env : Env} {σ : L2.St} {H F Fs : Hp} {xs : List D} {i : Nat} {v : V} {H' : Hp} (y : YD Z Fs xs i H v H') (R : Rel Z S F0 H0 T env σ H F) (l : Le Fs F) :
    ∃ d F', xs[i]? = some d ∧ Rel Z S F0 H0 T env σ H' F' ∧ Le F F' ∧ Rp Z F' d v := by
  obtain ⟨d, e, ⟨rfl, r⟩ | ⟨a, vs, ds, rfl, n, rfl, rfl, r⟩⟩ := y
  · exact ⟨d, F, e, R, Le.refl F, Rp.mono l _ _ r⟩
  · obtain ⟨R', l', r'⟩ := R.laid_tup n (RpAll.mono l _ _ r)
    exact ⟨_, _, e, R', l', r'⟩
def rdI (Z : Wd) (m : Env → M (List D × Env)) : TI := fun σ H R => ∃ S F0 H0 T env F, Rel Z S F0 H0 T env σ H F ∧ (m env).all fun r => ∀ J H' F' (G : Hp → Prop), Rel Z S F0 H0 T r.2 σ H' F' → Le F F' → (∀ H'', Le F' H'' → G H'') → Walk J r.1.length G (YD Z F' r.1) → R J H'
theorem PI.imp {tg iter : Expr} {w w' : TI} (h : PI X tg iter w) (i : ∀ σ H R, w' σ H R → w σ H R) : PI X tg iter w' := ⟨fun pins s σ H R I q => h.run pins s σ H R I (i σ H R q)⟩
def iSeq (K : PySem.W.Frag) (tl : TE) : TI := fun σ H R => tl σ H fun x H1 => ∃ a, x = .ref a ∧ (((∃ xs, SqL K H1 a xs) ∧ R (Itl K a) H1) ∨ ((∃ xs, SqT K H1 a xs) ∧ R (Itt K a) H1))
theorem pi_seq {tg l : Expr} {tl : TE} (hl : PE X l tl) : PI X tg l (iSeq X.K tl) := by
  refine ⟨fun pins s σ H R I h => ?_⟩
  refine thn (hl.run pins s σ H _ I h) fun v s1 ⟨x, H1, I1, r1, q1⟩ => ?_
  obtain ⟨a, e, q⟩ := q1
  subst e
  cases r1
  rcases q with ⟨⟨xs, hq⟩, q⟩ | ⟨⟨xs, hq⟩, q⟩
  · obtain ⟨its, rv, p, hz⟩ := I1.list hq
    refine wpAny_pyIter_list p.isList ?_
    refine ⟨s1.heap.objs.size, [s1.heap.objs.size], _, _, H1, rfl, I1.kept (t' := s1.toks) fun b o e => Heap.get?_push_of_some _ e, turn_list a _, ⟨_, Heap.get?_push_size _ rfl, rfl, rfl⟩, fun b hb => ?_, q⟩
    have e : b = s1.heap.objs.size := by simpa using hb
    subst e
    exact I1.fpOk (Nat.le_refl _) (I1.hok.fresh (Nat.le_refl _))
  · obtain ⟨its, rv, p, hz⟩ := I1.tuple hq
    refine wpAny_pyIter_tuple (show s1.heap.IsTuple a its.toArray from p) ?_
    refine ⟨s1.heap.objs.size, [s1.heap.objs.size], _, _, H1, rfl, I1.kept (t' := s1.toks) fun b o e => Heap.get?_push_of_some _ e, turn_tuple a _, ⟨_, Heap.get?_push_size _ rfl, rfl, rfl⟩, fun b hb => ?_, q⟩
    have e : b = s1.heap.objs.size := by simpa using hb
    subst e
    exact I1.fpOk (Nat.le_refl _) (I1.hok.fresh (Nat.le_refl _))
theorem yat_yd {Fs : Hp} {ds : List D} {xs : List V} (r : RpAll Z Fs ds xs) {i : Nat} {H H' : Hp} {v : V} (y : YAt xs i H v H') : YD Z Fs ds i H v H' := by
  obtain ⟨e, y⟩ := y
  obtain ⟨d, hd, rd⟩ := r.get' _ _ _ _ y
  exact ⟨d, hd, .inl ⟨e, rd⟩⟩
theorem i_seq {tg iter : Expr} {m : Ex} (h : PE X iter (rdO (zOf X fa) cl m)) : PI X tg iter (rdI (zOf X fa) (evIt cl (.seq m))) := by
  refine PI.imp (pi_seq h) fun σ H R q => ?_
  obtain ⟨S, F0, H0, T, env, F, Rl, q⟩ := q
  simp only [evIt] at q
  rw [M.all_bind] at q
  refine ⟨S, F0, H0, T, env, F, Rl, M.all_mono (fun r hr v H' F' R' l qv => ?_) q⟩
  cases e : r.1.frz r.2 with
  | none => simp only [e] at hr; exact False.elim hr
  | some z =>
    obtain ⟨x, env2⟩ := z
    simp only [e] at hr
    obtain ⟨G, RG, lG, rG⟩ := R'.frz qv e
    cases x with
    | src => exact False.elim hr
    | fn g => exact False.elim hr
    | d x =>
      cases x with
      | lst ds =>
        obtain ⟨a, xs, rfl, hf, ra⟩ := rG
        refine ⟨a, rfl, .inl ⟨⟨xs, .of (RG.sub _ _ hf)⟩, hr (Itl X.K a) H' G (fun H => SqL X.K H a xs) RG (l.trans lG) (fun H'' l'' => .of (l'' _ _ hf)) ?_⟩⟩
        show Walk _ ds.length _ _
        rw [← ra.length]
        exact walk_list.mono (fun _ h => h) fun i H x H' _ _ y => yat_yd ra y
      | tup ds =>
        obtain ⟨a, xs, rfl, hf, ra⟩ := rG
        refine ⟨a, rfl, .inr ⟨⟨xs, .of (RG.sub _ _ hf)⟩, hr (Itt X.K a) H' G (fun H => SqT X.K H a xs) RG (l.trans lG) (fun H'' l'' => .of (l'' _ _ hf)) ?_⟩⟩
        show Walk _ ds.length _ _
        rw [← ra.length]
        exact walk_tup.mono (fun _ h => h) fun i H x H' _ _ y => yat_yd ra y
      | _ => exact False.elim hr
end
end Bq

set_option Elab.async false
set_option autoImplicit false
set_option linter.all false
set_option maxRecDepth 100000
/-! Ranges; comprehensions. -/
namespace Bq
open PySem PySem.Spec PyProof.Rows L2 StX
section
variable {c : Cm} {k : Nat} {sc : Scope} {X : Cx} {fa : Nat → Addr} {cl : Nat → List Vl → M D} {Z : Wd}
theorem rangeD_len : ∀ (n : Nat) (lo : Int), (rangeD lo n).length = n
  | 0, _ => rfl
  | n + 1, lo => by show (rangeD (lo + 1) n).length + 1 = _; rw [rangeD_len n]
theorem rangeD_get : ∀ (n : Nat) (lo : Int) (i : Nat), i < n → (rangeD lo n)[i]? = some (.int (lo + i))
  | 0, _, _, h => by omega
  | n + 1, lo, 0, _ => by show some (D.int lo) = _; simp
  | n + 1, lo, i + 1, h => by
    show (rangeD (lo + 1) n)[i]? = _
    rw [rangeD_get n _ i (by omega)]
    congr 2
    omega
theorem stepsD_len : ∀ (n : Nat) (lo c : Int), (stepsD lo c n).length = n
  | 0, _, _ => rfl
  | n + 1, lo, c => by show (stepsD (lo + c) c n).length + 1 = _; rw [stepsD_len n]
theorem stepsD_get : ∀ (n : Nat) (lo c : Int) (i : Nat), i < n → (stepsD lo c n)[i]? = some (.int (lo + (i : Nat) * c))
  | 0, _, _, _, h => by omega
  | n + 1, lo, c, 0, _ => by show some (D.int lo) = _; simp
  | n + 1, lo, c, i + 1, h => by
    show (stepsD (lo + c) c n)[i]? = _
    rw [stepsD_get n _ c i (by omega)]
    have e : lo + c + (i : Int) * c = lo + ((i + 1 : Nat) : Int) * c := by
      rw [Int.natCast_add, Int.add_mul]; omega
    rw [e]
theorem rng_yd {Fs : Hp} {lo : Int} {n i : Nat} {H H' : Hp} {v : V} (hi : i < n) (y : YFn (fun i => .int (lo + i)) i H v H') : YD Z Fs (rangeD lo n) i H v H' := by
  obtain ⟨e, y⟩ := y
  exact ⟨_, rangeD_get n lo i hi, .inl ⟨e, y⟩⟩
theorem step_yd {Fs : Hp} {lo c : Int} {n i : Nat} {H H' : Hp} {v : V} (hi : i < n) (y : YFn (fun i => .int (lo + (i : Nat) * c)) i H v H') : YD Z Fs (stepsD lo c n) i H v H' := by
  obtain ⟨e, y⟩ := y
  exact ⟨_, stepsD_get n lo c i hi, .inl ⟨e, y⟩⟩
theorem small_ok {i : Int} (h : small i = true) : -1000000 ≤ i ∧ i ≤ 1000000 := by
  unfold small at h
  simp only [decide_eq_true_eq] at h
  omega
theorem int_of {S : Srcs} {H0 : Hp} {T : List (Addr × D)} {env : Env} {σ : L2.St} {H F : Hp} {o : Od} {v : V} {α : Type} {f : Int → M α} {P : α → Prop} (q : OdOk Z S H0 T env σ H F o v)
    (h : (match o with | .vl (.d (.int n)) => f n | _ => .fail).all P) : ∃ n, o = .int n ∧ v = .int n ∧ (f n).all P := by
  cases o with
  | vl y =>
    cases y with
    | d y =>
      cases y with
      | int n => exact ⟨n, rfl, q, h⟩
      | _ => exact False.elim h
    | _ => exact False.elim h
  | _ => exact False.elim h
theorem i_rg1 {tg : Expr} {m : Ex} {a : Expr} {p pos : Pos} (hg : Gl X "range") (hm : X.mg "range" = none) (h : PE X a (rdO (zOf X fa) cl m)) (ns : isStar a = false) : PI X tg (.Call (.Name "range" p) [a] [] pos) (rdI (zOf X fa) (evIt cl (.rg1 m))) := by
  refine PI.imp (pi_range1 hg hm (pa_cons h pa_nil (each_plain ns)) (each_plain ns)) fun σ H R q => ?_
  obtain ⟨S, F0, H0, T, env, F, Rl, q⟩ := q
  simp only [evIt] at q
  rw [M.all_bind] at q
  refine ⟨S, F0, H0, T, env, F, Rl, M.all_mono (fun r hr v H' F' R' l qv => ?_) q⟩
  obtain ⟨n, _, rfl, hr⟩ := int_of qv hr
  split at hr
  · rename_i hs
    obtain ⟨s1, s2⟩ := small_ok hs
    refine ⟨n, rfl, by omega, by omega, hr (Itr 0 n.toNat) H' F' (fun _ => True) R' l (fun _ _ => trivial) ?_⟩
    show Walk _ (rangeD 0 n.toNat).length _ _
    rw [rangeD_len]
    exact walk_range.mono (fun _ h => h) fun i H x H' hi _ y => rng_yd hi y
  · exact False.elim hr
theorem i_rg2 {tg : Expr} {m m2 : Ex} {a b : Expr} {p pos : Pos} (hg : Gl X "range") (hm : X.mg "range" = none) (h : PE X a (rdO (zOf X fa) cl m)) (h2 : PE X b (rdO (zOf X fa) cl m2)) (ns : isStar a = false) (ns2 : isStar b = false) :
    PI X tg (.Call (.Name "range" p) [a, b] [] pos) (rdI (zOf X fa) (evIt cl (.rg2 m m2))) := by
  have e2 : starEach [b] X.env = [(false, eval b X.env)] := each_plain ns2
  refine PI.imp (pi_range2 hg hm (pa_cons h (pa_cons h2 pa_nil (each_plain ns2)) (each_plain ns)) (by rw [each_plain ns, e2]) e2) fun σ H R q => ?_
  obtain ⟨S, F0, H0, T, env, F, Rl, q⟩ := q
  simp only [evIt] at q
  rw [M.all_bind] at q
  refine ⟨S, F0, H0, T, env, F, Rl, M.all_mono (fun r hr v H' F' R' l qv => ?_) q⟩
  rw [M.all_bind] at hr
  obtain ⟨G, RG, lG, qG, nG⟩ := R'.norm qv
  refine ⟨S, F0, H0, T, r.2, G, RG, M.all_mono (fun r2 hr2 v2 H2 F2 R2 l2 qv2 => ?_) hr⟩
  obtain ⟨o, e1⟩ := r
  obtain ⟨o2, e3⟩ := r2
  cases o with
  | vl y =>
    cases y with
    | d y =>
      cases y with
      | int i =>
        cases (show v = V.int i from qv)
        simp only at hr2
        obtain ⟨j, _, rfl, hr2⟩ := int_of (f := fun n => if (small i && small n) = true then M.ret (rangeD i (n - i).toNat, e3) else .fail) qv2 (by cases o2 with | vl y => (cases y with | d y => (cases y <;> exact hr2) | _ => exact hr2) | _ => exact hr2)
        split at hr2
        · rename_i hs
          rw [Bool.and_eq_true] at hs
          obtain ⟨s1, s2⟩ := small_ok hs.1
          obtain ⟨s3, s4⟩ := small_ok hs.2
          refine ⟨i, j, rfl, ⟨by omega, by omega, by omega, by omega⟩, hr2 (Itr i (j - i).toNat) H2 F2 (fun _ => True) R2 (l.trans (lG.trans l2)) (fun _ _ => trivial) ?_⟩
          show Walk _ (rangeD i (j - i).toNat).length _ _
          rw [rangeD_len]
          exact walk_range.mono (fun _ h => h) fun i H x H' hi _ y => rng_yd hi y
        · exact False.elim hr2
      | _ => exact False.elim hr2
    | _ => exact False.elim hr2
  | _ => exact False.elim hr2
theorem i_rg3 {tg : Expr} {m m2 m3 : Ex} {a b d : Expr} {p pos : Pos} (hg : Gl X "range") (hm : X.mg "range" = none) (h : PE X a (rdO (zOf X fa) cl m)) (h2 : PE X b (rdO (zOf X fa) cl m2)) (h3 : PE X d (rdO (zOf X fa) cl m3)) (ns : isStar a = false) (ns2 : isStar b = false) (ns3 : isStar d = false) :
    PI X tg (.Call (.Name "range" p) [a, b, d] [] pos) (rdI (zOf X fa) (evIt cl (.rg3 m m2 m3))) := by
  have e3 : starEach [d] X.env = [(false, eval d X.env)] := each_plain ns3
  refine PI.imp (pi_range3 hg hm (pa_cons h (pa_cons h2 (pa_cons h3 pa_nil (each_plain ns3)) (each_plain ns2)) (each_plain ns)) (each_plain ns) (any_plain (by simp [ns2, ns3]))) fun σ H R q => ?_
  obtain ⟨S, F0, H0, T, env, F, Rl, q⟩ := q
  simp only [evIt] at q
  rw [M.all_bind] at q
  refine ⟨S, F0, H0, T, env, F, Rl, M.all_mono (fun r hr v H' F' R' l qv => ?_) q⟩
  rw [M.all_bind] at hr
  obtain ⟨G, RG, lG, qG, nG⟩ := R'.norm qv
  refine ⟨S, F0, H0, T, r.2, G, RG, M.all_mono (fun r2 hr2 v2 H2 F2 R2 l2 qv2 => ?_) hr⟩
  rw [M.all_bind] at hr2
  obtain ⟨G2, RG2, lG2, qG2, nG2⟩ := R2.norm qv2
  refine ⟨S, F0, H0, T, r2.2, G2, RG2, M.all_mono (fun r3 hr3 v3 H3 F3 R3 l3 qv3 => ?_) hr2⟩
  obtain ⟨o, e1⟩ := r
  obtain ⟨o2, e2⟩ := r2
  obtain ⟨o3, e3⟩ := r3
  cases o with
  | vl y =>
    cases y with
    | d y =>
      cases y with
      | int i =>
        cases (show v = V.int i from qv)
        cases o2 with
        | vl y2 =>
          cases y2 with
          | d y2 =>
            cases y2 with
            | int j =>
              cases (show v2 = V.int j from qv2)
              simp only at hr3
              obtain ⟨s, _, rfl, hr3⟩ := int_of (f := fun n => if (small i && small j && n == -1) = true then M.ret (stepsD i n (i - j).toNat, e3) else .fail) qv3 (by cases o3 with | vl y => (cases y with | d y => (cases y <;> exact hr3) | _ => exact hr3) | _ => exact hr3)
              split at hr3
              · rename_i hs
                simp only [Bool.and_eq_true, beq_iff_eq] at hs
                obtain ⟨s1, s2⟩ := small_ok hs.1.1
                obtain ⟨s3, s4⟩ := small_ok hs.1.2
                obtain ⟨_, rfl⟩ := hs
                refine ⟨i, j, -1, (i - j).toNat, rfl, RgC.neg (by omega) (by omega) (by omega) (by omega), hr3 (Itc i (-1) (i - j).toNat) H3 F3 (fun _ => True) R3 (l.trans (lG.trans (l2.trans (lG2.trans l3)))) (fun _ _ => trivial) ?_⟩
                show Walk _ (stepsD i (-1) (i - j).toNat).length _ _
                rw [stepsD_len]
                exact walk_rangeC.mono (fun _ h => h) fun i H x H' hi _ y => step_yd hi y
              · exact False.elim hr3
            | _ => exact False.elim hr3
          | _ => exact False.elim hr3
        | _ => exact False.elim hr3
      | _ => exact False.elim hr3
    | _ => exact False.elim hr3
  | _ => exact False.elim hr3
/-! ### comprehensions -/
theorem Rel.shr (is : List Nat) {S : Srcs} {F0 H0 : Hp} {T : List (Addr × D)} {env : Env} {σ : L2.St} {H F : Hp} (R : Rel Z S F0 H0 T env σ H F) : ∃ G, Rel Z S F0 H0 T (shrs env is) σ H G ∧ Le F G := by
  induction is generalizing env F with
  | nil => exact ⟨F, R, Le.refl F⟩
  | cons i r ih =>
    have one : ∃ G, Rel Z S F0 H0 T (Bq.shr env i) σ H G ∧ Le F G := by
      unfold Bq.shr
      cases e : env[i]? with
      | none => exact ⟨F, R, Le.refl F⟩
      | some s =>
        cases s with
        | u => exact ⟨F, R, Le.refl F⟩
        | vl x => exact ⟨F, R, Le.refl F⟩
        | ow x =>
          obtain ⟨p, h1, _⟩ := R.own i x e
          obtain ⟨G, R', l, _⟩ := R.frz (o := .own i) (v := .ref p) h1 (x := .d x) (env' := env.set i (.vl (.d x))) (by simp only [Od.frz, e])
          exact ⟨G, R', l⟩
    obtain ⟨G, R1, l1⟩ := one
    obtain ⟨G2, R2, l2⟩ := ih R1
    exact ⟨G2, R2, l1.trans l2⟩
theorem unset_get {env : Env} {is : List Nat} {j : Nat} {s : Sl} (h : (unset env is)[j]? = some s) : (s = .u ∧ j ∈ is) ∨ (j ∉ is ∧ env[j]? = some s) := by
  induction is with
  | nil => exact .inr ⟨by simp, h⟩
  | cons i r ih =>
    simp only [unset] at h
    rcases get_set h with ⟨rfl, rfl, _⟩ | ⟨n, e⟩
    · exact .inl ⟨rfl, List.mem_cons_self⟩
    · rcases ih e with ⟨a, b⟩ | ⟨a, b⟩
      · exact .inl ⟨a, List.mem_cons_of_mem _ b⟩
      · exact .inr ⟨by simp only [List.mem_cons, not_or]; exact ⟨fun z => n z.symm, a⟩, b⟩
theorem unset_len (env : Env) : ∀ is : List Nat, (unset env is).length = env.length
  | [] => rfl
  | i :: r => by simp only [unset, List.length_set]; exact unset_len env r
theorem back_len (old new : Env) : ∀ is : List Nat, (back old new is).length = new.length
  | [] => rfl
  | i :: r => by simp only [back, List.length_set]; exact back_len old new r
theorem back_get {old new : Env} {is : List Nat} {j : Nat} {s : Sl} (h : (back old new is)[j]? = some s) : (j ∈ is ∧ ((old[j]? = none ∧ s = .u) ∨ old[j]? = some s)) ∨ (j ∉ is ∧ new[j]? = some s) := by
  induction is with
  | nil => exact .inr ⟨by simp, h⟩
  | cons i r ih =>
    simp only [back] at h
    rcases get_set h with ⟨rfl, e, _⟩ | ⟨n, e⟩
    · refine .inl ⟨List.mem_cons_self, ?_⟩
      cases e2 : old[i]? with
      | none => rw [e2] at e; exact .inl ⟨rfl, e.symm⟩
      | some s' => rw [e2] at e; exact .inr (by rw [← e])
    · rcases ih e with ⟨a, b⟩ | ⟨a, b⟩
      · exact .inl ⟨List.mem_cons_of_mem _ a, b⟩
      · exact .inr ⟨by simp only [List.mem_cons, not_or]; exact ⟨fun z => n z.symm, a⟩, b⟩
/-- the block's own names forgotten, on both sides -/
theorem Rel.wipe {S : Srcs} {F0 H0 : Hp} {T : List (Addr × D)} {env : Env} {σ : L2.St} {H F : Hp} (own : List Nat) (R : Rel Z S F0 H0 T env σ H F) : Rel Z S F0 H0 T (unset env own) (L2.wipe σ own) H F := by
  refine ⟨R.src, R.sub, R.fs, R.fc, R.keep, R.f0, R.new, by rw [unset_len, wipe_length]; exact R.len, fun j y hj => ?_, fun j y hj => ?_, R.tmp, fun j k y z p h1 h2 h3 h4 => ?_, fun j y p h1 h2 => ?_, R.ndT⟩
  · rcases unset_get hj with ⟨e, _⟩ | ⟨n, e⟩
    · cases e
    · rw [wipe_out n]; exact R.slot j y e
  · rcases unset_get hj with ⟨e, _⟩ | ⟨n, e⟩
    · cases e
    · rw [wipe_out n]; exact R.own j y e
  · rcases unset_get h1 with ⟨e, _⟩ | ⟨n1, e1⟩
    · cases e
    · rcases unset_get h2 with ⟨e, _⟩ | ⟨n2, e2⟩
      · cases e
      · rw [wipe_out n1] at h3; rw [wipe_out n2] at h4
        exact R.sep j k y z p e1 e2 h3 h4
  · rcases unset_get h1 with ⟨e, _⟩ | ⟨n1, e1⟩
    · cases e
    · rw [wipe_out n1] at h2; exact R.sepT j y p e1 h2
theorem noOwn_get {env : Env} {own : List Nat} (h : noOwn env own = true) {i : Nat} (hi : i ∈ own) (x : D) : env[i]? ≠ some (.ow x) := by
  unfold noOwn at h
  rw [List.all_eq_true] at h
  intro e
  have := h i hi
  rw [e] at this
  cases this
/-- back from the block -/
theorem Rel.back {S : Srcs} {F0 H0 : Hp} {T T' : List (Addr × D)} {env env2 : Env} {σ : L2.St} {H H' F F' : Hp} {own : List Nat} (R0 : Rel Z S F0 H0 T' env σ H F) (no : noOwn env own = true) (l : Le F F') (R : Rel Z S F0 H0 T env2 (L2.wipe σ own) H' F') : Rel Z S F0 H0 T (back env env2 own) σ H' F' := by
  refine ⟨R.src, R.sub, R.fs, R.fc, R.keep, R.f0, R.new, by rw [back_len, R.len, wipe_length], fun j y hj => ?_, fun j y hj => ?_, R.tmp, fun j k y z p h1 h2 h3 h4 => ?_, fun j y p h1 h2 => ?_, R.ndT⟩
  · rcases back_get hj with ⟨m, ⟨_, e⟩ | e⟩ | ⟨n, e⟩
    · cases e
    · obtain ⟨v, h1, h2⟩ := R0.slot j y e
      exact ⟨v, h1, h2.mono l⟩
    · obtain ⟨v, h1, h2⟩ := R.slot j y e
      rw [wipe_out n] at h1
      exact ⟨v, h1, h2⟩
  · rcases back_get hj with ⟨m, ⟨_, e⟩ | e⟩ | ⟨n, e⟩
    · cases e
    · exact absurd e (noOwn_get no m y)
    · obtain ⟨v, h1, h2⟩ := R.own j y e
      rw [wipe_out n] at h1
      exact ⟨v, h1, h2⟩
  · rcases back_get h1 with ⟨m, ⟨_, e⟩ | e⟩ | ⟨n1, e1⟩
    · cases e
    · exact absurd e (noOwn_get no m y)
    · rcases back_get h2 with ⟨m, ⟨_, e⟩ | e⟩ | ⟨n2, e2⟩
      · cases e
      · exact absurd e (noOwn_get no m z)
      · exact R.sep j k y z p e1 e2 (by rw [wipe_out n1]; exact h3) (by rw [wipe_out n2]; exact h4)
  · rcases back_get h1 with ⟨m, ⟨_, e⟩ | e⟩ | ⟨n1, e1⟩
    · cases e
    · exact absurd e (noOwn_get no m y)
    · exact R.sepT j y p e1 (by rw [wipe_out n1]; exact h2)
theorem Rel.pushT {S : Srcs} {F0 H0 : Hp} {T : List (Addr × D)} {env : Env} {σ : L2.St} {H F : Hp} {p : Addr} {o : HO} {x : D} (R : Rel Z S F0 H0 T env σ H F) (n : H p = none) (hx : OwnObj Z (upd H p o) F p x) : Rel Z S F0 H0 ((p, x) :: T) env σ (upd H p o) F := by
  obtain ⟨nf, ps, pc, n0, al⟩ := R.free n
  have R1 := R.laid (o := o) n
  refine ⟨R1.src, R1.sub, R1.fs, R1.fc, R1.keep, R1.f0, R1.new, R1.len, R1.slot, R1.own, fun q hq => ?_, R1.sep, fun i y q h1 h2 w hw => ?_, ?_⟩
  · rcases List.mem_cons.mp hq with rfl | hq
    · exact ⟨hx, nf, ps, pc, n0⟩
    · exact R1.tmp q hq
  · rcases List.mem_cons.mp hw with rfl | hw
    · intro e
      exact al.1 i y h1 (by rw [h2]; exact congrArg (fun z => some (some (V.ref z))) e.symm)
    · exact R1.sepT i y q h1 h2 w hw
  · rw [List.map_cons, List.nodup_cons]
    refine ⟨fun m => ?_, R1.ndT⟩
    obtain ⟨q, hq, e⟩ := List.mem_map.mp m
    exact al.2 q hq e
theorem Rel.setT {S : Srcs} {F0 H0 : Hp} {T : List (Addr × D)} {env : Env} {σ : L2.St} {H F : Hp} {p : Addr} {o : HO} {x x' : D} (R : Rel Z S F0 H0 ((p, x) :: T) env σ H F) (hx : OwnObj Z (upd H p o) F p x') : Rel Z S F0 H0 ((p, x') :: T) env σ (upd H p o) F := by
  have a : OwnAt Z S H0 H F p x := R.tmp (p, x) List.mem_cons_self
  obtain ⟨hd, ⟨l, m, t, hs⟩, ns, hc⟩ := R.src
  have nd := R.ndT
  rw [List.map_cons, List.nodup_cons] at nd
  have oth : ∀ q y, q ≠ p → OwnAt Z S H0 H F q y → OwnAt Z S H0 (upd H p o) F q y := fun q y n w => w.mono (Le.refl F) (upd_ne n) w.nf
  refine ⟨⟨hd, ⟨l, m, t, by rw [upd_ne a.ns.symm]; exact hs⟩, ns, by rw [upd_ne a.nc.symm]; exact hc⟩, fun b u e => ?_, R.fs, R.fc, fun b u e n1 n2 => ?_, R.f0, R.new, R.len, R.slot, fun j y hj => ?_, fun q hq => ?_, R.sep, fun i y q h1 h2 w hw => ?_, ?_⟩
  · have n : b ≠ p := fun z => by subst z; rw [a.nf] at e; cases e
    rw [upd_ne n]; exact R.sub b u e
  · have n : b ≠ p := fun z => by subst z; rw [a.n0] at e; cases e
    rw [upd_ne n]; exact R.keep b u e n1 n2
  · obtain ⟨q, h1, h2⟩ := R.own j y hj
    exact ⟨q, h1, oth q y (fun z => R.sepT j y q hj h1 (p, x) List.mem_cons_self z.symm) h2⟩
  · rcases List.mem_cons.mp hq with rfl | hq
    · exact ⟨hx, a.nf, a.ns, a.nc, a.n0⟩
    · exact oth _ _ (fun z => nd.1 (List.mem_map.mpr ⟨q, hq, z⟩)) (R.tmp q (List.mem_cons_of_mem _ hq))
  · rcases List.mem_cons.mp hw with rfl | hw
    · exact R.sepT i y q h1 h2 (p, x) List.mem_cons_self
    · exact R.sepT i y q h1 h2 w (List.mem_cons_of_mem _ hw)
  · rw [List.map_cons, List.nodup_cons]; exact nd
theorem Rel.popT {S : Srcs} {F0 H0 : Hp} {T : List (Addr × D)} {env : Env} {σ : L2.St} {H F : Hp} {p : Addr} {x : D} (R : Rel Z S F0 H0 ((p, x) :: T) env σ H F) : Rel Z S F0 H0 T env σ H F ∧ OwnAt Z S H0 H F p x ∧ Alone T env σ p := by
  have nd := R.ndT
  rw [List.map_cons, List.nodup_cons] at nd
  exact ⟨⟨R.src, R.sub, R.fs, R.fc, R.keep, R.f0, R.new, R.len, R.slot, R.own, fun q hq => R.tmp q (List.mem_cons_of_mem _ hq), R.sep, fun i y q h1 h2 w hw => R.sepT i y q h1 h2 w (List.mem_cons_of_mem _ hw), nd.2⟩, R.tmp (p, x) List.mem_cons_self,
    fun i y h1 h2 => R.sepT i y p h1 h2 (p, x) List.mem_cons_self rfl, fun q hq e => nd.1 (List.mem_map.mpr ⟨q, hq, e⟩)⟩
theorem wipe_same {σ σ' : L2.St} {is own : List Nat} (h : SameBut is σ σ') (s : ∀ i ∈ is, i ∈ own) : L2.wipe σ' own = L2.wipe σ own := by
  apply List.ext_getElem?
  intro j
  by_cases hj : j ∈ own
  · by_cases hl : j < σ.length
    · have w : ∀ τ : L2.St, τ.length = σ.length → ∀ o : List Nat, j ∈ o → (L2.wipe τ o)[j]? = some none := fun τ e o => by
        induction o with
        | nil => intro m; cases m
        | cons i r ih =>
          intro m
          simp only [L2.wipe]
          by_cases e2 : i = j
          · subst e2
            rw [List.getElem?_set_self (by rw [wipe_length, e]; exact hl)]
          · rw [List.getElem?_set_ne e2]
            exact ih ((List.mem_cons.mp m).resolve_left fun z => e2 z.symm)
      rw [w σ' h.1 own hj, w σ rfl own hj]
    · rw [List.getElem?_eq_none (by rw [wipe_length, h.1]; omega), List.getElem?_eq_none (by rw [wipe_length]; omega)]
  · rw [wipe_out hj, wipe_out hj]
    exact h.2 j fun m => hj (s j m)
theorem wipe_wipe (σ : L2.St) (own : List Nat) : L2.wipe (L2.wipe σ own) own = L2.wipe σ own :=
  wipe_same (σ := σ) (σ' := L2.wipe σ own) (is := own) ⟨wipe_length σ own, fun j n => wipe_out n⟩ fun _ h => h
theorem back_shr (env env2 : Env) (fz own : List Nat) (no : noOwn env own = true) : ∀ i ∈ own, (shrs env fz)[i]? = env[i]? := by
  intro i hi
  induction fz generalizing env with
  | nil => rfl
  | cons a r ih =>
    have h1 : (Bq.shr env a)[i]? = env[i]? := by
      unfold Bq.shr
      cases e : env[a]? with
      | none => rfl
      | some s =>
        cases s with
        | u => rfl
        | vl x => rfl
        | ow x =>
          have n : a ≠ i := fun z => by subst z; exact noOwn_get no hi x e
          simp only
          rw [List.getElem?_set_ne n]
    have no' : noOwn (Bq.shr env a) own = true := by
      unfold noOwn
      rw [List.all_eq_true]
      intro j hj
      have h2 : (Bq.shr env a)[j]? = env[j]? := by
        unfold Bq.shr
        cases e : env[a]? with
        | none => rfl
        | some s =>
          cases s with
          | u => rfl
          | vl x => rfl
          | ow x =>
            have n : a ≠ j := fun z => by subst z; exact noOwn_get no hj x e
            simp only
            rw [List.getElem?_set_ne n]
      rw [h2]
      unfold noOwn at no
      rw [List.all_eq_true] at no
      exact no j hj
    rw [show shrs env (a :: r) = shrs (Bq.shr env a) r from rfl, ih _ no', h1]
/-- the loop of a comprehension -/
theorem lc_rd {elt : Ex} {g : Tg} {it : It} {ifs : Exs} {own fz : List Nat} (hown : ∀ i ∈ tgNames g, i ∈ own) : ∀ σ H Q, rdO Z cl (.lc elt g it ifs own fz) σ H Q →
    tLc (rdI Z (evIt cl it)) (rdG Z g) (rdT Z (evB cl true ifs)) (rdO Z cl elt) own σ H Q := by
  intro σ H Q h
  obtain ⟨S, F0, H0, T, env, F, R, h⟩ := h
  rw [lc_eq, M.all_bind] at h
  refine ⟨S, F0, H0, T, env, F, R, M.all_mono (fun r hr J H1 F1 G R1 l1 hG w D hD => ?_) h⟩
  split at hr
  · rename_i hb
    rw [Bool.and_eq_true, decide_eq_true_eq] at hb
    obtain ⟨no, hcap⟩ := hb
    rw [M.all_bind] at hr
    have R1' := R1.pushT (p := D) (o := .lst []) (x := .lst []) hD ⟨[], upd_same, rfl⟩
    obtain ⟨F2, R2, l2⟩ := R1'.shr fz
    have R3 := R2.wipe own
    -- what is owed when the loop ends
    let Goal : List Bq.D × Env → Prop := fun q => Post Z S F0 H0 T (back r.2 q.2 own) σ F (.fr (.lst q.1)) Q
    let Pv : Nat → Hp → Prop := fun i H => ∃ envi Fi acc vs, Rel Z S F0 H0 ((D, .lst acc) :: T) envi (L2.wipe σ own) H Fi ∧ Le F2 Fi ∧ H D = some (.lst vs) ∧ vs.length ≤ i ∧
      (lcLoop (lcStep cl elt g ifs own) (r.1.drop i) envi).all fun q => Goal (acc ++ q.1, q.2)
    have lF1 : Le F1 F2 := l2
    refine lc_it w (Qd := Q (.ref D)) Pv ?_ (fun i H _ p => ?_) (fun i x H H' hi p y => ?_) fun H p => ?_
    · exact ⟨_, F2, [], [], R3, Le.refl F2, upd_same, Nat.zero_le _, by rw [List.drop_zero]; simpa using hr⟩
    · obtain ⟨envi, Fi, acc, vs, Ri, li, _⟩ := p
      exact hG H ((lF1.trans li).trans Ri.sub)
    · obtain ⟨envi, Fi, acc, vs, Ri, li, hv, hlv, hg⟩ := p
      obtain ⟨d, F4, hd, R4, l4, rd⟩ := YD.rel y Ri (lF1.trans li)
      have hdrop : r.1.drop i = d :: r.1.drop (i + 1) := by
        rw [List.getElem?_eq_some_iff] at hd
        obtain ⟨h1, h2⟩ := hd
        rw [← h2]; exact List.drop_eq_getElem_cons h1
      rw [hdrop] at hg
      simp only [lcLoop] at hg
      rw [M.all_bind] at hg
      unfold lcStep at hg
      cases e1 : asgTg g d envi with
      | none => rw [e1] at hg; exact False.elim hg
      | some env5 =>
        rw [e1] at hg
        simp only at hg
        refine ⟨S, F0, H0, (D, .lst acc) :: T, envi, F4, d, env5, R4, rd, e1, fun σ5 s5 R5 => ⟨?_, ?_⟩⟩
        · rw [wipe_same s5 hown, wipe_wipe]
        · have ws : L2.wipe σ5 own = L2.wipe σ own := by rw [wipe_same s5 hown, wipe_wipe]
          rw [M.all_bind] at hg
          refine ⟨S, F0, H0, (D, .lst acc) :: T, env5, F4, R5, M.all_mono (fun b hb H6 F6 R6 l6 => ?_) hg⟩
          show if b.1 = true then _ else _
          obtain ⟨b, env6⟩ := b
          cases b with
          | false =>
            simp only [Bool.false_eq_true, if_false] at hb ⊢
            have R7 := R6.wipe own
            rw [ws] at R7
            obtain ⟨vs6, hv6, rv6⟩ := (R6.tmp (D, .lst acc) List.mem_cons_self).ob
            refine ⟨_, F6, acc, vs6, R7, li.trans (l4.trans l6), hv6, ?_, ?_⟩
            · obtain ⟨vs0, hv0, rv0⟩ := (Ri.tmp (D, .lst acc) List.mem_cons_self).ob
              rw [hv] at hv0; cases hv0
              rw [rv6.length, ← rv0.length]; omega
            · have hb : ((lcLoop (lcStep cl elt g ifs own) (List.drop (i + 1) r.1) (unset env6 own)).bind fun x => .ret (x.1, x.2)).all fun q => Goal (acc ++ q.1, q.2) := hb
              rw [M.all_bind] at hb
              exact hb
          | true =>
            simp only [if_true] at hb ⊢
            rw [M.all_bind] at hb
            refine ⟨S, F0, H0, (D, .lst acc) :: T, env6, F6, R6, M.all_mono (fun z hz v H7 F7 R7 l7 qv => ?_) hb⟩
            cases e7 : z.1.frz z.2 with
            | none => simp only [e7] at hz; exact False.elim hz
            | some yy =>
              obtain ⟨x8, env8⟩ := yy
              simp only [e7] at hz
              obtain ⟨F8, R8, l8, r8⟩ := R7.frz qv e7
              cases x8 with
              | src => exact False.elim hz
              | fn g => exact False.elim hz
              | d x8 =>
                simp only at hz
                obtain ⟨vs8, hv8, rv8⟩ := (R8.tmp (D, .lst acc) List.mem_cons_self).ob
                obtain ⟨vs0, hv0, rv0⟩ := (Ri.tmp (D, .lst acc) List.mem_cons_self).ob
                rw [hv] at hv0; cases hv0
                have len8 : vs8.length = vs.length := by rw [rv8.length, rv0.length]
                have R9 := R8.setT (p := D) (o := .lst (vs8 ++ [v])) (x' := .lst (acc ++ [x8])) ⟨_, upd_same, rv8.append _ _ _ _ ⟨v, [], rfl, r8, rfl⟩⟩
                have R10 := R9.wipe own
                rw [ws] at R10
                refine ⟨vs8, hv8, capI (by omega), _, F8, acc ++ [x8], _, R10, li.trans (l4.trans (l6.trans (l7.trans l8))), upd_same, by rw [List.length_append, List.length_singleton]; omega, ?_⟩
                have hz : ((lcLoop (lcStep cl elt g ifs own) (List.drop (i + 1) r.1) (unset env8 own)).bind fun x => .ret (x8 :: x.1, x.2)).all fun q => Goal (acc ++ q.1, q.2) := hz
                rw [M.all_bind] at hz
                refine M.all_mono (fun q hq => ?_) hz
                have hq : Goal (acc ++ (x8 :: q.1), q.2) := hq
                rw [List.append_assoc]
                exact hq
    · obtain ⟨envi, Fi, acc, vs, Ri, li, hv, hlv, hg⟩ := p
      rw [List.drop_length] at hg
      have hg : Goal (acc ++ [], envi) := hg
      rw [List.append_nil] at hg
      have Rb := Rel.back (own := own) R1 no (lF1.trans li) Ri
      obtain ⟨Rp, a, al⟩ := Rb.popT
      exact hg (.ref D) H Fi Rp (l1.trans (lF1.trans li)) ⟨D, rfl, a, al⟩
  · exact False.elim hr
end
end Bq

set_option Elab.async false
set_option autoImplicit false
set_option linter.all false
set_option maxRecDepth 100000
/-! Dict displays with written keys; list(range(n)). -/
namespace Bq
open PySem PySem.Spec PyProof.Rows L2
def kOf : D → Option Key
  | .int i => some (.inl i)
  | .str s => some (.inr s)
  | _ => none
/-- written keys: a constant each -/
def mKs : List D → List (Option Expr) → Bool
  | [], [] => true
  | .int i :: r, some (.Constant (.int j) _ _) :: es => i == j && mKs r es
  | .str s :: r, some (.Constant (.str t) _ _) :: es => decide (s = t) && mKs r es
  | _, _ => false
def keyV : D → V
  | .int i => .int i
  | .str s => .str s
  | _ => .non
section
variable {X : Cx} {fa : Nat → Addr} {cl : Nat → List Vl → M D}
theorem pps_vs {pos : Pos} : ∀ (ks : List D) (keys : List (Option Expr)) (es : Exs) (as : List Expr), mKs ks keys = true → AllA X fa cl es as → as.all (fun e => !isStar e) = true → ks.length = as.length →
    ∃ trs, PPs X pos keys as trs ∧ ∀ σ H (Q : List (V × V) → Hp → Prop), rdVs (zOf X fa) cl es σ H (fun vs H' => Q ((ks.map keyV).zip vs) H') → tPairs trs σ H Q
  | [], keys, es, as, hk, ha, hn, hl => by
    cases keys with
    | cons k r => cases hk
    | nil =>
      cases as with
      | cons a r => simp at hl
      | nil =>
        refine ⟨[], pps_nil, fun σ H Q h => ?_⟩
        match es, ha with
        | .nil, _ =>
          obtain ⟨S, F0, H0, T, env, F, R, h⟩ := h
          exact h [] H F R (Le.refl F) rfl
        | .cons m r, ⟨a, as', e, _⟩ => cases e
        | .star m r, ⟨a, p, as', e, _⟩ => cases e
  | k :: ks, keys, es, as, hk, ha, hn, hl => by
    match es, ha with
    | .nil, e => cases (show as = [] from e); simp at hl
    | .star m r, ⟨a, p, as', e, _⟩ => subst e; simp [isStar] at hn
    | .cons m r, ⟨a, as', e, ns, he, hr⟩ =>
      subst e
      rw [List.all_cons, Bool.and_eq_true] at hn
      have go : ∀ (ke : Expr) (keys' : List (Option Expr)) (v : V), PE X ke (tC v) → keyV k = v → mKs ks keys' = true → ∃ trs, PPs X pos (some ke :: keys') (a :: as') trs ∧ ∀ σ H (Q : List (V × V) → Hp → Prop), rdVs (zOf X fa) cl (.cons m r) σ H (fun vs H' => Q (((k :: ks).map keyV).zip vs) H') → tPairs trs σ H Q := by
        intro ke keys' v hke hv hk'
        obtain ⟨trs, h1, h2⟩ := pps_vs (pos := pos) ks keys' r as' hk' hr hn.2 (by simpa using hl)
        refine ⟨(tC v, rdO (zOf X fa) cl m) :: trs, pps_cons hke he.pe h1, fun σ H Q h => ?_⟩
        have h := vs_rd_cons σ H _ h
        show tC v σ H _
        obtain ⟨S, F0, H0, T, env, F, R, h⟩ := h
        refine ⟨S, F0, H0, T, env, F, R, M.all_mono (fun z hz w H' F' R' l q => ?_) h⟩
        refine h2 σ H' _ ?_
        obtain ⟨S2, F02, H02, T2, env2, F2, R2, g⟩ := hz w H' F' R' l q
        refine ⟨S2, F02, H02, T2, env2, F2, R2, M.all_mono (fun z hz vs H3 F3 R3 l3 q3 => ?_) g⟩
        have t : Q (((k :: ks).map keyV).zip (w :: vs)) H3 := hz vs H3 F3 R3 l3 q3
        rw [List.map_cons, List.zip_cons_cons, hv] at t
        exact t
      match k, keys, hk with
      | .int i, some (.Constant (.int j) _ _) :: keys', hk =>
        have hk : (i == j && mKs ks keys') = true := hk
        rw [Bool.and_eq_true] at hk
        obtain rfl := eq_of_beq hk.1
        exact go _ keys' (.int i) pe_int rfl hk.2
      | .str s, some (.Constant (.str t) _ _) :: keys', hk =>
        have hk : (decide (s = t) && mKs ks keys') = true := hk
        rw [Bool.and_eq_true, decide_eq_true_eq] at hk
        obtain ⟨e1, hk2⟩ := hk
        subst e1
        exact go _ keys' (.str s) pe_str rfl hk2
theorem dputs_rp {F : Hp} : ∀ (ks : List D) (xs : List D) (vs : List V) (kvs : List (D × D)) (ys : List (Key × V)), ks.length = xs.length → ks.all (fun k => (kOf k).isSome) = true → RpAll (zOf X fa) F xs vs → RpK (zOf X fa) F kvs ys →
    ∃ more : List (Key × V), (ks.map keyV).zip vs = more.map (fun kv => (kV kv.1, kv.2)) ∧ more.length = ks.length ∧ RpK (zOf X fa) F (dputs ks xs kvs) (mergeK ys more)
  | [], xs, vs, kvs, ys, hl, hk, rv, rk => by
    cases xs with
    | cons x r => simp at hl
    | nil => exact ⟨[], rfl, rfl, rk⟩
  | k :: ks, xs, vs, kvs, ys, hl, hk, rv, rk => by
    cases xs with
    | nil => simp at hl
    | cons x xs =>
      obtain ⟨v, r, rfl, r1, r2⟩ := rv
      rw [List.all_cons, Bool.and_eq_true] at hk
      obtain ⟨key, e1⟩ := Option.isSome_iff_exists.mp hk.1
      have ek : k = kD key ∧ keyV k = kV key := by
        cases k with
        | int i => cases e1; exact ⟨rfl, rfl⟩
        | str s => cases e1; exact ⟨rfl, rfl⟩
        | _ => cases e1
      obtain ⟨more, h1, h2, h3⟩ := dputs_rp ks xs r (dput k x kvs) (putK ys key v) (by simpa using hl) hk.2 r2 (by rw [ek.1]; exact RpK.put r1 rk)
      refine ⟨(key, v) :: more, ?_, by simp [h2], h3⟩
      rw [List.map_cons, List.zip_cons_cons, h1, List.map_cons, ek.2]
theorem mKs_some : ∀ (ks : List D) (keys : List (Option Expr)), mKs ks keys = true → keys.all (·.isSome) = true ∧ keys.length = ks.length ∧ ks.all (fun k => (kOf k).isSome) = true
  | [], [], _ => ⟨rfl, rfl, rfl⟩
  | [], _ :: _, h => by cases h
  | k :: ks, keys, h => by
    match k, keys, h with
    | .int i, some (.Constant (.int j) _ _) :: es, h =>
      have h : (i == j && mKs ks es) = true := h
      rw [Bool.and_eq_true] at h
      obtain ⟨a, b, c⟩ := mKs_some ks es h.2
      exact ⟨by simpa using a, by simp [b], by simpa [kOf] using c⟩
    | .str s, some (.Constant (.str t) _ _) :: es, h =>
      have h : (decide (s = t) && mKs ks es) = true := h
      rw [Bool.and_eq_true] at h
      obtain ⟨a, b, c⟩ := mKs_some ks es h.2
      exact ⟨by simpa using a, by simp [b], by simpa [kOf] using c⟩
/-- {k: v, ..} -/
theorem e_disp {ks : List D} {keys : List (Option Expr)} {es : Exs} {as : List Expr} {pos : Pos} (hk : mKs ks keys = true) (ha : AllA X fa cl es as) (hn : as.all (fun e => !isStar e) = true) (hl : ks.length = as.length) (h0 : ks ≠ []) (h15 : ks.length ≤ 15) :
    PE X (.Dict keys as pos) (rdO (zOf X fa) cl (.dsp ks es)) := by
  obtain ⟨k1, k2, k3⟩ := mKs_some ks keys hk
  obtain ⟨trs, h1, h2⟩ := pps_vs (pos := pos) ks keys es as hk ha hn hl
  refine PE.imp (pe_disp h1 k1 (by rw [k2]; exact hl) (fun e => h0 (by rw [e] at k2; exact List.length_eq_zero_iff.mp k2.symm)) (by rw [k2]; exact h15)) fun σ H Q h => ?_
  obtain ⟨S, F0, H0, T, env, F, R, h⟩ := h
  simp only [evO] at h
  rw [M.all_bind] at h
  intro p hp
  have R1 := R.pushT (o := .dK []) (x := .dic false []) hp ⟨[], upd_same, rfl⟩
  refine h2 σ _ _ ⟨S, F0, H0, (p, .dic false []) :: T, env, F, R1, M.all_mono (fun r hr vs H' F' R' l q => ?_) h⟩
  cases e : vlDs r.1 with
  | none => simp only [e] at hr; exact False.elim hr
  | some xs =>
    simp only [e] at hr
    split at hr
    · rename_i hz
      have ra := q.ds e
      have a := R'.tmp (p, .dic false []) List.mem_cons_self
      obtain ⟨ys, y1, y2⟩ := a.ob
      have y2 : ys = [] := y2
      subst y2
      obtain ⟨more, m1, m2, m3⟩ := dputs_rp ks xs vs [] [] hz k3 ra (show RpK (zOf X fa) F' [] [] from rfl)
      refine ⟨y1, more, m1, by rw [m2]; exact h15, ?_⟩
      have R2 := R'.setT (o := .dK (mergeK [] more)) (x' := .dic false (dputs ks xs [])) ⟨_, upd_same, m3⟩
      obtain ⟨R3, a3, al⟩ := R2.popT
      exact hr (.ref p) _ F' R3 l ⟨p, rfl, a3, al⟩
    · exact False.elim hr
/-! ### list(range(n)) -/
def rLstRg : List V → Hp → VK → Prop := fun vs H Q => ∃ n : Int, vs = [.int n] ∧ RgOk 0 n ∧ ∀ q, H q = none → Q (.ref q) (upd H q (.lst (rgV 0 n)))
theorem rg_rp {Z : Wd} {F : Hp} (n : Nat) : ∀ lo : Int, RpAll Z F (rangeD lo n) ((List.range n).map fun i => V.int (lo + (i : Nat))) := by
  induction n with
  | zero => intro lo; rfl
  | succ n ih =>
    intro lo
    rw [rangeD, List.range_succ_eq_map, List.map_cons, List.map_map]
    refine ⟨.int lo, _, by rw [Int.natCast_zero, Int.add_zero], rfl, ?_⟩
    have := ih (lo + 1)
    have e : ((fun i : Nat => V.int (lo + (i : Int))) ∘ Nat.succ) = fun i : Nat => V.int (lo + 1 + (i : Int)) := by
      funext i
      show V.int (lo + ((i + 1 : Nat) : Int)) = _
      congr 1
      push_cast
      omega
    rw [e]
    exact this
theorem rng1_ok : BiR (zOf X fa) rLstRg .rng1 := by
  intro S F0 H0 T env σ H F ds vs o Q R ps e h
  match ds, ps, e with
  | [.int n], ps, e =>
    have e : (if small n then some (Od.fr (.lst (rangeD 0 n.toNat))) else none) = some o := e
    split at e
    · rename_i hs
      cases e
      obtain ⟨v, rfl, p⟩ := pk1 ps
      cases (show v = V.int n from p)
      have hs : n.natAbs ≤ 1000000 := of_decide_eq_true hs
      refine ⟨n, rfl, ⟨by omega, by omega, by omega, by omega, by omega⟩, fun q hq => ?_⟩
      have := rg_rp (Z := zOf X fa) (F := F) n.toNat 0
      have h2 := h.lst R this q hq
      unfold rgV
      rw [Int.sub_zero]
      exact h2
    · cases e
theorem e_rng1 {m : Ex} {e : Expr} {p p2 q pos : Pos} {c : Cm} {k : Nat} {sc : Scope} (C : CxOk c k sc X) (hg : Gl X "list") (hm : X.mg "list" = none) (hg2 : Gl X "range") (hm2 : X.mg "range" = none) (ha : EOk X fa cl m e) (ns : isStar e = false) :
    PE X (.Call (.Name "list" p) [.Call (.Name "range" p2) [e] [] q] [] pos) (rdO (zOf X fa) cl (.bi .rng1 (.cons m .nil))) := by
  refine PE.imp (pe_listRg C.calm hg hm (prg_1 hg2 hm2 ha.pe (each_plain ns)) (each_plain rfl)) fun σ H Q h => ?_
  have h := bi_rd (rng1_ok (X := X) (fa := fa)) σ H Q h
  have h := os_rd_cons σ H _ h
  obtain ⟨S, F0, H0, T, env, F, R, h⟩ := h
  refine ⟨S, F0, H0, T, env, F, R, M.all_mono (fun r hr v H' F' R' l q => ?_) h⟩
  obtain ⟨S2, F02, H02, T2, env2, F2, R2, h2⟩ := hr v H' F' R' l q
  obtain ⟨n, e1, e2, e3⟩ := h2 [] H' F2 R2 (Le.refl F2) rfl
  cases e1
  exact ⟨n, rfl, e2, e3⟩
end
end Bq

set_option Elab.async false
set_option autoImplicit false
set_option linter.all false
set_option maxRecDepth 100000
/-! enumerate and zip, over lists and tuples alike. -/
namespace Bq
open PySem PySem.Spec PyProof.Rows L2 StX
/-- a list, a tuple -/
inductive SK where | l | t
def SK.sq (κ : SK) (K : PySem.W.Frag) (H : Hp) (a : Addr) (xs : List V) : Prop := match κ with
  | .l => SqL K H a xs
  | .t => SqT K H a xs
def SK.at (κ : SK) (h : Heap) (it a : Addr) (i : Nat) : Prop := match κ with
  | .l => h.IsListIter it a i
  | .t => h.IsTupleIter it a i
def SK.is (κ : SK) (h : Heap) (a : Addr) (items : Array Value) : Prop := match κ with
  | .l => h.IsList a items
  | .t => h.IsTuple a items
def SK.ob (κ : SK) (a : Addr) : Obj := match κ with
  | .l => { cls := .type "list_iterator", data := .fields #[.ref a, .int 0 0] }
  | .t => { cls := .type "tuple_iterator", data := .fields #[.ref a, .int 0 0] }
theorem SK.begins (κ : SK) (a : Addr) (items : Array Value) : Begins (.ref a) (κ.ob a) fun h => κ.is h a items := match κ with
  | .l => begins_list a items
  | .t => begins_tuple a items
theorem SK.starts (κ : SK) {h : Heap} {it a : Addr} (e : h.get? it = some (κ.ob a)) : κ.at h it a 0 := match κ with
  | .l => ⟨_, e, rfl, rfl⟩
  | .t => ⟨_, e, rfl, rfl⟩
theorem SK.draws (κ : SK) {prog : Program} {w : World} {A : Around} (hh : A.handled = none) (it a : Addr) (hne : a ≠ it) (items : Array Value) :
    Draws prog w A it [it, a] items.size (fun i v => items[i]? = some v) (fun i h => κ.at h it a i ∧ κ.is h a items) := match κ with
  | .l => Draws.list hh it a hne items
  | .t => Draws.tuple hh it a hne items
theorem SK.items (κ : SK) {X : Cx} {pins : List (Addr × Obj)} {σ : L2.St} {H : Hp} {s : Shared} {a : Addr} {xs : List V} (I : Inv X pins σ H s) (h : κ.sq X.K H a xs) : ∃ its, Vals xs its ∧ κ.is s.heap a its.toArray ∧ xs.length ≤ sizeLine := by
  cases κ with
  | l =>
    obtain ⟨its, rv, p, hz⟩ := I.list h
    exact ⟨its, rv, p.isList, hz⟩
  | t =>
    obtain ⟨its, rv, p, hz⟩ := I.tuple h
    exact ⟨its, rv, p, hz⟩
theorem SK.at_keep (κ : SK) {h h' : Heap} {it a : Addr} {i : Nat} (st : κ.at h it a i) (k : ∀ o, h.get? it = some o → h'.get? it = some o) : κ.at h' it a i := match κ, st with
  | .l, st => Heap.IsListIter.at st fun o e => k o e
  | .t, st => Heap.IsTupleIter.at st fun o e => k o e
theorem SK.at_obj (κ : SK) {h : Heap} {it a : Addr} {i : Nat} (st : κ.at h it a i) : ∃ o, h.get? it = some o ∧ ∀ v, o.data ≠ .cell v := match κ, st with
  | .l, ⟨o, e, c, d⟩ => ⟨o, e, fun v z => by rw [d] at z; cases z⟩
  | .t, ⟨o, e, c, d⟩ => ⟨o, e, fun v z => by rw [d] at z; cases z⟩
/-- rows of new tuples, while G stands -/
def ItP (G : Hp → Prop) (n : Nat) (row : Nat → Option (List V)) : L2.It :=
  ⟨fun i H => G H ∧ i < n, fun i H v H' => ∃ T vs, v = .ref T ∧ H T = none ∧ H' = upd H T (.tup vs) ∧ row i = some vs, fun i H => G H ∧ i = n⟩
theorem walk_P {G : Hp → Prop} {n : Nat} {row : Nat → Option (List V)} : Walk (ItP G n row) n G (fun i H v H' => ∃ T vs, v = .ref T ∧ H T = none ∧ H' = upd H T (.tup vs) ∧ row i = some vs) :=
  ⟨fun _ _ hi g => ⟨g, hi⟩, fun _ g => ⟨g, rfl⟩, fun _ _ _ _ _ _ y => y⟩
/-- an iterator of new tuples, from the library's word of it at each step -/
theorem turn_of {P : Program} {w : World} {K : PySem.W.Frag} {elts : List Expr} {kk : Nat} {tpos : Pos} {G : Hp → Prop} {n : Nat} {row : Nat → Option (List V)} {fp : List Addr} {I0 : Addr} {tn : Nat → Heap → Prop} (mem : I0 ∈ fp)
    (obj : ∀ i h, tn i h → ∀ b ∈ fp, ∃ o, h.get? b = some o ∧ ∀ v, o.data ≠ .cell v) (keep : ∀ i h h', tn i h → (∀ b ∈ fp, ∀ o, h.get? b = some o → h'.get? b = some o) → tn i h')
    (self : ∀ (A : Around) (i : Nat) (s : Shared) (Q : Value → Shared → Prop) (E : Value → Shared → Prop), tn i s.heap → Q (.ref I0) s → wpAny (model P w) A (pyIter (.ref I0)) Q E s)
    (W : ∀ (X : Cx), X.prog = P → X.w = w → X.K = K → X.A.handled = none → ∀ (i : Nat) (pins : List (Addr × Obj)) (s : Shared) (σ : L2.St) (H : Hp), Inv X pins σ H s → tn i s.heap → G H →
      ∃ (wr fpw : List Addr) (Pt : Nat → Array Value → Prop) (St : Nat → Heap → Prop) (Mid : Nat → Addr → Heap → Prop), WalksT P w X.A I0 fpw wr n Pt St Mid ∧ (∀ b ∈ wr, b ∈ fp) ∧ St i s.heap ∧ (∀ h', St (i + 1) h' → tn (i + 1) h') ∧
        ∀ vals, Pt i vals → ∃ vs, row i = some vs ∧ Vals vs vals.toList ∧ vs.length ≤ sizeLine) :
    Turn P w K (.Tuple elts kk tpos) (ItP G n row) fp I0 tn where
  mem := mem
  obj := obj
  keep := keep
  item := by
    intro X hP hw hK hc i pins s σ H E I hf st hg
    obtain ⟨wr, fpw, Pt, St, Mid, Wk, hsub, hst, hnx, hrow⟩ := W X hP hw hK (I.ok.hd hc) i pins s σ H I st hg.1
    refine Wk.item i s _ _ hg.2 hst fun T vals h' tk hp hsz hT hm hk => ?_
    refine ⟨_, rfl, Wk.go elts kk tpos i T { s with heap := h', toks := tk } _ _ hm fun h'' st'' hk'' => ?_⟩
    obtain ⟨vs, hr, rv, hz⟩ := hrow vals hp
    obtain ⟨oT, eT, cT, dT⟩ := id hT
    have eT2 : h''.get? T = some oT := hk'' T oT (Wk.apart i T h' hm) eT
    have new : ObjOk X.prog X.w (upd H T (.tup vs)) h'' T (.tup vs) := ⟨hz, vals.toList, rv, ⟨oT, eT2, cT, by simpa using dT⟩⟩
    have keepW : ∀ b o, b ∉ wr → s.heap.get? b = some o → h''.get? b = some o := fun b o hb e => hk'' b o hb (hk b o hb e)
    have I1 : Inv X pins σ (upd H T (.tup vs)) { s with heap := h'', toks := tk } := I.turnedNew (ch := wr) keepW (fun b hb => hf b (hsub b hb)) hsz new
    refine ⟨.ref T, _, I1, rfl, ⟨T, vs, rfl, I.hok.fresh hsz, rfl, hr⟩, hnx h'' st'', fun b hb => ?_⟩
    obtain ⟨o, e, _⟩ := obj i s.heap st b hb
    rw [upd_ne (Nat.ne_of_lt (Nat.lt_of_lt_of_le (Heap.lt_size e) hsz))]
    exact (hf b hb).1
  done := by
    intro X hP hw hK hc i pins s σ H E I hf st hg
    obtain ⟨wr, fpw, Pt, St, Mid, Wk, hsub, hst, hnx, hrow⟩ := W X hP hw hK (I.ok.hd hc) i pins s σ H I st hg.1
    obtain ⟨_, rfl⟩ := hg
    refine Wk.done s _ _ hst fun h' tk hk => ⟨rfl, ?_⟩
    exact I.turnedL (ch := wr) (fun b o hb e => hk b o hb e) fun b hb => hf b (hsub b hb)
  self := self
theorem vals_at : ∀ {xs : List V} {us : List Value} {i : Nat} {u : Value}, Vals xs us → us[i]? = some u → ∃ x, xs[i]? = some x ∧ RelV x u
  | _, _, i, u, .nil, h => by simp at h
  | _, _, 0, u, .cons r t, h => by
    cases h
    exact ⟨_, rfl, r⟩
  | _, _, i + 1, u, .cons r t, h => by
    obtain ⟨x, h1, h2⟩ := vals_at t (i := i) (by simpa using h)
    exact ⟨x, by simpa using h1, h2⟩
/-! ### enumerate -/
theorem meets_enum1B {v : Value} {o : Obj} {H : Heap → Prop} (B : Begins v o H) :
    Meets (Builtin.«enumerate.__new__» ⟨[.type "enumerate", v], []⟩) (fun _ R s => H s.heap ∧
      R (.ok (.ret (.ref (s.heap.push o).objs.size))) { s with heap := (s.heap.push o).push { cls := .type "enumerate", data := .fields #[.none, .bool false, .ref s.heap.objs.size, rawInt 0, .none, .none] } }) :=
  .of_wp fun prog w A R s h => by
    obtain ⟨hp, g, d, tk, os⟩ := s; obtain ⟨h1, h⟩ := h
    have hsub := sub_enumerate
    have q1 : ∀ {A' : Around} {E : Value → Shared → Prop} {Q : Value → Shared → Prop}, Q (.ref hp.objs.size) ⟨hp.push o, g, d, tk, os⟩ → wpAny (model prog w) A' (pyIter v) Q E ⟨hp, g, d, tk, os⟩ :=
      fun q => B.iter prog w _ _ ⟨hp, g, d, tk, os⟩ _ h1 q
    wp_walk using q1
    refine wpAny_stack_any fun st => wpAny_pure ?_
    split
    · rename_i c _ _ _ _ _
      cases (c == Value.type "enumerate")
      · wp_walk using q1
        exact ⟨_, rfl, h⟩
      · wp_walk using q1
        exact ⟨_, rfl, h⟩
    · wp_walk using q1
      exact ⟨_, rfl, h⟩
theorem enum1_begins {prog : Program} {w : World} {A : Around} {E : Value → Shared → Prop} {s : Shared} {v : Value} {o : Obj} {H : Heap → Prop} {Q : Value → Shared → Prop} (B : Begins v o H) (h1 : H s.heap)
    (h : ∀ h', IsEnum h' (s.heap.objs.size + 1) s.heap.objs.size 0 .none → h'.get? s.heap.objs.size = some o → (∀ b o, s.heap.get? b = some o → h'.get? b = some o) → Q (.ref (s.heap.objs.size + 1)) { s with heap := h' }) :
    wpAny (model prog w) A (call (.type "enumerate") [v]) Q E s := by
  refine callType_new F.called_enumerate (by decide) (F.typeCall_enumerate_1 _) (F.newCall_enumerate_1 _) (fun obj => F.args_object_init_2 obj _) F.entry_enumerate_new
    (meets_enum1B B) ⟨h1, ?_⟩
  have hz : (s.heap.push o).objs.size = s.heap.objs.size + 1 := Heap.size_push ..
  show _ ∧ _
  rw [hz]
  have he : IsEnum ((s.heap.push o).push { cls := .type "enumerate", data := .fields #[.none, .bool false, .ref s.heap.objs.size, rawInt 0, .none, .none] }) (s.heap.objs.size + 1) s.heap.objs.size 0 .none := by
    have := Heap.get?_push_size (s.heap.push o) (o := { cls := .type "enumerate", data := .fields #[.none, .bool false, .ref s.heap.objs.size, rawInt 0, .none, .none] }) rfl
    rw [hz] at this; exact this
  refine ⟨⟨_, he, rfl⟩, h _ he (Heap.get?_push_of_some _ (Heap.get?_push_size _ B.free)) fun b o x => Heap.get?_push_of_some _ (Heap.get?_push_of_some _ x)⟩
def rowE (xs : List V) (i : Nat) : Option (List V) := (xs[i]?).map fun x => [.int (i : Nat), x]
theorem turn_enumK {P : Program} {w : World} {K : PySem.W.Frag} {elts : List Expr} {kk : Nat} {tpos : Pos} (κ : SK) (a e it : Addr) (xs : List V) (n1 : e ≠ it) (n2 : a ≠ it) (n3 : a ≠ e) :
    Turn P w K (.Tuple elts kk tpos) (ItP (fun H => κ.sq K H a xs) xs.length (rowE xs)) [e, it] e (fun i h => (∃ old, IsEnum h e it (0 + (i : Int)) old) ∧ κ.at h it a i) := by
  refine turn_of (by simp) (fun i h st b hb => ?_) (fun i h h' st k => ?_) (fun A i s Q E st h => ?_) fun X hP hw hK hd i pins s σ H I st hg => ?_
  · obtain ⟨⟨old, he⟩, hi⟩ := st
    have e' : b = e ∨ b = it := by simpa using hb
    rcases e' with z | z
    · rw [z]; exact ⟨_, he, fun v q => nomatch q⟩
    · rw [z]; exact κ.at_obj hi
  · obtain ⟨⟨old, he⟩, hi⟩ := st
    exact ⟨⟨old, k e (by simp) _ he⟩, κ.at_keep hi fun o q => k it (by simp) o q⟩
  · obtain ⟨⟨old, he⟩, hi⟩ := st
    exact wpAny_pyIter_enum he h
  · subst hP hw hK
    obtain ⟨its, rv, his, hz⟩ := κ.items I hg
    have hl : its.toArray.size = xs.length := by simpa using rv.length.symm
    have D := κ.draws (prog := X.prog) (w := X.w) (A := X.A.in1) hd it a n2 its.toArray
    have Wk := WalksT.enumFrom 0 D e n1 (by simp only [List.mem_cons, not_or]; exact ⟨n1, n3.symm, by simp⟩) (by simp)
    rw [hl] at Wk
    refine ⟨_, _, _, _, _, Wk, fun b hb => hb, ⟨st.1, st.2, his⟩, fun h' st' => ⟨st'.1, st'.2.1⟩, fun vals hp => ?_⟩
    obtain ⟨t, x, hx, rfl⟩ := hp
    obtain ⟨v, hv, r⟩ := vals_at rv (by simpa using hx)
    exact ⟨[.int i, v], by unfold rowE; rw [hv]; rfl, .cons ⟨t, by simp⟩ (.cons r .nil), (show 2 ≤ sizeLine by decide)⟩
def iEnumA (K : PySem.W.Frag) (ta : TA) : TI := fun σ H R => ta σ H fun vs H1 => ∃ (κ : SK) (a : Addr) (xs : List V), vs = [.ref a] ∧ κ.sq K H1 a xs ∧ R (ItP (fun H => κ.sq K H a xs) xs.length (rowE xs)) H1
theorem pi_enumA {X : Cx} {e : Expr} {ta : TA} {p pos tpos : Pos} {elts : List Expr} {kk : Nat} (hg : Gl X "enumerate") (hm : X.mg "enumerate" = none) (ha : PA X [e] ta) (hs : starEach [e] X.env = [(false, eval e X.env)]) :
    PI X (.Tuple elts kk tpos) (.Call (.Name "enumerate" p) [e] [] pos) (iEnumA X.K ta) := by
  refine ⟨fun pins s σ H R I h => ?_⟩
  refine Call_ (ld_blt I hg hm boot_enumerate (PyProof.Rows.callWith_type1 (thn (ha.run pos pins s σ H _ I h) fun us s1 ⟨vs, H1, I1, r1, q1⟩ => ?_) hs rfl))
  obtain ⟨κ, a, xs, ex, hq, q⟩ := q1
  subst ex
  cases r1 with
  | cons r rr =>
    cases rr
    cases r
    obtain ⟨its, rv, his, hz⟩ := κ.items I1 hq
    refine enum1_begins (κ.begins a its.toArray) his fun h' he hit hk => wpAny_pyIter_enum he ?_
    have I2 : Inv X pins σ H1 { s1 with heap := h' } := I1.kept (t' := s1.toks) hk
    have la : a < s1.heap.objs.size := by
      cases κ with
      | l => obtain ⟨o, e, _⟩ := his; exact Heap.lt_size e
      | t => obtain ⟨o, e, _⟩ := his; exact Heap.lt_size e
    refine ⟨s1.heap.objs.size + 1, [s1.heap.objs.size + 1, s1.heap.objs.size], _, _, H1, rfl, I2, turn_enumK κ a (s1.heap.objs.size + 1) s1.heap.objs.size xs (Nat.succ_ne_self _) (Nat.ne_of_lt la) (Nat.ne_of_lt (Nat.lt_succ_of_lt la)), ⟨⟨.none, by simpa using he⟩, κ.starts hit⟩, fun b hb => ?_, q⟩
    have e' : b = s1.heap.objs.size + 1 ∨ b = s1.heap.objs.size := by simpa using hb
    have hle : s1.heap.objs.size ≤ b := by
      rcases e' with z | z
      · rw [z]; exact Nat.le_add_right _ _
      · rw [z]; exact Nat.le_refl _
    exact I1.fpOk hle (I1.hok.fresh hle)
section
variable {c : Cm} {k : Nat} {sc : Scope} {X : Cx} {fa : Nat → Addr} {cl : Nat → List Vl → M D} {Z : Wd}
theorem seq_sq {F H : Hp} {ds : List D} {d : D} {v : V} (hd : seqOf d = some ds) (l : Le F H) (r : Rp Z F d v) : ∃ (κ : SK) (a : Addr) (xs : List V), v = .ref a ∧ RpAll Z F ds xs ∧ ∀ H', Le F H' → κ.sq Z.K H' a xs := by
  cases d with
  | lst xs' =>
    cases hd
    obtain ⟨a, xs, rfl, hf, ra⟩ := r
    exact ⟨.l, a, xs, rfl, ra, fun H' l' => SqL.of (l' _ _ hf)⟩
  | tup xs' =>
    cases hd
    obtain ⟨a, xs, rfl, hf, ra⟩ := r
    exact ⟨.t, a, xs, rfl, ra, fun H' l' => SqT.of (l' _ _ hf)⟩
  | _ => cases hd
theorem enumD_len : ∀ (ds : List D) (i : Int), (enumD i ds).length = ds.length
  | [], _ => rfl
  | d :: ds, i => by show (enumD (i + 1) ds).length + 1 = _; rw [enumD_len ds]; rfl
theorem enumD_get : ∀ (ds : List D) (i : Int) (j : Nat) (d : D), ds[j]? = some d → (enumD i ds)[j]? = some (.tup [.int (i + j), d])
  | [], _, _, _, h => by simp at h
  | x :: ds, i, 0, d, h => by
    have h : x = d := by simpa using h
    subst h
    show some (D.tup [.int i, x]) = _
    simp
  | x :: ds, i, j + 1, d, h => by
    show (enumD (i + 1) ds)[j]? = _
    rw [enumD_get ds (i + 1) j d (by simpa using h)]
    congr 4
    omega
theorem i_enu {elts : List Expr} {kk : Nat} {tpos : Pos} {m : Ex} {e : Expr} {p pos : Pos} (hg : Gl X "enumerate") (hm : X.mg "enumerate" = none) (h : PE X e (rdO (zOf X fa) cl m)) (ns : isStar e = false) :
    PI X (.Tuple elts kk tpos) (.Call (.Name "enumerate" p) [e] [] pos) (rdI (zOf X fa) (evIt cl (.enu m))) := by
  refine PI.imp (pi_enumA hg hm (pa_cons h pa_nil (each_plain ns)) (each_plain ns)) fun σ H R q => ?_
  obtain ⟨S, F0, H0, T, env, F, Rl, q⟩ := q
  simp only [evIt] at q
  rw [M.all_bind] at q
  refine ⟨S, F0, H0, T, env, F, Rl, M.all_mono (fun r hr v H' F' R' l qv => ?_) q⟩
  cases e1 : r.1.frz r.2 with
  | none => simp only [e1] at hr; exact False.elim hr
  | some z =>
    obtain ⟨x, env2⟩ := z
    simp only [e1] at hr
    obtain ⟨G, RG, lG, rG⟩ := R'.frz qv e1
    cases x with
    | src => exact False.elim hr
    | fn g => exact False.elim hr
    | d x =>
      simp only at hr
      cases e2 : seqOf x with
      | none => rw [e2] at hr; exact False.elim hr
      | some ds =>
        rw [e2] at hr
        obtain ⟨κ, a, xs, rfl, ra, hsq⟩ := seq_sq (Z := zOf X fa) e2 RG.sub rG
        refine ⟨κ, a, xs, rfl, hsq _ RG.sub, hr _ H' G (fun H => κ.sq X.K H a xs) RG (l.trans lG) (fun H'' l'' => hsq _ l'') ?_⟩
        show Walk _ (enumD 0 ds).length _ _
        rw [enumD_len, ← ra.length]
        refine walk_P.mono (fun _ h => h) fun i H x H' hi _ y => ?_
        obtain ⟨T', vs, e3, e4, e5, e6⟩ := y
        unfold rowE at e6
        cases e7 : xs[i]? with
        | none => rw [e7] at e6; cases e6
        | some u =>
          rw [e7] at e6
          cases e6
          obtain ⟨d, hd, rd⟩ := ra.get' _ _ _ _ e7
          exact ⟨_, enumD_get ds 0 i d hd, .inr ⟨T', _, _, e3, e4, e5, rfl, _, _, rfl, by show V.int _ = V.int _; simp, _, _, rfl, rd, rfl⟩⟩
end
end Bq

set_option Elab.async false
set_option autoImplicit false
set_option linter.all false
set_option maxRecDepth 100000
/-! zip, over lists and tuples alike. -/
namespace Bq
open PySem PySem.Spec PyProof.Rows L2 StX
theorem ne_add {a N : Addr} (h : a < N) (j : Nat) : a ≠ N + j := Nat.ne_of_lt (Nat.lt_of_lt_of_le h (Nat.le_add_right N j))
theorem lt_one {a N : Addr} (h : a < N) : ∀ c ∈ [a], c < N := fun c hc => by rw [List.mem_singleton.mp hc]; exact h
def rowZ (xs ys : List V) (i : Nat) : Option (List V) := match xs[i]?, ys[i]? with
  | some x, some y => some [x, y]
  | _, _ => none
def rowZ3 (xs ys zs : List V) (i : Nat) : Option (List V) := match xs[i]?, ys[i]?, zs[i]? with
  | some x, some y, some z => some [x, y, z]
  | _, _, _ => none
theorem SK.lt (κ : SK) {h : Heap} {a : Addr} {items : Array Value} (x : κ.is h a items) : a < h.objs.size := match κ, x with
  | .l, ⟨o, e, _⟩ => Heap.lt_size e
  | .t, ⟨o, e, _⟩ => Heap.lt_size e
theorem turn_zipK {P : Program} {w : World} {K : PySem.W.Frag} {elts : List Expr} {kk : Nat} {tpos : Pos} (κ1 κ2 : SK) (a b N : Addr) (xs ys : List V) (la : a < N) (lb : b < N) :
    Turn P w K (.Tuple elts kk tpos) (ItP (fun H => κ1.sq K H a xs ∧ κ2.sq K H b ys) (min xs.length ys.length) (rowZ xs ys)) [N + 4, N + 2, N + 3, N, N + 1] (N + 4)
      (fun i h => IsZip h (N + 4) (N + 2) (N + 3) .none ∧ IsTupOf2 h (N + 2) (.ref N) (.ref (N + 1)) ∧ (∃ a1 a2, IsTupOf2 h (N + 3) a1 a2) ∧ κ1.at h N a i ∧ κ2.at h (N + 1) b i) := by
  refine turn_of (by simp) (fun i h st c hc => ?_) (fun i h h' st k => ?_) (fun A i s Q E st h => wpAny_pyIter_zip st.1 h) fun X hP hw hK hd i pins s σ H I st hg => ?_
  · obtain ⟨hz, hTI, ⟨a1, a2, hTO⟩, h1, h2⟩ := st
    simp only [List.mem_cons, List.not_mem_nil, or_false] at hc
    rcases hc with z | z | z | z | z
    · rw [z]; exact ⟨_, hz, fun v q => nomatch q⟩
    · rw [z]; exact ⟨_, hTI, fun v q => nomatch q⟩
    · rw [z]; exact ⟨_, hTO, fun v q => nomatch q⟩
    · rw [z]; exact κ1.at_obj h1
    · rw [z]; exact κ2.at_obj h2
  · obtain ⟨hz, hTI, ⟨a1, a2, hTO⟩, h1, h2⟩ := st
    exact ⟨k _ (by simp) _ hz, k _ (by simp) _ hTI, ⟨a1, a2, k _ (by simp) _ hTO⟩, κ1.at_keep h1 fun o q => k _ (by simp) o q, κ2.at_keep h2 fun o q => k _ (by simp) o q⟩
  · subst hP hw hK
    obtain ⟨its, rv, his, hz⟩ := κ1.items I hg.1
    obtain ⟨its2, rv2, his2, hz2⟩ := κ2.items I hg.2
    have hl : its.toArray.size = xs.length := by simpa using rv.length.symm
    have hl2 : its2.toArray.size = ys.length := by simpa using rv2.length.symm
    have D1 := κ1.draws (prog := X.prog) (w := X.w) (A := X.A.in1) hd N a (Nat.ne_of_lt la) its.toArray
    have D2 := κ2.draws (prog := X.prog) (w := X.w) (A := X.A.in1) hd (N + 1) b (ne_add lb 1) its2.toArray
    have S : ZipSep2 (N + 4) (N + 2) (N + 3) N (N + 1) [N, a] [N + 1, b] := zip_sep2 (lt_one la) (lt_one lb)
    have Wk := WalksT.zipD2 S D1 D2
    rw [hl, hl2] at Wk
    refine ⟨_, _, _, _, _, Wk, fun c hc => ?_, ⟨st.1, st.2.1, st.2.2.1, ⟨st.2.2.2.1, his⟩, st.2.2.2.2, his2⟩, fun h' st' => ⟨st'.1, st'.2.1, st'.2.2.1, st'.2.2.2.1.1, st'.2.2.2.2.1⟩, fun vals hp => ?_⟩
    · simp only [List.mem_cons, List.not_mem_nil, or_false] at hc ⊢
      rcases hc with z | z | z | z <;> simp [z]
    · obtain ⟨x, y, hx, hy, rfl⟩ := hp
      obtain ⟨v, hv, r⟩ := vals_at rv (by simpa using hx)
      obtain ⟨u, hu, r2⟩ := vals_at rv2 (by simpa using hy)
      exact ⟨[v, u], by unfold rowZ; rw [hv, hu], .cons r (.cons r2 .nil), (show 2 ≤ sizeLine by decide)⟩
def iZipK (K : PySem.W.Frag) (ta : TA) : TI := fun σ H R => ta σ H fun vs H1 => ∃ (κ1 κ2 : SK) (a b : Addr) (xs ys : List V), vs = [.ref a, .ref b] ∧ κ1.sq K H1 a xs ∧ κ2.sq K H1 b ys ∧ R (ItP (fun H => κ1.sq K H a xs ∧ κ2.sq K H b ys) (min xs.length ys.length) (rowZ xs ys)) H1
theorem pi_zipK {X : Cx} {e e2 : Expr} {ta : TA} {p pos tpos : Pos} {elts : List Expr} {kk : Nat} (hg : Gl X "zip") (hm : X.mg "zip" = none) (ha : PA X [e, e2] ta)
    (hs : starEach [e, e2] X.env = (false, eval e X.env) :: starEach [e2] X.env) (hpl : (backTo pos (starEach [e2] X.env)).any (·.1) = false) :
    PI X (.Tuple elts kk tpos) (.Call (.Name "zip" p) [e, e2] [] pos) (iZipK X.K ta) := by
  refine ⟨fun pins s σ H R I h => ?_⟩
  refine Call_ (ld_blt I hg hm PyProof.Rows.boot_zip (PyProof.Rows.callWith_type1 (thn (ha.run pos pins s σ H _ I h) fun us s1 ⟨vs, H1, I1, r1, q1⟩ => ?_) hs hpl))
  obtain ⟨κ1, κ2, a, b, xs, ys, ex, hq, hq2, q⟩ := q1
  subst ex
  cases r1 with
  | cons r rr =>
    cases rr with
    | cons r' rr =>
      cases rr
      cases r
      cases r'
      obtain ⟨its, rv, his, hz⟩ := κ1.items I1 hq
      obtain ⟨its2, rv2, his2, hz2⟩ := κ2.items I1 hq2
      refine zip_begins2 (κ1.begins a its.toArray) (κ2.begins b its2.toArray) his his2 fun h' hzp hTI hTO g1 g2 hsz hk => wpAny_pyIter_zip hzp ?_
      have I2 : Inv X pins σ H1 { s1 with heap := h' } := I1.kept (t' := s1.toks) hk
      refine ⟨s1.heap.objs.size + 4, [s1.heap.objs.size + 4, s1.heap.objs.size + 2, s1.heap.objs.size + 3, s1.heap.objs.size, s1.heap.objs.size + 1], _, _, H1, rfl, I2, turn_zipK κ1 κ2 a b s1.heap.objs.size xs ys (κ1.lt his) (κ2.lt his2), ⟨hzp, hTI, ⟨_, _, hTO⟩, κ1.starts g1, κ2.starts g2⟩, fun c hc => ?_, q⟩
      have hle : s1.heap.objs.size ≤ c := by
        simp only [List.mem_cons, List.not_mem_nil, or_false] at hc
        rcases hc with z | z | z | z | z <;> rw [z] <;> first | exact Nat.le_refl _ | exact Nat.le_add_right _ _
      exact I1.fpOk hle (I1.hok.fresh hle)
theorem turn_zipK3 {P : Program} {w : World} {K : PySem.W.Frag} {elts : List Expr} {kk : Nat} {tpos : Pos} (κ1 κ2 κ3 : SK) (a b c N : Addr) (xs ys zs : List V) (la : a < N) (lb : b < N) (lc : c < N) :
    Turn P w K (.Tuple elts kk tpos) (ItP (fun H => κ1.sq K H a xs ∧ κ2.sq K H b ys ∧ κ3.sq K H c zs) (min (min xs.length ys.length) zs.length) (rowZ3 xs ys zs)) [N + 5, N + 3, N + 4, N, N + 1, N + 2] (N + 5)
      (fun i h => IsZip h (N + 5) (N + 3) (N + 4) .none ∧ IsTupOf3 h (N + 3) (.ref N) (.ref (N + 1)) (.ref (N + 2)) ∧ (∃ a1 a2 a3, IsTupOf3 h (N + 4) a1 a2 a3) ∧ κ1.at h N a i ∧ κ2.at h (N + 1) b i ∧ κ3.at h (N + 2) c i) := by
  refine turn_of (by simp) (fun i h st c' hc => ?_) (fun i h h' st k => ?_) (fun A i s Q E st h => wpAny_pyIter_zip st.1 h) fun X hP hw hK hd i pins s σ H I st hg => ?_
  · obtain ⟨hz, hTI, ⟨a1, a2, a3, hTO⟩, h1, h2, h3⟩ := st
    simp only [List.mem_cons, List.not_mem_nil, or_false] at hc
    rcases hc with z | z | z | z | z | z
    · rw [z]; exact ⟨_, hz, fun v q => nomatch q⟩
    · rw [z]; exact ⟨_, hTI, fun v q => nomatch q⟩
    · rw [z]; exact ⟨_, hTO, fun v q => nomatch q⟩
    · rw [z]; exact κ1.at_obj h1
    · rw [z]; exact κ2.at_obj h2
    · rw [z]; exact κ3.at_obj h3
  · obtain ⟨hz, hTI, ⟨a1, a2, a3, hTO⟩, h1, h2, h3⟩ := st
    exact ⟨k _ (by simp) _ hz, k _ (by simp) _ hTI, ⟨a1, a2, a3, k _ (by simp) _ hTO⟩, κ1.at_keep h1 fun o q => k _ (by simp) o q, κ2.at_keep h2 fun o q => k _ (by simp) o q, κ3.at_keep h3 fun o q => k _ (by simp) o q⟩
  · subst hP hw hK
    obtain ⟨its, rv, his, hz⟩ := κ1.items I hg.1
    obtain ⟨its2, rv2, his2, hz2⟩ := κ2.items I hg.2.1
    obtain ⟨its3, rv3, his3, hz3⟩ := κ3.items I hg.2.2
    have hl : its.toArray.size = xs.length := by simpa using rv.length.symm
    have hl2 : its2.toArray.size = ys.length := by simpa using rv2.length.symm
    have hl3 : its3.toArray.size = zs.length := by simpa using rv3.length.symm
    have D1 := κ1.draws (prog := X.prog) (w := X.w) (A := X.A.in1) hd N a (Nat.ne_of_lt la) its.toArray
    have D2 := κ2.draws (prog := X.prog) (w := X.w) (A := X.A.in1) hd (N + 1) b (ne_add lb 1) its2.toArray
    have D3 := κ3.draws (prog := X.prog) (w := X.w) (A := X.A.in1) hd (N + 2) c (ne_add lc 2) its3.toArray
    have S : ZipSep3 (N + 5) (N + 3) (N + 4) N (N + 1) (N + 2) [N, a] [N + 1, b] [N + 2, c] := zip_sep3 (lt_one la) (lt_one lb) (lt_one lc)
    have Wk := WalksT.zipD3 S D1 D2 D3
    rw [hl, hl2, hl3] at Wk
    refine ⟨_, _, _, _, _, Wk, fun c hc => ?_, ⟨st.1, st.2.1, st.2.2.1, ⟨st.2.2.2.1, his⟩, ⟨st.2.2.2.2.1, his2⟩, st.2.2.2.2.2, his3⟩, fun h' st' => ⟨st'.1, st'.2.1, st'.2.2.1, st'.2.2.2.1.1, st'.2.2.2.2.1.1, st'.2.2.2.2.2.1⟩, fun vals hp => ?_⟩
    · simp only [List.mem_cons, List.not_mem_nil, or_false] at hc ⊢
      rcases hc with z | z | z | z | z <;> simp [z]
    · obtain ⟨x, y, z, hx, hy, hzz, rfl⟩ := hp
      obtain ⟨v, hv, r⟩ := vals_at rv (by simpa using hx)
      obtain ⟨u, hu, r2⟩ := vals_at rv2 (by simpa using hy)
      obtain ⟨t, ht, r3⟩ := vals_at rv3 (by simpa using hzz)
      exact ⟨[v, u, t], by unfold rowZ3; rw [hv, hu, ht], .cons r (.cons r2 (.cons r3 .nil)), (show 3 ≤ sizeLine by decide)⟩
def iZipK3 (K : PySem.W.Frag) (ta : TA) : TI := fun σ H R => ta σ H fun vs H1 => ∃ (κ1 κ2 κ3 : SK) (a b c : Addr) (xs ys zs : List V), vs = [.ref a, .ref b, .ref c] ∧ κ1.sq K H1 a xs ∧ κ2.sq K H1 b ys ∧ κ3.sq K H1 c zs ∧ R (ItP (fun H => κ1.sq K H a xs ∧ κ2.sq K H b ys ∧ κ3.sq K H c zs) (min (min xs.length ys.length) zs.length) (rowZ3 xs ys zs)) H1
theorem pi_zipK3 {X : Cx} {e e2 e3 : Expr} {ta : TA} {p pos tpos : Pos} {elts : List Expr} {kk : Nat} (hg : Gl X "zip") (hm : X.mg "zip" = none) (ha : PA X [e, e2, e3] ta)
    (hs : starEach [e, e2, e3] X.env = (false, eval e X.env) :: starEach [e2, e3] X.env) (hpl : (backTo pos (starEach [e2, e3] X.env)).any (·.1) = false) :
    PI X (.Tuple elts kk tpos) (.Call (.Name "zip" p) [e, e2, e3] [] pos) (iZipK3 X.K ta) := by
  refine ⟨fun pins s σ H R I h => ?_⟩
  refine Call_ (ld_blt I hg hm PyProof.Rows.boot_zip (PyProof.Rows.callWith_type1 (thn (ha.run pos pins s σ H _ I h) fun us s1 ⟨vs, H1, I1, r1, q1⟩ => ?_) hs hpl))
  obtain ⟨κ1, κ2, κ3, a, b, c, xs, ys, zs, ex, hq, hq2, hq3, q⟩ := q1
  subst ex
  cases r1 with
  | cons r rr =>
    cases rr with
    | cons r' rr =>
      cases rr with
      | cons r'' rr =>
        cases rr
        cases r
        cases r'
        cases r''
        obtain ⟨its, rv, his, hz⟩ := κ1.items I1 hq
        obtain ⟨its2, rv2, his2, hz2⟩ := κ2.items I1 hq2
        obtain ⟨its3, rv3, his3, hz3⟩ := κ3.items I1 hq3
        refine zip_begins3 (κ1.begins a its.toArray) (κ2.begins b its2.toArray) (κ3.begins c its3.toArray) his his2 his3 fun h' hzp hTI hTO g1 g2 g3 hsz hk => wpAny_pyIter_zip hzp ?_
        have I2 : Inv X pins σ H1 { s1 with heap := h' } := I1.kept (t' := s1.toks) hk
        refine ⟨s1.heap.objs.size + 5, [s1.heap.objs.size + 5, s1.heap.objs.size + 3, s1.heap.objs.size + 4, s1.heap.objs.size, s1.heap.objs.size + 1, s1.heap.objs.size + 2], _, _, H1, rfl, I2, turn_zipK3 κ1 κ2 κ3 a b c s1.heap.objs.size xs ys zs (κ1.lt his) (κ2.lt his2) (κ3.lt his3), ⟨hzp, hTI, ⟨_, _, _, hTO⟩, κ1.starts g1, κ2.starts g2, κ3.starts g3⟩, fun c hc => ?_, q⟩
        have hle : s1.heap.objs.size ≤ c := by
          simp only [List.mem_cons, List.not_mem_nil, or_false] at hc
          rcases hc with z | z | z | z | z | z <;> rw [z] <;> first | exact Nat.le_refl _ | exact Nat.le_add_right _ _
        exact I1.fpOk hle (I1.hok.fresh hle)
end Bq

set_option Elab.async false
set_option autoImplicit false
set_option linter.all false
set_option maxRecDepth 100000
/-! zip(a, b, strict=True) of two things of one length. -/
namespace Bq
open PySem PySem.Spec PyProof.Rows L2 StX
abbrev IsZipS (h : Heap) (z TI TO : Addr) (f0 : Value) : Prop := h.get? z = some { cls := .type "zip", dict := none, data := .fields #[f0, .bool false, .bool true, .ref TI, .ref TO], slots := #[] }
section
variable {prog : Program} {w : World} {A : Around} {E : Value → Shared → Prop} {s : Shared} {z TI TO i1 i2 : Addr} {fp1 fp2 : List Addr} {n i : Nat} {P1 P2 : Nat → Value → Prop} {St1 St2 : Nat → Heap → Prop} {a1 a2 : Value}
theorem end_item {it : Addr} {fp : List Addr} {P : Nat → Value → Prop} {St : Nat → Heap → Prop} {Q : Option Value → Shared → Prop} (D : Draws prog w A it fp n P St) (hi : i < n) (st : St i s.heap)
    (h : ∀ x h' tk, P i x → St (i + 1) h' → Heap.SameBut it s.heap h' → Q (some x) { s with heap := h', toks := tk }) : wpAny (model prog w) A (Builtin.SmallTypes.nextOrEnd (.ref it)) Q E s := by
  unfold Builtin.SmallTypes.nextOrEnd
  exact wpAny_bind (wpAny_attempt (D.item i s _ _ hi st fun x h' tk hp st' sb => wpAny_pure (h x h' tk hp st' sb)))
theorem end_done {it : Addr} {fp : List Addr} {P : Nat → Value → Prop} {St : Nat → Heap → Prop} {Q : Option Value → Shared → Prop} (D : Draws prog w A it fp n P St) (st : St n s.heap)
    (h : ∀ h', Heap.ExtBut it s.heap h' → Q none { s with heap := h' }) : wpAny (model prog w) A (Builtin.SmallTypes.nextOrEnd (.ref it)) Q E s := by
  unfold Builtin.SmallTypes.nextOrEnd
  refine wpAny_bind (wpAny_attempt (D.done s _ _ st fun h' e hx he => ?_))
  obtain ⟨o, ho, hc⟩ := he
  refine wpAny_bind (wpAny_isInstance (T := "StopIteration") (b := true) ⟨o, ho, hc⟩ isSubtype_stop ?_)
  exact wpAny_pure (h h' hx)
theorem zipS_item {Q : Value → Shared → Prop} (S : ZipSep2 z TI TO i1 i2 fp1 fp2) (D1 : Draws prog w A i1 fp1 n P1 St1) (D2 : Draws prog w A i2 fp2 n P2 St2)
    (hz : IsZipS s.heap z TI TO .none) (hTI : IsTupOf2 s.heap TI (.ref i1) (.ref i2)) (hTO : IsTupOf2 s.heap TO a1 a2) (st1 : St1 i s.heap) (st2 : St2 i s.heap) (hlt : i < n)
    (hQ : ∀ x1 x2 h' tk, P1 i x1 → P2 i x2 → IsZipS h' z TI TO (rawInt s.heap.objs.size) → IsTupOf2 h' TO x1 x2 → St1 (i + 1) h' → St2 (i + 1) h' → IsTupOf2 h' s.heap.objs.size x1 x2 → h'.objs.size = s.heap.objs.size + 1 →
      (∀ c o, c ≠ z → c ≠ TO → c ≠ i1 → c ≠ i2 → s.heap.get? c = some o → h'.get? c = some o) → Q (.ref s.heap.objs.size) { s with heap := h', toks := tk }) :
    wpAny (model prog w) A (Builtin.«zip.__next__» ⟨[.ref z], []⟩) (fun fin s' => ∃ v, fin = .done (.ret v) ∧ Q v s') E s := by
  obtain ⟨hp, g, d, tk0, os⟩ := s
  show wpAny _ _ (field (.ref z) 2 >>= _) _ _ _
  refine wpAny_bind (wpAny_field hz rfl (x := .bool true) rfl ?_)
  show wpAny _ _ (field (.ref z) 3 >>= _) _ _ _
  refine wpAny_bind (wpAny_field hz rfl (x := .ref TI) rfl ?_)
  refine wpAny_bind (wpAny_seqItems hTI rfl ?_)
  show wpAny _ _ (Builtin.SmallTypes.ownedTupleIsFree (.ref z) >>= _) _ _ _
  refine wpAny_bind ?_
  unfold Builtin.SmallTypes.ownedTupleIsFree
  refine wpAny_bind (wpAny_field hz rfl (x := .none) rfl (wpAny_pure ?_))
  simp only [if_true]
  refine wpAny_bind (wpAny_rule ?_)
  refine wpAny_bind (wpAny_field hz rfl (x := .ref TO) rfl ?_)
  refine wpAny_bind (wpAny_setField_rec hz (by simp) fun g0 hz0 hs0 => ?_)
  replace hz0 : IsZipS g0 z TI TO .ellipsis := hz0
  replace hs0 : Heap.SameBut z hp g0 := hs0
  refine wpAny_bind ?_
  simp only [List.zipIdx_cons, List.zipIdx_nil, List.forIn_cons, List.forIn_nil]
  refine wpAny_bind (wpAny_bind (wpAny_onRaise ?_))
  show wpAny _ _ (Builtin.SmallTypes.nextOrEnd (.ref i1)) _ _ ⟨g0, g, d, tk0, os⟩
  refine end_item D1 hlt (D1.over st1 hs0 S.zf1) fun x1 p1 tk1 hx1 sn1 hp1 => ?_
  replace hp1 : Heap.SameBut i1 g0 p1 := hp1
  have hU1 : IsTupOf2 p1 TO a1 a2 := hp1.extBut _ _ S.Ti1 (hs0.extBut _ _ S.TOz hTO)
  refine wpAny_bind (wpAny_seqItems (s := ⟨p1, g, d, tk1, os⟩) hU1 rfl ?_)
  refine wpAny_bind (updateSeq_IsTupOf2 (s := ⟨p1, g, d, tk1, os⟩) hU1 fun g1 hT1 hs1 => ?_)
  replace hT1 : IsTupOf2 g1 TO x1 a2 := hT1
  replace hs1 : Heap.SameBut TO p1 g1 := hs1
  refine wpAny_bind (wpAny_letGo (wpAny_pure ?_))
  refine wpAny_bind (wpAny_bind (wpAny_onRaise ?_))
  show wpAny _ _ (Builtin.SmallTypes.nextOrEnd (.ref i2)) _ _ ⟨g1, g, d, tk1, os⟩
  refine end_item D2 hlt (D2.over (D2.over (D2.over st2 hs0 S.zf2) hp1 S.sep1_2) hs1 S.Tf2) fun x2 p2 tk2 hx2 sn2 hp2 => ?_
  replace hp2 : Heap.SameBut i2 g1 p2 := hp2
  have hU2 : IsTupOf2 p2 TO x1 a2 := hp2.extBut _ _ S.Ti2 hT1
  refine wpAny_bind (wpAny_seqItems (s := ⟨p2, g, d, tk2, os⟩) hU2 rfl ?_)
  refine wpAny_bind (updateSeq_IsTupOf2 (s := ⟨p2, g, d, tk2, os⟩) hU2 fun g2 hT2 hs2 => ?_)
  replace hT2 : IsTupOf2 g2 TO x1 x2 := hT2
  replace hs2 : Heap.SameBut TO p2 g2 := hs2
  refine wpAny_bind (wpAny_letGo (wpAny_pure (wpAny_pure ?_)))
  refine wpAny_bind (wpAny_seqItems (s := ⟨g2, g, d, tk2, os⟩) hT2 rfl ?_)
  refine wpAny_bind (wpAny_newTuple ?_)
  have hsz : g2.objs.size = hp.objs.size := by rw [hs2.1, hp2.1, hs1.1, hp1.1, hs0.1]
  have hzz : IsZipS g2 z TI TO .ellipsis := (hs2.extBut _ _ S.TOz.symm (hp2.extBut _ _ S.zi2 (hs1.extBut _ _ S.TOz.symm (hp1.extBut _ _ S.zi1 hz0))))
  have hkk : ∀ c o, c ≠ z → c ≠ TO → c ≠ i1 → c ≠ i2 → hp.get? c = some o → g2.get? c = some o := fun c o cz cT c1 c2 e =>
    (hs2.extBut _ _ cT (hp2.extBut _ _ c2 (hs1.extBut _ _ cT (hp1.extBut _ _ c1 (hs0.extBut _ _ cz e)))))
  have hj1 : St1 (i + 1) g2 := (D1.over (D1.over (D1.over sn1 hs1 S.Tf1) hp2 S.sep2_1) hs2 S.Tf1)
  have hj2 : St2 (i + 1) g2 := (D2.over sn2 hs2 S.Tf2)
  have hzlt : z < g2.objs.size := Heap.lt_size hzz
  show wpAny _ _ (Builtin.SmallTypes.ownedTupleHandOut (.ref z) (.ref g2.objs.size) >>= _) _ _ ⟨g2.push { cls := .type "tuple", data := .seq #[x1, x2] }, g, d, tk2, os⟩
  refine wpAny_bind ?_
  unfold Builtin.SmallTypes.ownedTupleHandOut
  have hz₆ : IsZipS (g2.push { cls := .type "tuple", data := .seq #[x1, x2] }) z TI TO .ellipsis := Heap.get?_push_of_some _ hzz
  refine wpAny_bind (wpAny_setField_rec hz₆ (by simp) fun h₇ hz₇ hs₇ => ?_)
  replace hz₇ : IsZipS h₇ z TI TO (rawInt g2.objs.size) := hz₇
  refine wpAny_setField_rec hz₇ (by simp) fun h₈ hz₈ hs₈ => ?_
  replace hz₈ : IsZipS h₈ z TI TO (rawInt g2.objs.size) := hz₈
  replace hs₇ : Heap.SameBut z (g2.push { cls := .type "tuple", data := .seq #[x1, x2] }) h₇ := hs₇
  replace hs₈ : Heap.SameBut z h₇ h₈ := hs₈
  have up : ∀ c o, c ≠ z → g2.get? c = some o → h₈.get? c = some o := fun c o c1 e => hs₈.extBut _ _ c1 (hs₇.extBut _ _ c1 (Heap.get?_push_of_some _ e))
  have hT₈ : IsTupOf2 h₈ g2.objs.size x1 x2 := hs₈.extBut _ _ (Nat.ne_of_gt hzlt) (hs₇.extBut _ _ (Nat.ne_of_gt hzlt) (Heap.get?_push_size _ rfl))
  have hz8 : h₈.objs.size = g2.objs.size + 1 := by rw [hs₈.1, hs₇.1, Heap.size_push]
  rw [hsz] at hz₈ hT₈ hz8
  refine wpAny_pure ⟨_, rfl, ?_⟩
  show Q (.ref g2.objs.size) ⟨h₈, g, d, tk2, os⟩
  rw [hsz]
  exact hQ x1 x2 h₈ tk2 hx1 hx2 hz₈ (up _ _ S.TOz hT2) (D1.frame _ _ _ hj1 fun b hb o e => up b o (fun q => S.zf1 (q ▸ hb)) e) (D2.frame _ _ _ hj2 fun b hb o e => up b o (fun q => S.zf2 (q ▸ hb)) e) hT₈ hz8 fun c o cz cT c1 c2 e => up c o cz (hkk c o cz cT c1 c2 e)
theorem zipS_end {Q : Fin → Shared → Prop} (hh : A.handled = none) (S : ZipSep2 z TI TO i1 i2 fp1 fp2) (D1 : Draws prog w A i1 fp1 n P1 St1) (D2 : Draws prog w A i2 fp2 n P2 St2)
    (hz : IsZipS s.heap z TI TO .none) (hTI : IsTupOf2 s.heap TI (.ref i1) (.ref i2)) (hTO : IsTupOf2 s.heap TO a1 a2) (st1 : St1 n s.heap) (st2 : St2 n s.heap)
    (hE : ∀ h' tk e, (∀ c o, c ≠ z → c ≠ TO → c ≠ i1 → c ≠ i2 → s.heap.get? c = some o → h'.get? c = some o) → (∃ o, h'.get? e = some o ∧ o.cls = .type "StopIteration") → E (.ref e) { s with heap := h', toks := tk }) :
    wpAny (model prog w) A (Builtin.«zip.__next__» ⟨[.ref z], []⟩) Q E s := by
  obtain ⟨hp, g, d, tk0, os⟩ := s
  show wpAny _ _ (field (.ref z) 2 >>= _) _ _ _
  refine wpAny_bind (wpAny_field hz rfl (x := .bool true) rfl ?_)
  show wpAny _ _ (field (.ref z) 3 >>= _) _ _ _
  refine wpAny_bind (wpAny_field hz rfl (x := .ref TI) rfl ?_)
  refine wpAny_bind (wpAny_seqItems hTI rfl ?_)
  show wpAny _ _ (Builtin.SmallTypes.ownedTupleIsFree (.ref z) >>= _) _ _ _
  refine wpAny_bind ?_
  unfold Builtin.SmallTypes.ownedTupleIsFree
  refine wpAny_bind (wpAny_field hz rfl (x := .none) rfl (wpAny_pure ?_))
  simp only [if_true]
  refine wpAny_bind (wpAny_rule ?_)
  refine wpAny_bind (wpAny_field hz rfl (x := .ref TO) rfl ?_)
  refine wpAny_bind (wpAny_setField_rec hz (by simp) fun g0 hz0 hs0 => ?_)
  replace hz0 : IsZipS g0 z TI TO .ellipsis := hz0
  replace hs0 : Heap.SameBut z hp g0 := hs0
  refine wpAny_bind ?_
  simp only [List.zipIdx_cons, List.zipIdx_nil, List.forIn_cons, List.forIn_nil]
  refine wpAny_bind (wpAny_bind (wpAny_onRaise ?_))
  show wpAny _ _ (Builtin.SmallTypes.nextOrEnd (.ref i1)) _ _ ⟨g0, g, d, tk0, os⟩
  refine end_done D1 (D1.over st1 hs0 S.zf1) fun q hq => ?_
  replace hq : Heap.ExtBut i1 g0 q := hq
  have hzq : IsZipS q z TI TO .ellipsis := hq _ _ S.zi1 hz0
  refine wpAny_bind (wpAny_setField_rec (s := ⟨q, g, d, tk0, os⟩) hzq (by simp) fun q' hz' hq' => ?_)
  replace hq' : Heap.SameBut z q q' := hq'
  have n1 : TO ≠ z := S.TOz
  have st2' : St2 n q' := D2.frame _ _ _ (D2.over st2 hs0 S.zf2) fun b hb o e => hq'.extBut _ _ (fun x => S.zf2 (x ▸ hb)) (hq _ _ (fun x => S.sep1_2 (x ▸ hb)) e)
  refine wpAny_bind ?_
  show wpAny _ _ (forIn [((Value.ref i2), 1)] _ _ >>= _) _ _ _
  rw [List.forIn_cons]
  refine wpAny_bind (wpAny_bind ?_)
  show wpAny _ _ (Builtin.SmallTypes.nextOrEnd (.ref i2) >>= _) _ _ ⟨q', g, d, tk0, os⟩
  refine wpAny_bind (end_done D2 st2' fun q2 hq2 => ?_)
  replace hq2 : Heap.ExtBut i2 q' q2 := hq2
  show wpAny _ _ (pure (ForInStep.yield PUnit.unit)) _ _ _
  refine wpAny_pure ?_
  show wpAny _ _ (forIn [] PUnit.unit _) _ _ _
  rw [List.forIn_nil]
  refine wpAny_pure ?_
  refine wpAny_bind (wpAny_rule ?_)
  show wpAny _ _ (newExc (.type "StopIteration") [] >>= _) _ _ _
  refine wpAny_bind ?_
  simp only [newExc, newTuple]
  refine wpAny_bind (wpAny_newObj_type ?_ (by size_fits))
  refine wpAny_bind (m := firstArgMember _ _) (wpAny_of_eq (a := Value.none) (by first | rfl | (simp only [firstArgMember]; rfl)) ?_)
  refine wpAny_newObj_type ?_ (by size_fits)
  simp only [raiseNew]
  refine wpAny_bind (wpAny_handled ?_)
  rw [hh]
  refine wpAny_bind (wpAny_pure (wpAny_throw ?_))
  refine hE _ _ _ (fun c o cz cT c1 c2 e => ?_) ⟨_, Heap.get?_push_size _ rfl, rfl⟩
  exact Heap.get?_push_of_some _ (Heap.get?_push_of_some _ (hq2 _ _ c2 (hq'.extBut _ _ cz (hq _ _ c1 (hs0.extBut _ _ cz e)))))
theorem pyIter_zipS {f0 : Value} {Q : Value → Shared → Prop} (hz : IsZipS s.heap z TI TO f0) (h : Q (.ref z) s) : wpAny (model prog w) A (pyIter (.ref z)) Q E s := by
  have hT : s.TypeIs (.ref z) "zip" := ⟨_, hz, rfl⟩
  refine wpAny_pyIter_slot hT F.slot_zip_iter (wpAny_call_entry F.slot_zip_iter hT F.entry_zip_iter ?_ (F.args_zip_iter_1 _))
  show wpAny _ _ (ret (.ref z)) _ _ s
  exact wpAny_pure ⟨_, rfl, "zip", _, hT, F.slot_zip_next.lookup, h⟩
theorem go_zipS {elts : List Expr} {x1 : Nat} {pos : Pos} {T : Addr} {Q : Unit → Shared → Prop} (hz : IsZipS s.heap z TI TO (rawInt T)) (hQ : ∀ h', IsZipS h' z TI TO .none → Heap.SameBut z s.heap h' → Q () { s with heap := h' }) :
    wpAny (model prog w) A (letOwnedTupleGo (.Tuple elts x1 pos) (.ref z) (.ref T)) Q E s := by
  unfold letOwnedTupleGo
  refine wpAny_bind (wpAny_load hz ?_)
  show wpAny _ _ (if (["enumerate", "zip", "dict_itemiterator", "dict_reverseitemiterator", "odict_iterator", "itertools.zip_longest", "itertools.pairwise"].contains "zip" &&
      (#[rawInt T, .bool false, .bool true, .ref TI, .ref TO] : Array Value)[0]? == some (rawInt T)) = true then _ else _) Q E s
  rw [if_pos (by simp)]
  refine wpAny_bind (wpAny_rule ?_)
  show wpAny _ _ (setField (.ref z) 0 .none) Q E s
  exact wpAny_setField_rec hz (by simp) fun h' hz' hs' => hQ h' hz' hs'
theorem next_zipS {Q : Option Value → Shared → Prop} (S : ZipSep2 z TI TO i1 i2 fp1 fp2) (D1 : Draws prog w A.in1 i1 fp1 n P1 St1) (D2 : Draws prog w A.in1 i2 fp2 n P2 St2)
    (hz : IsZipS s.heap z TI TO .none) (hTI : IsTupOf2 s.heap TI (.ref i1) (.ref i2)) (hTO : IsTupOf2 s.heap TO a1 a2) (st1 : St1 i s.heap) (st2 : St2 i s.heap) (hlt : i < n)
    (hQ : ∀ x1 x2 h' tk, P1 i x1 → P2 i x2 → IsZipS h' z TI TO (rawInt s.heap.objs.size) → IsTupOf2 h' TO x1 x2 → St1 (i + 1) h' → St2 (i + 1) h' → IsTupOf2 h' s.heap.objs.size x1 x2 → h'.objs.size = s.heap.objs.size + 1 →
      (∀ c o, c ≠ z → c ≠ TO → c ≠ i1 → c ≠ i2 → s.heap.get? c = some o → h'.get? c = some o) → Q (some (.ref s.heap.objs.size)) { s with heap := h', toks := tk }) :
    wpAny (model prog w) A (pyNext (.ref z)) Q E s := by
  have hT : s.TypeIs (.ref z) "zip" := ⟨_, hz, rfl⟩
  unfold pyNext
  exact wpAny_bind (wpAny_attempt (wpAny_callSpecial?_slot (name := Str.ofString "__next__") hT F.slot_zip_next
    (wpAny_call_entry F.slot_zip_next hT F.entry_zip_next
      (zipS_item S D1 D2 hz hTI hTO st1 st2 hlt fun x1 x2 h' tk y1 y2 b1 b2 d1 d2 b5 b6 b7 => wpAny_pure (hQ x1 x2 h' tk y1 y2 b1 b2 d1 d2 b5 b6 b7)) (F.args_zip_next_1 _))))
theorem next_zipS_end {Q : Option Value → Shared → Prop} (hh : A.handled = none) (S : ZipSep2 z TI TO i1 i2 fp1 fp2) (D1 : Draws prog w A.in1 i1 fp1 n P1 St1) (D2 : Draws prog w A.in1 i2 fp2 n P2 St2)
    (hz : IsZipS s.heap z TI TO .none) (hTI : IsTupOf2 s.heap TI (.ref i1) (.ref i2)) (hTO : IsTupOf2 s.heap TO a1 a2) (st1 : St1 n s.heap) (st2 : St2 n s.heap)
    (hQ : ∀ h' tk, (∀ c o, c ≠ z → c ≠ TO → c ≠ i1 → c ≠ i2 → s.heap.get? c = some o → h'.get? c = some o) → Q none { s with heap := h', toks := tk }) : wpAny (model prog w) A (pyNext (.ref z)) Q E s := by
  have hT : s.TypeIs (.ref z) "zip" := ⟨_, hz, rfl⟩
  unfold pyNext
  refine wpAny_bind (wpAny_attempt (wpAny_callSpecial?_slot (name := Str.ofString "__next__") hT F.slot_zip_next
    (wpAny_call_entry F.slot_zip_next hT F.entry_zip_next (zipS_end (A := A.in1) hh S D1 D2 hz hTI hTO st1 st2 fun h' tk e hk he => ?_) (F.args_zip_next_1 _))))
  obtain ⟨o, ho, hc⟩ := he
  refine wpAny_bind (wpAny_isInstance (T := "StopIteration") (b := true) ⟨o, ho, hc⟩ isSubtype_stop ?_)
  exact wpAny_pure (hQ _ _ hk)
theorem walks_zipS (hh : A.handled = none) (S : ZipSep2 z TI TO i1 i2 fp1 fp2) (D1 : Draws prog w A.in1 i1 fp1 n P1 St1) (D2 : Draws prog w A.in1 i2 fp2 n P2 St2) :
    WalksT prog w A z (z :: TI :: TO :: (fp1 ++ fp2)) [z, TO, i1, i2] n
      (fun i vals => ∃ x1 x2, P1 i x1 ∧ P2 i x2 ∧ vals = #[x1, x2])
      (fun i h => IsZipS h z TI TO .none ∧ IsTupOf2 h TI (.ref i1) (.ref i2) ∧ (∃ a1 a2, IsTupOf2 h TO a1 a2) ∧ St1 i h ∧ St2 i h)
      (fun i T h => IsZipS h z TI TO (rawInt T) ∧ IsTupOf2 h TI (.ref i1) (.ref i2) ∧ (∃ a1 a2, IsTupOf2 h TO a1 a2) ∧ St1 (i + 1) h ∧ St2 (i + 1) h ∧ T ≠ z ∧ T ≠ TO ∧ T ≠ i1 ∧ T ≠ i2) where
  sub := fun c hc => by
    simp only [List.mem_cons, List.not_mem_nil, or_false] at hc
    rcases hc with e | e | e | e <;> rw [e]
    · exact List.mem_cons_self ..
    · exact List.mem_cons_of_mem _ (List.mem_cons_of_mem _ (List.mem_cons_self ..))
    · exact List.mem_cons_of_mem _ (List.mem_cons_of_mem _ (List.mem_cons_of_mem _ (List.mem_append_left _ S.mem1)))
    · exact List.mem_cons_of_mem _ (List.mem_cons_of_mem _ (List.mem_cons_of_mem _ (List.mem_append_right _ S.mem2)))
  frame := fun i h h' hst hk => by
    obtain ⟨hz, hTI, ⟨a1, a2, hTO⟩, st1, st2⟩ := hst
    exact ⟨hk z (List.mem_cons_self ..) _ hz, hk TI (List.mem_cons_of_mem _ (List.mem_cons_self ..)) _ hTI, ⟨a1, a2, hk TO (List.mem_cons_of_mem _ (List.mem_cons_of_mem _ (List.mem_cons_self ..))) _ hTO⟩,
      D1.frame _ _ _ st1 fun b hb o e => hk b (List.mem_cons_of_mem _ (List.mem_cons_of_mem _ (List.mem_cons_of_mem _ (List.mem_append_left _ hb)))) o e, D2.frame _ _ _ st2 fun b hb o e => hk b (List.mem_cons_of_mem _ (List.mem_cons_of_mem _ (List.mem_cons_of_mem _ (List.mem_append_right _ hb)))) o e⟩
  item := fun i s Q E hi hst hQ => by
    obtain ⟨hz, hTI, ⟨a1, a2, hTO⟩, st1, st2⟩ := hst
    refine next_zipS S D1 D2 hz hTI hTO st1 st2 hi fun x1 x2 h' tk y1 y2 b1 b2 d1 d2 b5 b6 hk => ?_
    have lt : ∀ {c o}, s.heap.get? c = some o → s.heap.objs.size ≠ c := fun e => Nat.ne_of_gt (Heap.lt_size e)
    have l1 : s.heap.objs.size ≠ i1 := by obtain ⟨_, e⟩ := D1.live _ _ st1; exact lt e
    have l2 : s.heap.objs.size ≠ i2 := by obtain ⟨_, e⟩ := D2.live _ _ st2; exact lt e
    exact hQ s.heap.objs.size #[x1, x2] h' tk ⟨x1, x2, y1, y2, rfl⟩ (Nat.le_refl _) ⟨_, b5, rfl, _, rfl⟩
      ⟨b1, hk _ _ S.TIz S.TITO S.TIi1 S.TIi2 hTI, ⟨_, _, b2⟩, d1, d2, lt hz, lt hTO, l1, l2⟩
      fun c o hc e => hk c o (fun x => hc (by simp [x])) (fun x => hc (by simp [x])) (fun x => hc (by simp [x])) (fun x => hc (by simp [x])) e
  go := fun elts k pos i T s Q E hm hQ => by
    obtain ⟨hz, hTI, ⟨a1, a2, hTO⟩, st1, st2, _⟩ := hm
    exact go_zipS hz fun h' hz' hs' => hQ h' ⟨hz', hs'.extBut _ _ S.TIz hTI, ⟨a1, a2, hs'.extBut _ _ S.TOz hTO⟩, D1.over st1 hs' S.zf1, D2.over st2 hs' S.zf2⟩ fun c o hc e => hs'.extBut _ _ (fun x => hc (by simp [x])) e
  apart := fun i T h hm hT => by
    obtain ⟨_, _, _, _, _, tz, tT, t1, t2⟩ := hm
    have hT' : T = z ∨ T = TO ∨ T = i1 ∨ T = i2 := by simpa using hT
    rcases hT' with e | e | e | e
    · exact tz e
    · exact tT e
    · exact t1 e
    · exact t2 e
  done := fun s Q E hst hQ => by
    obtain ⟨hz, hTI, ⟨a1, a2, hTO⟩, st1, st2⟩ := hst
    exact next_zipS_end hh S D1 D2 hz hTI hTO st1 st2 fun h' tk hk => hQ h' tk fun c o hc e =>
      hk c o (fun x => hc (by simp [x])) (fun x => hc (by simp [x])) (fun x => hc (by simp [x])) (fun x => hc (by simp [x])) e
  self := fun i s Q E hst hQ => pyIter_zipS hst.1 hQ
end
/-! ### the call -/
theorem typeCall_zipS (a b c : Value) : checkTypeCall "zip" ⟨[a, b], [(Str.ofString "strict", c)]⟩ = pure () := by kernel_rfl
theorem newCall_zipS (a b c : Value) : checkBuiltinCall "zip.__new__" ⟨[.type "zip", a, b], [(Str.ofString "strict", c)]⟩ = pure () := by kernel_rfl
theorem args_init_zipS (obj a b c : Value) : argsOk "object.__init__" ⟨[obj, a, b], [(Str.ofString "strict", c)]⟩ := by unfold argsOk; kernel_rfl
abbrev zsT (h : Heap) (o1 o2 : Obj) : Heap := ((h.push o1).push o2).push { cls := .type "tuple", data := .seq #[.ref h.objs.size, .ref (h.push o1).objs.size] }
abbrev zsO (h : Heap) (o1 o2 : Obj) : Heap := (zsT h o1 o2).push { cls := .type "tuple", data := .seq #[.none, .none] }
abbrev zsZ (h : Heap) (o1 o2 : Obj) : Heap := (zsO h o1 o2).push { cls := .type "zip", data := .fields #[.none, .bool false, .bool true, .ref ((h.push o1).push o2).objs.size, .ref (zsT h o1 o2).objs.size] }
set_option maxHeartbeats 2000000 in
theorem meets_zipS {v1 v2 : Value} {o1 o2 : Obj} {H1 H2 : Heap → Prop} (B1 : Begins v1 o1 H1) (B2 : Begins v2 o2 H2) :
    Meets (Builtin.«zip.__new__» ⟨[.type "zip", v1, v2], [(Str.ofString "strict", .bool true)]⟩) (fun _ R s => (H1 s.heap ∧ H2 s.heap) ∧
      R (.ok (.ret (.ref (zsO s.heap o1 o2).objs.size))) { s with heap := zsZ s.heap o1 o2 }) :=
  .of_wp fun prog w A R s h => by
    obtain ⟨hp, g, d, tk, os⟩ := s; obtain ⟨⟨h1, h2⟩, h⟩ := h
    have hsub := sub_zip
    have q1 : ∀ {A' : Around} {E : Value → Shared → Prop} {Q : Value → Shared → Prop}, Q (.ref hp.objs.size) ⟨(hp.push o1), g, d, tk, os⟩ → wpAny (model prog w) A' (pyIter v1) Q E ⟨hp, g, d, tk, os⟩ :=
      fun q => B1.iter prog w _ _ ⟨hp, g, d, tk, os⟩ _ (B1.keeps _ _ h1 fun b o' e => e) q
    have q2 : ∀ {A' : Around} {E : Value → Shared → Prop} {Q : Value → Shared → Prop}, Q (.ref (hp.push o1).objs.size) ⟨((hp.push o1).push o2), g, d, tk, os⟩ → wpAny (model prog w) A' (pyIter v2) Q E ⟨(hp.push o1), g, d, tk, os⟩ :=
      fun q => B2.iter prog w _ _ ⟨(hp.push o1), g, d, tk, os⟩ _ (B2.keeps _ _ h2 fun b o' e => (Heap.get?_push_of_some _ e)) q
    have e1 : (Str.ofString "strict" == ("strict" : Str)) = true := by decide +kernel
    have e2 : (Str.ofString "strict" != ("strict" : Str)) = false := by decide +kernel
    wp_walk using q1, q2
    exact ⟨_, rfl, h⟩
section
variable {prog : Program} {w : World} {A : Around} {E : Value → Shared → Prop} {s : Shared}
theorem zipS_begins {v1 v2 : Value} {o1 o2 : Obj} {H1 H2 : Heap → Prop} {Q : Value → Shared → Prop} (B1 : Begins v1 o1 H1) (B2 : Begins v2 o2 H2) (h1 : H1 s.heap) (h2 : H2 s.heap)
    (h : ∀ h', IsZipS h' (s.heap.objs.size + 4) (s.heap.objs.size + 2) (s.heap.objs.size + 3) .none → IsTupOf2 h' (s.heap.objs.size + 2) (.ref s.heap.objs.size) (.ref (s.heap.objs.size + 1)) →
      IsTupOf2 h' (s.heap.objs.size + 3) .none .none → h'.get? s.heap.objs.size = some o1 → h'.get? (s.heap.objs.size + 1) = some o2 →
      (∀ c o, s.heap.get? c = some o → h'.get? c = some o) → Q (.ref (s.heap.objs.size + 4)) { s with heap := h' }) :
    wpAny (model prog w) A (call (.type "zip") [v1, v2] [(Str.ofString "strict", .bool true)]) Q E s := by
  refine callType_newKw F.called_zip (by decide) (typeCall_zipS _ _ _) (newCall_zipS _ _ _) (fun obj => args_init_zipS obj _ _ _) F.entry_zip_new
    (meets_zipS B1 B2) ⟨⟨h1, h2⟩, ?_⟩
  have z1 : (s.heap.push o1).objs.size = s.heap.objs.size + 1 := by rw [Heap.size_push]
  have z2 : ((s.heap.push o1).push o2).objs.size = s.heap.objs.size + 2 := by rw [Heap.size_push, z1]
  have zT : (zsT s.heap o1 o2).objs.size = s.heap.objs.size + 3 := by rw [Heap.size_push, z2]
  have zO : (zsO s.heap o1 o2).objs.size = s.heap.objs.size + 4 := by rw [Heap.size_push, zT]
  have gZ : (zsZ s.heap o1 o2).get? (zsO s.heap o1 o2).objs.size = some { cls := .type "zip", data := .fields #[.none, .bool false, .bool true, .ref ((s.heap.push o1).push o2).objs.size, .ref (zsT s.heap o1 o2).objs.size] } := Heap.get?_push_size _ rfl
  have gO : (zsZ s.heap o1 o2).get? (zsT s.heap o1 o2).objs.size = some { cls := .type "tuple", data := .seq #[.none, .none] } := Heap.get?_push_of_some _ (Heap.get?_push_size _ rfl)
  have gT : (zsZ s.heap o1 o2).get? ((s.heap.push o1).push o2).objs.size = some { cls := .type "tuple", data := .seq #[.ref s.heap.objs.size, .ref (s.heap.push o1).objs.size] } := Heap.get?_push_of_some _ (Heap.get?_push_of_some _ (Heap.get?_push_size _ rfl))
  have g1 : (zsZ s.heap o1 o2).get? s.heap.objs.size = some o1 := Heap.get?_push_of_some _ (Heap.get?_push_of_some _ (Heap.get?_push_of_some _ (Heap.get?_push_of_some _ (Heap.get?_push_size _ B1.free))))
  have g2 : (zsZ s.heap o1 o2).get? (s.heap.push o1).objs.size = some o2 := Heap.get?_push_of_some _ (Heap.get?_push_of_some _ (Heap.get?_push_of_some _ (Heap.get?_push_size _ B2.free)))
  rw [zO, zT, z2] at gZ
  rw [zT] at gO
  rw [z2, z1] at gT
  rw [z1] at g2
  show _ ∧ _
  rw [zO]
  exact ⟨⟨_, gZ, rfl⟩, h _ gZ gT gO g1 g2 fun c o e => Heap.get?_push_of_some _ (Heap.get?_push_of_some _ (Heap.get?_push_of_some _ (Heap.get?_push_of_some _ (Heap.get?_push_of_some _ e))))⟩
theorem callWith_tyK {env : PySem.Env} {pos : Pos} {T : String} {e : Expr} {rest : List Expr} {kws : List Keyword} {Q : Value → Shared → Prop}
    (h : wpAny (model prog w) A (spliced (backTo pos (starEach (e :: rest) env))) (fun vs s₁ => wpAny (model prog w) A (evalAll ((backToKw pos (keywordEach kws env)).map (·.2)))
      (fun kvs s₂ => wpAny (model prog w) A (call (.type T) vs (((backToKw pos (keywordEach kws env)).filterMap (·.1)).zip kvs)) Q E s₂) E s₁) E s)
    (he : starEach (e :: rest) env = (false, eval e env) :: starEach rest env) (hplain : (backTo pos (starEach (e :: rest) env)).any (·.1) = false)
    (hall : (backToKw pos (keywordEach kws env)).all (·.1.isSome) = true) (hkw : (backToKw pos (keywordEach kws env)).any (·.1.isNone) = false) :
    wpAny (model prog w) A (callWith pos (.type T) [] (backTo pos (starEach (e :: rest) env)) (backToKw pos (keywordEach kws env))) Q E s := by
  have he2 : backTo pos (starEach (e :: rest) env) = (false, eval e env) :: backTo pos (starEach rest env) := by rw [he]; rfl
  have h2 : wpAny (model prog w) A (evalArgs (.type T) true (backTo pos (starEach (e :: rest) env)) (backToKw pos (keywordEach kws env))) (fun a s₁ => wpAny (model prog w) A (call (.type T) ([] ++ a.pos) a.kw) Q E s₁) E s := by
    rw [he2] at h ⊢
    exact evalArgs_kwB hall h
  unfold callWith
  refine wpAny_bind (wpAny_holding (wpAny_mono h2 (fun a s₁ h₁ => wpAny_bind (wpAny_standAt ?_)) fun _ _ x => x))
  simp only [hplain, hkw, Bool.or_false]
  refine wpAny_bind (wpAny_pure ?_)
  exact wpAny_bind (wpAny_mono h₁ (fun r s₂ hr => wpAny_bind (wpAny_holding (wpAny_point (wpAny_pure hr)))) fun _ _ x => x)
end
theorem turn_zipS {P : Program} {w : World} {K : PySem.W.Frag} {elts : List Expr} {kk : Nat} {tpos : Pos} (κ1 κ2 : SK) (a b N : Addr) (xs ys : List V) (la : a < N) (lb : b < N) (hn : xs.length = ys.length) :
    Turn P w K (.Tuple elts kk tpos) (ItP (fun H => κ1.sq K H a xs ∧ κ2.sq K H b ys) xs.length (rowZ xs ys)) [N + 4, N + 2, N + 3, N, N + 1] (N + 4)
      (fun i h => IsZipS h (N + 4) (N + 2) (N + 3) .none ∧ IsTupOf2 h (N + 2) (.ref N) (.ref (N + 1)) ∧ (∃ a1 a2, IsTupOf2 h (N + 3) a1 a2) ∧ κ1.at h N a i ∧ κ2.at h (N + 1) b i) := by
  refine turn_of (by simp) (fun i h st c hc => ?_) (fun i h h' st k => ?_) (fun A i s Q E st h => pyIter_zipS st.1 h) fun X hP hw hK hd i pins s σ H I st hg => ?_
  · obtain ⟨hz, hTI, ⟨a1, a2, hTO⟩, h1, h2⟩ := st
    simp only [List.mem_cons, List.not_mem_nil, or_false] at hc
    rcases hc with z | z | z | z | z
    · rw [z]; exact ⟨_, hz, fun v q => nomatch q⟩
    · rw [z]; exact ⟨_, hTI, fun v q => nomatch q⟩
    · rw [z]; exact ⟨_, hTO, fun v q => nomatch q⟩
    · rw [z]; exact κ1.at_obj h1
    · rw [z]; exact κ2.at_obj h2
  · obtain ⟨hz, hTI, ⟨a1, a2, hTO⟩, h1, h2⟩ := st
    exact ⟨k _ (by simp) _ hz, k _ (by simp) _ hTI, ⟨a1, a2, k _ (by simp) _ hTO⟩, κ1.at_keep h1 fun o q => k _ (by simp) o q, κ2.at_keep h2 fun o q => k _ (by simp) o q⟩
  · subst hP hw hK
    obtain ⟨its, rv, his, hz⟩ := κ1.items I hg.1
    obtain ⟨its2, rv2, his2, hz2⟩ := κ2.items I hg.2
    have hl : its.toArray.size = xs.length := by simpa using rv.length.symm
    have hl2 : its2.toArray.size = xs.length := by rw [hn]; simpa using rv2.length.symm
    have D1 := κ1.draws (prog := X.prog) (w := X.w) (A := X.A.in1) hd N a (Nat.ne_of_lt la) its.toArray
    have D2 := κ2.draws (prog := X.prog) (w := X.w) (A := X.A.in1) hd (N + 1) b (ne_add lb 1) its2.toArray
    rw [hl] at D1
    rw [hl2] at D2
    have S : ZipSep2 (N + 4) (N + 2) (N + 3) N (N + 1) [N, a] [N + 1, b] := zip_sep2 (lt_one la) (lt_one lb)
    have Wk := walks_zipS (prog := X.prog) (w := X.w) (A := X.A) hd S D1 D2
    refine ⟨_, _, _, _, _, Wk, fun c hc => ?_, ⟨st.1, st.2.1, st.2.2.1, ⟨st.2.2.2.1, his⟩, st.2.2.2.2, his2⟩, fun h' st' => ⟨st'.1, st'.2.1, st'.2.2.1, st'.2.2.2.1.1, st'.2.2.2.2.1⟩, fun vals hp => ?_⟩
    · simp only [List.mem_cons, List.not_mem_nil, or_false] at hc ⊢
      rcases hc with z | z | z | z <;> simp [z]
    · obtain ⟨x, y, hx, hy, rfl⟩ := hp
      obtain ⟨v, hv, r⟩ := vals_at rv (by simpa using hx)
      obtain ⟨u, hu, r2⟩ := vals_at rv2 (by simpa using hy)
      exact ⟨[v, u], by unfold rowZ; rw [hv, hu], .cons r (.cons r2 .nil), (show 2 ≤ sizeLine by decide)⟩
def iZipS (K : PySem.W.Frag) (ta : TA) : TI := fun σ H R => ta σ H fun vs H1 => ∃ (κ1 κ2 : SK) (a b : Addr) (xs ys : List V), vs = [.ref a, .ref b] ∧ κ1.sq K H1 a xs ∧ κ2.sq K H1 b ys ∧ xs.length = ys.length ∧ R (ItP (fun H => κ1.sq K H a xs ∧ κ2.sq K H b ys) xs.length (rowZ xs ys)) H1
theorem pi_zipS {X : Cx} {e e2 : Expr} {ta : TA} {p pos tpos p3 p4 : Pos} {j : Nat} {elts : List Expr} {kk : Nat} (hg : Gl X "zip") (hm : X.mg "zip" = none) (ha : PA X [e, e2] ta)
    (hs : starEach [e, e2] X.env = (false, eval e X.env) :: starEach [e2] X.env) (hpl : (backTo pos (starEach [e, e2] X.env)).any (·.1) = false) :
    PI X (.Tuple elts kk tpos) (.Call (.Name "zip" p) [e, e2] [⟨some "strict", .Constant (.bool true) j p3, p4⟩] pos) (iZipS X.K ta) := by
  refine ⟨fun pins s σ H R I h => ?_⟩
  refine wpAny_Call_Name_kw (ld_blt I hg hm PyProof.Rows.boot_zip ?_)
  refine callWith_tyK (thn (ha.run pos pins s σ H _ I h) fun us s1 ⟨vs, H1, I1, r1, q1⟩ => kws_cons (Constant_bool (kws_nil ?_))) hs hpl rfl rfl
  obtain ⟨κ1, κ2, a, b, xs, ys, ex, hq, hq2, hn, q⟩ := q1
  subst ex
  cases r1 with
  | cons r rr =>
    cases rr with
    | cons r' rr =>
      cases rr
      cases r
      cases r'
      obtain ⟨its, rv, his, hz⟩ := κ1.items I1 hq
      obtain ⟨its2, rv2, his2, hz2⟩ := κ2.items I1 hq2
      refine zipS_begins (κ1.begins a its.toArray) (κ2.begins b its2.toArray) his his2 fun h' hzp hTI hTO g1 g2 hk => pyIter_zipS hzp ?_
      have I2 : Inv X pins σ H1 { s1 with heap := h' } := I1.kept (t' := s1.toks) hk
      refine ⟨s1.heap.objs.size + 4, [s1.heap.objs.size + 4, s1.heap.objs.size + 2, s1.heap.objs.size + 3, s1.heap.objs.size, s1.heap.objs.size + 1], _, _, H1, rfl, I2, turn_zipS κ1 κ2 a b s1.heap.objs.size xs ys (κ1.lt his) (κ2.lt his2) hn, ⟨hzp, hTI, ⟨_, _, hTO⟩, κ1.starts g1, κ2.starts g2⟩, fun c hc => ?_, q⟩
      have hle : s1.heap.objs.size ≤ c := by
        simp only [List.mem_cons, List.not_mem_nil, or_false] at hc
        rcases hc with z | z | z | z | z <;> rw [z] <;> first | exact Nat.le_refl _ | exact Nat.le_add_right _ _
      exact I1.fpOk hle (I1.hok.fresh hle)
end Bq

set_option Elab.async false
set_option autoImplicit false
set_option linter.all false
set_option maxRecDepth 100000
/-! list(zip(a, b)): the items are new tuples. -/
namespace Bq
open PySem PySem.W PySem.Calls PyProof.Rows PyProof.V PySem.Spec
/-- the addresses as hold the pairs, in order, as tuples; they lie above lo and rise -/
structure ZlG (n : Nat) (xs ys : Array Value) (lo : Addr) (h : Heap) (as : List Addr) : Prop where
  rise : as.Pairwise (· < ·)
  above : ∀ a ∈ as, lo < a
  pairs : ∀ (j : Nat) (a : Addr), as[j]? = some a → ∃ x y, xs[j]? = some x ∧ ys[j]? = some y ∧ IsPair h a x y
theorem ZlG.there {n : Nat} {xs ys : Array Value} {lo : Addr} {h : Heap} {as : List Addr} (g : ZlG n xs ys lo h as) {a : Addr} (ha : a ∈ as) : a < h.objs.size := by
  obtain ⟨j, hj⟩ := List.mem_iff_getElem?.mp ha
  obtain ⟨_, _, _, _, e⟩ := g.pairs j a hj
  exact Heap.lt_size e
/-- where a zip over two lists stands, S not touched -/
def ZlSt (z TI TO i1 i2 l1 l2 S : Addr) (xs ys : Array Value) (i : Nat) (h : Heap) : Prop :=
  IsPair h TI (.ref i1) (.ref i2) ∧ h.IsListIter i1 l1 i ∧ h.IsListIter i2 l2 i ∧ h.IsList l1 xs ∧ h.IsList l2 ys ∧
    ((IsZip h z TI TO .none ∧ ∃ a b, IsPair h TO a b) ∨ ∃ T f oT, IsZipHeld h z TI TO T f ∧ h.get? T = some oT ∧ T ≠ z ∧ T ≠ i1 ∧ T ≠ i2 ∧ T ≠ S)
section
variable {prog : Program} {w : World} {A : Around} {E : Value → Shared → Prop} {s : Shared}
variable {z TI TO i1 i2 l1 l2 S : Addr} {xs ys : Array Value}
theorem ZlSt.keep {i : Nat} {h h' : Heap} (dz : S ≠ z) (dTI : S ≠ TI) (dTO : S ≠ TO) (di1 : S ≠ i1) (di2 : S ≠ i2) (dl1 : S ≠ l1) (dl2 : S ≠ l2) (st : ZlSt z TI TO i1 i2 l1 l2 S xs ys i h) (hk : ∀ b o, b ≠ S → h.get? b = some o → h'.get? b = some o) : ZlSt z TI TO i1 i2 l1 l2 S xs ys i h' := by
  obtain ⟨hTI, h1, h2, hl1, hl2, hz⟩ := st
  refine ⟨hk _ _ (Ne.symm dTI) hTI, h1.at fun o e => hk _ o (Ne.symm di1) e, h2.at fun o e => hk _ o (Ne.symm di2) e, hl1.at fun o e => hk _ o (Ne.symm dl1) e, hl2.at fun o e => hk _ o (Ne.symm dl2) e, ?_⟩
  rcases hz with ⟨hz, a, b, hTO⟩ | ⟨T, f, oT, hz, hT, r1, r2, r3, r4⟩
  · exact .inl ⟨hk _ _ (Ne.symm dz) hz, a, b, hk _ _ (Ne.symm dTO) hTO⟩
  · exact .inr ⟨T, f, oT, hk _ _ (Ne.symm dz) hz, hk _ _ r4 hT, r1, r2, r3, r4⟩
theorem zl_item {i : Nat} {x y : Value} {Q : Option Value → Shared → Prop} (D : ZipApart z TI TO i1 i2 l1 l2) (st : ZlSt z TI TO i1 i2 l1 l2 S xs ys i s.heap) (hS : S < s.heap.objs.size) (ex : xs[i]? = some x) (ey : ys[i]? = some y)
    (hQ : ∀ h', ZlSt z TI TO i1 i2 l1 l2 S xs ys (i + 1) h' → IsPair h' s.heap.objs.size x y → h'.objs.size = s.heap.objs.size + 1 →
      (∀ b o, b ≠ z → b ≠ TO → b ≠ i1 → b ≠ i2 → s.heap.get? b = some o → h'.get? b = some o) → Q (some (.ref s.heap.objs.size)) { s with heap := h' }) :
    wpAny (model prog w) A (pyNext (.ref z)) Q E s := by
  obtain ⟨hTI, h1, h2, hl1, hl2, hz⟩ := st
  have lt : ∀ {c o}, s.heap.get? c = some o → s.heap.objs.size ≠ c := fun e => Nat.ne_of_gt (Heap.lt_size e)
  have n1 : s.heap.objs.size ≠ i1 := let ⟨_, e, _⟩ := h1; lt e
  have n2 : s.heap.objs.size ≠ i2 := let ⟨_, e, _⟩ := h2; lt e
  rcases hz with ⟨hz, a, b, hTO⟩ | ⟨T, f, oT, hz, hT, r1, r2, r3, r4⟩
  · refine wpAny_pyNext_zip_item D hz hTI hTO h1 h2 hl1 hl2 ex ey fun h' a1 a2 a3 a4 a5 a6 hk => ?_
    exact hQ h' ⟨hk _ _ D.TIz D.TITO D.TIi1 D.TIi2 hTI, a3, a4, hl1.at fun o e => hk _ o D.l1z D.l1TO D.l1i1 D.l1i2 e, hl2.at fun o e => hk _ o D.l2z D.l2TO D.l2i1 D.l2i2 e,
      .inr ⟨s.heap.objs.size, false, _, a1, a5, lt hz, n1, n2, Nat.ne_of_gt hS⟩⟩ a5 a6 hk
  · refine wpAny_pyNext_zip_item_held D hz hT hTI h1 h2 hl1 hl2 ex ey fun h' a1 a3 a4 a5 a6 hk => ?_
    exact hQ h' ⟨hk _ _ D.TIz D.TIi1 D.TIi2 hTI, a3, a4, hl1.at fun o e => hk _ o D.l1z D.l1i1 D.l1i2 e, hl2.at fun o e => hk _ o D.l2z D.l2i1 D.l2i2 e,
      .inr ⟨T, true, oT, a1, hk _ _ r1 r2 r3 hT, r1, r2, r3, r4⟩⟩ a5 a6 fun b o c1 _ c3 c4 e => hk b o c1 c3 c4 e
theorem zl_done {n : Nat} {Q : Option Value → Shared → Prop} (hh : A.handled = none) (D : ZipApart z TI TO i1 i2 l1 l2) (st : ZlSt z TI TO i1 i2 l1 l2 S xs ys n s.heap) (hend : xs[n]? = none ∨ ys[n]? = none)
    (hQ : ∀ h', (∀ b o, b ≠ z → b ≠ TO → b ≠ i1 → b ≠ i2 → s.heap.get? b = some o → h'.get? b = some o) → Q none { s with heap := h' }) :
    wpAny (model prog w) A (pyNext (.ref z)) Q E s := by
  obtain ⟨hTI, h1, h2, hl1, hl2, hz⟩ := st
  rcases hz with ⟨hz, a, b, hTO⟩ | ⟨T, f, oT, hz, hT, r1, r2, r3, r4⟩
  · exact wpAny_pyNext_zip_end hh D hz hTI hTO h1 h2 hl1 hl2 hend hQ
  · exact wpAny_pyNext_zip_end_held hh D hz hT hTI h1 h2 hl1 hl2 hend fun h' hk => hQ h' fun b o c1 _ c3 c4 e => hk b o c1 c3 c4 e
end
section
variable {prog : Program} {w : World} {A : Around} {s : Shared} {R : Result → Shared → Prop}
variable {z TI TO i1 i2 l1 l2 S : Addr} {xs ys : Array Value}
/-- the loop that fills the list S -/
theorem zl_loop {lo : Addr} (hh : A.handled = none) (D : ZipApart z TI TO i1 i2 l1 l2) (dz : S ≠ z) (dTI : S ≠ TI) (dTO : S ≠ TO) (di1 : S ≠ i1) (di2 : S ≠ i2) (dl1 : S ≠ l1) (dl2 : S ≠ l2) (n : Nat) (hx : xs.size = n) (hy : ys.size = n) (hn : n ≤ sizeLine)
    (hlz : z ≤ lo) (hlT : TO ≤ lo) (hl1 : i1 ≤ lo) (hl2 : i2 ≤ lo) (hlS : S ≤ lo) (res : Value) {h₁ : Heap}
    (hR : ∀ h' tk acc c as, (∀ b o, b ≠ S → b ≠ z → b ≠ TO → b ≠ i1 → b ≠ i2 → h₁.get? b = some o → h'.get? b = some o) → h'.get? S = some { cls := .type "list", dict := none, data := .seq acc c, slots := #[] } → as.length = n → ZlG n xs ys lo h' as →
      acc.toList = as.map Value.ref → R (.ok (.ret res)) { s with heap := h', toks := tk }) :
    ∀ (k i : Nat) (h : Heap) (tk c : Nat) (acc : Array Value) (as : List Addr), n - i = k → i ≤ n → ZlSt z TI TO i1 i2 l1 l2 S xs ys i h → (∀ b o, b ≠ S → b ≠ z → b ≠ TO → b ≠ i1 → b ≠ i2 → h₁.get? b = some o → h.get? b = some o) →
      h.get? S = some { cls := .type "list", dict := none, data := .seq acc c, slots := #[] } → acc.toList = as.map Value.ref → as.length = i → ZlG n xs ys lo h as → lo < h.objs.size →
      codeAny (model prog w) A (.builtin "list.extend.loop" ⟨[.ref S, .ref z, res], []⟩) R { s with heap := h, toks := tk } := by
  have far : ∀ {b : Addr}, lo < b → b ≠ S ∧ b ≠ z ∧ b ≠ TO ∧ b ≠ i1 ∧ b ≠ i2 := fun hb => ⟨Nat.ne_of_gt (Nat.lt_of_le_of_lt hlS hb), Nat.ne_of_gt (Nat.lt_of_le_of_lt hlz hb), Nat.ne_of_gt (Nat.lt_of_le_of_lt hlT hb), Nat.ne_of_gt (Nat.lt_of_le_of_lt hl1 hb), Nat.ne_of_gt (Nat.lt_of_le_of_lt hl2 hb)⟩
  intro k
  induction k with
  | zero =>
    intro i h tk c acc as hk hi hst hkeep hS hacc hal hG hIs
    have hin : i = n := by omega
    refine codeAny_builtin PySem.F.entry_extend_loop ?_
    rw [Around.under_plainId PySem.F.plain_extend_loop _]
    show wpAny _ A.in1 (pyNext (.ref z) >>= _) _ _ _
    refine wpAny_bind (zl_done (s := { s with heap := h, toks := tk }) (A := A.in1) hh D hst (.inl (Array.getElem?_eq_none (by omega))) fun h' he => ?_)
    refine wpAny_pure (hR h' tk acc c as (fun b o c1 c2 c3 c4 c5 e => he b o c2 c3 c4 c5 (hkeep b o c1 c2 c3 c4 c5 e)) (he S _ dz dTO di1 di2 hS) (by omega) ⟨hG.rise, hG.above, fun j a hj => ?_⟩ hacc)
    obtain ⟨x, y, e1, e2, e3⟩ := hG.pairs j a hj
    obtain ⟨_, c2, c3, c4, c5⟩ := far (hG.above a (List.mem_of_getElem? hj))
    exact ⟨x, y, e1, e2, he a _ c2 c3 c4 c5 e3⟩
  | succ k ih =>
    intro i h tk c acc as hk hi hst hkeep hS hacc hal hG hIs
    have hlt : i < n := by omega
    have hsz : acc.size = i := by rw [← Array.length_toList, hacc, List.length_map, hal]
    have ex := Array.getElem?_eq_getElem (xs := xs) (i := i) (by omega)
    have ey := Array.getElem?_eq_getElem (xs := ys) (i := i) (by omega)
    refine codeAny_builtin PySem.F.entry_extend_loop ?_
    rw [Around.under_plainId PySem.F.plain_extend_loop _]
    show wpAny _ A.in1 (pyNext (.ref z) >>= _) _ _ _
    refine wpAny_bind (zl_item (s := { s with heap := h, toks := tk }) D hst (Heap.lt_size hS) ex ey fun h' hst' ht hz hkp => ?_)
    dsimp only at ht hz hkp ⊢
    have hS' := hkp S _ dz dTO di1 di2 hS
    have up : ∀ b o, b ≠ S → h'.get? b = some o → (h'.update S (Obj.mapSeq (·.push (Value.ref h.objs.size)))).get? b = some o := fun b o hb e => (Heap.get?_update_other _ _ (Ne.symm hb)).trans e
    have hSl : S < h.objs.size := Heap.lt_size hS
    show wpAny _ A.in1 (updateSeq S (·.push (Value.ref h.objs.size)) >>= _) _ _ _
    refine wpAny_bind ?_
    refine wpAny_updateSeq hS' rfl (wpAny_pure ⟨plainId_quiet PySem.F.plain_extend_loop _, ih (i + 1) _ tk _ (acc.push (Value.ref h.objs.size)) (as ++ [h.objs.size]) (by omega) hlt (hst'.keep dz dTI dTO di1 di2 dl1 dl2 up)
      (fun b o c1 c2 c3 c4 c5 e => up b o c1 (hkp b o c2 c3 c4 c5 (hkeep b o c1 c2 c3 c4 c5 e))) (Heap.get?_update_self _ hS' rfl) (by rw [Array.toList_push, hacc, List.map_append]; rfl) (by rw [List.length_append, hal]; rfl) ⟨?_, ?_, ?_⟩ ?_⟩) (by rw [hsz]; omega) (by show (acc.push (Value.ref h.objs.size)).size ≤ sizeLine + 1; rw [Array.size_push, hsz]; omega)
    · refine List.pairwise_append.mpr ⟨hG.rise, List.pairwise_singleton _ _, fun a ha b hb => ?_⟩
      rw [List.mem_singleton.mp hb]
      exact hG.there ha
    · intro a ha
      rcases List.mem_append.mp ha with ha | ha
      · exact hG.above a ha
      · rw [List.mem_singleton.mp ha]; exact hIs
    · intro j b hj
      rcases Nat.lt_trichotomy j as.length with h1 | h1 | h1
      · rw [List.getElem?_append_left h1] at hj
        obtain ⟨x, y, e1, e2, e3⟩ := hG.pairs j b hj
        obtain ⟨c1, c2, c3, c4, c5⟩ := far (hG.above b (List.mem_of_getElem? hj))
        exact ⟨x, y, e1, e2, up b _ c1 (hkp b _ c2 c3 c4 c5 e3)⟩
      · subst h1
        have hb : h.objs.size = b := by simpa using hj
        subst hb
        exact ⟨_, _, by rw [hal]; exact ex, by rw [hal]; exact ey, up _ _ (Nat.ne_of_gt hSl) ht⟩
      · have hnone : (as ++ [h.objs.size])[j]? = none := List.getElem?_eq_none (by rw [List.length_append, List.length_singleton]; omega)
        rw [hnone] at hj; cases hj
    · have e : (h'.update S (Obj.mapSeq (·.push (Value.ref h.objs.size)))).get? h.objs.size = _ := up _ _ (Nat.ne_of_gt hSl) ht
      exact Nat.lt_trans hIs (Heap.lt_size e)
end
theorem zip_no_len : typeLookup (.type "zip") "__len__" = pure none := by rw [typeLookup_type, builtinLookup_eq_fast]; kernel_rfl
theorem zip_no_hint : typeLookup (.type "zip") "__length_hint__" = pure none := by rw [typeLookup_type, builtinLookup_eq_fast]; kernel_rfl
section
variable {prog : Program} {w : World} {A : Around} {E : Value → Shared → Prop} {s : Shared}
variable {z TI TO i1 i2 l1 l2 S : Addr} {xs ys : Array Value} {n : Nat}
theorem zl_extend {R : Result → Shared → Prop} (hh : A.handled = none) (D : ZipApart z TI TO i1 i2 l1 l2) (hz : IsZip s.heap z TI TO .none) (hTI : IsPair s.heap TI (.ref i1) (.ref i2)) (hTO : ∃ a b, IsPair s.heap TO a b)
    (h1 : s.heap.IsListIter i1 l1 0) (h2 : s.heap.IsListIter i2 l2 0) (hl1 : s.heap.IsList l1 xs) (hl2 : s.heap.IsList l2 ys) (hx : xs.size = n) (hy : ys.size = n) (hn : n ≤ sizeLine)
    (dz : z < S) (dTI : TI < S) (dTO : TO < S) (di1 : i1 < S) (di2 : i2 < S) (dl1 : l1 < S) (dl2 : l2 < S) (res : Value) (c₀ : Nat) (hS : s.heap.get? S = some { cls := .type "list", data := .seq #[] c₀ })
    (hR : ∀ h' tk acc c as, (∀ b o, b ≠ S → b ≠ z → b ≠ TO → b ≠ i1 → b ≠ i2 → s.heap.get? b = some o → h'.get? b = some o) → h'.get? S = some { cls := .type "list", dict := none, data := .seq acc c, slots := #[] } → as.length = n → ZlG n xs ys S h' as →
      acc.toList = as.map Value.ref → R (.ok (.ret res)) { s with heap := h', toks := tk }) :
    wpAny (model prog w) A.in1 (Builtin.List.listExtendWith (.ref S) (.ref z) res)
      (fun fin s' => match fin with | .done f => R (.ok f) s' | .again c' => c'.quiet = true ∧ codeAny (model prog w) A c' R s') (fun e s' => R (.error e) s') s := by
  have nz := Nat.ne_of_gt dz
  have nTI := Nat.ne_of_gt dTI
  have nTO := Nat.ne_of_gt dTO
  have n1 := Nat.ne_of_gt di1
  have n2 := Nat.ne_of_gt di2
  have m1 := Nat.ne_of_gt dl1
  have m2 := Nat.ne_of_gt dl2
  have hT : s.TypeIs (.ref z) "zip" := ⟨_, hz, rfl⟩
  unfold Builtin.List.listExtendWith
  refine wpAny_bind (wpAny_typeOf hT ?_)
  have e1 : Builtin.List.listSameRef (.ref S) (.ref z) = false := by simp [Builtin.List.listSameRef, nz]
  have e2 : (Value.type "zip" == Value.type "list") = false := by decide
  have e3 : (Value.type "zip" == Value.type "tuple") = false := by decide
  simp only [e1, e2, e3, Bool.or_false, Bool.false_eq_true, if_false]
  refine wpAny_bind (wpAny_pyIter_zip hz ?_)
  refine wpAny_bind (wpAny_holding ?_)
  unfold Builtin.List.listLengthHint
  refine wpAny_bind (wpAny_specialOf hT zip_no_len ?_)
  show wpAny _ A.in1 (specialOf (Value.ref z) (Str.ofString "__length_hint__") >>= _) _ _ _
  refine wpAny_bind (wpAny_specialOf hT zip_no_hint ?_)
  refine wpAny_pure ?_
  show wpAny _ A.in1 (rule "list.extend.makes-room" >>= fun _ => Builtin.List.listTouch (.ref S) >>= fun _ =>
    again (.builtin "list.extend.loop" ⟨[.ref S, .ref z, res], []⟩)) _ _ _
  refine wpAny_bind (wpAny_rule ?_)
  refine wpAny_bind ?_
  show wpAny _ A.in1 (updateSeq S (·.push .none) >>= fun _ => updateSeq S (·.pop)) _ _ _
  refine wpAny_bind (wpAny_updateSeq hS rfl ?_)
  have hS₂ := Heap.get?_update_self (Obj.mapSeq (·.push Value.none)) hS rfl
  refine wpAny_updateSeq (hz := by seq_fits) hS₂ rfl ?_
  have hS₃ := Heap.get?_update_self (Obj.mapSeq (·.pop)) hS₂ rfl
  have oth : ∀ b o, b ≠ S → s.heap.get? b = some o → ((s.heap.update S (Obj.mapSeq (·.push Value.none))).update S (Obj.mapSeq (·.pop))).get? b = some o :=
    fun b o hb e => (Heap.get?_update_other _ _ (Ne.symm hb)).trans ((Heap.get?_update_other _ _ (Ne.symm hb)).trans e)
  have st0 : ZlSt z TI TO i1 i2 l1 l2 S xs ys 0 s.heap := ⟨hTI, h1, h2, hl1, hl2, .inl ⟨hz, hTO⟩⟩
  refine wpAny_pure ⟨plainId_quiet PySem.F.plain_extend_loop _, zl_loop (lo := S) (h₁ := s.heap) hh D nz nTI nTO n1 n2 m1 m2 n hx hy hn (Nat.le_of_lt dz) (Nat.le_of_lt dTO) (Nat.le_of_lt di1) (Nat.le_of_lt di2) (Nat.le_refl _) res hR
    n 0 _ _ _ #[] [] (Nat.sub_zero _) (Nat.zero_le _) (st0.keep nz nTI nTO n1 n2 m1 m2 oth) (fun b o c1 _ _ _ _ e => oth b o c1 e) hS₃ rfl rfl
    ⟨List.Pairwise.nil, (fun _ ha => nomatch ha), (fun j a hj => by simp at hj)⟩ (Heap.lt_size hS₃)⟩
theorem zl_init {R : Result → Shared → Prop} (hh : A.handled = none) (D : ZipApart z TI TO i1 i2 l1 l2) (hz : IsZip s.heap z TI TO .none) (hTI : IsPair s.heap TI (.ref i1) (.ref i2)) (hTO : ∃ a b, IsPair s.heap TO a b)
    (h1 : s.heap.IsListIter i1 l1 0) (h2 : s.heap.IsListIter i2 l2 0) (hl1 : s.heap.IsList l1 xs) (hl2 : s.heap.IsList l2 ys) (hx : xs.size = n) (hy : ys.size = n) (hn : n ≤ sizeLine)
    (dz : z < S) (dTI : TI < S) (dTO : TO < S) (di1 : i1 < S) (di2 : i2 < S) (dl1 : l1 < S) (dl2 : l2 < S) (hS : s.heap.get? S = some { cls := .type "list", data := .seq #[] })
    (hR : ∀ h' tk acc c as, (∀ b o, b ≠ S → b ≠ z → b ≠ TO → b ≠ i1 → b ≠ i2 → s.heap.get? b = some o → h'.get? b = some o) → h'.get? S = some { cls := .type "list", dict := none, data := .seq acc c, slots := #[] } → as.length = n → ZlG n xs ys S h' as →
      acc.toList = as.map Value.ref → R (.ok (.ret .none)) { s with heap := h', toks := tk }) :
    wpAny (model prog w) A.in1 (Builtin.«list.__init__» ⟨[.ref S, .ref z], []⟩)
      (fun fin s' => match fin with | .done f => R (.ok f) s' | .again c' => c'.quiet = true ∧ codeAny (model prog w) A c' R s') (fun e s' => R (.error e) s') s := by
  show wpAny _ _ (do let old ← Builtin.List.listItems (.ref S); Builtin.List.listUpdate (.ref S) (fun _ => #[]); letGo old.toList.reverse; Builtin.List.listExtendWith (.ref S) (.ref z) .none) _ _ s
  refine wpAny_bind ?_
  unfold Builtin.List.listItems
  refine wpAny_bind (wpAny_seqItems hS rfl (wpAny_pure ?_))
  show wpAny _ _ (updateSeq S (fun _ => #[]) >>= fun _ => letGo (#[] : Array Value).toList.reverse >>= fun _ => Builtin.List.listExtendWith (.ref S) (.ref z) .none) _ _ s
  refine wpAny_bind (wpAny_updateSeq hS rfl ?_)
  have hS₂ := Heap.get?_update_self (Obj.mapSeq (fun _ => (#[] : Array Value))) hS rfl
  have oth : ∀ b o, b ≠ S → s.heap.get? b = some o → (s.heap.update S (Obj.mapSeq (fun _ => (#[] : Array Value)))).get? b = some o :=
    fun b o hb e => (Heap.get?_update_other _ _ (Ne.symm hb)).trans e
  refine wpAny_bind (wpAny_letGo ?_)
  exact zl_extend hh D (oth _ _ (Nat.ne_of_lt dz) hz) (oth _ _ (Nat.ne_of_lt dTI) hTI) (let ⟨a, b, e⟩ := hTO; ⟨a, b, oth _ _ (Nat.ne_of_lt dTO) e⟩) (h1.at fun o e => oth _ o (Nat.ne_of_lt di1) e) (h2.at fun o e => oth _ o (Nat.ne_of_lt di2) e)
    (hl1.at fun o e => oth _ o (Nat.ne_of_lt dl1) e) (hl2.at fun o e => oth _ o (Nat.ne_of_lt dl2) e) hx hy hn dz dTI dTO di1 di2 dl1 dl2 .none _ hS₂ fun h' tk acc c as hk hS' hl hG hacc =>
      hR h' tk acc c as (fun b o c1 c2 c3 c4 c5 e => hk b o c1 c2 c3 c4 c5 (oth b o c1 e)) hS' hl hG hacc
/-- list(v), v a zip over two lists of one length -/
theorem zl_call {Q : Value → Shared → Prop} (hh : A.handled = none) (D : ZipApart z TI TO i1 i2 l1 l2) (hz : IsZip s.heap z TI TO .none) (hTI : IsPair s.heap TI (.ref i1) (.ref i2)) (hTO : ∃ a b, IsPair s.heap TO a b)
    (h1 : s.heap.IsListIter i1 l1 0) (h2 : s.heap.IsListIter i2 l2 0) (hl1 : s.heap.IsList l1 xs) (hl2 : s.heap.IsList l2 ys) (hx : xs.size = n) (hy : ys.size = n) (hn : n ≤ sizeLine)
    (hQ : ∀ h' tk acc c as, (∀ b o, b ≠ z → b ≠ TO → b ≠ i1 → b ≠ i2 → s.heap.get? b = some o → h'.get? b = some o) → h'.get? s.heap.objs.size = some { cls := .type "list", dict := none, data := .seq acc c, slots := #[] } → as.length = n →
      ZlG n xs ys s.heap.objs.size h' as → acc.toList = as.map Value.ref → Q (.ref s.heap.objs.size) { s with heap := h', toks := tk }) :
    wpAny (model prog w) A (call (.type "list") [.ref z]) Q E s := by
  refine callType_codes (Q₁ := fun obj s₁ => obj = .ref s.heap.objs.size ∧ s₁ = { s with heap := s.heap.push { cls := .type "list", data := .seq #[] } }) PySem.F.called_list (PySem.F.typeCall_list_1 _) PySem.F.entry_list_init
    (code_list_new _ ⟨rfl, rfl⟩) fun obj s₁ hs₁ => ?_
  obtain ⟨rfl, rfl⟩ := hs₁
  have hS : (s.heap.push { cls := .type "list", data := .seq #[] }).get? s.heap.objs.size = some { cls := .type "list", data := .seq #[] } := Heap.get?_push_size _ rfl
  have up : ∀ b o, s.heap.get? b = some o → (s.heap.push { cls := .type "list", data := .seq #[] }).get? b = some o := fun b o e => Heap.get?_push_of_some _ e
  have k1 : i1 < s.heap.objs.size := let ⟨_, e, _⟩ := h1; Heap.lt_size e
  have k2 : i2 < s.heap.objs.size := let ⟨_, e, _⟩ := h2; Heap.lt_size e
  have k3 : l1 < s.heap.objs.size := let ⟨_, e, _⟩ := hl1; Heap.lt_size e
  have k4 : l2 < s.heap.objs.size := let ⟨_, e, _⟩ := hl2; Heap.lt_size e
  have k5 : TO < s.heap.objs.size := let ⟨_, _, e⟩ := hTO; Heap.lt_size e
  refine ⟨⟨_, hS, rfl⟩, PySem.F.args_list_init_2 _ _, zl_init (A := A.in1) hh D (up _ _ hz) (up _ _ hTI) (let ⟨a, b, e⟩ := hTO; ⟨a, b, up _ _ e⟩) (h1.at fun o e => up _ o e) (h2.at fun o e => up _ o e) (hl1.at fun o e => up _ o e) (hl2.at fun o e => up _ o e) hx hy hn
    (Heap.lt_size hz) (Heap.lt_size hTI) k5 k1 k2 k3 k4 hS fun h' tk acc c as hk hS' hl hG hacc => ?_⟩
  exact ⟨rfl, hQ h' tk acc c as (fun b o c2 c3 c4 c5 e => hk b o (Nat.ne_of_lt (Heap.lt_size e)) c2 c3 c4 c5 (up b o e)) hS' hl hG hacc⟩
end
end Bq

set_option Elab.async false
set_option autoImplicit false
set_option linter.all false
set_option maxRecDepth 100000
/-! Many new objects laid at once. -/
namespace Bq
open PySem PySem.Spec PyProof.Rows L2 StX
def updAll (H : Hp) : List (Addr × HO) → Hp
  | [] => H
  | p :: r => updAll (upd H p.1 p.2) r
section
variable {X : Cx} {pins : List (Addr × Obj)} {σ : List (Option V)} {h' : Heap}
theorem laidAll {t' : Nat} : ∀ (new : List (Addr × HO)) (H : Hp) (s : Shared), Inv X pins σ H s → (∀ b u, s.heap.get? b = some u → h'.get? b = some u) → (new.map (·.1)).Nodup →
    (∀ p ∈ new, s.heap.get? p.1 = none ∧ H p.1 = none) → (∀ p ∈ new, ∀ (H : Hp) (h : Heap), h.get? p.1 = h'.get? p.1 → ObjOk X.prog X.w H h p.1 p.2) →
    Inv X pins σ (updAll H new) { s with heap := h', toks := t' }
  | [], H, s, I, k, _, _, _ => I.kept k
  | (a, o) :: r, H, s, I, k, hn, hf, ok => by
    rw [List.map_cons, List.nodup_cons] at hn
    obtain ⟨G, g1, g2⟩ := restrict h' fun b => decide (b ∉ r.map (·.1))
    have ga : G.get? a = h'.get? a := g1 a (decide_eq_true hn.1)
    have kG : ∀ b u, s.heap.get? b = some u → G.get? b = some u := fun b u e => by
      rw [g1 b (decide_eq_true fun hm => ?_)]
      · exact k b u e
      · obtain ⟨p, hp, rfl⟩ := List.mem_map.mp hm
        rw [(hf p (List.mem_cons_of_mem _ hp)).1] at e
        cases e
    have Gk : ∀ b u, G.get? b = some u → h'.get? b = some u := fun b u e => by
      by_cases hm : b ∈ r.map (·.1)
      · rw [g2 b (decide_eq_false fun z => z hm)] at e
        cases e
      · rw [← g1 b (decide_eq_true hm)]
        exact e
    obtain ⟨fa, na⟩ := hf (a, o) List.mem_cons_self
    have I2 : Inv X pins σ (upd H a o) { s with heap := G, toks := t' } := I.laidN kG fa na (ok (a, o) List.mem_cons_self _ _ ga)
    have := laidAll (t' := t') r (upd H a o) _ I2 Gk hn.2 (fun p hp => ⟨g2 p.1 (decide_eq_false fun z => z (List.mem_map_of_mem hp)), ?_⟩) fun p hp => ok p (List.mem_cons_of_mem _ hp)
    · exact this
    · have hm : p.1 ∈ r.map (·.1) := List.mem_map_of_mem (f := fun q : Addr × HO => q.1) hp
      have hne : p.1 ≠ a := fun e => hn.1 (e ▸ hm)
      have := (hf p (List.mem_cons_of_mem _ hp)).2
      show upd H a o p.1 = none
      unfold upd
      simp [hne, this]
end
end Bq

set_option Elab.async false
set_option autoImplicit false
set_option linter.all false
set_option maxRecDepth 100000
/-! list(zip(a, b)) as an expression. -/
namespace Bq
open PySem PySem.Spec PyProof.Rows L2 StX
def zipNew (xs ys : List V) (as : List Addr) : List (Addr × HO) := (as.zip (xs.zip ys)).map fun q => (q.1, HO.tup [q.2.1, q.2.2])
def tListZip (K : PySem.W.Frag) (ta : TA) : TE := fun σ H Q => ta σ H fun vs H1 => ∃ (la lb : Addr) (xs ys : List V), vs = [.ref la, .ref lb] ∧ SqL K H1 la xs ∧ SqL K H1 lb ys ∧ xs.length = ys.length ∧
  ∀ (p : Addr) (as : List Addr), as.length = xs.length → (as ++ [p]).Nodup → (∀ a ∈ as ++ [p], H1 a = none) → Q (.ref p) (updAll H1 (zipNew xs ys as ++ [(p, HO.lst (as.map V.ref))]))
theorem zipNew_fst (xs ys : List V) (as : List Addr) (h1 : as.length = xs.length) (h2 : xs.length = ys.length) : (zipNew xs ys as).map (·.1) = as := by
  unfold zipNew
  rw [List.map_map]
  have : (List.map ((fun x => x.fst) ∘ fun q : Addr × V × V => (q.1, HO.tup [q.2.1, q.2.2])) (as.zip (xs.zip ys))) = (as.zip (xs.zip ys)).map Prod.fst := rfl
  rw [this, List.map_fst_zip]
  simp; omega
theorem pe_listZip {X : Cx} {e e2 : Expr} {ta : TA} {p p2 q pos : Pos} (hg : Gl X "list") (hm : X.mg "list" = none) (hg2 : Gl X "zip") (hm2 : X.mg "zip" = none) (ha : PA X [e, e2] ta) (hc : X.calm = true)
    (hs : starEach [e, e2] X.env = (false, eval e X.env) :: starEach [e2] X.env) (hpl : (backTo q (starEach [e2] X.env)).any (·.1) = false)
    (na : starEach [.Call (.Name "zip" p2) [e, e2] [] q] X.env = (false, eval (.Call (.Name "zip" p2) [e, e2] [] q) X.env) :: starEach [] X.env) :
    PE X (.Call (.Name "list" p) [.Call (.Name "zip" p2) [e, e2] [] q] [] pos) (tListZip X.K ta) := by
  refine ⟨fun pins s σ H Q I h => ?_⟩
  refine Call_ (ld_blt I hg hm PyProof.Rows.boot_list ?_)
  refine PyProof.Rows.callWith_type1 (PyProof.Rows.args_cons ?_ na) na rfl
  refine Call_ (ld_blt I hg2 hm2 PyProof.Rows.boot_zip (PyProof.Rows.callWith_type1 (thn (ha.run q pins s σ H _ I h) fun us s1 ⟨vs, H1, I1, r1, q1⟩ => ?_) hs hpl))
  obtain ⟨la, lb, xs, ys, ex, hq, hq2, hl, q1⟩ := q1
  subst ex
  cases r1 with
  | cons r rr =>
    cases rr with
    | cons r' rr =>
      cases rr
      cases r
      cases r'
      obtain ⟨its, rv, pl, hz⟩ := I1.list hq
      obtain ⟨its2, rv2, pl2, hz2⟩ := I1.list hq2
      have n1 : its.toArray.size = xs.length := by simpa using rv.length.symm
      have n2 : its2.toArray.size = xs.length := by rw [hl]; simpa using rv2.length.symm
      have ka : @LT.lt Nat _ la s1.heap.objs.size := pl.lt
      have kb : @LT.lt Nat _ lb s1.heap.objs.size := pl2.lt
      refine call_zip_2 pl.isList pl2.isList fun h' hzp hTI hTO g1 g2 hsz hk => ?_
      refine PyProof.Rows.args_nil ?_
      have D : ZipApart (s1.heap.objs.size + 4) (s1.heap.objs.size + 2) (s1.heap.objs.size + 3) s1.heap.objs.size (s1.heap.objs.size + 1) la lb := by
        constructor <;> first | exact Nat.ne_of_gt (by omega) | exact Nat.ne_of_lt (by omega)
      refine zl_call (s := { s1 with heap := h' }) (xs := its.toArray) (ys := its2.toArray) (n := xs.length) (I1.ok.hd hc) D hzp hTI ⟨_, _, hTO⟩ g1 g2 (let ⟨o, e, r⟩ := pl.isList; ⟨o, hk _ _ e, r⟩) (let ⟨o, e, r⟩ := pl2.isList; ⟨o, hk _ _ e, r⟩) n1 n2 hz
        fun h'' tk acc c as hk2 hS hal hG hacc => ?_
      dsimp only at hk2 hS hG ⊢
      have hN : h'.objs.size = s1.heap.objs.size + 5 := hsz
      have above : ∀ a ∈ as, @LT.lt Nat _ h'.objs.size a := hG.above
      have old : ∀ b u, s1.heap.get? b = some u → h''.get? b = some u := fun b u e => by
        have hb : @LT.lt Nat _ b s1.heap.objs.size := Heap.lt_size e
        exact hk2 b u (Nat.ne_of_lt (by omega)) (Nat.ne_of_lt (by omega)) (Nat.ne_of_lt (by omega)) (Nat.ne_of_lt (by omega)) (hk b u e)
      have fresh : ∀ a ∈ as ++ [h'.objs.size], @LE.le Nat _ s1.heap.objs.size a := by
        intro a ha
        rcases List.mem_append.mp ha with ha | ha
        · have := above a ha; omega
        · rw [List.mem_singleton.mp ha]; omega
      have nd : (as ++ [h'.objs.size]).Nodup := by
        rw [List.nodup_append]
        refine ⟨hG.rise.imp fun h e => ?_, by simp, fun a ha b hb e => ?_⟩
        · exact Nat.ne_of_lt h e
        · rw [List.mem_singleton.mp hb] at e
          exact absurd e (Nat.ne_of_gt (above a ha))
      have noH : ∀ a ∈ as ++ [h'.objs.size], s1.heap.get? a = none ∧ H1 a = none := fun a ha => by
        have hf := fresh a ha
        refine ⟨?_, I1.hok.fresh hf⟩
        cases hg : s1.heap.get? a with
        | none => rfl
        | some o => exact absurd (Heap.lt_size hg) (Nat.not_lt.mpr hf)
      have e1 := zipNew_fst xs ys as hal hl
      have key := laidAll (h' := h'') (t' := tk) (zipNew xs ys as ++ [(h'.objs.size, HO.lst (as.map V.ref))]) H1 s1 I1 old (by rw [List.map_append, e1]; exact nd)
        (fun p hp => noH p.1 (by
          have : p.1 ∈ (zipNew xs ys as ++ [(h'.objs.size, HO.lst (as.map V.ref))]).map (·.1) := List.mem_map_of_mem (f := fun q : Addr × HO => q.1) hp
          rw [List.map_append, e1] at this
          exact this)) ?_
      · exact ⟨.ref h'.objs.size, _, key, rfl, q1 _ as hal nd fun a ha => (noH a ha).2⟩
      · intro p hp Hx hx ex
        rcases List.mem_append.mp hp with hp | hp
        · obtain ⟨⟨a, x, y⟩, hm, rfl⟩ := List.mem_map.mp hp
          obtain ⟨j, hj, ej⟩ := List.mem_iff_getElem.mp hm
          rw [List.getElem_zip, List.getElem_zip] at ej
          simp only [List.length_zip] at hj
          have ja : j < as.length := by omega
          have jx : j < xs.length := by omega
          have jy : j < ys.length := by omega
          have ea : as[j] = a := congrArg Prod.fst ej
          have exx : xs[j] = x := congrArg (·.2.1) ej
          have eyy : ys[j] = y := congrArg (·.2.2) ej
          obtain ⟨u, v, hu, hv, hT⟩ := hG.pairs j a (by rw [← ea]; exact List.getElem?_eq_getElem ja)
          obtain ⟨x', hx', ru⟩ := vals_at rv (by simpa using hu)
          obtain ⟨y', hy', rv'⟩ := vals_at rv2 (by simpa using hv)
          have q1 : x' = x := by rw [List.getElem?_eq_getElem jx, exx] at hx'; exact (Option.some.inj hx').symm
          have q2 : y' = y := by rw [List.getElem?_eq_getElem jy, eyy] at hy'; exact (Option.some.inj hy').symm
          subst q1 q2
          refine ⟨(show 2 ≤ sizeLine by decide), [u, v], .cons ru (.cons rv' .nil), ?_⟩
          exact ⟨_, ex.trans hT, rfl, _, rfl⟩
        · rw [List.mem_singleton.mp hp] at ex ⊢
          refine ⟨by rw [List.length_map]; omega, as.map Value.ref, c, vals_refs as, ?_⟩
          have : (as.map Value.ref).toArray = acc := by rw [← hacc, Array.toArray_toList]
          rw [this]
          exact ex.trans hS
end Bq

set_option Elab.async false
set_option autoImplicit false
set_option linter.all false
set_option maxRecDepth 100000
/-! list(zip(a, b)): what it gives as data. -/
namespace Bq
open PySem PySem.Spec PyProof.Rows L2 StX
theorem updAll_app : ∀ (a b : List (Addr × HO)) (H : Hp), updAll H (a ++ b) = updAll (updAll H a) b
  | [], b, H => rfl
  | p :: a, b, H => updAll_app a b (upd H p.1 p.2)
section
variable {Z : Wd} {S : Srcs} {F0 H0 : Hp} {T : List (Addr × D)} {env : Env} {σ : L2.St}
theorem zip_rel : ∀ (as : List Addr) (xs ys : List V) (dx dy : List D) (H F : Hp), Rel Z S F0 H0 T env σ H F → RpAll Z F dx xs → RpAll Z F dy ys → as.length = xs.length → xs.length = ys.length → as.Nodup → (∀ a ∈ as, H a = none) →
    ∃ F', Rel Z S F0 H0 T env σ (updAll H (zipNew xs ys as)) F' ∧ Le F F' ∧ RpAll Z F' (zipD dx dy) (as.map V.ref) ∧ ∀ a, a ∉ as → updAll H (zipNew xs ys as) a = H a
  | [], xs, ys, dx, dy, H, F, R, hx, hy, h1, h2, _, _ => by
    have e1 : xs = [] := List.length_eq_zero_iff.mp h1.symm
    subst e1
    have l1 := RpAll.length _ _ hx
    have e2 : dx = [] := List.length_eq_zero_iff.mp l1.symm
    subst e2
    refine ⟨F, R, Le.refl F, ?_, fun a _ => rfl⟩
    cases dy <;> exact rfl
  | a :: as, [], ys, dx, dy, H, F, R, hx, hy, h1, h2, _, _ => by simp at h1
  | a :: as, x :: xs, [], dx, dy, H, F, R, hx, hy, h1, h2, _, _ => by simp at h2
  | a :: as, x :: xs, y :: ys, [], dy, H, F, R, hx, hy, h1, h2, _, _ => by
    have := RpAll.length _ _ hx
    simp at this
  | a :: as, x :: xs, y :: ys, d :: dx, [], H, F, R, hx, hy, h1, h2, _, _ => by
    have := RpAll.length _ _ hy
    simp at this
  | a :: as, x :: xs, y :: ys, d :: dx, e :: dy, H, F, R, hx, hy, h1, h2, hn, hf => by
    rw [List.nodup_cons] at hn
    obtain ⟨v, vs, ev, p1, q1⟩ := hx
    obtain ⟨rfl, rfl⟩ := List.cons.inj ev
    obtain ⟨u, us, eu, p2, q2⟩ := hy
    obtain ⟨rfl, rfl⟩ := List.cons.inj eu
    obtain ⟨R2, l2, r2⟩ := R.laid_tup (p := a) (ds := [d, e]) (vs := [x, y]) (hf a List.mem_cons_self) (RpAll.cons p1 (RpAll.cons p2 (RpAll.nil_iff.mpr rfl)))
    obtain ⟨F', R3, l3, r3, k3⟩ := zip_rel as xs ys dx dy _ _ R2 (RpAll.mono l2 _ _ q1) (RpAll.mono l2 _ _ q2) (by simpa using h1) (by simpa using h2) hn.2 fun b hb => by
      have hne : b ≠ a := fun z => hn.1 (z ▸ hb)
      rw [upd_ne hne]
      exact hf b (List.mem_cons_of_mem _ hb)
    refine ⟨F', R3, l2.trans l3, RpAll.cons (Rp.mono l3 _ _ r2) r3, fun b hb => ?_⟩
    have h3 := k3 b fun z => hb (List.mem_cons_of_mem _ z)
    have hne : b ≠ a := fun z => hb (z ▸ List.mem_cons_self)
    exact h3.trans (upd_ne hne)
/-- what list(zip(a, b)) needs of what comes after -/
theorem zip_post {H F : Hp} {Q : VK} {xs ys : List V} {dx dy : List D} (R : Rel Z S F0 H0 T env σ H F) (hx : RpAll Z F dx xs) (hy : RpAll Z F dy ys) (h2 : xs.length = ys.length) (h : Post Z S F0 H0 T env σ F (.fr (.lst (zipD dx dy))) Q) :
    ∀ (p : Addr) (as : List Addr), as.length = xs.length → (as ++ [p]).Nodup → (∀ a ∈ as ++ [p], H a = none) → Q (.ref p) (updAll H (zipNew xs ys as ++ [(p, HO.lst (as.map V.ref))])) := by
  intro p as h1 hn hf
  rw [List.nodup_append] at hn
  obtain ⟨F', R2, l2, r2, k2⟩ := zip_rel as xs ys dx dy H F R hx hy h1 h2 hn.1 fun a ha => hf a (List.mem_append_left _ ha)
  have np : p ∉ as := fun z => hn.2.2 p z p (by simp) rfl
  have fp : updAll H (zipNew xs ys as) p = none := (k2 p np).trans (hf p (by simp))
  obtain ⟨R3, o⟩ := R2.laid_fr (o := .lst (as.map V.ref)) (x := .lst (zipD dx dy)) fp ⟨_, upd_same, r2⟩
  rw [updAll_app]
  exact h _ _ F' R3 l2 o
def rListZip (K : PySem.W.Frag) : List V → Hp → VK → Prop := fun vs H Q => ∃ (la lb : Addr) (xs ys : List V), vs = [.ref la, .ref lb] ∧ SqL K H la xs ∧ SqL K H lb ys ∧ xs.length = ys.length ∧
  ∀ (p : Addr) (as : List Addr), as.length = xs.length → (as ++ [p]).Nodup → (∀ a ∈ as ++ [p], H a = none) → Q (.ref p) (updAll H (zipNew xs ys as ++ [(p, HO.lst (as.map V.ref))]))
/-- the reading of list(zip(a, b)) of two lists of one length -/
theorem zipl_ok {K : PySem.W.Frag} {H F : Hp} {Q : VK} {vs : List V} {dx dy : List D} (R : Rel Z S F0 H0 T env σ H F) (ps : PkAll Z H F [.lst dx, .lst dy] vs) (hl : dx.length = dy.length) (h : Post Z S F0 H0 T env σ F (.fr (.lst (zipD dx dy))) Q) : rListZip K vs H Q := by
  obtain ⟨v, u, rfl, ⟨a, xs, rfl, ha, r⟩, ⟨b, ys, rfl, hb, r'⟩⟩ := pk2 ps
  have l1 := RpAll.length _ _ r
  have l2 := RpAll.length _ _ r'
  exact ⟨a, b, xs, ys, rfl, .of ha, .of hb, by omega, zip_post R r r' (by omega) h⟩
end
section
variable {X : Cx} {fa : Nat → Addr} {cl : Nat → List Vl → M D} {c : Cm} {k : Nat} {sc : Scope}
theorem zipl_okB : BiR (zOf X fa) (rListZip X.K) .zipl := by
  intro S F0 H0 T env σ H F ds vs o Q R ps e h
  match ds, ps, e with
  | [.lst xs, .lst ys], ps, e =>
    have e : (if xs.length = ys.length then some (Od.fr (.lst (zipD xs ys))) else none) = some o := e
    split at e
    · rename_i hl
      cases e
      exact zipl_ok R ps hl h
    · cases e
theorem e_zipl {es : Exs} {a b : Expr} {p p2 q pos : Pos} (C : CxOk c k sc X) (hg : Gl X "list") (hm : X.mg "list" = none) (hg2 : Gl X "zip") (hm2 : X.mg "zip" = none) (ha : AllA X fa cl es [a, b]) (ns : [a, b].all (fun e => !isStar e) = true) :
    PE X (.Call (.Name "list" p) [.Call (.Name "zip" p2) [a, b] [] q] [] pos) (rdO (zOf X fa) cl (.bi .zipl es)) :=
  PE.imp (pe_listZip hg hm hg2 hm2 (pa_os ha ns) C.calm (each_plain (all_cons ns).1) (any_plain (all_cons ns).2) (each_plain rfl)) (bi_rd zipl_okB)
end
end Bq

set_option Elab.async false
set_option autoImplicit false
set_option linter.all false
set_option maxRecDepth 100000
/-! zip as the evaluator says it. -/
namespace Bq
open PySem PySem.Spec PyProof.Rows L2 StX
section
variable {c : Cm} {k : Nat} {sc : Scope} {X : Cx} {fa : Nat → Addr} {cl : Nat → List Vl → M D} {Z : Wd}
theorem zipD_len : ∀ xs ys : List D, (zipD xs ys).length = min xs.length ys.length
  | [], ys => by simp [zipD]
  | x :: xs, [] => by simp [zipD]
  | x :: xs, y :: ys => by
    show (zipD xs ys).length + 1 = _
    rw [zipD_len xs ys, List.length_cons, List.length_cons]
    omega
theorem zipD_get : ∀ (xs ys : List D) (i : Nat) (x y : D), xs[i]? = some x → ys[i]? = some y → (zipD xs ys)[i]? = some (.tup [x, y])
  | [], _, _, _, _, h, _ => by simp at h
  | _ :: _, [], _, _, _, _, h => by simp at h
  | a :: xs, b :: ys, 0, x, y, h1, h2 => by
    have h1 : a = x := by simpa using h1
    have h2 : b = y := by simpa using h2
    subst h1 h2
    rfl
  | a :: xs, b :: ys, i + 1, x, y, h1, h2 => zipD_get xs ys i x y (by simpa using h1) (by simpa using h2)
theorem zip3D_len : ∀ xs ys zs : List D, (zip3D xs ys zs).length = min (min xs.length ys.length) zs.length
  | [], ys, zs => by simp [zip3D]
  | x :: xs, [], zs => by simp [zip3D]
  | x :: xs, y :: ys, [] => by simp [zip3D]
  | x :: xs, y :: ys, z :: zs => by
    show (zip3D xs ys zs).length + 1 = _
    rw [zip3D_len xs ys zs, List.length_cons, List.length_cons, List.length_cons]
    omega
theorem zip3D_get : ∀ (xs ys zs : List D) (i : Nat) (x y z : D), xs[i]? = some x → ys[i]? = some y → zs[i]? = some z → (zip3D xs ys zs)[i]? = some (.tup [x, y, z])
  | [], _, _, _, _, _, _, h, _, _ => by simp at h
  | _ :: _, [], _, _, _, _, _, _, h, _ => by simp at h
  | _ :: _, _ :: _, [], _, _, _, _, _, _, h => by simp at h
  | a :: xs, b :: ys, d :: zs, 0, x, y, z, h1, h2, h3 => by
    have h1 : a = x := by simpa using h1
    have h2 : b = y := by simpa using h2
    have h3 : d = z := by simpa using h3
    subst h1 h2 h3
    rfl
  | a :: xs, b :: ys, d :: zs, i + 1, x, y, z, h1, h2, h3 => zip3D_get xs ys zs i x y z (by simpa using h1) (by simpa using h2) (by simpa using h3)
theorem rowZ_yd {Fs : Hp} {ds es : List D} {xs ys : List V} (r1 : RpAll Z Fs ds xs) (r2 : RpAll Z Fs es ys) {i : Nat} {H H' : Hp} {v : V} (y : ∃ T vs, v = .ref T ∧ H T = none ∧ H' = upd H T (.tup vs) ∧ rowZ xs ys i = some vs) : YD Z Fs (zipD ds es) i H v H' := by
  obtain ⟨T, vs, e1, e2, e3, e4⟩ := y
  unfold rowZ at e4
  split at e4
  · rename_i x y hx hy
    cases e4
    obtain ⟨d, hd, rd⟩ := r1.get' _ _ _ _ hx
    obtain ⟨e, he, re⟩ := r2.get' _ _ _ _ hy
    exact ⟨_, zipD_get _ _ _ _ _ hd he, .inr ⟨T, _, _, e1, e2, e3, rfl, _, _, rfl, rd, _, _, rfl, re, rfl⟩⟩
  · cases e4
theorem rowZ3_yd {Fs : Hp} {ds es fs : List D} {xs ys zs : List V} (r1 : RpAll Z Fs ds xs) (r2 : RpAll Z Fs es ys) (r3 : RpAll Z Fs fs zs) {i : Nat} {H H' : Hp} {v : V} (y : ∃ T vs, v = .ref T ∧ H T = none ∧ H' = upd H T (.tup vs) ∧ rowZ3 xs ys zs i = some vs) : YD Z Fs (zip3D ds es fs) i H v H' := by
  obtain ⟨T, vs, e1, e2, e3, e4⟩ := y
  unfold rowZ3 at e4
  split at e4
  · rename_i x y z hx hy hz
    cases e4
    obtain ⟨d, hd, rd⟩ := r1.get' _ _ _ _ hx
    obtain ⟨e, he, re⟩ := r2.get' _ _ _ _ hy
    obtain ⟨f, hf, rf⟩ := r3.get' _ _ _ _ hz
    exact ⟨_, zip3D_get _ _ _ _ _ _ _ hd he hf, .inr ⟨T, _, _, e1, e2, e3, rfl, _, _, rfl, rd, _, _, rfl, re, _, _, rfl, rf, rfl⟩⟩
  · cases e4
theorem zip_all {b : Bool} {xs zs : List D} (e : zipAll b xs = some zs) : (∃ x y ds es, xs = [x, y] ∧ seqOf x = some ds ∧ seqOf y = some es ∧ (b = true → ds.length = es.length) ∧ zs = zipD ds es) ∨
    (b = false ∧ ∃ x y w ds es fs, xs = [x, y, w] ∧ seqOf x = some ds ∧ seqOf y = some es ∧ seqOf w = some fs ∧ zs = zip3D ds es fs) := by
  match xs, e with
  | [x, y], e =>
    simp only [zipAll] at e
    cases h1 : seqOf x with
    | none => simp only [h1] at e; cases e
    | some ds =>
      cases h2 : seqOf y with
      | none => simp only [h1, h2] at e; cases e
      | some es =>
        simp only [h1, h2] at e
        split at e
        · rename_i hb
          cases e
          refine .inl ⟨x, y, ds, es, rfl, h1, h2, fun hb' => ?_, rfl⟩
          subst hb'
          simpa using hb
        · cases e
  | [x, y, w], e =>
    simp only [zipAll] at e
    split at e
    · cases e
    · rename_i hb
      cases h1 : seqOf x with
      | none => simp only [h1] at e; cases e
      | some ds =>
        cases h2 : seqOf y with
        | none => simp only [h1, h2] at e; cases e
        | some es =>
          cases h3 : seqOf w with
          | none => simp only [h1, h2, h3] at e; cases e
          | some fs =>
            simp only [h1, h2, h3] at e
            cases e
            exact .inr ⟨by simpa using hb, x, y, w, ds, es, fs, rfl, h1, h2, h3, rfl⟩
/-- what is behind the arguments of a zip -/
theorem zip_args {es : Exs} {b : Bool} {σ : L2.St} {H : Hp} {R : L2.It → Hp → Prop} (q : rdI Z (evIt cl (.zip es b)) σ H R) : rdVs Z cl es σ H fun vs H1 => ∃ zs xs F1, xs.length = exsLen es ∧ zipAll b xs = some zs ∧ RpAll Z F1 xs vs ∧ Le F1 H1 ∧
    ∀ (J : L2.It) (G : Hp → Prop), (∀ H'', Le F1 H'' → G H'') → Walk J zs.length G (YD Z F1 zs) → R J H1 := by
  obtain ⟨S, F0, H0, T, env, F, Rl, q⟩ := q
  simp only [evIt] at q
  rw [M.all_bind] at q
  refine ⟨S, F0, H0, T, env, F, Rl, M.all_mono (fun r hr vs H' F' R' l qv => ?_) q⟩
  cases e1 : vlDs r.1 with
  | none => simp only [e1] at hr; exact False.elim hr
  | some xs =>
    simp only [e1] at hr
    by_cases hn : xs.length = exsLen es
    · have hn' : (xs.length == exsLen es) = true := by simpa using hn
      rw [if_pos hn'] at hr
      cases e2 : zipAll b xs with
      | none => rw [e2] at hr; exact False.elim hr
      | some zs =>
        rw [e2] at hr
        exact ⟨zs, xs, F', hn, e2, qv.ds e1, R'.sub, fun J G hG w => hr J H' F' G R' l hG w⟩
    · have hn' : ¬ (xs.length == exsLen es) = true := by simpa using hn
      rw [if_neg hn'] at hr
      exact False.elim hr
theorem all_len : ∀ {es : Exs} {as : List Expr}, AllA X fa cl es as → exsLen es = as.length
  | .nil, as, h => by cases (show as = [] from h); rfl
  | .cons m r, as, h => by
    obtain ⟨a, as', rfl, _, _, hr⟩ := h
    show exsLen r + 1 = as'.length + 1
    rw [all_len hr]
  | .star m r, as, h => by
    obtain ⟨a, p, as', rfl, _, hr⟩ := h
    show exsLen r + 1 = as'.length + 1
    rw [all_len hr]
theorem i_zip2 {elts : List Expr} {kk : Nat} {tpos : Pos} {es : Exs} {e e2 : Expr} {p pos : Pos} (hg : Gl X "zip") (hm : X.mg "zip" = none) (h : AllA X fa cl es [e, e2]) (ns : [e, e2].all (fun e => !isStar e) = true) :
    PI X (.Tuple elts kk tpos) (.Call (.Name "zip" p) [e, e2] [] pos) (rdI (zOf X fa) (evIt cl (.zip es false))) := by
  refine PI.imp (pi_zipK hg hm (pa_vs h) (each_plain (all_cons ns).1) (any_plain (all_cons ns).2)) fun σ H R q => ?_
  obtain ⟨S, F0, H0, T, env, F, Rl, q⟩ := zip_args q
  refine ⟨S, F0, H0, T, env, F, Rl, M.all_mono (fun r hr vs H' F' R' l qv => ?_) q⟩
  obtain ⟨zs, xs, F1, e0, e1, ra, le, hR⟩ := hr vs H' F' R' l qv
  rw [all_len h] at e0
  rcases zip_all e1 with ⟨x, y, ds, es', rfl, h1, h2, _, rfl⟩ | ⟨_, x, y, w, ds, es', fs, rfl, h1, h2, h3, rfl⟩
  · obtain ⟨v, r', rfl, rx, u, r'', rfl, ry, rfl⟩ := ra
    obtain ⟨κ1, a, us, rfl, r1, g1⟩ := seq_sq (Z := zOf X fa) h1 le rx
    obtain ⟨κ2, b, ws, rfl, r2, g2⟩ := seq_sq (Z := zOf X fa) h2 le ry
    refine ⟨κ1, κ2, a, b, us, ws, rfl, g1 _ le, g2 _ le, hR _ (fun H => κ1.sq X.K H a us ∧ κ2.sq X.K H b ws) (fun H'' l'' => ⟨g1 _ l'', g2 _ l''⟩) ?_⟩
    rw [zipD_len, ← r1.length, ← r2.length]
    exact walk_P.mono (fun _ h => h) fun i H x H' hi _ y => rowZ_yd r1 r2 y
  · cases e0
theorem i_zip3 {elts : List Expr} {kk : Nat} {tpos : Pos} {es : Exs} {e e2 e3 : Expr} {p pos : Pos} (hg : Gl X "zip") (hm : X.mg "zip" = none) (h : AllA X fa cl es [e, e2, e3]) (ns : [e, e2, e3].all (fun e => !isStar e) = true) :
    PI X (.Tuple elts kk tpos) (.Call (.Name "zip" p) [e, e2, e3] [] pos) (rdI (zOf X fa) (evIt cl (.zip es false))) := by
  refine PI.imp (pi_zipK3 hg hm (pa_vs h) (each_plain (all_cons ns).1) (any_plain (all_cons ns).2)) fun σ H R q => ?_
  obtain ⟨S, F0, H0, T, env, F, Rl, q⟩ := zip_args q
  refine ⟨S, F0, H0, T, env, F, Rl, M.all_mono (fun r hr vs H' F' R' l qv => ?_) q⟩
  obtain ⟨zs, xs, F1, e0, e1, ra, le, hR⟩ := hr vs H' F' R' l qv
  rw [all_len h] at e0
  rcases zip_all e1 with ⟨x, y, ds, es', rfl, h1, h2, _, rfl⟩ | ⟨_, x, y, w, ds, es', fs, rfl, h1, h2, h3, rfl⟩
  · cases e0
  · obtain ⟨v, q1, rfl, rx, u, q2, rfl, ry, t, q3, rfl, rz, rfl⟩ := ra
    obtain ⟨κ1, a, us, rfl, r1, g1⟩ := seq_sq (Z := zOf X fa) h1 le rx
    obtain ⟨κ2, b, ws, rfl, r2, g2⟩ := seq_sq (Z := zOf X fa) h2 le ry
    obtain ⟨κ3, d, ts, rfl, r3, g3⟩ := seq_sq (Z := zOf X fa) h3 le rz
    refine ⟨κ1, κ2, κ3, a, b, d, us, ws, ts, rfl, g1 _ le, g2 _ le, g3 _ le, hR _ (fun H => κ1.sq X.K H a us ∧ κ2.sq X.K H b ws ∧ κ3.sq X.K H d ts) (fun H'' l'' => ⟨g1 _ l'', g2 _ l'', g3 _ l''⟩) ?_⟩
    rw [zip3D_len, ← r1.length, ← r2.length, ← r3.length]
    exact walk_P.mono (fun _ h => h) fun i H x H' hi _ y => rowZ3_yd r1 r2 r3 y
theorem i_zipS {elts : List Expr} {kk : Nat} {tpos : Pos} {es : Exs} {e e2 : Expr} {p pos p3 p4 : Pos} {j : Nat} (hg : Gl X "zip") (hm : X.mg "zip" = none) (h : AllA X fa cl es [e, e2]) (ns : [e, e2].all (fun e => !isStar e) = true) :
    PI X (.Tuple elts kk tpos) (.Call (.Name "zip" p) [e, e2] [⟨some "strict", .Constant (.bool true) j p3, p4⟩] pos) (rdI (zOf X fa) (evIt cl (.zip es true))) := by
  refine PI.imp (pi_zipS hg hm (pa_vs h) (each_plain (all_cons ns).1) (any_plain ns)) fun σ H R q => ?_
  obtain ⟨S, F0, H0, T, env, F, Rl, q⟩ := zip_args q
  refine ⟨S, F0, H0, T, env, F, Rl, M.all_mono (fun r hr vs H' F' R' l qv => ?_) q⟩
  obtain ⟨zs, xs, F1, e0, e1, ra, le, hR⟩ := hr vs H' F' R' l qv
  rcases zip_all e1 with ⟨x, y, ds, es', rfl, h1, h2, hn, rfl⟩ | ⟨hb, _⟩
  · obtain ⟨v, r', rfl, rx, u, r'', rfl, ry, rfl⟩ := ra
    obtain ⟨κ1, a, us, rfl, r1, g1⟩ := seq_sq (Z := zOf X fa) h1 le rx
    obtain ⟨κ2, b, ws, rfl, r2, g2⟩ := seq_sq (Z := zOf X fa) h2 le ry
    have hlen : us.length = ws.length := by rw [r1.length, r2.length]; exact hn rfl
    refine ⟨κ1, κ2, a, b, us, ws, rfl, g1 _ le, g2 _ le, hlen, hR _ (fun H => κ1.sq X.K H a us ∧ κ2.sq X.K H b ws) (fun H'' l'' => ⟨g1 _ l'', g2 _ l''⟩) ?_⟩
    rw [zipD_len, ← r1.length, ← r2.length, ← hlen, Nat.min_self]
    exact walk_P.mono (fun _ h => h) fun i H x H' hi _ y => rowZ_yd r1 r2 y
  · cases hb
end
end Bq

set_option Elab.async false
set_option autoImplicit false
set_option linter.all false
set_option maxRecDepth 100000
/-! Statements. -/
namespace Bq
open PySem PySem.Spec PyProof.Rows L2 StX
def FlPost (Z : Wd) (S : Srcs) (F0 H0 : Hp) (T : List (Addr × D)) (F : Hp) (De : Ends) (r : Fl × Env) : Prop := match r.1 with
  | .nx => ∀ σ' H' F', Rel Z S F0 H0 T r.2 σ' H' F' → Le F F' → De.nx σ' H'
  | .rt x => ∀ v σ' H' F', Rel Z S F0 H0 T r.2 σ' H' F' → Le F F' → Rp Z F' x v → De.rt v H'
def rdS (Z : Wd) (m : Env → M (Fl × Env)) : TS := fun De σ H => ∃ S F0 H0 T env F, Rel Z S F0 H0 T env σ H F ∧ (m env).all (FlPost Z S F0 H0 T F De)
section
variable {c : Cm} {k : Nat} {sc : Scope} {X : Cx} {fa : Nat → Addr} {cl : Nat → List Vl → M D} {Z : Wd}
theorem FlPost.mono {S : Srcs} {F0 H0 : Hp} {T : List (Addr × D)} {F F' : Hp} {De : Ends} {r : Fl × Env} (l : Le F F') (h : FlPost Z S F0 H0 T F De r) : FlPost Z S F0 H0 T F' De r := by
  unfold FlPost at h ⊢
  split
  · rename_i e; rw [e] at h; exact fun σ' H' G R l' => h σ' H' G R (l.trans l')
  · rename_i e; rw [e] at h; exact fun v σ' H' G R l' q => h v σ' H' G R (l.trans l') q
theorem PS.imp {st : Stmt} {t t' : TS} (h : PS X st t) (i : ∀ De σ H, t' De σ H → t De σ H) : PS X st t' := ⟨fun pins s σ H De I q => h.run pins s σ H De I (i De σ H q)⟩
theorem PSs.imp {st : List Stmt} {t t' : TS} (h : PSs X st t) (i : ∀ De σ H, t' De σ H → t De σ H) : PSs X st t' := ⟨fun pins s σ H De I q => h.run pins s σ H De I (i De σ H q)⟩
/-! ### one after another -/
theorem ss_nil : PSs X [] (rdS (zOf X fa) (evSs cl .nil)) := PSs.imp pss_nil fun De σ H h => by
  obtain ⟨S, F0, H0, T, env, F, R, h⟩ := h
  exact h σ H F R (Le.refl F)
theorem ss_cons {s : Bq.St} {r : Sts} {st : Stmt} {rest : List Stmt} (h1 : PS X st (rdS (zOf X fa) (evS cl s))) (h2 : PSs X rest (rdS (zOf X fa) (evSs cl r))) : PSs X (st :: rest) (rdS (zOf X fa) (evSs cl (.cons s r))) := by
  refine PSs.imp (pss_cons h1 h2) fun De σ H h => ?_
  obtain ⟨S, F0, H0, T, env, F, R, h⟩ := h
  simp only [evSs] at h
  rw [M.all_bind] at h
  refine ⟨S, F0, H0, T, env, F, R, M.all_mono (fun z hz => ?_) h⟩
  obtain ⟨f, env'⟩ := z
  cases f with
  | nx => exact fun σ' H' F' R' l => ⟨S, F0, H0, T, env', F', R', M.all_mono (fun _ p => p.mono l) hz⟩
  | rt x => exact hz
/-- no statement: own things shared -/
theorem ss_shr {is : List Nat} {r : Sts} {rest : List Stmt} (h2 : PSs X rest (rdS (zOf X fa) (evSs cl r))) : PSs X rest (rdS (zOf X fa) (evSs cl (.cons (.shr is) r))) := by
  refine PSs.imp h2 fun De σ H h => ?_
  obtain ⟨S, F0, H0, T, env, F, R, h⟩ := h
  obtain ⟨G, RG, l⟩ := R.shr is
  have h : ((evSs cl r (shrs env is))).all (FlPost (zOf X fa) S F0 H0 T F De) := by
    simp only [evSs, evS] at h
    exact h
  exact ⟨S, F0, H0, T, _, G, RG, M.all_mono (fun _ p => p.mono l) h⟩
theorem s_pass {pos : Pos} : PS X (.Pass pos) (rdS (zOf X fa) (evS cl .pass)) := PS.imp ps_pass fun De σ H h => by
  obtain ⟨S, F0, H0, T, env, F, R, h⟩ := h
  exact h σ H F R (Le.refl F)
theorem s_doc {x : Str} {j : Nat} {p p2 : Pos} : PS X (.Expr (.Constant (.str x) j p) p2) (rdS (zOf X fa) (evS cl .pass)) := PS.imp ps_doc fun De σ H h => by
  obtain ⟨S, F0, H0, T, env, F, R, h⟩ := h
  exact h σ H F R (Le.refl F)
theorem s_ret {m : Ex} {e : Expr} {pos : Pos} (h : PE X e (rdO (zOf X fa) cl m)) : PS X (.Return (some e) pos) (rdS (zOf X fa) (evS cl (.ret m))) := PS.imp (ps_ret h) fun De σ H h => by
  obtain ⟨S, F0, H0, T, env, F, R, h⟩ := h
  simp only [evS] at h
  rw [M.all_bind] at h
  refine ⟨S, F0, H0, T, env, F, R, M.all_mono (fun z hz v H' F' R' l q => ?_) h⟩
  cases e : z.1.frz z.2 with
  | none => simp only [e] at hz; exact False.elim hz
  | some w =>
    obtain ⟨x, env2⟩ := w
    simp only [e] at hz
    obtain ⟨G, RG, lG, rG⟩ := R'.frz q e
    cases x with
    | d x => exact hz v σ H' G RG (l.trans lG) rG
    | src => exact False.elim hz
    | fn g => exact False.elim hz
theorem s_retN {pos : Pos} : PS X (.Return none pos) (rdS (zOf X fa) (evS cl .retN)) := PS.imp ps_retN fun De σ H h => by
  obtain ⟨S, F0, H0, T, env, F, R, h⟩ := h
  exact h .non σ H F R (Le.refl F) rfl
theorem s_if {mc : Ex} {a b : Sts} {e : Expr} {as bs : List Stmt} {pos : Pos} (hc : PT X e (rdT (zOf X fa) (evT cl mc))) (ha : PSs X as (rdS (zOf X fa) (evSs cl a))) (hb : PSs X bs (rdS (zOf X fa) (evSs cl b))) :
    PS X (.If e as bs pos) (rdS (zOf X fa) (evS cl (.iff mc a b))) := PS.imp (ps_if hc ha hb) fun De σ H h => by
  obtain ⟨S, F0, H0, T, env, F, R, h⟩ := h
  simp only [evS] at h
  rw [M.all_bind] at h
  refine ⟨S, F0, H0, T, env, F, R, M.all_mono (fun z hz H' F' R' l => ?_) h⟩
  obtain ⟨b, env'⟩ := z
  cases b with
  | true => exact ⟨S, F0, H0, T, env', F', R', M.all_mono (fun _ p => p.mono l) hz⟩
  | false => exact ⟨S, F0, H0, T, env', F', R', M.all_mono (fun _ p => p.mono l) hz⟩
/-! ### while, for -/
theorem s_while {mc : Ex} {b : Sts} {e : Expr} {bs : List Stmt} {pos : Pos} (C : CxOk c k sc X) (hc : PT X e (rdT (zOf X fa) (evT cl mc))) (hb : PSs X bs (rdS (zOf X fa) (evSs cl b))) :
    PS X (.While e bs [] pos) (rdS (zOf X fa) (evS cl (.wh mc b))) := PS.imp (ps_while (by rw [C.xe]; exact PassesOwn.never) hc hb) fun De σ H h => by
  obtain ⟨S, F0, H0, T, env, F, R, h⟩ := h
  simp only [evS] at h
  generalize wfuel = fuel at h
  refine ⟨fun m σ H => ∃ env F', Rel (zOf X fa) S F0 H0 T env σ H F' ∧ Le F F' ∧ (whLoop (fun env => evT cl mc env) (fun env => evSs cl b env) m env).all (FlPost (zOf X fa) S F0 H0 T F De), ⟨fuel, env, F, R, Le.refl F, h⟩, ?_⟩
  rintro m σ H ⟨env, F', R, l, h⟩
  cases m with
  | zero => exact False.elim h
  | succ m =>
    simp only [whLoop] at h
    rw [M.all_bind] at h
    refine ⟨S, F0, H0, T, env, F', R, M.all_mono (fun z hz H1 F1 R1 l1 => ?_) h⟩
    obtain ⟨t, env1⟩ := z
    show if t = true then _ else _
    cases t with
    | false =>
      simp only [Bool.false_eq_true, if_false] at hz ⊢
      exact hz σ H1 F1 R1 (l.trans l1)
    | true =>
      simp only [if_true] at hz ⊢
      rw [M.all_bind] at hz
      refine ⟨fun σ' H' => ∃ env F', Rel (zOf X fa) S F0 H0 T env σ' H' F' ∧ Le F F' ∧ (whLoop (fun env => evT cl mc env) (fun env => evSs cl b env) m env).all (FlPost (zOf X fa) S F0 H0 T F De), fun σ' H' q => ⟨m, Nat.lt_succ_self m, q⟩, ?_⟩
      refine ⟨S, F0, H0, T, env1, F1, R1, M.all_mono (fun w hw => ?_) hz⟩
      obtain ⟨f, env2⟩ := w
      cases f with
      | nx => exact fun σ' H' F2 R2 l2 => ⟨env2, F2, R2, l.trans (l1.trans l2), hw⟩
      | rt x => exact fun v σ' H' F2 R2 l2 q => hw v σ' H' F2 R2 (l.trans (l1.trans l2)) q
theorem s_for {g : Tg} {it : It} {b : Sts} {tg iter : Expr} {bs : List Stmt} {pos : Pos} (C : CxOk c k sc X) (hi : PI X tg iter (rdI (zOf X fa) (evIt cl it))) (hg : PG X tg (rdG (zOf X fa) g)) (hb : PSs X bs (rdS (zOf X fa) (evSs cl b)))
    (hs : ∀ x, foldedSetIterable iter X.env x = pure x) : PS X (.For tg iter bs [] pos) (rdS (zOf X fa) (evS cl (.fr g it b))) := PS.imp (ps_for (by rw [C.xe]; exact PassesOwn.never) C.calm hi hg hb hs) fun De σ H h => by
  obtain ⟨S, F0, H0, T, env, F, R, h⟩ := h
  simp only [evS] at h
  rw [M.all_bind] at h
  refine ⟨S, F0, H0, T, env, F, R, M.all_mono (fun r hr J H1 F1 G R1 l1 hG w => ?_) h⟩
  refine for_it w (D := De) (fun i σ H => ∃ env F', Rel (zOf X fa) S F0 H0 T env σ H F' ∧ Le F1 F' ∧ (frLoop g (fun env => evSs cl b env) (r.1.drop i) env).all (FlPost (zOf X fa) S F0 H0 T F De)) ⟨r.2, F1, R1, Le.refl F1, by rw [List.drop_zero]; exact hr⟩
    (fun i σ H _ p => ?_) (fun i x σ H H' hi p y => ?_) fun σ H p => ?_
  · obtain ⟨env, F', R, l, _⟩ := p
    exact hG H (l.trans R.sub)
  · obtain ⟨env, F', R, l, hp⟩ := p
    obtain ⟨d, F4, hd, R4, l4, rd⟩ := YD.rel y R l
    have hdrop : r.1.drop i = d :: r.1.drop (i + 1) := by
      rw [List.getElem?_eq_some_iff] at hd
      obtain ⟨h1, h2⟩ := hd
      rw [← h2]; exact List.drop_eq_getElem_cons h1
    rw [hdrop] at hp
    simp only [frLoop] at hp
    cases e1 : asgTg g d env with
    | none => rw [e1] at hp; exact False.elim hp
    | some env5 =>
      rw [e1] at hp
      simp only at hp
      rw [M.all_bind] at hp
      refine ⟨S, F0, H0, T, env, F4, d, env5, R4, rd, e1, fun σ5 s5 R5 => ?_⟩
      refine ⟨S, F0, H0, T, env5, F4, R5, M.all_mono (fun z hz => ?_) hp⟩
      obtain ⟨f, env6⟩ := z
      cases f with
      | nx => exact fun σ' H' F2 R2 l2 => ⟨env6, F2, R2, l.trans (l4.trans l2), hz⟩
      | rt x => exact fun v σ' H' F2 R2 l2 q => hz v σ' H' F2 R2 (l1.trans (l.trans (l4.trans l2))) q
  · obtain ⟨env, F', R, l, hp⟩ := p
    rw [List.drop_length] at hp
    exact hp σ H F' R (l1.trans l)
/-! ### stores -/
theorem set_rd {i : Nat} {m : Ex} : ∀ De σ H, rdS Z (evS cl (.asg i m)) De σ H → tAsg (rdO Z cl m) (gName i) De σ H := by
  intro De σ H h
  obtain ⟨S, F0, H0, T, env, F, R, h⟩ := h
  simp only [evS] at h
  rw [M.all_bind] at h
  refine ⟨S, F0, H0, T, env, F, R, M.all_mono (fun z hz v H' F' R' l q => ?_) h⟩
  obtain ⟨o, env'⟩ := z
  have sh : (match o.frz env' with | some (x, env) => M.ret (Fl.nx, env.set i (.vl x)) | none => .fail).all (FlPost Z S F0 H0 T F De) → De.nx (σ.set i (some v)) H' := fun hz => by
    cases e : o.frz env' with
    | none => rw [e] at hz; exact False.elim hz
    | some w =>
      obtain ⟨x, env2⟩ := w
      rw [e] at hz
      obtain ⟨G, RG, lG, rG⟩ := R'.frz q e
      exact hz _ H' G (RG.setVl rG) (l.trans lG)
  show De.nx (σ.set i (some v)) H'
  cases o with
  | fr x =>
    obtain ⟨p, rfl, a, al⟩ := q
    exact hz _ H' F' (R'.setFr a al) l
  | vl x => exact sh hz
  | own j => exact sh hz
theorem swaps_plain {e : Expr} {t : Option Expr} {l : Nat} {env : PySem.Env} (h : (match e with | .ListComp .. => true | .SetComp .. => true | .DictComp .. => true | _ => false) = false) : swapsWith e t l env = pure false := by
  cases e <;> first | rfl | cases h
theorem s_asg {i : Nat} {m : Ex} {x : Str} {e : Expr} {p pos : Pos} (C : CxOk c k sc X) (hi : c.N[i]? = some x) (hx : locB sc x = true) (he : PE X e (rdO (zOf X fa) cl m)) (hs : swapsWith e (some (.Name x p)) pos.line X.env = pure false) : PS X (.Assign [.Name x p] e pos) (rdS (zOf X fa) (evS cl (.asg i m))) :=
  PS.imp (ps_set C.nd (by rw [C.hN]; exact hi) (C.loc hx).1 he hs (C.loc hx).2) set_rd
theorem s_asgT {g : Tg} {m : Ex} {es : List Expr} {e : Expr} {kk : Nat} {p pos : Pos} (he : PE X e (rdO (zOf X fa) cl m)) (hg : PG X (.Tuple es kk p) (rdG (zOf X fa) g)) (hw : swappedStores [.Tuple es kk p] e X.env = pure none) (hs : swapsWithSole [.Tuple es kk p] e pos.line X.env = pure false) :
    PS X (.Assign [.Tuple es kk p] e pos) (rdS (zOf X fa) (evS cl (.asgT g m))) := PS.imp (ps_asg he hg hs hw) fun De σ H h => by
  obtain ⟨S, F0, H0, T, env, F, R, h⟩ := h
  simp only [evS] at h
  rw [M.all_bind] at h
  refine ⟨S, F0, H0, T, env, F, R, M.all_mono (fun z hz v H' F' R' l q => ?_) h⟩
  cases e : z.1.frz z.2 with
  | none => simp only [e] at hz; exact False.elim hz
  | some w =>
    obtain ⟨x, env2⟩ := w
    simp only [e] at hz
    obtain ⟨G, RG, lG, rG⟩ := R'.frz q e
    cases x with
    | d x =>
      simp only at hz
      cases e2 : asgTg g x env2 with
      | none => rw [e2] at hz; exact False.elim hz
      | some env3 =>
        rw [e2] at hz
        exact ⟨S, F0, H0, T, env2, G, x, env3, RG, rG, e2, fun σ' _ R3 => hz σ' H' G R3 (l.trans lG)⟩
    | src => exact False.elim hz
    | fn g => exact False.elim hz
theorem ixN_ok {n : Nat} {j : Int} (h : 0 ≤ j ∧ j < n) : ixN n j = some j.toNat := by
  unfold ixN
  rw [if_pos h.1, if_pos h.2]
theorem RpAll.setAt {F : Hp} {ds : List D} {vs : List V} (r : RpAll Z F ds vs) (i : Nat) {d : D} {v : V} (q : Rp Z F d v) : RpAll Z F (ds.set i d) (vs.set i v) := r.set _ _ _ _ _ q
theorem s_setI {i : Nat} {mk me : Ex} {x : Str} {ke e : Expr} {p p2 pos : Pos} (C : CxOk c k sc X) (hi : c.N[i]? = some x) (hv : visB sc x = true) (h1 : (x == ("__debug__" : Str)) = false) (h2 : (x == ("__classdict__" : Str)) = false)
    (he : PE X e (rdO (zOf X fa) cl me)) (hk : PE X ke (rdO (zOf X fa) cl mk)) (hw : swappedStores [.Subscript (.Name x p) ke p2] e X.env = pure none) (hs : swapsWithSole [.Subscript (.Name x p) ke p2] e pos.line X.env = pure false)
    (ha : ∀ v, assign (.Subscript (.Name x p) ke p2) X.env v = (do
      let ov ← holding [v] (eval (.Name x p) X.env)
      let iv ← holding [v, ov] (eval ke X.env)
      standAt p2
      holding [v, ov, iv] (setItem ov iv v)
      release [v, ov, iv] [])) :
    PS X (.Assign [.Subscript (.Name x p) ke p2] e pos) (rdS (zOf X fa) (evS cl (.setI i mk me))) := by
  have hset : PSet X (fun o i v H Q => rSetL o i v H Q ∨ rDSet (zOf X fa) o i v H Q) := fun pins s σ H o i v ov iv u Q I ro ri rv q => q.elim (fun q => set_list pins s σ H o i v ov iv u Q I ro ri rv q) fun q => set_dictA C.hu pins s σ H o i v ov iv u Q I ro ri rv q
  refine PS.imp (ps_asg he (pg_sub (pe_var (i := i) (by rw [C.hN]; exact hi) (C.vis hv) h1 h2) hk hset ha) hs hw) fun De σ H h => ?_
  obtain ⟨S, F0, H0, T, env, F, R, h⟩ := h
  simp only [evS] at h
  rw [M.all_bind] at h
  refine ⟨S, F0, H0, T, env, F, R, M.all_mono (fun z hz v H' F' R' l q => ?_) h⟩
  cases e : z.1.frz z.2 with
  | none => simp only [e] at hz; exact False.elim hz
  | some w =>
    obtain ⟨y, env2⟩ := w
    simp only [e] at hz
    obtain ⟨G, RG, lG, rG⟩ := R'.frz q e
    cases y with
    | src => exact False.elim hz
    | fn g => exact False.elim hz
    | d d =>
      simp only at hz
      split at hz
      · rename_i ho
        rw [M.all_bind] at hz
        -- the object is a name
        have hob : ∃ pa, σ[i]? = some (some (V.ref pa)) := by
          cases e3 : env2[i]? with
          | none => simp only [ownO, e3] at ho; cases ho
          | some s =>
            cases s with
            | ow y => obtain ⟨pa, h, _⟩ := RG.own i y e3; exact ⟨pa, h⟩
            | u => simp only [ownO, e3] at ho; cases ho
            | vl y => simp only [ownO, e3] at ho; cases ho
        obtain ⟨pa, hpa⟩ := hob
        refine ⟨_, hpa, S, F0, H0, T, env2, G, RG, M.all_mono (fun u hu kv H2 F2 R2 l2 qk => ?_) hz⟩
        obtain ⟨G2, RG2, lG2, qk2, nk2⟩ := R2.norm qk
        have rv : Rp (zOf X fa) G2 d v := Rp.mono (l2.trans lG2) _ _ rG
        cases e4 : u.1.norm.res u.2 with
        | none => simp only [e4] at hu; exact False.elim hu
        | some kd =>
          simp only [e4] at hu
          have pk := RG2.odPk qk2 e4
          cases e5 : u.2[i]? with
          | none => simp only [e5] at hu; exact False.elim (by cases kd <;> exact hu)
          | some s =>
            cases s with
            | u => simp only [e5] at hu; exact False.elim (by cases kd <;> exact hu)
            | vl y => simp only [e5] at hu; exact False.elim (by cases kd <;> exact hu)
            | ow y =>
              obtain ⟨pa', h1, a⟩ := RG2.own i y e5
              rw [hpa] at h1
              cases h1
              cases y with
              | lst xs =>
                cases kd with
                | int j =>
                  simp only [e5] at hu
                  split at hu
                  · rename_i hj
                    cases (show kv = V.int j from pk)
                    obtain ⟨vs, hvs, rvs⟩ := a.ob
                    refine .inl ⟨pa, vs, j, j.toNat, rfl, rfl, hvs, ixN_ok ⟨hj.1, by rw [rvs.length]; exact hj.2⟩, ?_⟩
                    exact hu σ _ G2 (RG2.setOwn e5 hpa ⟨_, upd_same, rvs.setAt _ rv⟩) (l.trans (lG.trans (l2.trans lG2)))
                  · exact False.elim hu
                | _ => simp only [e5] at hu; exact False.elim hu
              | dic t kvs =>
                have hu : (if (keyOk t kd && decide (kvs.length < cap)) = true then M.ret (Fl.nx, u.2.set i (.ow (.dic t (dput kd d kvs)))) else .fail).all (FlPost (zOf X fa) S F0 H0 T F De) := by
                  cases kd <;> (simp only [e5] at hu; exact hu)
                split at hu
                · rename_i hj
                  rw [Bool.and_eq_true, decide_eq_true_eq] at hj
                  refine .inr ⟨G2, t, kvs, kd, d, pa, RG2.sub, a.nf, rfl, a.ob, pk, rv, hj.1, hj.2, fun ob hob => ?_⟩
                  exact hu σ _ G2 (RG2.setOwn e5 hpa hob) (l.trans (lG.trans (l2.trans lG2)))
                · exact False.elim hu
              | _ => simp only [e5] at hu; exact False.elim (by cases kd <;> exact hu)
      · exact False.elim hz
end
end Bq

set_option Elab.async false
set_option autoImplicit false
set_option linter.all false
set_option maxRecDepth 100000
/-! Statements, second part: several names at once, +=, append, extend. -/
namespace Bq
open PySem PySem.Spec PyProof.Rows L2 StX
def ParOk (Z : Wd) (S : Srcs) (F : Hp) : List Od → List V → List (Addr × D) → Prop
  | [], vs, T => vs = [] ∧ T = []
  | .vl x :: os, vs, T => ∃ v r, vs = v :: r ∧ RpV Z S F x v ∧ ParOk Z S F os r T
  | .fr x :: os, vs, T => ∃ p r T', vs = .ref p :: r ∧ T = (p, x) :: T' ∧ ParOk Z S F os r T'
  | .own _ :: _, _, _ => False
def setAll (σ : L2.St) : List Nat → List V → L2.St
  | i :: is, v :: vs => setAll (σ.set i (some v)) is vs
  | _, _ => σ
def rdP (Z : Wd) (cl : Nat → List Vl → M D) (es : Exs) : TA := fun σ H Q => ∃ S F0 H0 T env F, Rel Z S F0 H0 T env σ H F ∧
  (evPar cl es env).all fun r => ∀ vs T1 H' F', Rel Z S F0 H0 (T1 ++ T) r.2 σ H' F' → Le F F' → ParOk Z S F' r.1 vs T1 → Q vs H'
section
variable {c : Cm} {k : Nat} {sc : Scope} {X : Cx} {fa : Nat → Addr} {cl : Nat → List Vl → M D} {Z : Wd}
theorem ParOk.mono {S : Srcs} {F G : Hp} (h : Le F G) : ∀ {os : List Od} {vs : List V} {T : List (Addr × D)}, ParOk Z S F os vs T → ParOk Z S G os vs T
  | [], _, _, q => q
  | .vl x :: os, _, _, ⟨v, r, e, p, q⟩ => ⟨v, r, e, p.mono h, ParOk.mono h q⟩
  | .fr x :: os, _, _, ⟨p, r, T', e1, e2, q⟩ => ⟨p, r, T', e1, e2, ParOk.mono h q⟩
  | .own _ :: _, _, _, q => q.elim
theorem Rel.permT {S : Srcs} {F0 H0 : Hp} {T T' : List (Addr × D)} {env : Env} {σ : L2.St} {H F : Hp} (R : Rel Z S F0 H0 T env σ H F) (p : T'.Perm T) : Rel Z S F0 H0 T' env σ H F :=
  ⟨R.src, R.sub, R.fs, R.fc, R.keep, R.f0, R.new, R.len, R.slot, R.own, fun q hq => R.tmp q (p.mem_iff.mp hq), R.sep, fun i y q h1 h2 w hw => R.sepT i y q h1 h2 w (p.mem_iff.mp hw), (p.map (·.1)).nodup_iff.mpr R.ndT⟩
theorem Rel.holdT {S : Srcs} {F0 H0 : Hp} {T : List (Addr × D)} {env : Env} {σ : L2.St} {H F : Hp} {p : Addr} {x : D} (R : Rel Z S F0 H0 T env σ H F) (a : OwnAt Z S H0 H F p x) (al : Alone T env σ p) : Rel Z S F0 H0 ((p, x) :: T) env σ H F := by
  refine ⟨R.src, R.sub, R.fs, R.fc, R.keep, R.f0, R.new, R.len, R.slot, R.own, fun q hq => ?_, R.sep, fun i y q h1 h2 w hw => ?_, ?_⟩
  · rcases List.mem_cons.mp hq with rfl | hq
    · exact a
    · exact R.tmp q hq
  · rcases List.mem_cons.mp hw with rfl | hw
    · intro e
      exact al.1 i y h1 (by rw [h2]; exact congrArg (fun z => some (some (V.ref z))) e.symm)
    · exact R.sepT i y q h1 h2 w hw
  · rw [List.map_cons, List.nodup_cons]
    refine ⟨fun m => ?_, R.ndT⟩
    obtain ⟨q, hq, e⟩ := List.mem_map.mp m
    exact al.2 q hq e
theorem par_cons {m : Ex} {r : Exs} : ∀ σ H Q, rdP Z cl (.cons m r) σ H Q → tCons (rdO Z cl m) (rdP Z cl r) σ H Q := by
  intro σ H Q h
  obtain ⟨S, F0, H0, T, env, F, R, h⟩ := h
  simp only [evPar] at h
  rw [M.all_bind] at h
  refine ⟨S, F0, H0, T, env, F, R, M.all_mono (fun z hz v H' F' R' l q => ?_) h⟩
  obtain ⟨o, env'⟩ := z
  have sh : (match o.frz env' with | some (x, env) => (evPar cl r env).bind fun w => .ret (Od.vl x :: w.1, w.2) | none => .fail).all (fun r => ∀ vs T1 H' F', Rel Z S F0 H0 (T1 ++ T) r.2 σ H' F' → Le F F' → ParOk Z S F' r.1 vs T1 → Q vs H') →
      rdP Z cl r σ H' fun xs H2 => Q (v :: xs) H2 := fun hz => by
    cases e : o.frz env' with
    | none => rw [e] at hz; exact False.elim hz
    | some w =>
      obtain ⟨x, env2⟩ := w
      rw [e] at hz
      obtain ⟨G, RG, lG, rG⟩ := R'.frz q e
      simp only at hz
      rw [M.all_bind] at hz
      exact ⟨S, F0, H0, T, env2, G, RG, M.all_mono (fun w hw vs T1 H2 F2 R2 l2 q2 => hw (v :: vs) T1 H2 F2 R2 (l.trans (lG.trans l2)) ⟨v, vs, rfl, rG.mono l2, q2⟩) hz⟩
  cases o with
  | fr x =>
    obtain ⟨p, rfl, a, al⟩ := q
    simp only at hz
    rw [M.all_bind] at hz
    refine ⟨S, F0, H0, (p, x) :: T, env', F', R'.holdT a al, M.all_mono (fun w hw vs T1 H2 F2 R2 l2 q2 => ?_) hz⟩
    exact hw (.ref p :: vs) ((p, x) :: T1) H2 F2 (R2.permT (List.perm_middle.symm)) (l.trans l2) ⟨p, vs, T1, rfl, rfl, q2⟩
  | vl x => exact sh hz
  | own j => exact sh hz
theorem pa_par : ∀ {es : Exs} {as : List Expr}, AllA X fa cl es as → as.all (fun e => !isStar e) = true → PA X as (rdP (zOf X fa) cl es)
  | .nil, as, h, _ => by
    cases (show as = [] from h)
    refine PA.imp pa_nil fun σ H Q h => ?_
    obtain ⟨S, F0, H0, T, env, F, R, h⟩ := h
    exact h [] [] H F R (Le.refl F) ⟨rfl, rfl⟩
  | .cons m r, as, h, n => by
    obtain ⟨a, as', rfl, ns, ha, hr⟩ := h
    rw [List.all_cons, Bool.and_eq_true] at n
    exact PA.imp (pa_cons ha.pe (pa_par hr n.2) (each_plain ns)) par_cons
  | .star m r, as, h, n => by
    obtain ⟨a, p, as', rfl, ha, hr⟩ := h
    rw [List.all_cons, Bool.and_eq_true] at n
    cases n.1
theorem par_put {S : Srcs} {F0 H0 : Hp} {T : List (Addr × D)} {H F : Hp} : ∀ (is : List Nat) (os : List Od) (vs : List V) (T1 : List (Addr × D)) (env : Env) (σ : L2.St) (env' : Env), ParOk Z S F os vs T1 → Rel Z S F0 H0 (T1 ++ T) env σ H F → putOds is os env = some env' →
    vs.length = is.length ∧ Rel Z S F0 H0 T env' (setAll σ is vs) H F
  | [], [], vs, T1, env, σ, env', q, R, e => by
    obtain ⟨rfl, rfl⟩ := q
    have e' : env = env' := by simpa [putOds] using e
    subst e'
    exact ⟨rfl, R⟩
  | [], _ :: _, _, _, _, _, _, _, _, e => by simp [putOds] at e
  | i :: is, [], _, _, _, _, _, _, _, e => by simp [putOds] at e
  | i :: is, .vl x :: os, vs, T1, env, σ, env', q, R, e => by
    obtain ⟨v, r, rfl, rv, q⟩ := q
    have e : putOds is os (env.set i (.vl x)) = some env' := by simpa [putOds] using e
    obtain ⟨h1, h2⟩ := par_put is os r T1 _ (σ.set i (some v)) env' q (R.setVl rv) e
    exact ⟨by rw [List.length_cons, List.length_cons, h1], h2⟩
  | i :: is, .fr x :: os, vs, T1, env, σ, env', q, R, e => by
    obtain ⟨p, r, T', rfl, rfl, q⟩ := q
    have e : putOds is os (env.set i (.ow x)) = some env' := by simpa [putOds] using e
    obtain ⟨R', a, al⟩ := Rel.popT (T := T' ++ T) R
    obtain ⟨h1, h2⟩ := par_put is os r T' _ (σ.set i (some (.ref p))) env' q (R'.setFr a al) e
    exact ⟨by rw [List.length_cons, List.length_cons, h1], h2⟩
  | i :: is, .own _ :: os, vs, T1, env, σ, env', q, R, e => q.elim
theorem s_par2 {i j : Nat} {x y : Str} {a b : Expr} {es : Exs} {px py pt pos : Pos} {kt k2 : Nat} {pt2 : Pos} (C : CxOk c k sc X) (hi : c.N[i]? = some x) (hj : c.N[j]? = some y) (hij : i ≠ j)
    (hx : X.env.scope.names.lookup x = some .local) (hy : X.env.scope.names.lookup y = some .local) (ha : PA X [a, b] (rdP (zOf X fa) cl es))
    (hw : swappedStores [.Tuple [.Name x px, .Name y py] kt pt] (.Tuple [a, b] k2 pt2) X.env = pure (some [x, y])) :
    PS X (.Assign [.Tuple [.Name x px, .Name y py] kt pt] (.Tuple [a, b] k2 pt2) pos) (rdS (zOf X fa) (evS cl (.par [i, j] es))) :=
  PS.imp (ps_par C.calm C.nd (by rw [C.hN]; exact hi) (by rw [C.hN]; exact hj) hij hx hy ha hw rfl) fun De σ H h => by
    obtain ⟨S, F0, H0, T, env, F, R, h⟩ := h
    simp only [evS] at h
    rw [M.all_bind] at h
    refine ⟨S, F0, H0, T, env, F, R, M.all_mono (fun z hz vs T1 H' F' R' l q => ?_) h⟩
    cases e : putOds [i, j] z.1 z.2 with
    | none => rw [e] at hz; exact False.elim hz
    | some env2 =>
      rw [e] at hz
      obtain ⟨h1, h2⟩ := par_put _ _ _ _ _ _ _ q R' e
      match vs, h1 with
      | [v, w], _ => exact ⟨v, w, rfl, hz _ H' F' h2 l⟩
theorem s_par3 {i j n : Nat} {x y z : Str} {a b d : Expr} {es : Exs} {px py pz pt pos : Pos} {kt k2 : Nat} {pt2 : Pos} (C : CxOk c k sc X) (hi : c.N[i]? = some x) (hj : c.N[j]? = some y) (hl : c.N[n]? = some z) (hij : i ≠ j) (hil : i ≠ n) (hjl : j ≠ n)
    (hx : X.env.scope.names.lookup x = some .local) (hy : X.env.scope.names.lookup y = some .local) (hz : X.env.scope.names.lookup z = some .local) (ha : PA X [a, b, d] (rdP (zOf X fa) cl es))
    (hw : swappedStores [.Tuple [.Name x px, .Name y py, .Name z pz] kt pt] (.Tuple [a, b, d] k2 pt2) X.env = pure (some [x, y, z])) :
    PS X (.Assign [.Tuple [.Name x px, .Name y py, .Name z pz] kt pt] (.Tuple [a, b, d] k2 pt2) pos) (rdS (zOf X fa) (evS cl (.par [i, j, n] es))) :=
  PS.imp (ps_par3 C.calm C.nd (by rw [C.hN]; exact hi) (by rw [C.hN]; exact hj) (by rw [C.hN]; exact hl) hij hil hjl hx hy hz ha hw rfl) fun De σ H h => by
    obtain ⟨S, F0, H0, T, env, F, R, h⟩ := h
    simp only [evS] at h
    rw [M.all_bind] at h
    refine ⟨S, F0, H0, T, env, F, R, M.all_mono (fun z hz vs T1 H' F' R' l q => ?_) h⟩
    cases e : putOds [i, j, n] z.1 z.2 with
    | none => rw [e] at hz; exact False.elim hz
    | some env2 =>
      rw [e] at hz
      obtain ⟨h1, h2⟩ := par_put _ _ _ _ _ _ _ q R' e
      match vs, h1 with
      | [u, v, w], _ => exact ⟨u, v, w, rfl, hz _ H' F' h2 l⟩
/-- targets that are names, as they come -/
def NamesOk (c : Cm) (X : Cx) : List Nat → List Expr → Prop
  | [], es => es = []
  | i :: is, es => ∃ x p r, es = .Name x p :: r ∧ c.N[i]? = some x ∧ Loc X.env.scope x ∧ (X.fn x = true ∨ X.env.scope.names.lookup x = some .local) ∧ NamesOk c X is r
def gAll (is : List Nat) : TGs := fun vs σ H Q => vs.length = is.length ∧ Q (setAll σ is vs) H
theorem pgs_names (C : CxOk c k sc X) : ∀ {is : List Nat} {es : List Expr}, NamesOk c X is es → PGs X es (gAll is) ∧ es.all (fun e => !isStar e) = true ∧ es.length = is.length
  | [], es, h => by
    cases (show es = [] from h)
    refine ⟨⟨fun pins s σ H vs us Q I r q => pgs_nil.run pins s σ H vs us Q I r ?_⟩, rfl, rfl⟩
    obtain ⟨h1, h2⟩ := q
    have e : vs = [] := List.length_eq_zero_iff.mp h1
    subst e
    exact ⟨rfl, h2⟩
  | i :: is, es, h => by
    obtain ⟨x, p, r, rfl, hi, hl, hf, hr⟩ := h
    obtain ⟨h1, h2, h3⟩ := pgs_names C hr
    refine ⟨⟨fun pins s σ H vs us Q I rr q => (pgs_cons (pg_name C.nd (by rw [C.hN]; exact hi) hl hf) h1 rfl).run pins s σ H vs us Q I rr ?_⟩, by rw [List.all_cons, h2]; rfl, by rw [List.length_cons, List.length_cons, h3]⟩
    obtain ⟨q1, q2⟩ := q
    cases vs with
    | nil => cases q1
    | cons v vs => exact ⟨v, vs, rfl, by simpa using q1, q2⟩
theorem s_parB {is : List Nat} {ts as : List Expr} {es : Exs} {pt pos : Pos} {kt k2 : Nat} {pt2 : Pos} (C : CxOk c k sc X) (hn : NamesOk c X is ts) (ha : PA X as (rdP (zOf X fa) cl es)) (hz0 : is.length ≤ cap)
    (hw : swappedStores [.Tuple ts kt pt] (.Tuple as k2 pt2) X.env = pure none) :
    PS X (.Assign [.Tuple ts kt pt] (.Tuple as k2 pt2) pos) (rdS (zOf X fa) (evS cl (.par is es))) := by
  obtain ⟨h1, h2, h3⟩ := pgs_names C hn
  refine PS.imp (ps_asg (pe_tup ha) (pg_tup C.calm h1 (as_all h2).1 (as_all h2).2) rfl hw) fun De σ H h => ?_
  obtain ⟨S, F0, H0, T, env, F, R, h⟩ := h
  simp only [evS] at h
  rw [M.all_bind] at h
  refine ⟨S, F0, H0, T, env, F, R, M.all_mono (fun z hz vs T1 H' F' R' l q => ?_) h⟩
  cases e : putOds is z.1 z.2 with
  | none => rw [e] at hz; exact False.elim hz
  | some env2 =>
    rw [e] at hz
    obtain ⟨g1, g2⟩ := par_put _ _ _ _ _ _ _ q R' e
    refine ⟨cap_le (by rw [g1]; exact hz0), fun p hp => ⟨p, vs, rfl, .of upd_same, by rw [h3, g1], g1, ?_⟩⟩
    exact hz _ _ F' (g2.laid hp) l
theorem aug_rd {o : BOp} {i : Nat} {m : Ex} {f : Int → Int → Int} (ho : (o = .add ∧ f = fun a b => a + b) ∨ (o = .sub ∧ f = fun a b => a - b)) : ∀ De σ H, rdS Z (evS cl (.aug i o m)) De σ H → tAug i (rdO Z cl m) (ipI f) De σ H := by
  intro De σ H h
  obtain ⟨S, F0, H0, T, env, F, R, h⟩ := h
  simp only [evS] at h
  cases e : env[i]? with
  | none => rw [e] at h; exact False.elim h
  | some s =>
    rw [e] at h
    cases s with
    | u => exact False.elim h
    | ow y => exact False.elim h
    | vl y =>
      cases y with
      | src => exact False.elim h
      | fn g => exact False.elim h
      | d y =>
        cases y with
        | int a =>
          simp only at h
          rw [M.all_bind] at h
          obtain ⟨v, h1, h2⟩ := R.slot i _ e
          cases (show v = V.int a from h2)
          refine ⟨_, h1, S, F0, H0, T, env, F, R, M.all_mono (fun z hz w H' F' R' l q => ?_) h⟩
          obtain ⟨o', env'⟩ := z
          cases o' with
          | own j => exact False.elim hz
          | fr j => exact False.elim hz
          | vl y =>
            cases y with
            | src => exact False.elim hz
            | fn g => exact False.elim hz
            | d y =>
              cases y with
              | int b =>
                refine ⟨a, b, rfl, q, ?_⟩
                rcases ho with ⟨rfl, rfl⟩ | ⟨rfl, rfl⟩
                · exact hz _ H' F' (R'.setVl (x := .d (.int (a + b))) rfl) l
                · exact hz _ H' F' (R'.setVl (x := .d (.int (a - b))) rfl) l
              | _ => exact False.elim hz
        | _ => exact False.elim h
theorem s_augA {i : Nat} {m : Ex} {x : Str} {e : Expr} {p pos : Pos} (C : CxOk c k sc X) (hi : c.N[i]? = some x) (hx : locB sc x = true) (he : PE X e (rdO (zOf X fa) cl m)) : PS X (.AugAssign (.Name x p) .Add e pos) (rdS (zOf X fa) (evS cl (.aug i .add m))) :=
  PS.imp (ps_aug C.nd (by rw [C.hN]; exact hi) (C.loc hx).1 he ip_add (C.loc hx).2) (aug_rd (.inl ⟨rfl, rfl⟩))
theorem s_augS {i : Nat} {m : Ex} {x : Str} {e : Expr} {p pos : Pos} (C : CxOk c k sc X) (hi : c.N[i]? = some x) (hx : locB sc x = true) (he : PE X e (rdO (zOf X fa) cl m)) : PS X (.AugAssign (.Name x p) .Sub e pos) (rdS (zOf X fa) (evS cl (.aug i .sub m))) :=
  PS.imp (ps_aug C.nd (by rw [C.hN]; exact hi) (C.loc hx).1 he ip_sub (C.loc hx).2) (aug_rd (.inr ⟨rfl, rfl⟩))
/-- xs.append(e) -/
theorem s_app {i : Nat} {x : Str} {m : Ex} {e : Expr} {p apos cpos pos : Pos} (C : CxOk c k sc X) (hi : c.N[i]? = some x) (hv : visB sc x = true) (h1 : (x == ("__debug__" : Str)) = false) (h2 : (x == ("__classdict__" : Str)) = false) (hl : (apos.endLine == cpos.line) = true)
    (he : PE X e (rdO (zOf X fa) cl m)) (ns : isStar e = false) : PS X (.Expr (.Call (.Attribute (.Name x p) "append" apos) [e] [] cpos) pos) (rdS (zOf X fa) (evS cl (.app i m))) := by
  refine PS.imp (ps_expr (pe_bm (T := "list") (r := rAppend) PySem.F.plainAttrs_list PySem.F.slot_list_append PySem.F.type_list_append mt_append (pe_var (i := i) (by rw [C.hN]; exact hi) (C.vis hv) h1 h2) (pa_cons he pa_nil (each_plain ns)) rfl (fewA ns) hl (each_plain ns) rfl) rfl) fun De σ H h => ?_
  obtain ⟨S, F0, H0, T, env, F, R, h⟩ := h
  simp only [evS] at h
  split at h
  · rename_i ho
    obtain ⟨ds, e0⟩ := ownL_some ho
    obtain ⟨q, vs, hs, hq, r⟩ := R.own_lst e0
    rw [M.all_bind] at h
    refine ⟨_, hs, .inl ⟨rfl, vs, .of hq⟩, S, F0, H0, T, env, F, R, M.all_mono (fun z hz v H1 F1 R1 l1 q1 => ?_) h⟩
    cases e1 : z.1.frz z.2 with
    | none => simp only [e1] at hz; exact False.elim hz
    | some w =>
      obtain ⟨y, env2⟩ := w
      simp only [e1] at hz
      obtain ⟨G, RG, lG, rG⟩ := R1.frz q1 e1
      cases y with
      | src => exact False.elim hz
      | fn g => exact False.elim hz
      | d d =>
        simp only at hz
        cases e2 : env2[i]? with
        | none => rw [e2] at hz; exact False.elim hz
        | some s =>
          rw [e2] at hz
          cases s with
          | u => exact False.elim hz
          | vl y => exact False.elim hz
          | ow y =>
            cases y with
            | lst xs =>
              simp only at hz
              split at hz
              · rename_i hj
                obtain ⟨q', vs', hs', hq', r'⟩ := RG.own_lst e2
                rw [hs] at hs'
                cases hs'
                exact ⟨q, vs', v, rfl, rfl, hq', capI (by rw [r'.length]; exact Nat.le_of_lt hj), hz σ _ G (RG.setOwn e2 hs ⟨_, upd_same, r'.append _ _ _ _ ⟨v, [], rfl, rG, rfl⟩⟩) (l1.trans lG)⟩
              · exact False.elim hz
            | _ => exact False.elim hz
  · exact False.elim h
/-- xs.extend(e) -/
theorem s_ext {i : Nat} {x : Str} {m : Ex} {e : Expr} {p apos cpos pos : Pos} (C : CxOk c k sc X) (hi : c.N[i]? = some x) (hv : visB sc x = true) (h1 : (x == ("__debug__" : Str)) = false) (h2 : (x == ("__classdict__" : Str)) = false) (hl : (apos.endLine == cpos.line) = true)
    (he : PE X e (rdO (zOf X fa) cl m)) (ns : isStar e = false) : PS X (.Expr (.Call (.Attribute (.Name x p) "extend" apos) [e] [] cpos) pos) (rdS (zOf X fa) (evS cl (.ext i m))) := by
  refine PS.imp (ps_expr (pe_bm (T := "list") (r := rExtend) PySem.F.plainAttrs_list PySem.F.slot_list_extend PySem.F.type_list_extend mt_extend (pe_var (i := i) (by rw [C.hN]; exact hi) (C.vis hv) h1 h2) (pa_cons he pa_nil (each_plain ns)) rfl (fewA ns) hl (each_plain ns) rfl) rfl) fun De σ H h => ?_
  obtain ⟨S, F0, H0, T, env, F, R, h⟩ := h
  simp only [evS] at h
  split at h
  · rename_i ho
    obtain ⟨ds, e0⟩ := ownL_some ho
    obtain ⟨q, vs, hs, hq, r⟩ := R.own_lst e0
    rw [M.all_bind] at h
    refine ⟨_, hs, .inl ⟨rfl, vs, .of hq⟩, S, F0, H0, T, env, F, R, M.all_mono (fun z hz v H1 F1 R1 l1 q1 => ?_) h⟩
    obtain ⟨G, RG, lG, qG, nG⟩ := R1.norm q1
    cases e1 : z.1.norm.res z.2 with
    | none => simp only [e1] at hz; exact False.elim hz
    | some d =>
      simp only [e1] at hz
      have pk := RG.odPk qG e1
      cases e2 : z.2[i]? with
      | none => rw [e2] at hz; exact False.elim (by cases d <;> exact hz)
      | some s =>
        rw [e2] at hz
        cases s with
        | u => exact False.elim (by cases d <;> exact hz)
        | vl y => exact False.elim (by cases d <;> exact hz)
        | ow y =>
          cases y with
          | lst xs =>
            cases d with
            | lst ys =>
              simp only at hz
              split at hz
              · rename_i hj
                obtain ⟨q', vs', hs', hq', r'⟩ := RG.own_lst e2
                rw [hs] at hs'
                cases hs'
                obtain ⟨b, zs, rfl, hb, rb⟩ := pk
                exact ⟨q, b, vs', zs, rfl, rfl, hq', hb, cap_le (by rw [r'.length, rb.length]; exact hj), hz σ _ G (RG.setOwn e2 hs ⟨_, upd_same, r'.append _ _ _ _ rb⟩) (l1.trans lG)⟩
              · exact False.elim hz
            | _ => exact False.elim hz
          | _ => exact False.elim (by cases d <;> exact hz)
  · exact False.elim h
end
end Bq

set_option Elab.async false
set_option autoImplicit false
set_option linter.all false
set_option maxRecDepth 100000
/-! Whether a piece of the program is what the mini syntax says; and that it then does what the evaluator says. -/
namespace Bq
open PySem PySem.Spec PyProof.Rows L2 StX
def nmOk (x : Str) : Bool := !(x == ("__debug__" : Str)) && !(x == ("__classdict__" : Str))
def varOk (c : Cm) (sc : Scope) (i : Nat) (x : Str) : Bool := (match c.N[i]? with | some y => decide (y = x) | none => false) && visB sc x && nmOk x
def stoOk (c : Cm) (sc : Scope) (i : Nat) (x : Str) : Bool := (match c.N[i]? with | some y => decide (y = x) | none => false) && locB sc x
def bnames : List Str := ["len", "list", "tuple", "int", "abs", "sum", "min", "max", "all", "any", "repr", "isinstance", "sorted", "range", "enumerate", "zip", "dict", "set", "bool", "str", "reversed"]
def gblOk (sc : Scope) (x y : Str) : Bool := decide (x = y) && glB sc x
def biNm : Bi → Option Str
  | .len => some "len"
  | .list => some "list"
  | .tuple => some "tuple"
  | .int => some "int"
  | .abs => some "abs"
  | .sum => some "sum"
  | .min1 .int => some "min"
  | .max1 .int => some "max"
  | .min2 => some "min"
  | .max2 => some "max"
  | .all => some "all"
  | .any => some "any"
  | .repr => some "repr"
  | .sorted .int => some "sorted"
  | _ => none
def biArity : Bi → Nat
  | .min2 | .max2 => 2
  | _ => 1
def clNm : Cl → Str
  | .int => "int"
  | .bool => "bool"
  | .str => "str"
  | .tuple => "tuple"
  | .list => "list"
  | .dict => "dict"
def binOp : BOp → Operator
  | .add => .Add
  | .sub => .Sub
  | .mul => .Mult
  | .fdiv => .FloorDiv
  | .mod => .Mod
  | .shl => .LShift
  | .pow => .Pow
def cmpOp : COp → CmpOp
  | .eq => .Eq
  | .ne => .NotEq
  | .lt => .Lt
  | .le => .LtE
  | .gt => .Gt
  | .ge => .GtE
  | .mem => .In
  | .nmem => .NotIn
def noStars (as : List Expr) : Bool := as.all fun e => !isStar e
def isSlice : Expr → Bool
  | .Slice _ _ _ _ => true
  | _ => false
def isSet : Expr → Bool
  | .Set _ _ _ => true
  | _ => false
def isComp : Expr → Bool
  | .ListComp .. => true
  | .SetComp .. => true
  | .DictComp .. => true
  | _ => false
def isTup : Expr → Bool
  | .Tuple .. => true
  | _ => false
def ownP (N : List Str) (own : List Nat) : List (Str × Nat) := own.map fun i => ((N[i]?).getD "", i)
def mLen : Exs → Nat
  | .nil => 0
  | .cons _ r => mLen r + 1
  | .star _ r => mLen r + 1
mutual
def mG (c : Cm) (sc : Scope) : Tg → Expr → Bool
  | .nm i, .Name x _ => stoOk c sc i x
  | .tp gs, .Tuple es _ _ => mGs c sc gs es
  | _, _ => false
def mGs (c : Cm) (sc : Scope) : List Tg → List Expr → Bool
  | [], [] => true
  | g :: gs, e :: es => mG c sc g e && mGs c sc gs es
  | _, _ => false
end
mutual
def mE (c : Cm) : Ex → Scope → Expr → Bool
  | .v i => fun sc e => match e with
    | .Name x _ => varOk c sc i x
    | _ => false
  | .non => fun _ e => match e with
    | .Constant .none _ _ => true
    | _ => false
  | .bl b => fun _ e => match e with
    | .Constant (.bool b') _ _ => b == b'
    | _ => false
  | .int i => fun _ e => match e with
    | .Constant (.int j) _ _ => i == j
    | _ => false
  | .str s => fun _ e => match e with
    | .Constant (.str t) _ _ => decide (s = t)
    | _ => false
  | .gfn g => fun sc e => match e with
    | .Name x _ => c.has g && gblOk sc x (c.fnm g) && nmOk x
    | _ => false
  | .bin o a b => fun sc e => match e with
    | .BinOp a' op b' _ => decide (op = binOp o) && mE c a sc a' && mE c b sc b'
    | _ => false
  | .neg a => fun sc e => match e with
    | .UnaryOp .USub a' _ => mE c a sc a'
    | _ => false
  | .cmp o a b => fun sc e => match e with
    | .Compare a' [op] [b'] _ => decide (op = cmpOp o) && !behindInMarks op b' && mE c a sc a' && mE c b sc b'
    | _ => false
  | .chn o o2 a b d => fun sc e => match e with
    | .Compare a' [op, op2] [b', d'] _ => decide (op = cmpOp o) && decide (op2 = cmpOp o2) && !lastMarks [op, op2] [b', d'] && mE c a sc a' && mE c b sc b' && mE c d sc d'
    | _ => false
  | .isN pos a => fun sc e => match e with
    | .Compare a' [op] [.Constant .none _ _] _ => decide (op = if pos then CmpOp.Is else CmpOp.IsNot) && mE c a sc a'
    | _ => false
  | .isB pos b a => fun sc e => match e with
    | .Compare a' [op] [.Constant (.bool b') _ _] _ => decide (op = if pos then CmpOp.Is else CmpOp.IsNot) && b == b' && mE c a sc a'
    | _ => false
  | .nt a => fun sc e => match e with
    | .UnaryOp .Not a' _ => mE c a sc a'
    | _ => false
  | .bop isAnd es => fun sc e => match e with
    | .BoolOp op as _ => decide (op = if isAnd then BoolOp.And else BoolOp.Or) && !as.isEmpty && noStars as && mAs c es sc as
    | _ => false
  | .ite t a b => fun sc e => match e with
    | .IfExp t' a' b' _ => mE c t sc t' && mE c a sc a' && mE c b sc b'
    | _ => false
  | .tup es => fun sc e => match e with
    | .Tuple as _ _ => mAs c es sc as
    | _ => false
  | .lst es => fun sc e => match e with
    | .List as _ => mAs c es sc as
    | _ => false
  | .dnew _ => fun _ e => match e with
    | .Dict [] [] _ => true
    | _ => false
  | .dsp ks es => fun sc e => match e with
    | .Dict keys as _ => mKs ks keys && mAs c es sc as && noStars as && ks.length == as.length && !ks.isEmpty && decide (ks.length ≤ 15)
    | _ => false
  | .ix a i => fun sc e => match e with
    | .Subscript a' i' _ => !isSlice i' && mE c a sc a' && mE c i sc i'
    | _ => false
  | .sl a lo hi => fun sc e => match e with
    | .Subscript a' (.Slice lo' hi' none _) _ => mE c a sc a' && mO c lo sc lo' && mO c hi sc hi'
    | _ => false
  | .rev a => fun sc e => match e with
    | .Subscript a' (.Slice none none (some (.UnaryOp .USub (.Constant (.int i) _ _) _)) _) _ => i == 1 && mE c a sc a'
    | _ => false
  | .call g es => fun sc e => match e with
    | .Call (.Name x _) as [] _ => c.has g && gblOk sc x (c.fnm g) && nmOk x && mAs c es sc as && noStars as
    | _ => false
  | .callv i es => fun sc e => match e with
    | .Call (.Name x _) as [] _ => varOk c sc i x && mAs c es sc as && noStars as && !as.isEmpty
    | _ => false
  | .bi b es => fun sc e => match b, e with
    | .isi cc, .Call (.Name x _) [e, .Name y _] [] _ => gblOk sc x "isinstance" && gblOk sc y (clNm cc) && mAs c es sc [e] && !isStar e
    | .lenset, .Call (.Name x _) [.Call (.Name y _) [e] [] _] [] _ => gblOk sc x "len" && gblOk sc y "set" && mAs c es sc [e] && !isStar e
    | .rng1, .Call (.Name x _) [.Call (.Name y _) [e] [] _] [] _ => gblOk sc x "list" && gblOk sc y "range" && mAs c es sc [e] && !isStar e
    | .zipl, .Call (.Name x _) [.Call (.Name y _) [e1, e2] [] _] [] _ => gblOk sc x "list" && gblOk sc y "zip" && mAs c es sc [e1, e2] && noStars [e1, e2]
    | b, .Call (.Name x _) as [] _ => (match biNm b with | some y => gblOk sc x y | none => false) && mAs c es sc as && noStars as && !as.isEmpty
    | _, _ => false
  | .pop i => fun sc e => match e with
    | .Call (.Attribute (.Name x _) m apos) [] [] cpos => decide (m = "pop") && varOk c sc i x && apos.endLine == cpos.line
    | _ => false
  | .popAt i k => fun sc e => match e with
    | .Call (.Attribute (.Name x _) m apos) [e] [] cpos => decide (m = "pop") && varOk c sc i x && apos.endLine == cpos.line && mE c k sc e && !isStar e
    | _ => false
  | .cnt _ _ => fun _ _ => false
  | .pick i k => fun sc e => match e with
    | .Call (.Name x _) [.Name y _, e] [] _ => gblOk sc x "_law_pick" && varOk c sc i y && mE c k sc e && !isStar e
    | _ => false
  | .lc elt g it ifs own _ => fun sc e => match e with
    | .ListComp elt' [⟨tg, iter, ifs', 0⟩] scope _ => blkC c.N sc scope (ownP c.N own) && (tgNames g).all (own.contains ·) && mG c scope g tg && mI c it sc tg iter && !isSet iter && mIfs c ifs scope ifs' && mE c elt scope elt'
    | _ => false
  | .srt _ _ _ => fun _ _ => false
def mO (c : Cm) : Ox → Scope → Option Expr → Bool
  | .no => fun _ e => match e with
    | none => true
    | _ => false
  | .so m => fun sc e => match e with
    | some e => mE c m sc e
    | _ => false
def mAs (c : Cm) : Exs → Scope → List Expr → Bool
  | .nil => fun _ es => match es with
    | [] => true
    | _ => false
  | .star m r => fun sc es => match es with
    | .Starred e _ :: es => mE c m sc e && mAs c r sc es
    | _ => false
  | .cons m r => fun sc es => match es with
    | e :: es => !isStar e && mE c m sc e && mAs c r sc es
    | _ => false
def mIfs (c : Cm) : Exs → Scope → List Expr → Bool
  | .nil => fun _ es => match es with
    | [] => true
    | _ => false
  | .cons m .nil => fun sc es => match es with
    | [e] => mE c m sc e
    | _ => false
  | _ => fun _ _ => false
def mI (c : Cm) : It → Scope → Expr → Expr → Bool
  | .seq m => fun sc _ e => mE c m sc e
  | .rg1 a => fun sc _ e => match e with
    | .Call (.Name x _) [e] [] _ => gblOk sc x "range" && mE c a sc e && !isStar e
    | _ => false
  | .rg2 a b => fun sc _ e => match e with
    | .Call (.Name x _) [e, f] [] _ => gblOk sc x "range" && mE c a sc e && !isStar e && mE c b sc f && !isStar f
    | _ => false
  | .rg3 a b d => fun sc _ e => match e with
    | .Call (.Name x _) [e, f, g] [] _ => gblOk sc x "range" && mE c a sc e && !isStar e && mE c b sc f && !isStar f && mE c d sc g && !isStar g
    | _ => false
  | .enu m => fun sc tg e => match e with
    | .Call (.Name x _) [e] [] _ => isTup tg && gblOk sc x "enumerate" && mE c m sc e && !isStar e
    | _ => false
  | .zip es strict => fun sc tg e => match e with
    | .Call (.Name x _) [e, f] [] _ => isTup tg && gblOk sc x "zip" && mAs c es sc [e, f] && noStars [e, f] && !strict
    | .Call (.Name x _) [e, f, g] [] _ => isTup tg && gblOk sc x "zip" && mAs c es sc [e, f, g] && noStars [e, f, g] && !strict
    | .Call (.Name x _) [e, f] [⟨some n, .Constant (.bool true) _ _, _⟩] _ => decide (n = "strict") && isTup tg && gblOk sc x "zip" && mAs c es sc [e, f] && noStars [e, f] && strict
    | _ => false
end
/-- what the world gives -/
structure Gs (c : Cm) (k : Nat) (X : Cx) (fa : Nat → Addr) (cl : Nat → List Vl → M D) : Prop where
  bl : ∀ x ∈ bnames, X.mg x = none
  mg : ∀ g, c.has g = true → X.mg (c.fnm g) = some (.ref (fa g))
  fn : ∀ g, PySem.W.keepIn X.K (.ref (fa g)) = true ∧ FnG (zOf X fa) X.base k (fa g) (spF (zOf X fa) (cl g))
  pick : ∃ pa, X.mg "_law_pick" = some (.ref pa) ∧ PySem.W.keepIn X.K (.ref pa) = true ∧ FnG (zOf X fa) X.base k pa spPick
section
variable {c : Cm} {k : Nat} {sc : Scope} {X : Cx} {fa : Nat → Addr} {cl : Nat → List Vl → M D}
theorem varOk_ok {i : Nat} {x : Str} (h : varOk c sc i x = true) : c.N[i]? = some x ∧ visB sc x = true ∧ (x == ("__debug__" : Str)) = false ∧ (x == ("__classdict__" : Str)) = false := by
  unfold varOk nmOk at h
  simp only [Bool.and_eq_true, Bool.not_eq_true'] at h
  obtain ⟨⟨h1, h2⟩, h3, h4⟩ := h
  refine ⟨?_, h2, h3, h4⟩
  split at h1
  · rename_i y e; rw [e, of_decide_eq_true h1]
  · cases h1
theorem stoOk_ok {i : Nat} {x : Str} (h : stoOk c sc i x = true) : c.N[i]? = some x ∧ locB sc x = true := by
  unfold stoOk at h
  simp only [Bool.and_eq_true] at h
  obtain ⟨h1, h2⟩ := h
  refine ⟨?_, h2⟩
  split at h1
  · rename_i y e; rw [e, of_decide_eq_true h1]
  · cases h1
theorem gblOk_ok (C : CxOk c k sc X) {x y : Str} (h : gblOk sc x y = true) : x = y ∧ Gl X x := by
  unfold gblOk at h
  simp only [Bool.and_eq_true, decide_eq_true_eq] at h
  exact ⟨h.1, C.gl h.2⟩
theorem scOk_blk {scope sc' : Scope} : ScOk scope (relS scope sc') := by
  intro x kk h
  have key : ∀ (names : List (Str × NameKind)), names.lookup x = some kk → ∃ k', (names.map fun (n, k) => if (k == NameKind.free && sc'.kind == .function && sc'.names.lookup n == some .cell) then (n, NameKind.cell) else (n, k)).lookup x = some k' ∧ (k' = kk ∨ (kk = .free ∧ k' = .cell)) := by
    intro names
    induction names with
    | nil => intro h; cases h
    | cons p r ih =>
      obtain ⟨n, k0⟩ := p
      intro h
      rw [List.map_cons]
      cases hx : x == n with
      | true =>
        simp only [List.lookup_cons, hx] at h
        obtain rfl : k0 = kk := Option.some.inj h
        clear h
        by_cases hc : (k0 == NameKind.free && sc'.kind == .function && sc'.names.lookup n == some .cell) = true
        · refine ⟨.cell, ?_, .inr ⟨?_, rfl⟩⟩
          · simp only [hc, if_true, List.lookup_cons, hx]
          · simp only [Bool.and_eq_true, beq_iff_eq] at hc; exact hc.1.1
        · refine ⟨k0, ?_, .inl rfl⟩
          simp only [hc, Bool.false_eq_true, if_false, List.lookup_cons, hx]
      | false =>
        simp only [List.lookup_cons, hx] at h
        obtain ⟨k', e, z⟩ := ih h
        refine ⟨k', ?_, z⟩
        by_cases hc : (k0 == NameKind.free && sc'.kind == .function && sc'.names.lookup n == some .cell) = true
        · simp only [hc, if_true, List.lookup_cons, hx]; exact e
        · simp only [hc, Bool.false_eq_true, if_false, List.lookup_cons, hx]; exact e
  exact key scope.names h
theorem blk_cx (C : CxOk c k sc X) {scope : Scope} (hk : scope.kind = .function) (s : Shared) (H : Hp) (Ca : Addr) (cells : List (Str × Addr)) (fp : List Addr) : CxOk c k scope (X.blk s H scope (compEnvC scope cells Ca X.env) fp) :=
  ⟨C.calm, C.hN, C.nd, C.room, C.gds, rfl, scOk_blk, hk, fun x e => by show (scope.names.lookup x == some .cell) = true; rw [e]; rfl⟩
theorem blk_gs (G : Gs c k X fa cl) {scope : Scope} (s : Shared) (H : Hp) (env : PySem.Env) (fp : List Addr) : Gs c k (X.blk s H scope env fp) fa cl := ⟨G.bl, G.mg, G.fn, G.pick⟩
theorem blkC_lift (C : CxOk c k sc X) {scope : Scope} {own : List (Str × Nat)} (h : blkC c.N sc scope own = true) : BlkOk X.N X.env.scope scope own := by
  refine blkOk_by ?_
  rw [C.hN]
  unfold blkC at h ⊢
  rw [Bool.and_eq_true] at h ⊢
  refine ⟨h.1, ?_⟩
  have h := h.2
  rw [List.all_eq_true] at h ⊢
  intro y hy
  have := h y hy
  obtain ⟨n, kk⟩ := y
  cases kk <;> try exact this
  simp only at this ⊢
  split at this
  · rename_i e
    obtain ⟨k', e', r⟩ := C.sco _ _ e
    rcases r with rfl | ⟨z, _⟩
    · simp only [e']
    · cases z
  · rename_i e
    obtain ⟨k', e', r⟩ := C.sco _ _ e
    rcases r with rfl | ⟨_, rfl⟩
    · simp only [e']
    · simp only [e']
  · cases this
theorem all_e : ∀ {es : Exs} {as : List Expr}, AllA X fa cl es as → noStars as = true → AllE X fa cl es as
  | .nil, as, h, _ => h
  | .cons m r, as, h, n => by
    obtain ⟨a, as', rfl, _, ha, hr⟩ := h
    exact ⟨a, as', rfl, ha, all_e hr (all_cons n).2⟩
  | .star m r, as, h, n => by
    obtain ⟨a, p, as', rfl, _, _⟩ := h
    exact absurd (all_cons n).1 (by simp [isStar])
theorem e_binA (C : CxOk c k sc X) (o : BOp) {a b : Ex} {a' b' : Expr} {pos : Pos} (ha : EOk X fa cl a a') (hb : EOk X fa cl b b') : EOk X fa cl (.bin o a b) (.BinOp a' (binOp o) b' pos) := by
  cases o with
  | add => exact eok (e_bin or_add add_ok ha.pe hb.pe) fun _ => rfl
  | sub => exact eok (e_bin op_sub sub_ok ha.pe hb.pe) fun _ => rfl
  | mul => exact eok (e_bin or_mul mul_ok ha.pe hb.pe) fun _ => rfl
  | fdiv => exact eok (e_bin op_fdiv fdiv_ok ha.pe hb.pe) fun _ => rfl
  | mod => exact eok (e_bin op_mod mod_ok ha.pe hb.pe) fun _ => rfl
  | shl => exact eok (e_bin op_shl shl_ok ha.pe hb.pe) fun _ => rfl
  | pow => exact eok (e_bin op_pow pow_ok ha.pe hb.pe) fun _ => rfl
theorem cmp_rule (C : CxOk c k sc X) (o : COp) : ∃ r, OpR X (compareOp (cmpOp o)) r ∧ Op2 (zOf X fa) r (cmpOd o) := by
  cases o with
  | eq => exact ⟨_, or_eqA C.hu, eq_ok⟩
  | ne => exact ⟨_, or_neA C.hu, ne_ok⟩
  | lt => exact ⟨_, or_ltA (by have := C.hu; omega), lt_ok⟩
  | le => exact ⟨_, op_le, le_ok⟩
  | gt => exact ⟨_, op_gt, gt_ok⟩
  | ge => exact ⟨_, op_ge, ge_ok⟩
  | mem => exact ⟨_, or_memA C.hu, mem_ok⟩
  | nmem => exact ⟨_, or_nmemA C.hu, nmem_ok⟩
theorem e_cmpA (C : CxOk c k sc X) (o : COp) {a b : Ex} {a' b' : Expr} {pos : Pos} (ha : EOk X fa cl a a') (hb : EOk X fa cl b b') (hm : behindInMarks (cmpOp o) b' = false) : EOk X fa cl (.cmp o a b) (.Compare a' [cmpOp o] [b'] pos) := by
  obtain ⟨r, h1, h2⟩ := cmp_rule (fa := fa) C o
  exact eokT (pe_cmpR h1 ha.pe hb.pe hm) (pt_cmpR h1 ha.pe hb.pe hm) fun σ H Q h => rd_two h2 h
theorem e_chnA (C : CxOk c k sc X) (o o2 : COp) {a b d : Ex} {a' b' d' : Expr} {pos : Pos} (ha : EOk X fa cl a a') (hb : EOk X fa cl b b') (hd : EOk X fa cl d d') (hm : lastMarks [cmpOp o, cmpOp o2] [b', d'] = false) : EOk X fa cl (.chn o o2 a b d) (.Compare a' [cmpOp o, cmpOp o2] [b', d'] pos) := by
  obtain ⟨r, h1, h2⟩ := cmp_rule (fa := fa) C o
  obtain ⟨r', h3, h4⟩ := cmp_rule (fa := fa) C o2
  exact eokT (pe_chain h1 h3 ha.pe hb.pe hd.pe hm) (pt_chain h1 h3 ha.pe hb.pe hd.pe hm) (chain_rd h2 h4)
/-- what a call of a built-in wants -/
theorem bi_rule (C : CxOk c k sc X) (b : Bi) {y : Str} (h : biNm b = some y) : ∃ r, BiR (zOf X fa) r b ∧ y ∈ bnames ∧ y ≠ "__name__" ∧ (y == ("__debug__" : Str)) = false ∧
    ((∃ id, CallR X (.builtin id) r ∧ bootBuiltins y = some (.builtin id)) ∨ ∃ T, CallR X (.type T) r ∧ bootBuiltins y = some (.type T)) := by
  cases b with
  | len => cases h; exact ⟨_, len_ok, by decide, by decide, by decide, .inl ⟨_, cr_len, by rfl⟩⟩
  | list => cases h; exact ⟨_, list_ok, by decide, by decide, by decide, .inr ⟨_, call_list_of, by rfl⟩⟩
  | tuple => cases h; exact ⟨_, tuple_ok, by decide, by decide, by decide, .inr ⟨_, call_tuple_of, by rfl⟩⟩
  | int => cases h; exact ⟨_, int_ok, by decide, by decide, by decide, .inr ⟨_, call_int1, by rfl⟩⟩
  | abs => cases h; exact ⟨_, abs_ok, by decide, by decide, by decide, .inl ⟨_, call_abs, by rfl⟩⟩
  | sum => cases h; exact ⟨_, sum_ok, by decide, by decide, by decide, .inl ⟨_, cr_sum C.calm, by rfl⟩⟩
  | min1 t => cases t <;> cases h; exact ⟨_, min1_ok, by decide, by decide, by decide, .inl ⟨_, cr_minS C.calm, by rfl⟩⟩
  | max1 t => cases t <;> cases h; exact ⟨_, max1_ok, by decide, by decide, by decide, .inl ⟨_, cr_maxS C.calm, by rfl⟩⟩
  | min2 => cases h; exact ⟨_, min2_ok, by decide, by decide, by decide, .inl ⟨_, call_min2 C.calm, by rfl⟩⟩
  | max2 => cases h; exact ⟨_, max2_ok, by decide, by decide, by decide, .inl ⟨_, call_max2 C.calm, by rfl⟩⟩
  | all => cases h; exact ⟨_, all_ok, by decide, by decide, by decide, .inl ⟨_, cr_all C.calm, by rfl⟩⟩
  | any => cases h; exact ⟨_, any_ok, by decide, by decide, by decide, .inl ⟨_, cr_any C.calm, by rfl⟩⟩
  | repr => cases h; exact ⟨_, repr_ok, by decide, by decide, by decide, .inl ⟨_, cr_repr C.hu C.gds, by rfl⟩⟩
  | sorted t => cases t <;> cases h; exact ⟨_, sorted_ok, by decide, by decide, by decide, .inl ⟨_, cr_sortedI, by rfl⟩⟩
  | _ => cases h
end
end Bq

set_option Elab.async false
set_option autoImplicit false
set_option linter.all false
set_option maxRecDepth 100000
/-! What matches does what the evaluator says: expressions. -/
namespace Bq
open PySem PySem.Spec PyProof.Rows L2 StX
section
variable {c : Cm} {k : Nat} {sc : Scope} {X : Cx} {fa : Nat → Addr} {cl : Nat → List Vl → M D}
mutual
theorem mG_ok (C : CxOk c k sc X) : ∀ (g : Tg) (e : Expr), mG c sc g e = true → PG X e (rdG (zOf X fa) g) ∧ isStar e = false
  | .nm i, e, h => by
    cases e with
    | Name x pos =>
      have h : stoOk c sc i x = true := by simpa [mG] using h
      obtain ⟨h1, h2⟩ := stoOk_ok h
      exact ⟨g_nm C h1 h2, rfl⟩
    | _ => simp [mG] at h
  | .tp gs, e, h => by
    cases e with
    | Tuple es kk pos =>
      have h : mGs c sc gs es = true := by simpa [mG] using h
      obtain ⟨h1, h2, h3⟩ := mGs_ok C gs es h
      exact ⟨g_tp C h1 h3 h2, rfl⟩
    | _ => simp [mG] at h
theorem mGs_ok (C : CxOk c k sc X) : ∀ (gs : List Tg) (es : List Expr), mGs c sc gs es = true → PGs X es (rdGs (zOf X fa) gs) ∧ es.all (fun e => !isStar e) = true ∧ es.length = gs.length
  | [], es, h => by
    cases es with
    | nil => exact ⟨gs_nil, rfl, rfl⟩
    | cons e es => simp [mGs] at h
  | g :: gs, es, h => by
    cases es with
    | nil => simp [mGs] at h
    | cons e es =>
      have h : mG c sc g e = true ∧ mGs c sc gs es = true := by simpa [mGs] using h
      obtain ⟨h1, h2⟩ := mG_ok C g e h.1
      obtain ⟨h3, h4, h5⟩ := mGs_ok C gs es h.2
      exact ⟨gs_cons h1 h3 h2, by rw [List.all_cons, h2, h4]; rfl, by rw [List.length_cons, List.length_cons, h5]⟩
end
theorem plain_ix {e : Expr} (h : isSlice e = false) : PlainIx e := by
  intro o i
  cases e <;> first | rfl | cases h
theorem fold_plain {e : Expr} (h : isSet e = false) {env : PySem.Env} : ∀ x, foldedSetIterable e env x = pure x := by
  intro x
  cases e <;> first | rfl | cases h
theorem isTup_ok {e : Expr} (h : isTup e = true) : ∃ es kk p, e = .Tuple es kk p := by
  cases e <;> first | exact ⟨_, _, _, rfl⟩ | cases h
theorem ownP_map (N : List Str) (own : List Nat) : (ownP N own).map (·.2) = own := by
  unfold ownP
  rw [List.map_map]
  exact List.map_id own
theorem clS_boot (cc : Cl) : bootBuiltins (clNm cc) = some (.type (clS cc)) := by cases cc <;> rfl
theorem clNm_mem (cc : Cl) : clNm cc ∈ bnames ∧ clNm cc ≠ "__name__" ∧ (clNm cc == ("__debug__" : Str)) = false := by cases cc <;> decide
def ifsT (cl : Nat → List Vl → M D) (X : Cx) (fa : Nat → Addr) (ifs : Exs) (es : List Expr) : Prop := PTs X es (rdT (zOf X fa) (evB cl true ifs))
theorem pts_imp {ifs : List Expr} {t t' : TT} (h : PTs X ifs t) (i : ∀ σ H Q, t' σ H Q → t σ H Q) : PTs X ifs t' := ⟨fun pins s σ H Q I q => h.run pins s σ H Q I (i σ H Q q)⟩
theorem ifs_nil : PTs X [] (rdT (zOf X fa) (evB cl true .nil)) := pts_imp pts_nil fun σ H Q h => rdTB_nil h
theorem ifs_one {m : Ex} {e : Expr} (h : EOk X fa cl m e) : PTs X [e] (rdT (zOf X fa) (evB cl true (.cons m .nil))) := pts_imp (pts_one h.pt) fun σ H Q h => by
  obtain ⟨S, F0, H0, T, env, F, R, h⟩ := rdTB_cons h
  refine ⟨S, F0, H0, T, env, F, R, M.all_mono (fun q hq H' F' R' l => ?_) h⟩
  have z := hq H' F' R' l
  cases hb : q.1 with
  | true => rw [hb] at z; exact rdTB_nil (by simpa using z)
  | false => rw [hb] at z; simpa using z
/-- a comprehension as a value -/
theorem e_lc (C : CxOk c k sc X) {elt : Ex} {g : Tg} {it : It} {ifs : Exs} {own fz : List Nat} {elt' tg iter : Expr} {ifs' : List Expr} {scope : Scope} {pos : Pos} (hb : blkC c.N sc scope (ownP c.N own) = true) (ht : (tgNames g).all (own.contains ·) = true)
    (hg : ∀ X', CxOk c k scope X' → Gs c k X' fa cl → PG X' tg (rdG (zOf X' fa) g)) (hi : PI X tg iter (rdI (zOf X fa) (evIt cl it))) (hset : isSet iter = false)
    (hifs : ∀ X', CxOk c k scope X' → Gs c k X' fa cl → PTs X' ifs' (rdT (zOf X' fa) (evB cl true ifs))) (he : ∀ X', CxOk c k scope X' → Gs c k X' fa cl → PE X' elt' (rdO (zOf X' fa) cl elt)) (G : Gs c k X fa cl) :
    PE X (.ListComp elt' [⟨tg, iter, ifs', 0⟩] scope pos) (rdO (zOf X fa) cl (.lc elt g it ifs own fz)) := by
  have ok := blkC_lift C hb
  refine PE.imp (pe_lc (g := rdG (zOf X fa) g) (tt := rdT (zOf X fa) (evB cl true ifs)) (te := rdO (zOf X fa) cl elt) C.calm C.nd hi ok (fun s H Ca cells fp => hg _ (blk_cx C ok.kind s H Ca cells fp) (blk_gs G s H _ fp)) (fun s H Ca cells fp => hifs _ (blk_cx C ok.kind s H Ca cells fp) (blk_gs G s H _ fp)) (fun s H Ca cells fp => he _ (blk_cx C ok.kind s H Ca cells fp) (blk_gs G s H _ fp)) (fold_plain hset)) fun σ H Q h => ?_
  have := lc_rd (fun i hi => by
    rw [List.all_eq_true] at ht
    simpa using ht i hi) σ H Q h
  rw [ownP_map]
  exact this
/-- .. stored on its line -/
theorem s_setLc (C : CxOk c k sc X) {i : Nat} {y : Str} {py : Pos} {elt : Ex} {g : Tg} {it : It} {ifs : Exs} {own fz : List Nat} {elt' tg iter : Expr} {ifs' : List Expr} {scope : Scope} {pos spos : Pos} (hy : c.N[i]? = some y) (hyl : X.env.scope.names.lookup y = some .local) (hsw : swapsWith (.ListComp elt' [⟨tg, iter, ifs', 0⟩] scope pos) (some (.Name y py)) spos.line X.env = pure true)
    (hb : blkC c.N sc scope (ownP c.N own) = true) (ht : (tgNames g).all (own.contains ·) = true)
    (hg : ∀ X', CxOk c k scope X' → Gs c k X' fa cl → PG X' tg (rdG (zOf X' fa) g)) (hi : PI X tg iter (rdI (zOf X fa) (evIt cl it))) (hset : isSet iter = false)
    (hifs : ∀ X', CxOk c k scope X' → Gs c k X' fa cl → PTs X' ifs' (rdT (zOf X' fa) (evB cl true ifs))) (he : ∀ X', CxOk c k scope X' → Gs c k X' fa cl → PE X' elt' (rdO (zOf X' fa) cl elt)) (G : Gs c k X fa cl) :
    PS X (.Assign [.Name y py] (.ListComp elt' [⟨tg, iter, ifs', 0⟩] scope pos) spos) (rdS (zOf X fa) (evS cl (.asg i (.lc elt g it ifs own fz)))) := by
  have ok := blkC_lift C hb
  refine PS.imp (ps_setLc (g := rdG (zOf X fa) g) (tt := rdT (zOf X fa) (evB cl true ifs)) (te := rdO (zOf X fa) cl elt) C.calm C.nd (by rw [C.hN]; exact hy) hyl hsw hi ok (fun s H Ca cells fp => hg _ (blk_cx C ok.kind s H Ca cells fp) (blk_gs G s H _ fp)) (fun s H Ca cells fp => hifs _ (blk_cx C ok.kind s H Ca cells fp) (blk_gs G s H _ fp)) (fun s H Ca cells fp => he _ (blk_cx C ok.kind s H Ca cells fp) (blk_gs G s H _ fp)) (fold_plain hset)) fun De σ H h => ?_
  have h := set_rd De σ H h
  have := lc_rd (fun i hi => by
    rw [List.all_eq_true] at ht
    simpa using ht i hi) σ H _ h
  rw [ownP_map]
  exact this
mutual
theorem mE_ok : ∀ (m : Ex) (sc : Scope) (X : Cx) (e : Expr), CxOk c k sc X → Gs c k X fa cl → mE c m sc e = true → EOk X fa cl m e
  | .v i, sc, X, e, C, G, h => by
    simp only [mE] at h
    split at h
    · obtain ⟨h1, h2, h3, h4⟩ := varOk_ok h
      exact eok (e_var C h1 h2 h3 h4) fun _ => rfl
    · cases h
  | .non, sc, X, e, C, G, h => by
    simp only [mE] at h
    split at h
    · exact eok (e_val pe_non (x := .d .non) (fun _ _ => rfl) fun _ => rfl) fun _ => rfl
    · cases h
  | .bl b, sc, X, e, C, G, h => by
    simp only [mE] at h
    split at h
    · obtain rfl := eq_of_beq h
      exact eok (e_val pe_bl (x := .d (.bl b)) (fun _ _ => rfl) fun _ => rfl) fun _ => rfl
    · cases h
  | .int i, sc, X, e, C, G, h => by
    simp only [mE] at h
    split at h
    · obtain rfl := eq_of_beq h
      exact eok (e_val pe_int (x := .d (.int i)) (fun _ _ => rfl) fun _ => rfl) fun _ => rfl
    · cases h
  | .str s, sc, X, e, C, G, h => by
    simp only [mE] at h
    split at h
    · obtain rfl := of_decide_eq_true h
      exact eok (e_val pe_str (x := .d (.str s)) (fun _ _ => rfl) fun _ => rfl) fun _ => rfl
    · cases h
  | .gfn g, sc, X, e, C, G, h => by
    simp only [mE] at h
    split at h
    · simp only [nmOk, Bool.and_eq_true, Bool.not_eq_true'] at h
      obtain ⟨⟨h1, h2⟩, h3, _⟩ := h
      obtain ⟨rfl, hg⟩ := gblOk_ok C h2
      exact eok (e_val (pe_glob hg (G.mg g h1) (v := .ref (fa g)) rfl h3) (x := .fn g) (fun _ _ => rfl) fun _ => rfl) fun _ => rfl
    · cases h
  | .bin o a b, sc, X, e, C, G, h => by
    simp only [mE] at h
    split at h
    · simp only [Bool.and_eq_true, decide_eq_true_eq] at h
      obtain ⟨⟨rfl, h1⟩, h2⟩ := h
      exact e_binA C o (mE_ok a sc X _ C G h1) (mE_ok b sc X _ C G h2)
    · cases h
  | .neg a, sc, X, e, C, G, h => by
    simp only [mE] at h
    split at h
    · exact eok (e_neg (mE_ok a sc X _ C G h).pe) fun _ => rfl
    · cases h
  | .cmp o a b, sc, X, e, C, G, h => by
    simp only [mE] at h
    split at h
    · simp only [Bool.and_eq_true, decide_eq_true_eq, Bool.not_eq_true'] at h
      obtain ⟨⟨⟨rfl, hm⟩, h1⟩, h2⟩ := h
      exact e_cmpA C o (mE_ok a sc X _ C G h1) (mE_ok b sc X _ C G h2) hm
    · cases h
  | .chn o o2 a b d, sc, X, e, C, G, h => by
    simp only [mE] at h
    split at h
    · simp only [Bool.and_eq_true, decide_eq_true_eq, Bool.not_eq_true'] at h
      obtain ⟨⟨⟨⟨⟨rfl, rfl⟩, hm⟩, h1⟩, h2⟩, h3⟩ := h
      exact e_chnA C o o2 (mE_ok a sc X _ C G h1) (mE_ok b sc X _ C G h2) (mE_ok d sc X _ C G h3) hm
    · cases h
  | .isN pos a, sc, X, e, C, G, h => by
    simp only [mE] at h
    split at h
    · simp only [Bool.and_eq_true, decide_eq_true_eq] at h
      obtain ⟨rfl, h1⟩ := h
      cases pos with
      | true => exact e_isN (mE_ok a sc X _ C G h1)
      | false => exact e_notN (mE_ok a sc X _ C G h1)
    · cases h
  | .isB pos b a, sc, X, e, C, G, h => by
    simp only [mE] at h
    split at h
    · simp only [Bool.and_eq_true, decide_eq_true_eq] at h
      obtain ⟨⟨rfl, hb⟩, h1⟩ := h
      obtain rfl := eq_of_beq hb
      cases pos with
      | true => exact e_isB (mE_ok a sc X _ C G h1)
      | false => exact e_notB (mE_ok a sc X _ C G h1)
    · cases h
  | .nt a, sc, X, e, C, G, h => by
    simp only [mE] at h
    split at h
    · exact e_nt (mE_ok a sc X _ C G h)
    · cases h
  | .bop isAnd es, sc, X, e, C, G, h => by
    simp only [mE] at h
    split at h
    · simp only [Bool.and_eq_true, decide_eq_true_eq, Bool.not_eq_true'] at h
      obtain ⟨⟨⟨rfl, he⟩, hn⟩, h1⟩ := h
      have ha := all_e (mAs_ok es sc X _ C G h1) hn
      have hne : ∀ {l : List Expr}, l.isEmpty = false → l ≠ [] := fun h z => by subst z; cases h
      cases isAnd with
      | true => exact e_and ha (hne he)
      | false => exact e_or ha (hne he)
    · cases h
  | .ite t a b, sc, X, e, C, G, h => by
    simp only [mE] at h
    split at h
    · simp only [Bool.and_eq_true] at h
      obtain ⟨⟨h1, h2⟩, h3⟩ := h
      exact e_ite (mE_ok t sc X _ C G h1) (mE_ok a sc X _ C G h2) (mE_ok b sc X _ C G h3)
    · cases h
  | .tup es, sc, X, e, C, G, h => by
    simp only [mE] at h
    split at h
    · exact eok (e_tup (pa_vs (mAs_ok es sc X _ C G h))) fun _ => rfl
    · cases h
  | .lst es, sc, X, e, C, G, h => by
    simp only [mE] at h
    split at h
    · exact eok (e_lst (pa_vs (mAs_ok es sc X _ C G h))) fun _ => rfl
    · cases h
  | .dnew t, sc, X, e, C, G, h => by
    simp only [mE] at h
    split at h
    · cases t with
      | true => exact eok e_dnewN fun _ => rfl
      | false => exact eok e_dnew fun _ => rfl
    · cases h
  | .dsp ks es, sc, X, e, C, G, h => by
    simp only [mE] at h
    split at h
    · simp only [Bool.and_eq_true, Bool.not_eq_true', decide_eq_true_eq] at h
      obtain ⟨⟨⟨⟨⟨h1, h2⟩, h3⟩, h4⟩, h5⟩, h6⟩ := h
      exact eok (e_disp h1 (mAs_ok es sc X _ C G h2) h3 (eq_of_beq h4) (fun z => by rw [z] at h5; cases h5) h6) fun _ => rfl
    · cases h
  | .ix a i, sc, X, e, C, G, h => by
    simp only [mE] at h
    split at h
    · simp only [Bool.and_eq_true, Bool.not_eq_true'] at h
      obtain ⟨⟨hs, h1⟩, h2⟩ := h
      exact eok (e_ix C (mE_ok a sc X _ C G h1).pe (mE_ok i sc X _ C G h2).pe (plain_ix hs)) fun _ => rfl
    · cases h
  | .sl a lo hi, sc, X, e, C, G, h => by
    simp only [mE] at h
    split at h
    · simp only [Bool.and_eq_true] at h
      obtain ⟨⟨h1, h2⟩, h3⟩ := h
      exact eok (e_sl (mE_ok a sc X _ C G h1).pe (mO_ok lo sc X _ C G h2) (mO_ok hi sc X _ C G h3)) fun _ => rfl
    · cases h
  | .rev a, sc, X, e, C, G, h => by
    simp only [mE] at h
    split at h
    · simp only [Bool.and_eq_true] at h
      obtain ⟨h1, h2⟩ := h
      obtain rfl := eq_of_beq h1
      exact eok (e_revL (mE_ok a sc X _ C G h2).pe) fun _ => rfl
    · cases h
  | .call g es, sc, X, e, C, G, h => by
    simp only [mE] at h
    split at h
    · simp only [nmOk, Bool.and_eq_true, Bool.not_eq_true'] at h
      obtain ⟨⟨⟨⟨h1, h2⟩, h3, _⟩, h4⟩, h5⟩ := h
      obtain ⟨rfl, hg⟩ := gblOk_ok C h2
      exact eok (e_call (G.fn g).2 C hg (G.mg g h1) (G.fn g).1 h3 (mAs_ok es sc X _ C G h4) h5) fun _ => rfl
    · cases h
  | .callv i es, sc, X, e, C, G, h => by
    simp only [mE] at h
    split at h
    · rename_i x p as pos
      simp only [Bool.and_eq_true, Bool.not_eq_true'] at h
      obtain ⟨⟨⟨h1, h2⟩, h3⟩, h4⟩ := h
      obtain ⟨g1, g2, g3, g4⟩ := varOk_ok h1
      cases as with
      | nil => cases h4
      | cons a as => exact eok (e_callv G.fn C g1 g2 g3 g4 (mAs_ok es sc X _ C G h2) h3) fun _ => rfl
    · cases h
  | .bi b es, sc, X, e, C, G, h => by
    simp only [mE] at h
    split at h
    · rename_i cc x p e y p2 pos
      simp only [Bool.and_eq_true, Bool.not_eq_true'] at h
      obtain ⟨⟨⟨h1, h2⟩, h3⟩, h4⟩ := h
      obtain ⟨rfl, hg⟩ := gblOk_ok C h1
      obtain ⟨rfl, hg2⟩ := gblOk_ok C h2
      obtain ⟨m1, m2, m3⟩ := clNm_mem cc
      have ha := mAs_ok es sc X _ C G h3
      match es, ha with
      | .cons m .nil, ⟨a, as', e1, ns, he, e2⟩ =>
        cases e1
        exact eok (e_isi hg (G.bl _ (by decide)) (by rfl) (by decide) (by decide) hg2 (G.bl _ m1) (clS_boot cc) m2 m3 he h4) fun _ => rfl
      | .cons m (.cons m2 r), ⟨a, as', e1, ns, he, b, as2, e2, _⟩ => cases e1; cases e2
      | .cons m (.star m2 r), ⟨a, as', e1, ns, he, b, p, as2, e2, _⟩ => cases e1; cases e2
      | .nil, e1 => cases (show _ = [] from e1)
      | .star m r, ⟨a, p, as', e1, _⟩ => cases e1; cases h4
    · rename_i x p y p2 e pos2 pos
      simp only [Bool.and_eq_true, Bool.not_eq_true'] at h
      obtain ⟨⟨⟨h1, h2⟩, h3⟩, h4⟩ := h
      obtain ⟨rfl, hg⟩ := gblOk_ok C h1
      obtain ⟨rfl, hg2⟩ := gblOk_ok C h2
      have ha := mAs_ok es sc X _ C G h3
      match es, ha with
      | .cons m .nil, ⟨a, as', e1, ns, he, e2⟩ =>
        cases e1
        exact eok (e_lenset C hg (G.bl _ (by decide)) hg2 (G.bl _ (by decide)) he h4) fun _ => rfl
      | .cons m (.cons m2 r), ⟨a, as', e1, ns, he, b, as2, e2, _⟩ => cases e1; cases e2
      | .cons m (.star m2 r), ⟨a, as', e1, ns, he, b, p, as2, e2, _⟩ => cases e1; cases e2
      | .nil, e1 => cases (show _ = [] from e1)
      | .star m r, ⟨a, p, as', e1, _⟩ => cases e1; cases h4
    · rename_i x p y p2 e pos2 pos
      simp only [Bool.and_eq_true, Bool.not_eq_true'] at h
      obtain ⟨⟨⟨h1, h2⟩, h3⟩, h4⟩ := h
      obtain ⟨rfl, hg⟩ := gblOk_ok C h1
      obtain ⟨rfl, hg2⟩ := gblOk_ok C h2
      have ha := mAs_ok es sc X _ C G h3
      match es, ha with
      | .cons m .nil, ⟨a, as', e1, ns, he, e2⟩ =>
        cases e1
        exact eok (e_rng1 C hg (G.bl _ (by decide)) hg2 (G.bl _ (by decide)) he h4) fun _ => rfl
      | .cons m (.cons m2 r), ⟨a, as', e1, ns, he, b, as2, e2, _⟩ => cases e1; cases e2
      | .cons m (.star m2 r), ⟨a, as', e1, ns, he, b, p, as2, e2, _⟩ => cases e1; cases e2
      | .nil, e1 => cases (show _ = [] from e1)
      | .star m r, ⟨a, p, as', e1, _⟩ => cases e1; cases h4
    · rename_i x p y p2 e1 e2 pos2 pos
      simp only [Bool.and_eq_true] at h
      obtain ⟨⟨⟨h1, h2⟩, h3⟩, h4⟩ := h
      obtain ⟨rfl, hg⟩ := gblOk_ok C h1
      obtain ⟨rfl, hg2⟩ := gblOk_ok C h2
      exact eok (e_zipl C hg (G.bl _ (by decide)) hg2 (G.bl _ (by decide)) (mAs_ok es sc X _ C G h3) h4) fun _ => rfl
    · rename_i x p as pos _ _ _ _
      simp only [Bool.and_eq_true, Bool.not_eq_true'] at h
      obtain ⟨⟨⟨h1, h2⟩, h3⟩, h4⟩ := h
      split at h1
      · rename_i y hy
        obtain ⟨rfl, hg⟩ := gblOk_ok C h1
        obtain ⟨r, hb, m1, m2, m3, ⟨id, hc, hv⟩ | ⟨T, hc, hv⟩⟩ := bi_rule (fa := fa) C b hy
        · cases as with
          | nil => cases h4
          | cons a as => exact eok (e_biB hb hc hg (G.bl _ m1) hv m2 m3 (mAs_ok es sc X _ C G h2) h3) fun _ => rfl
        · cases as with
          | nil => cases h4
          | cons a as => exact eok (e_biT hb hc hg (G.bl _ m1) hv m2 m3 (mAs_ok es sc X _ C G h2) h3) fun _ => rfl
      · cases h1
    · cases h
  | .pop i, sc, X, e, C, G, h => by
    simp only [mE] at h
    split at h
    · simp only [Bool.and_eq_true, decide_eq_true_eq] at h
      obtain ⟨⟨rfl, h1⟩, h2⟩ := h
      obtain ⟨g1, g2, g3, g4⟩ := varOk_ok h1
      exact eok (e_pop C g1 g2 g3 g4 h2) fun _ => rfl
    · cases h
  | .popAt i m, sc, X, e, C, G, h => by
    simp only [mE] at h
    split at h
    · simp only [Bool.and_eq_true, decide_eq_true_eq, Bool.not_eq_true'] at h
      obtain ⟨⟨⟨⟨rfl, h1⟩, h2⟩, h3⟩, h4⟩ := h
      obtain ⟨g1, g2, g3, g4⟩ := varOk_ok h1
      exact eok (e_popAt C g1 g2 g3 g4 h2 (mE_ok m sc X _ C G h3).pe h4) fun _ => rfl
    · cases h
  | .cnt _ _, sc, X, e, C, G, h => by simp [mE] at h
  | .pick i m, sc, X, e, C, G, h => by
    simp only [mE] at h
    split at h
    · simp only [Bool.and_eq_true, Bool.not_eq_true'] at h
      obtain ⟨⟨⟨h1, h2⟩, h3⟩, h4⟩ := h
      obtain ⟨rfl, hg⟩ := gblOk_ok C h1
      obtain ⟨g1, g2, g3, g4⟩ := varOk_ok h2
      obtain ⟨pa, p1, p2, p3⟩ := G.pick
      exact eok (e_pick p3 C hg p1 p2 (by decide) g1 g2 g3 g4 (mE_ok m sc X _ C G h3) h4) fun _ => rfl
    · cases h
  | .lc elt g it ifs own fz, sc, X, e, C, G, h => by
    simp only [mE] at h
    split at h
    · simp only [Bool.and_eq_true, Bool.not_eq_true'] at h
      obtain ⟨⟨⟨⟨⟨⟨h1, h2⟩, h3⟩, h4⟩, h5⟩, h6⟩, h7⟩ := h
      exact eok (e_lc C h1 h2 (fun X' C' G' => (mG_ok C' g _ h3).1) (mI_ok it sc X _ _ C G h4) h5 (fun X' C' G' => mIfs_ok ifs _ X' _ C' G' h6) (fun X' C' G' => (mE_ok elt _ X' _ C' G' h7).pe) G) fun _ => rfl
    · cases h
  | .srt _ _ _, sc, X, e, C, G, h => by simp [mE] at h
theorem mO_ok : ∀ (m : Ox) (sc : Scope) (X : Cx) (e : Option Expr), CxOk c k sc X → Gs c k X fa cl → mO c m sc e = true → match m, e with | .no, none => True | .so m, some e => PE X e (rdO (zOf X fa) cl m) | _, _ => False
  | .no, sc, X, e, C, G, h => by
    simp only [mO] at h
    split at h
    · trivial
    · cases h
  | .so m, sc, X, e, C, G, h => by
    simp only [mO] at h
    split at h
    · exact (mE_ok m sc X _ C G h).pe
    · cases h
theorem mAs_ok : ∀ (m : Exs) (sc : Scope) (X : Cx) (es : List Expr), CxOk c k sc X → Gs c k X fa cl → mAs c m sc es = true → AllA X fa cl m es
  | .nil, sc, X, e, C, G, h => by
    simp only [mAs] at h
    split at h
    · exact rfl
    · cases h
  | .star m r, sc, X, e, C, G, h => by
    simp only [mAs] at h
    split at h
    · simp only [Bool.and_eq_true] at h
      exact ⟨_, _, _, rfl, mE_ok m sc X _ C G h.1, mAs_ok r sc X _ C G h.2⟩
    · cases h
  | .cons m r, sc, X, e, C, G, h => by
    simp only [mAs] at h
    split at h
    · simp only [Bool.and_eq_true, Bool.not_eq_true'] at h
      exact ⟨_, _, rfl, h.1.1, mE_ok m sc X _ C G h.1.2, mAs_ok r sc X _ C G h.2⟩
    · cases h
theorem mIfs_ok : ∀ (m : Exs) (sc : Scope) (X : Cx) (es : List Expr), CxOk c k sc X → Gs c k X fa cl → mIfs c m sc es = true → PTs X es (rdT (zOf X fa) (evB cl true m))
  | .nil, sc, X, e, C, G, h => by
    simp only [mIfs] at h
    split at h
    · exact ifs_nil
    · cases h
  | .star m r, sc, X, e, C, G, h => by simp [mIfs] at h
  | .cons m .nil, sc, X, e, C, G, h => by
    simp only [mIfs] at h
    split at h
    · exact ifs_one (mE_ok m sc X _ C G h)
    · cases h
  | .cons m (.cons _ _), sc, X, e, C, G, h => by simp [mIfs] at h
  | .cons m (.star _ _), sc, X, e, C, G, h => by simp [mIfs] at h
theorem mI_ok : ∀ (m : It) (sc : Scope) (X : Cx) (tg e : Expr), CxOk c k sc X → Gs c k X fa cl → mI c m sc tg e = true → PI X tg e (rdI (zOf X fa) (evIt cl m))
  | .seq m, sc, X, tg, e, C, G, h => i_seq (mE_ok m sc X e C G (by simpa [mI] using h)).pe
  | .rg1 a, sc, X, tg, e, C, G, h => by
    simp only [mI] at h
    split at h
    · simp only [Bool.and_eq_true, Bool.not_eq_true'] at h
      obtain ⟨⟨h1, h2⟩, h3⟩ := h
      obtain ⟨rfl, hg⟩ := gblOk_ok C h1
      exact i_rg1 hg (G.bl _ (by decide)) (mE_ok a sc X _ C G h2).pe h3
    · cases h
  | .rg2 a b, sc, X, tg, e, C, G, h => by
    simp only [mI] at h
    split at h
    · simp only [Bool.and_eq_true, Bool.not_eq_true'] at h
      obtain ⟨⟨⟨⟨h1, h2⟩, h3⟩, h4⟩, h5⟩ := h
      obtain ⟨rfl, hg⟩ := gblOk_ok C h1
      exact i_rg2 hg (G.bl _ (by decide)) (mE_ok a sc X _ C G h2).pe (mE_ok b sc X _ C G h4).pe h3 h5
    · cases h
  | .rg3 a b d, sc, X, tg, e, C, G, h => by
    simp only [mI] at h
    split at h
    · simp only [Bool.and_eq_true, Bool.not_eq_true'] at h
      obtain ⟨⟨⟨⟨⟨⟨h1, h2⟩, h3⟩, h4⟩, h5⟩, h6⟩, h7⟩ := h
      obtain ⟨rfl, hg⟩ := gblOk_ok C h1
      exact i_rg3 hg (G.bl _ (by decide)) (mE_ok a sc X _ C G h2).pe (mE_ok b sc X _ C G h4).pe (mE_ok d sc X _ C G h6).pe h3 h5 h7
    · cases h
  | .enu m, sc, X, tg, e, C, G, h => by
    simp only [mI] at h
    split at h
    · simp only [Bool.and_eq_true, Bool.not_eq_true'] at h
      obtain ⟨⟨⟨h0, h1⟩, h2⟩, h3⟩ := h
      obtain ⟨rfl, hg⟩ := gblOk_ok C h1
      obtain ⟨elts, kk, tpos, rfl⟩ := isTup_ok h0
      exact i_enu hg (G.bl _ (by decide)) (mE_ok m sc X _ C G h2).pe h3
    · cases h
  | .zip es strict, sc, X, tg, e, C, G, h => by
    simp only [mI] at h
    split at h
    · simp only [Bool.and_eq_true, Bool.not_eq_true'] at h
      obtain ⟨⟨⟨⟨h0, h1⟩, h2⟩, h3⟩, rfl⟩ := h
      obtain ⟨rfl, hg⟩ := gblOk_ok C h1
      obtain ⟨elts, kk, tpos, rfl⟩ := isTup_ok h0
      exact i_zip2 hg (G.bl _ (by decide)) (mAs_ok es sc X _ C G h2) h3
    · simp only [Bool.and_eq_true, Bool.not_eq_true'] at h
      obtain ⟨⟨⟨⟨h0, h1⟩, h2⟩, h3⟩, rfl⟩ := h
      obtain ⟨rfl, hg⟩ := gblOk_ok C h1
      obtain ⟨elts, kk, tpos, rfl⟩ := isTup_ok h0
      exact i_zip3 hg (G.bl _ (by decide)) (mAs_ok es sc X _ C G h2) h3
    · simp only [Bool.and_eq_true, decide_eq_true_eq] at h
      obtain ⟨⟨⟨⟨⟨rfl, h0⟩, h1⟩, h2⟩, h3⟩, rfl⟩ := h
      obtain ⟨rfl, hg⟩ := gblOk_ok C h1
      obtain ⟨elts, kk, tpos, rfl⟩ := isTup_ok h0
      exact i_zipS hg (G.bl _ (by decide)) (mAs_ok es sc X _ C G h2) h3
    · cases h
end
end
end Bq

set_option Elab.async false
set_option autoImplicit false
set_option linter.all false
set_option maxRecDepth 100000
/-! What matches does what the evaluator says: statements. -/
namespace Bq
open PySem PySem.Spec PyProof.Rows L2 StX
/-- the model stores such a line's names from the right, without the tuple -/
def swA (sc : Scope) (ts as : List Expr) : Bool := match ts, as with
  | [.Name x px, .Name y py], [a, b] => decide (sc.names.lookup x = some .local) && decide (sc.names.lookup y = some .local) && py.line == px.line && decide (x ≠ y) && noStars [a, b] && !([a, b].all (foldedForSure 8)) && !([a, b].all (constantsAlone 8))
  | [.Name x px, .Name y py, .Name z pz], [a, b, d] => decide (sc.names.lookup x = some .local) && decide (sc.names.lookup y = some .local) && decide (sc.names.lookup z = some .local) && py.line == px.line && pz.line == px.line && decide (x ≠ y) && decide (x ≠ z) && decide (y ≠ z) && noStars [a, b, d] && !([a, b, d].all (foldedForSure 8)) && !([a, b, d].all (constantsAlone 8))
  | _, _ => false
def cellB (sc : Scope) : Expr → Bool
  | .Name x _ => decide (sc.names.lookup x = some .cell)
  | _ => false
def swN (sc : Scope) (ts as : List Expr) : Bool := !(ts.length == 2 || ts.length == 3) || as.all (foldedForSure 8) || ts.any (cellB sc)
def mNames (c : Cm) (sc : Scope) : List Nat → List Expr → Bool
  | [], es => es.isEmpty
  | i :: is, es => match es with
    | .Name x _ :: r => stoOk c sc i x && mNames c sc is r
    | _ => false
/-- a comprehension stored on its own line -/
def swL (sc scope : Scope) (y : Str) (py pos : Pos) : Bool := decide (sc.names.lookup y = some .local) && py.line == pos.line && !(scope.names.any fun (n, k) => n == y && (k == .local || k == .cell))
def asgOk (sc : Scope) (y : Str) (py : Pos) : Expr → Bool
  | .ListComp _ _ scope pos => true
  | e => !isComp e
mutual
def mS (c : Cm) : St → Scope → Stmt → Bool
  | .asg i m => fun sc st => match st with
    | .Assign [.Name x p] e _ => stoOk c sc i x && mE c m sc e && asgOk sc x p e
    | _ => false
  | .par is es => fun sc st => match st with
    | .Assign [.Tuple ts _ _] (.Tuple as _ _) _ => mNames c sc is ts && mAs c es sc as && noStars as && decide (is.length ≤ 100) && decide is.Nodup && (swA sc ts as || swN sc ts as)
    | _ => false
  | .asgT g m => fun sc st => match st with
    | .Assign [.Tuple es _ _] e _ => (match g with | .tp gs => mGs c sc gs es | _ => false) && mE c m sc e && !isTup e
    | _ => false
  | .setI i k m => fun sc st => match st with
    | .Assign [.Subscript (.Name x _) ke _] e _ => varOk c sc i x && mE c k sc ke && mE c m sc e && !isSlice ke
    | _ => false
  | .aug i o m => fun sc st => match st with
    | .AugAssign (.Name x _) op e _ => stoOk c sc i x && mE c m sc e && (match o, op with | .add, .Add => true | .sub, .Sub => true | _, _ => false)
    | _ => false
  | .app i m => fun sc st => match st with
    | .Expr (.Call (.Attribute (.Name x _) n apos) [e] [] cpos) _ => decide (n = "append") && varOk c sc i x && apos.endLine == cpos.line && mE c m sc e && !isStar e
    | _ => false
  | .ext i m => fun sc st => match st with
    | .Expr (.Call (.Attribute (.Name x _) n apos) [e] [] cpos) _ => decide (n = "extend") && varOk c sc i x && apos.endLine == cpos.line && mE c m sc e && !isStar e
    | _ => false
  | .iff t a b => fun sc st => match st with
    | .If e as bs _ => mE c t sc e && mSs c a sc as && mSs c b sc bs
    | _ => false
  | .wh t b => fun sc st => match st with
    | .While e bs [] _ => mE c t sc e && mSs c b sc bs
    | _ => false
  | .fr g it b => fun sc st => match st with
    | .For tg iter bs [] _ => mG c sc g tg && mI c it sc tg iter && !isSet iter && mSs c b sc bs
    | _ => false
  | .ret m => fun sc st => match st with
    | .Return (some e) _ => mE c m sc e
    | _ => false
  | .retN => fun _ st => match st with
    | .Return none _ => true
    | _ => false
  | .pass => fun _ st => match st with
    | .Pass _ => true
    | .Expr (.Constant (.str _) _ _) _ => true
    | _ => false
  | .shr _ => fun _ _ => false
def mSs (c : Cm) : Sts → Scope → List Stmt → Bool
  | .nil => fun _ sts => match sts with
    | [] => true
    | _ => false
  | .cons (.shr _) r => fun sc sts => mSs c r sc sts
  | .cons s r => fun sc sts => match sts with
    | st :: sts => mS c s sc st && mSs c r sc sts
    | _ => false
end
section
variable {c : Cm} {k : Nat} {sc : Scope} {X : Cx} {fa : Nat → Addr} {cl : Nat → List Vl → M D}
theorem CxOk.isLocal (C : CxOk c k sc X) {x : Str} (h : sc.names.lookup x = some .local) : X.env.scope.names.lookup x = some .local := by
  obtain ⟨k', e, r⟩ := C.sco _ _ h
  rcases r with rfl | ⟨z, _⟩
  · exact e
  · cases z
theorem star_any {as : List Expr} (h : noStars as = true) : (as.any fun | .Starred .. => true | _ => false) = false := by
  unfold noStars at h
  rw [List.all_eq_true] at h
  rw [List.any_eq_false]
  intro e he
  have := h e he
  cases e <;> simp_all [isStar]
theorem blockKind_fn (C : CxOk c k sc X) : X.env.blockKind = .function := by unfold Env.blockKind; rw [C.kind]; rfl
theorem filterMap_lt {α β : Type} (f : α → Option β) : ∀ (l : List α), (∃ a ∈ l, f a = none) → (l.filterMap f).length < l.length
  | [], h => by obtain ⟨a, h, _⟩ := h; cases h
  | a :: l, h => by
    have hle : (l.filterMap f).length ≤ l.length := List.length_filterMap_le f l
    rw [List.filterMap_cons]
    cases e : f a with
    | none => simp only [List.length_cons]; omega
    | some b =>
      have : (l.filterMap f).length < l.length := filterMap_lt f l (by
        obtain ⟨c, hc, h2⟩ := h
        rcases List.mem_cons.mp hc with rfl | hc
        · rw [e] at h2; cases h2
        · exact ⟨c, hc, h2⟩)
      simp only [List.length_cons]; omega
theorem swN_ok (C : CxOk c k sc X) {ts as : List Expr} {kt k2 : Nat} {pt pt2 : Pos} (h : swN sc ts as = true) : swappedStores [.Tuple ts kt pt] (.Tuple as k2 pt2) X.env = pure none := by
  unfold swN at h
  unfold swappedStores
  simp only
  rw [Bool.or_eq_true, Bool.or_eq_true] at h
  rcases h with (h | h) | h
  · simp only [h, Bool.true_or, if_true]
  · simp only [h, if_true]
    repeat' split
    all_goals rfl
  · rw [List.any_eq_true] at h
    obtain ⟨e, he, h2⟩ := h
    obtain ⟨x, p, rfl⟩ : ∃ x p, e = .Name x p := by
      cases e <;> simp only [cellB] at h2 <;> try cases h2
      exact ⟨_, _, rfl⟩
    have hl : sc.names.lookup x = some .cell := of_decide_eq_true h2
    obtain ⟨k', e1, e2⟩ := C.sco _ _ hl
    have e3 : k' = .cell := by
      rcases e2 with e2 | ⟨e2, _⟩
      · exact e2
      · cases e2
    subst e3
    have e4 : X.env.kindOf x = some .cell := e1
    have e5 : ((some NameKind.cell : Option NameKind) == some NameKind.local) = false := by decide
    split
    · rfl
    · split
      · rfl
      · split
        · rfl
        · rename_i hh
          exfalso
          apply hh
          rw [Bool.or_eq_true]
          left
          rw [bne_iff_ne]
          apply Nat.ne_of_lt
          apply filterMap_lt
          exact ⟨_, he, by simp only [e4, e5, Bool.false_and, Bool.false_eq_true, if_false]⟩
theorem sw2_ok (C : CxOk c k sc X) {x y : Str} {px py pt pt2 : Pos} {kt k2 : Nat} {a b : Expr} (h : swA sc [.Name x px, .Name y py] [a, b] = true) :
    swappedStores [.Tuple [.Name x px, .Name y py] kt pt] (.Tuple [a, b] k2 pt2) X.env = pure (some [x, y]) := by
  simp only [swA, Bool.and_eq_true, decide_eq_true_eq, Bool.not_eq_true', beq_iff_eq] at h
  obtain ⟨⟨⟨⟨⟨⟨h1, h2⟩, h3⟩, h4⟩, h5⟩, h6⟩, h7⟩ := h
  have k1 : X.env.kindOf x = some .local := C.isLocal h1
  have k2' : X.env.kindOf y = some .local := C.isLocal h2
  have hs := star_any h5
  have hne : (y == x) = false := by simpa using fun e => h4 e.symm
  have hne2 : (x == y) = false := by simpa using h4
  unfold swappedStores
  simp only [blockKind_fn C, hs, h6, h7, List.head?_cons, Option.map_some, Option.getD_some, Expr.pos, List.filterMap_cons, List.filterMap_nil, k1, k2', h3, beq_self_eq_true, Bool.and_self, if_true, List.length_cons, List.length_nil]
  simp [List.eraseDups_cons, hne, hne2]
  intro hh
  have sa : isStar a = false := (all_cons h5).1
  have sb : isStar b = false := (all_cons (all_cons h5).2).1
  rcases hh with z | z
  · cases a <;> first | (cases z; done) | (cases sa; done)
  · cases b <;> first | (cases z; done) | (cases sb; done)
theorem sw3_ok (C : CxOk c k sc X) {x y w : Str} {px py pw pt pt2 : Pos} {kt k2 : Nat} {a b d : Expr} (h : swA sc [.Name x px, .Name y py, .Name w pw] [a, b, d] = true) :
    swappedStores [.Tuple [.Name x px, .Name y py, .Name w pw] kt pt] (.Tuple [a, b, d] k2 pt2) X.env = pure (some [x, y, w]) := by
  simp only [swA, Bool.and_eq_true, decide_eq_true_eq, Bool.not_eq_true', beq_iff_eq] at h
  obtain ⟨⟨⟨⟨⟨⟨⟨⟨⟨⟨h1, h2⟩, h8⟩, h3⟩, h9⟩, h4⟩, h10⟩, h11⟩, h5⟩, h6⟩, h7⟩ := h
  have k1 : X.env.kindOf x = some .local := C.isLocal h1
  have k2' : X.env.kindOf y = some .local := C.isLocal h2
  have k3 : X.env.kindOf w = some .local := C.isLocal h8
  have hs := star_any h5
  have hne : (y == x) = false := by simpa using fun e => h4 e.symm
  have hne2 : (x == y) = false := by simpa using h4
  have hne3 : (w == x) = false := by simpa using fun e => h10 e.symm
  have hne4 : (w == y) = false := by simpa using fun e => h11 e.symm
  unfold swappedStores
  simp only [blockKind_fn C, hs, h6, h7, List.head?_cons, Option.map_some, Option.getD_some, Expr.pos, List.filterMap_cons, List.filterMap_nil, k1, k2', k3, h3, h9, beq_self_eq_true, Bool.and_self, if_true, List.length_cons, List.length_nil]
  simp [List.eraseDups_cons, hne, hne2, hne3, hne4]
  intro hh
  have sa : isStar a = false := (all_cons h5).1
  have sb : isStar b = false := (all_cons (all_cons h5).2).1
  have sd : isStar d = false := (all_cons (all_cons (all_cons h5).2).2).1
  rcases hh with z | z | z
  · cases a <;> first | (cases z; done) | (cases sa; done)
  · cases b <;> first | (cases z; done) | (cases sb; done)
  · cases d <;> first | (cases z; done) | (cases sd; done)
theorem mNames_ok (C : CxOk c k sc X) : ∀ (is : List Nat) (es : List Expr), mNames c sc is es = true → NamesOk c X is es
  | [], es, h => by
    cases es with
    | nil => exact rfl
    | cons e es => cases h
  | i :: is, es, h => by
    simp only [mNames] at h
    split at h
    · simp only [Bool.and_eq_true] at h
      obtain ⟨h1, h2⟩ := stoOk_ok h.1
      exact ⟨_, _, _, rfl, h1, (C.loc h2).1, (C.loc h2).2, mNames_ok C is _ h.2⟩
    · cases h
theorem m_par (C : CxOk c k sc X) {is : List Nat} {es : Exs} {ts as : List Expr} {kt k2 : Nat} {pt pt2 pos : Pos} (h1 : mNames c sc is ts = true) (h2 : AllA X fa cl es as) (h3 : noStars as = true) (h4 : is.length ≤ 100) (h5 : is.Nodup) (h6 : (swA sc ts as || swN sc ts as) = true) :
    PS X (.Assign [.Tuple ts kt pt] (.Tuple as k2 pt2) pos) (rdS (zOf X fa) (evS cl (.par is es))) := by
  have hn := mNames_ok C is ts h1
  have hp := pa_par h2 h3
  by_cases hN : swN sc ts as = true
  · exact s_parB C hn hp (Nat.le_trans h4 (by decide)) (swN_ok C hN)
  · have hA : swA sc ts as = true := by
      rw [Bool.or_eq_true] at h6
      exact h6.resolve_right hN
    have hA0 := hA
    unfold swA at hA
    split at hA
    · match is, hn, h5 with
      | [i, j], ⟨x', p', r', e1, hi, _, _, y', p2, r2, e2, hj, _, _, e3⟩, h5 =>
        cases e1; cases e2
        simp only [Bool.and_eq_true, decide_eq_true_eq] at hA
        refine s_par2 C hi hj ?_ (C.isLocal hA.1.1.1.1.1.1) (C.isLocal hA.1.1.1.1.1.2) hp (sw2_ok C hA0)
        intro e; subst e; simp at h5
      | [], e1, _ => cases (show _ = [] from e1)
      | [i], ⟨x', p', r', e1, _, _, _, e3⟩, _ => cases e1; cases (show _ = [] from e3)
      | i :: j :: l :: r, ⟨x', p', r', e1, hi, _, _, y', p2, r2, e2, hj, _, _, z', p3, r3, e3, _⟩, _ => cases e1; cases e2; cases e3
    · match is, hn, h5 with
      | [i, j, l], ⟨x', p', r', e1, hi, _, _, y', p2, r2, e2, hj, _, _, w', p3, r3, e3, hl, _, _, e4⟩, h5 =>
        cases e1; cases e2; cases e3
        simp only [Bool.and_eq_true, decide_eq_true_eq] at hA
        refine s_par3 C hi hj hl ?_ ?_ ?_ (C.isLocal hA.1.1.1.1.1.1.1.1.1.1) (C.isLocal hA.1.1.1.1.1.1.1.1.1.2) (C.isLocal hA.1.1.1.1.1.1.1.1.2) hp (sw3_ok C hA0)
        · intro e; subst e; simp at h5
        · intro e; subst e; simp at h5
        · intro e; subst e; simp at h5
      | [], e1, _ => cases (show _ = [] from e1)
      | [i], ⟨x', p', r', e1, _, _, _, e3⟩, _ => cases e1; cases (show _ = [] from e3)
      | [i, j], ⟨x', p', r', e1, hi, _, _, y', p2, r2, e2, hj, _, _, e3⟩, _ => cases e1; cases e2; cases (show _ = [] from e3)
      | i :: j :: l :: n :: r, ⟨x', p', r', e1, hi, _, _, y', p2, r2, e2, hj, _, _, z', p3, r3, e3, _, _, _, w', p4, r4, e4, _⟩, _ => cases e1; cases e2; cases e3; cases e4
    · cases hA
theorem sw_static (C : CxOk c k sc X) {elt : Expr} {gs : List Comprehension} {scope : Scope} {pos py : Pos} {y : Str} {l : Nat} (hx : locB sc y = true) : swapsWith (.ListComp elt gs scope pos) (some (.Name y py)) l X.env = pure (swL sc scope y py pos) := by
  have hk : (X.env.kindOf y == some NameKind.local) = decide (sc.names.lookup y = some .local) := by
    unfold locB at hx
    unfold Env.kindOf
    split at hx
    · rename_i e; rw [C.isLocal e, e]; rfl
    · rename_i e
      obtain ⟨k', e', r⟩ := C.sco _ _ e
      rcases r with rfl | ⟨z, _⟩
      · rw [e', e]; rfl
      · cases z
    · cases hx
  unfold swapsWith swL
  simp only [blockKind_fn C, hk, Expr.pos]
  rfl
theorem swapsT {es : List Expr} {kk : Nat} {p : Pos} {e : Expr} {l : Nat} {env : PySem.Env} : swapsWithSole [.Tuple es kk p] e l env = pure false := by
  cases e <;> rfl
theorem storesT {es : List Expr} {kk : Nat} {p : Pos} {e : Expr} {env : PySem.Env} (h : isTup e = false) : swappedStores [.Tuple es kk p] e env = pure none := by
  cases e <;> first | rfl | cases h
theorem swapsI {o i : Expr} {p : Pos} {e : Expr} {l : Nat} {env : PySem.Env} : swapsWithSole [.Subscript o i p] e l env = pure false := by
  cases e <;> rfl
theorem storesI {o i : Expr} {p : Pos} {e : Expr} {env : PySem.Env} : swappedStores [.Subscript o i p] e env = pure none := by
  cases e <;> rfl
theorem comp_plain {e : Expr} {t : Option Expr} {l : Nat} {env : PySem.Env} (h : isComp e = false) : swapsWith e t l env = pure false := by
  cases e <;> first | rfl | cases h
theorem assign_sub {o i : Expr} {p : Pos} {env : PySem.Env} (h : isSlice i = false) : ∀ v, assign (.Subscript o i p) env v = (do
      let ov ← holding [v] (eval o env)
      let iv ← holding [v, ov] (eval i env)
      standAt p
      holding [v, ov, iv] (setItem ov iv v)
      release [v, ov, iv] []) := by
  intro v
  first | rfl | (cases i <;> first | rfl | cases h)
theorem m_asg (C : CxOk c k sc X) (G : Gs c k X fa cl) {i : Nat} {m : Ex} {x : Str} {p pos : Pos} {e : Expr} (h1 : stoOk c sc i x = true) (h2 : mE c m sc e = true) (h3 : asgOk sc x p e = true) : PS X (.Assign [.Name x p] e pos) (rdS (zOf X fa) (evS cl (.asg i m))) := by
  obtain ⟨g1, g2⟩ := stoOk_ok h1
  have he := (mE_ok (fa := fa) (cl := cl) m sc X e C G h2).pe
  by_cases hc : isComp e = false
  · exact s_asg C g1 g2 he (comp_plain hc)
  · cases e with
    | ListComp elt' gs scope pos2 =>
      by_cases hsw : swL sc scope x p pos2 = true
      · cases m with
        | lc elt g it ifs own fz =>
          simp only [mE] at h2
          split at h2
          · rename_i e0
            cases e0
            simp only [Bool.and_eq_true, Bool.not_eq_true'] at h2
            obtain ⟨⟨⟨⟨⟨⟨a1, a2⟩, a3⟩, a4⟩, a5⟩, a6⟩, a7⟩ := h2
            have hl : sc.names.lookup x = some .local := by
              unfold swL at hsw
              simp only [Bool.and_eq_true, decide_eq_true_eq] at hsw
              exact hsw.1.1
            exact s_setLc C g1 (C.isLocal hl) (by rw [sw_static C g2, hsw]) a1 a2 (fun X' C' G' => (mG_ok C' g _ a3).1) (mI_ok it sc X _ _ C G a4) a5 (fun X' C' G' => mIfs_ok ifs _ X' _ C' G' a6) (fun X' C' G' => (mE_ok elt _ X' _ C' G' a7).pe) G
          · cases h2
        | _ => 
          first
            | (simp [mE] at h2; done)
            | (simp only [mE] at h2; split at h2 <;> first | (rename_i e0; cases e0; done) | cases h2)
      · have hsw : swL sc scope x p pos2 = false := by simpa using hsw
        exact s_asg C g1 g2 he (by rw [sw_static C g2, hsw])
    | SetComp _ _ _ _ => cases h3
    | DictComp _ _ _ _ _ => cases h3
    | _ => exact absurd rfl hc
mutual
theorem mS_ok : ∀ (s : Bq.St) (sc : Scope) (X : Cx) (st : Stmt), CxOk c k sc X → Gs c k X fa cl → mS c s sc st = true → PS X st (rdS (zOf X fa) (evS cl s))
  | .asg i m, sc, X, st, C, G, h => by
    simp only [mS] at h
    split at h
    · simp only [Bool.and_eq_true] at h
      exact m_asg C G h.1.1 h.1.2 h.2
    · cases h
  | .par is es, sc, X, st, C, G, h => by
    simp only [mS] at h
    split at h
    · simp only [Bool.and_eq_true, decide_eq_true_eq] at h
      obtain ⟨⟨⟨⟨⟨h1, h2⟩, h3⟩, h4⟩, h5⟩, h6⟩ := h
      exact m_par C h1 (mAs_ok es sc X _ C G h2) h3 h4 h5 h6
    · cases h
  | .asgT g m, sc, X, st, C, G, h => by
    simp only [mS] at h
    split at h
    · simp only [Bool.and_eq_true, Bool.not_eq_true'] at h
      obtain ⟨⟨h1, h2⟩, h3⟩ := h
      split at h1
      · obtain ⟨a1, a2, a3⟩ := mGs_ok (fa := fa) C _ _ h1
        exact s_asgT (mE_ok m sc X _ C G h2).pe (g_tp C a1 a3 a2) (storesT h3) swapsT
      · cases h1
    · cases h
  | .setI i kx m, sc, X, st, C, G, h => by
    simp only [mS] at h
    split at h
    · simp only [Bool.and_eq_true, Bool.not_eq_true'] at h
      obtain ⟨⟨⟨h1, h2⟩, h3⟩, h4⟩ := h
      obtain ⟨g1, g2, g3, g4⟩ := varOk_ok h1
      exact s_setI C g1 g2 g3 g4 (mE_ok m sc X _ C G h3).pe (mE_ok kx sc X _ C G h2).pe storesI swapsI (assign_sub h4)
    · cases h
  | .aug i o m, sc, X, st, C, G, h => by
    simp only [mS] at h
    split at h
    · simp only [Bool.and_eq_true] at h
      obtain ⟨⟨h1, h2⟩, h3⟩ := h
      obtain ⟨g1, g2⟩ := stoOk_ok h1
      split at h3
      · exact s_augA C g1 g2 (mE_ok m sc X _ C G h2).pe
      · exact s_augS C g1 g2 (mE_ok m sc X _ C G h2).pe
      · cases h3
    · cases h
  | .app i m, sc, X, st, C, G, h => by
    simp only [mS] at h
    split at h
    · simp only [Bool.and_eq_true, decide_eq_true_eq, Bool.not_eq_true'] at h
      obtain ⟨⟨⟨⟨rfl, h1⟩, h2⟩, h3⟩, h4⟩ := h
      obtain ⟨g1, g2, g3, g4⟩ := varOk_ok h1
      exact s_app C g1 g2 g3 g4 h2 (mE_ok m sc X _ C G h3).pe h4
    · cases h
  | .ext i m, sc, X, st, C, G, h => by
    simp only [mS] at h
    split at h
    · simp only [Bool.and_eq_true, decide_eq_true_eq, Bool.not_eq_true'] at h
      obtain ⟨⟨⟨⟨rfl, h1⟩, h2⟩, h3⟩, h4⟩ := h
      obtain ⟨g1, g2, g3, g4⟩ := varOk_ok h1
      exact s_ext C g1 g2 g3 g4 h2 (mE_ok m sc X _ C G h3).pe h4
    · cases h
  | .iff t a b, sc, X, st, C, G, h => by
    simp only [mS] at h
    split at h
    · simp only [Bool.and_eq_true] at h
      exact s_if (mE_ok t sc X _ C G h.1.1).pt (mSs_ok a sc X _ C G h.1.2) (mSs_ok b sc X _ C G h.2)
    · cases h
  | .wh t b, sc, X, st, C, G, h => by
    simp only [mS] at h
    split at h
    · simp only [Bool.and_eq_true] at h
      exact s_while C (mE_ok t sc X _ C G h.1).pt (mSs_ok b sc X _ C G h.2)
    · cases h
  | .fr g it b, sc, X, st, C, G, h => by
    simp only [mS] at h
    split at h
    · simp only [Bool.and_eq_true, Bool.not_eq_true'] at h
      obtain ⟨⟨⟨h1, h2⟩, h3⟩, h4⟩ := h
      exact s_for C (mI_ok it sc X _ _ C G h2) (mG_ok C g _ h1).1 (mSs_ok b sc X _ C G h4) (fold_plain h3)
    · cases h
  | .ret m, sc, X, st, C, G, h => by
    simp only [mS] at h
    split at h
    · exact s_ret (mE_ok m sc X _ C G h).pe
    · cases h
  | .retN, sc, X, st, C, G, h => by
    simp only [mS] at h
    split at h
    · exact s_retN
    · cases h
  | .pass, sc, X, st, C, G, h => by
    simp only [mS] at h
    split at h
    · exact s_pass
    · exact s_doc
    · cases h
  | .shr _, sc, X, st, C, G, h => by simp [mS] at h
theorem mSs_ok : ∀ (s : Sts) (sc : Scope) (X : Cx) (sts : List Stmt), CxOk c k sc X → Gs c k X fa cl → mSs c s sc sts = true → PSs X sts (rdS (zOf X fa) (evSs cl s))
  | .nil, sc, X, st, C, G, h => by
    simp only [mSs] at h
    split at h
    · exact ss_nil
    · cases h
  | .cons s r, sc, X, st, C, G, h => by
    by_cases hs : ∃ is, s = .shr is
    · obtain ⟨is, rfl⟩ := hs
      simp only [mSs] at h
      exact ss_shr (mSs_ok r sc X st C G h)
    · cases st with
      | nil => exfalso; cases s <;> first | exact absurd ⟨_, rfl⟩ hs | (simp [mSs] at h; done)
      | cons st sts =>
        have h' : (mS c s sc st && mSs c r sc sts) = true := by
          cases s <;> first | exact absurd ⟨_, rfl⟩ hs | (simp only [mSs] at h; exact h)
        simp only [Bool.and_eq_true] at h'
        exact ss_cons (mS_ok s sc X _ C G h'.1) (mSs_ok r sc X _ C G h'.2)
end
end
end Bq

set_option Elab.async false
set_option autoImplicit false
set_option linter.all false
set_option maxRecDepth 100000
/-! A def of the program does what the evaluator says of it. -/
namespace Bq
open PySem PySem.Spec PyProof.Rows L2 StX
/-- what the world gives, to all defs at one depth -/
structure GsW (fnm : Nat → Str) (has : Nat → Bool) (k : Nat) (Z : Wd) (base : Heap) (cl : Nat → List Vl → M D) : Prop where
  bl : ∀ x ∈ bnames, Z.mg x = none
  mg : ∀ g, has g = true → Z.mg (fnm g) = some (.ref (Z.fa g))
  kp : ∀ g, PySem.W.keepIn Z.K (.ref (Z.fa g)) = true
  fn : ∀ g, FnG Z base k (Z.fa g) (spF Z (cl g))
  pick : ∃ pa, Z.mg "_law_pick" = some (.ref pa) ∧ PySem.W.keepIn Z.K (.ref pa) = true ∧ FnG Z base k pa spPick
theorem FnG.mono {Z : Wd} {base : Heap} {j k : Nat} {f : Addr} {sp : SpG} (F : FnG Z base j f sp) (h : j ≤ k) : FnG Z base k f sp := fun A outer s H us vs Q hr => F A outer s H us vs Q (hr.mono h)
section
variable {Z : Wd} {base : Heap}
theorem start_get {N : List Str} {vs : List V} {i : Nat} (h : i < vs.length) : (L2.start N vs)[i]? = (vs[i]?).map some := by
  unfold L2.start
  rw [List.getElem?_append_left (by simpa using h), List.getElem?_map]
theorem RpVs.get {S : Srcs} {F : Hp} : ∀ {xs : List Vl} {vs : List V} {i : Nat} {x : Vl}, RpVs Z S F xs vs → xs[i]? = some x → ∃ v, vs[i]? = some v ∧ RpV Z S F x v
  | [], _, i, _, _, h => by simp at h
  | y :: ys, _, 0, x, ⟨v, r, e, p, q⟩, h => by
    subst e
    have h : y = x := by simpa using h
    subst h
    exact ⟨v, by simp, p⟩
  | y :: ys, _, i + 1, x, ⟨v, r, e, p, q⟩, h => by
    subst e
    obtain ⟨u, h1, h2⟩ := RpVs.get q (by simpa using h)
    exact ⟨u, by simpa using h1, h2⟩
theorem RpVs.len {S : Srcs} {F : Hp} : ∀ {xs : List Vl} {vs : List V}, RpVs Z S F xs vs → vs.length = xs.length
  | [], _, q => by cases (show _ = [] from q); rfl
  | _ :: _, _, ⟨v, r, e, p, q⟩ => by subst e; rw [List.length_cons, List.length_cons, RpVs.len q]
/-- the entry -/
theorem rel_start {S : Srcs} {F H : Hp} {as : List Vl} {vs : List V} {N : List Str} {nl : Nat} (hs : SrcOk H S) (sub : Le F H) (fs : F S.s = none) (fc : F S.c = none) (q : RpVs Z S F as vs) (hN : N.length = as.length + nl) :
    Rel Z S F H [] (as.map Sl.vl ++ List.replicate nl .u) (L2.start N vs) H F := by
  have hl := q.len
  have get : ∀ (i : Nat) (s : Sl), (as.map Sl.vl ++ List.replicate nl Sl.u)[i]? = some s → (∃ x, s = .vl x ∧ as[i]? = some x) ∨ s = .u := fun i s h => by
    by_cases hi : i < as.length
    · rw [List.getElem?_append_left (by simpa using hi), List.getElem?_map] at h
      cases e : as[i]? with
      | none => rw [e] at h; cases h
      | some x => rw [e] at h; cases h; exact .inl ⟨x, rfl, rfl⟩
    · rw [List.getElem?_append_right (by simpa using hi), List.getElem?_replicate] at h
      split at h
      · cases h; exact .inr rfl
      · cases h
  have noow : ∀ (i : Nat) (x : D), (as.map Sl.vl ++ List.replicate nl Sl.u)[i]? ≠ some (.ow x) := fun i x h => by
    rcases get i _ h with ⟨y, e, _⟩ | e <;> cases e
  refine ⟨hs, sub, fs, fc, fun a o e _ _ => e, Le.refl F, fun a _ e => e, ?_, fun i x h => ?_, fun i x h => absurd h (noow i x), fun q hq => absurd hq (by simp), fun i j x y p h => absurd h (noow i x), fun i x p h => absurd h (noow i x), List.nodup_nil⟩
  · unfold L2.start
    rw [List.length_append, List.length_append, List.length_map, List.length_map, List.length_replicate, List.length_replicate]
    omega
  · rcases get i _ h with ⟨y, e, hy⟩ | e
    · cases e
      obtain ⟨v, h1, h2⟩ := q.get hy
      have hi : i < vs.length := by rw [List.getElem?_eq_some_iff] at h1; exact h1.1
      exact ⟨v, by rw [start_get hi, h1]; rfl, h2⟩
    · cases e
theorem run_succ (Φ : Tab) (k g : Nat) (vs : List Vl) (df : Df) (h : Φ g = some df) (hl : vs.length = df.np) : run Φ (k + 1) g vs = (evSs (run Φ k) df.body (vs.map Sl.vl ++ List.replicate df.nl .u)).bind fun r => match r.1 with
    | .rt x => .ret x
    | .nx => .ret .non := by
  show (match Φ g with | some f => if vs.length = f.np then _ else _ | none => _) = _
  rw [h]
  simp only
  first
    | exact if_pos hl
    | (rw [if_pos hl]; rfl)
/-- THE STEP: a def whose text matches -/
theorem fnG_step {fnm : Nat → Str} {has : Nat → Bool} {k fuel : Nat} {Φ : Tab} {g : Nat} {df : Df} {x : Str} {st : Stmt} {fd : FuncData} {N ps : List Str} (W : GsW fnm has k Z base (run Φ fuel)) (hΦ : Φ g = some df)
    (Fn : C8.Fun Z.K x x st (Z.fa g) fd) (hb : Binds Z.K fd ps []) (Sc : FnScope N ps (C8.fnScope st)) (hps : ps.length = df.np) (hN : N.length = df.np + df.nl) (hm : mSs ⟨N, fnm, has⟩ df.body (C8.fnScope st) (C8.fnBody st) = true) :
    FnG Z base (k + 1) (Z.fa g) (spF Z (run Φ (fuel + 1) g)) := by
  intro A outer s H us vs Q hr hgd e0 rv hsp
  obtain ⟨oc, od, dV, kV, doc, pm, an, cdv, ct, osl, rfl, lk, hcd⟩ := Fn.ex
  obtain ⟨S, F, as, hs, sub, fs, fc, rp, hrun⟩ := hsp
  have hlen : as.length = df.np := by
    by_cases h : as.length = df.np
    · exact h
    · exfalso
      have e : run Φ (fuel + 1) g as = .fail := by
        show (match Φ g with | some f => if as.length = f.np then _ else _ | none => _) = _
        rw [hΦ]
        simp only
        rw [if_neg h]
      rw [e] at hrun
      exact hrun
  have hl : vs.length = ps.length := by rw [rp.len, hlen, hps]
  have KX : Z.K.In s.heap := e0.mod.kin.keeps fun b o e => (e0.bs b o e).1
  have lim : s.heap.NoLimit := e0.mod.nolimit.keeps fun b o e => (e0.bs b o e).1
  have hlu : (us ++ []).length = ps.length := by rw [List.append_nil, ← rv.length]; exact hl
  have hbb := hb s us KX hlu
  rw [List.append_nil] at hbb
  have hkind : ∀ y ∈ ps.zip us, (C8.fnScope st).names.lookup y.1 = some .local ∨ ((C8.fnScope st).names.lookup y.1 = some .cell ∧ ((cellsFrom (s.heap.objs.size + 1) (C8.fnScope st).names []).lookup y.1).isSome = true) := fun ⟨n, v⟩ hy => by
    rcases Sc.par n (List.of_mem_zip hy).1 with q | q
    · exact .inl q
    · exact .inr ⟨q, PySem.W.cellsFrom_some _ _ _ (.inl q)⟩
  refine codeAny_call_function hr.depth (KX _ _ lk) rfl Sc.co Sc.gen rfl (PySem.W.codeRec_of KX hcd) (hbb _ _ _ _ ?_)
  refine wpAny_newFunctionEnv_cells Sc.kind hkind fun env he s1 xx => ?_
  subst he
  refine ⟨lim.keeps xx.toInCall.keep, codeAny_func ?_⟩
  have I0 : Inv (cxOf C8.CX0 Z.P Z.w Z.K Z.mg base N x (C8.fnScope st) (Z.fa g) cdv A outer s H C8.E0) [] (L2.start N vs) H s1 := inv_start Sc hr.hd e0 hl rv xx
  have I : Inv (cxOf C8.CX0 Z.P Z.w Z.K Z.mg base N x (C8.fnScope st) (Z.fa g) cdv A outer s H C8.E0).nox [] (L2.start N vs) H s1 := I0.wish _
  have C : CxOk ⟨N, fnm, has⟩ k (C8.fnScope st) (cxOf C8.CX0 Z.P Z.w Z.K Z.mg base N x (C8.fnScope st) (Z.fa g) cdv A outer s H C8.E0).nox :=
    ⟨rfl, rfl, Sc.nd, hr.deeper _, hgd, rfl, fun y kk e => ⟨kk, e, .inl rfl⟩, Sc.kind, fun _ _ => rfl⟩
  have G : Gs ⟨N, fnm, has⟩ k (cxOf C8.CX0 Z.P Z.w Z.K Z.mg base N x (C8.fnScope st) (Z.fa g) cdv A outer s H C8.E0).nox Z.fa (run Φ fuel) := ⟨W.bl, W.mg, fun g => ⟨W.kp g, W.fn g⟩, W.pick⟩
  have body := mSs_ok (cl := run Φ fuel) df.body (C8.fnScope st) _ _ C G hm
  have R : Rel Z S F H [] (as.map Sl.vl ++ List.replicate df.nl .u) (L2.start N vs) H F := rel_start hs sub fs fc rp (by rw [hN, hlen])
  rw [run_succ Φ fuel g as df hΦ hlen, M.all_bind] at hrun
  refine wpAny_mono (body.run [] s1 (L2.start N vs) H { nx := fun _ H' => Q .non H', rt := Q } I ⟨S, F, H, [], _, F, R, M.all_mono (fun r hr => ?_) hrun⟩) (fun fl s' hs => ?_) fun e s' hs => hs.elim
  · obtain ⟨f, env⟩ := r
    cases f with
    | nx => exact fun σ' H' F' R' l => hr .non H' F' R'.src l R'.sub (fun a h1 h2 => R'.new a h1 h2) (fun a o e n1 n2 => R'.keep a o e n1 n2) rfl
    | rt d => exact fun v σ' H' F' R' l q => hr v H' F' R'.src l R'.sub (fun a h1 h2 => R'.new a h1 h2) (fun a o e n1 n2 => R'.keep a o e n1 n2) q
  · cases fl with
    | ret u =>
      obtain ⟨v, σ', H', J, rv, q⟩ := hs
      exact ⟨v, H', J.os, J.bare, J.base, J.hok, rv, q⟩
    | next =>
      obtain ⟨σ', H', J, q⟩ := hs
      exact ⟨.non, H', J.os, J.bare, J.base, J.hok, rfl, q⟩
    | brk =>
      obtain ⟨_, _, _, q⟩ := hs
      exact False.elim q
    | cont =>
      obtain ⟨_, _, _, q⟩ := hs
      exact False.elim q
/-- a def that the evaluator says nothing of -/
theorem fnG_none {k : Nat} {f : Addr} {clg : List Vl → M D} (h : ∀ as, clg as = .fail) : FnG Z base k f (spF Z clg) := by
  intro A outer s H us vs Q hr hgd e0 rv hsp
  obtain ⟨S, F, as, _, _, _, _, _, hh⟩ := hsp
  rw [h as] at hh
  exact hh.elim
/-- what is static of a table of defs -/
structure TabOk (fnm : Nat → Str) (has : Nat → Bool) (Φ : Tab) (Z : Wd) (base : Heap) : Prop where
  bl : ∀ x ∈ bnames, Z.mg x = none
  mg : ∀ g, has g = true → Z.mg (fnm g) = some (.ref (Z.fa g))
  kp : ∀ g, PySem.W.keepIn Z.K (.ref (Z.fa g)) = true
  df : ∀ g df, Φ g = some df → ∃ x st fd N ps, C8.Fun Z.K x x st (Z.fa g) fd ∧ Binds Z.K fd ps [] ∧ FnScope N ps (C8.fnScope st) ∧ ps.length = df.np ∧ N.length = df.np + df.nl ∧ mSs ⟨N, fnm, has⟩ df.body (C8.fnScope st) (C8.fnBody st) = true
  pick : ∃ pa, Z.mg "_law_pick" = some (.ref pa) ∧ PySem.W.keepIn Z.K (.ref pa) = true ∧ FnG Z base 8 pa spPick
theorem all_fnG {fnm : Nat → Str} {has : Nat → Bool} {Φ : Tab} (T : TabOk fnm has Φ Z base) : ∀ (fuel g : Nat), FnG Z base (fuel + 8) (Z.fa g) (spF Z (run Φ fuel g))
  | 0, g => fnG_none fun as => rfl
  | fuel + 1, g => by
    cases e : Φ g with
    | none =>
      refine fnG_none fun as => ?_
      show (match Φ g with | some f => if as.length = f.np then _ else _ | none => _) = _
      rw [e]
    | some df =>
      obtain ⟨x, st, fd, N, ps, h1, h2, h3, h4, h5, h6⟩ := T.df g df e
      obtain ⟨pa, p1, p2, p3⟩ := T.pick
      exact fnG_step (k := fuel + 8) ⟨T.bl, T.mg, T.kp, fun g => all_fnG T fuel g, pa, p1, p2, p3.mono (by omega)⟩ e h1 h2 h3 h4 h5 h6
end
end Bq

set_option Elab.async false
set_option autoImplicit false
set_option linter.all false
set_option maxRecDepth 100000
/-! The two helpers of the laws that draw: what their bodies' readings give. -/
namespace Bq
open PySem PySem.Spec PyProof.Rows L2 StX
def keyT1 (d key : TE) : TE := tDGet d key
def cK (s : Str) : TE := tC (.str s)
/-- the reading of the draw's body -/
def tPick (K : PySem.W.Frag) : TS :=
  tSeq (tIfS (tTest (tOp (rI0 fun i j => .bl (decide (i < j))) (tVar 1) (tC (.int 2)))) (tSeq (tRet (tC (.int 0))) tNext) tNext) <|
  tSeq (tAsg (tDGet (tVar 0) (cK "cells")) (gName 2)) <|
  tSeq (tWhile (tAnd (tTest (tOp (rI0 fun i j => .bl (decide (i < j))) (tDGet (tVar 0) (cK "left")) (tC (.int 2)))) (tTest (tOp (rI0 fun i j => .bl (decide (j < i))) (tCB (fun xs H Q => ∃ p ys, xs = [.ref p] ∧ (SqL K H p ys ∨ SqT K H p ys) ∧ Q (.int ys.length) H) (tCons (tVar 2) tNil)) (tC (.int 0)))))
    (tSeq (sDPut (tVar 0) (cK "left") (tBM0 K "list" rPop (tVar 2))) tNext)) <|
  tSeq (tAsg (tDGet (tVar 0) (cK "left")) (gName 3)) <|
  tSeq (tIfS (tTest (tOp (rI0 fun i j => .bl (decide (j < i))) (tVar 3) (tC (.int 1))))
    (tSeq (sDPut (tVar 0) (cK "left") (tOp (rI CDiv fun i j => .int (i / j)) (tVar 3) (tVar 1))) (tSeq (tRet (tOp (rI (fun _ j => 0 < j) fun i j => .int (i % j)) (tCB rInt1 (tCons (tVar 3) tNil)) (tVar 1))) tNext)) tNext) <|
  tSeq (sDPut (tVar 0) (cK "turn") (tOp (rI0 fun i j => .int (i + j)) (tDGet (tVar 0) (cK "turn")) (tC (.int 1)))) <|
  tSeq (tAsg (tDGet (tVar 0) (cK "turn")) (gName 4)) <|
  tSeq (tAsg (tOp (rI (fun _ j => 0 < j) fun i j => .int (i % j)) (tCB rInt1 (tCons (tOp (rI0 fun i j => .int (i + j)) (tDGet (tVar 0) (cK "mixed")) (tOp (rI CMul fun i j => .int (i * j)) (tVar 4) (tC (.int 104729)))) tNil)) (tC (.int 998244353))) (gName 5)) <|
  tSeq (tAsg (tOp (rI (fun _ j => 0 < j) fun i j => .int (i % j)) (tCB rInt1 (tCons (tOp (rI0 fun i j => .int (i + j)) (tOp (rI CMul fun i j => .int (i * j)) (tVar 5) (tVar 5)) (tOp (rI CMul fun i j => .int (i * j)) (tVar 4) (tC (.int 17)))) tNil)) (tC (.int 2147483647))) (gName 5)) <|
  tSeq (tRet (tOp (rI (fun _ j => 0 < j) fun i j => .int (i % j)) (tCB rInt1 (tCons (tOp (rI CDiv fun i j => .int (i / j)) (tVar 5) (tC (.int 16))) tNil)) (tVar 1))) tNext
/-- the source's state as it stands -/
def SrcAt (H : Hp) (S : Srcs) (l m t : Int) (ns : List Int) : Prop := S.s ≠ S.c ∧ H S.s = some (srcO S l m t) ∧ H S.c = some (.lst (ns.map V.int))
theorem SrcAt.ok {H : Hp} {S : Srcs} {l m t : Int} {ns : List Int} (h : SrcAt H S l m t ns) : SrcOk H S := ⟨h.1, ⟨l, m, t, h.2.1⟩, ns, h.2.2⟩
section
variable {H : Hp} {S : Srcs} {l m t : Int} {ns : List Int}
theorem SrcAt.cells (h : SrcAt H S l m t ns) : DGet H S.s (.str "cells") (some (.ref S.c)) := DGet.k (k := .inr "cells") h.2.1
theorem SrcAt.left (h : SrcAt H S l m t ns) : DGet H S.s (.str "left") (some (.int l)) := DGet.k (k := .inr "left") h.2.1
theorem SrcAt.mixed (h : SrcAt H S l m t ns) : DGet H S.s (.str "mixed") (some (.int m)) := DGet.k (k := .inr "mixed") h.2.1
theorem SrcAt.turn (h : SrcAt H S l m t ns) : DGet H S.s (.str "turn") (some (.int t)) := DGet.k (k := .inr "turn") h.2.1
theorem SrcAt.setL (h : SrcAt H S l m t ns) (x : Int) : ∃ H', DPut H S.s (.str "left") (.int x) H' ∧ SrcAt H' S x m t ns ∧ ∀ a o, H a = some o → a ≠ S.s → a ≠ S.c → H' a = some o :=
  ⟨_, DPut.k (k := .inr "left") h.2.1 (show 4 < sizeLine by decide), ⟨h.1, upd_same, by rw [upd_ne h.1.symm]; exact h.2.2⟩, fun a o e n _ => by rw [upd_ne n]; exact e⟩
theorem SrcAt.setT (h : SrcAt H S l m t ns) (x : Int) : ∃ H', DPut H S.s (.str "turn") (.int x) H' ∧ SrcAt H' S l m x ns ∧ ∀ a o, H a = some o → a ≠ S.s → a ≠ S.c → H' a = some o :=
  ⟨_, DPut.k (k := .inr "turn") h.2.1 (show 4 < sizeLine by decide), ⟨h.1, upd_same, by rw [upd_ne h.1.symm]; exact h.2.2⟩, fun a o e n _ => by rw [upd_ne n]; exact e⟩
theorem keepS.refl (H : Hp) (S : Srcs) : ∀ a o, H a = some o → a ≠ S.s → a ≠ S.c → H a = some o := fun _ _ e _ _ => e
theorem pick_sem (K : PySem.W.Frag) {N : List Str} (hN : N.length = 6) {vs : List V} {H : Hp} {Q : VK} (h : spPick vs H Q) : tPick K { nx := fun _ H' => Q .non H', rt := Q } (L2.start N vs) H := by
  obtain ⟨S, n, ⟨hd, ⟨l, m, t, hs⟩, ns, hc⟩, rfl, hb, hq⟩ := h
  have st : L2.start N [V.ref S.s, V.int n] = [some (.ref S.s), some (.int n), none, none, none, none] := by unfold L2.start; rw [hN]; rfl
  rw [st]
  refine ⟨_, rfl, n, 2, rfl, rfl, ?_⟩
  refine ⟨_, rfl, ?_⟩
  by_cases h2 : n < 2
  · show (if _ then _ else _); rw [if_pos (by simpa using h2)]
    exact hq 0 H ⟨hd, ⟨l, m, t, hs⟩, ns, hc⟩ (by show (if _ then _ else _); rw [if_pos h2]) (keepS.refl H S)
  show (if _ then _ else _); rw [if_neg (by simpa using h2)]
  have A : SrcAt H S l m t ns := ⟨hd, hs, hc⟩
  refine ⟨_, rfl, S.s, .ref S.c, rfl, A.cells, ?_⟩
  -- the walk over the cells
  refine ⟨fun k σ' H' => ∃ l' ns', σ' = [some (.ref S.s), some (.int n), some (.ref S.c), none, none, none] ∧ ns'.length = k ∧ SrcAt H' S l' m t ns' ∧ ∀ a o, H a = some o → a ≠ S.s → a ≠ S.c → H' a = some o, ⟨ns.length, l, ns, rfl, rfl, A, keepS.refl H S⟩, ?_⟩
  rintro k σ' H' ⟨l', ns', rfl, rfl, A', kp⟩
  -- what follows the walk
  have rest : ∀ {H' : Hp} {l' : Int} {ns' : List Int}, SrcAt H' S l' m t ns' → (∀ a o, H a = some o → a ≠ S.s → a ≠ S.c → H' a = some o) → (tSeq (tAsg (tDGet (tVar 0) (cK "left")) (gName 3)) <|
      tSeq (tIfS (tTest (tOp (rI0 fun i j => .bl (decide (j < i))) (tVar 3) (tC (.int 1))))
        (tSeq (sDPut (tVar 0) (cK "left") (tOp (rI CDiv fun i j => .int (i / j)) (tVar 3) (tVar 1))) (tSeq (tRet (tOp (rI (fun _ j => 0 < j) fun i j => .int (i % j)) (tCB rInt1 (tCons (tVar 3) tNil)) (tVar 1))) tNext)) tNext) <|
      tSeq (sDPut (tVar 0) (cK "turn") (tOp (rI0 fun i j => .int (i + j)) (tDGet (tVar 0) (cK "turn")) (tC (.int 1)))) <|
      tSeq (tAsg (tDGet (tVar 0) (cK "turn")) (gName 4)) <|
      tSeq (tAsg (tOp (rI (fun _ j => 0 < j) fun i j => .int (i % j)) (tCB rInt1 (tCons (tOp (rI0 fun i j => .int (i + j)) (tDGet (tVar 0) (cK "mixed")) (tOp (rI CMul fun i j => .int (i * j)) (tVar 4) (tC (.int 104729)))) tNil)) (tC (.int 998244353))) (gName 5)) <|
      tSeq (tAsg (tOp (rI (fun _ j => 0 < j) fun i j => .int (i % j)) (tCB rInt1 (tCons (tOp (rI0 fun i j => .int (i + j)) (tOp (rI CMul fun i j => .int (i * j)) (tVar 5) (tVar 5)) (tOp (rI CMul fun i j => .int (i * j)) (tVar 4) (tC (.int 17)))) tNil)) (tC (.int 2147483647))) (gName 5)) <|
      tSeq (tRet (tOp (rI (fun _ j => 0 < j) fun i j => .int (i % j)) (tCB rInt1 (tCons (tOp (rI CDiv fun i j => .int (i / j)) (tVar 5) (tC (.int 16))) tNil)) (tVar 1))) tNext) { nx := fun _ H' => Q .non H', rt := Q } [some (.ref S.s), some (.int n), some (.ref S.c), none, none, none] H' := by
    intro H' l' ns' A' kp
    refine ⟨_, rfl, S.s, .int l', rfl, A'.left, ?_⟩
    refine ⟨_, rfl, l', 1, rfl, rfl, ?_⟩
    refine ⟨_, rfl, ?_⟩
    by_cases h1 : 1 < l'
    · show (if _ then _ else _); rw [if_pos (by simpa using h1)]
      obtain ⟨H2, d2, A2, k2⟩ := A'.setL (l' / n)
      refine ⟨_, rfl, _, rfl, l', n, rfl, rfl, ⟨by omega, by omega⟩, ?_⟩
      refine ⟨_, rfl, S.s, H2, rfl, d2, ?_⟩
      refine ⟨_, rfl, .inl ⟨l', rfl, ?_⟩⟩
      refine ⟨_, rfl, l', n, rfl, rfl, (by omega : (0 : Int) < n), ?_⟩
      refine hq _ H2 A2.ok ?_ fun a o e n1 n2 => k2 a o (kp a o e n1 n2) n1 n2
      show (if _ then _ else _); rw [if_neg h2]
      exact ⟨Int.emod_nonneg _ (by omega), Int.emod_lt_of_pos _ (by omega)⟩
    · show (if _ then _ else _); rw [if_neg (by simpa using h1)]
      obtain ⟨H2, d2, A2, k2⟩ := A'.setT (t + 1)
      refine ⟨_, rfl, S.s, .int t, rfl, A'.turn, t, 1, rfl, rfl, ?_⟩
      refine ⟨_, rfl, S.s, H2, rfl, d2, ?_⟩
      refine ⟨_, rfl, S.s, .int (t + 1), rfl, A2.turn, ?_⟩
      refine ⟨_, rfl, S.s, .int m, rfl, A2.mixed, ?_⟩
      refine ⟨_, rfl, t + 1, 104729, rfl, rfl, .inr (by decide), ?_⟩
      refine ⟨m, (t + 1) * 104729, rfl, rfl, ?_⟩
      refine .inl ⟨m + (t + 1) * 104729, rfl, ?_⟩
      refine ⟨_, 998244353, rfl, rfl, (by decide : (0 : Int) < 998244353), ?_⟩
      have b0 : 0 ≤ (m + (t + 1) * 104729) % 998244353 := Int.emod_nonneg _ (by decide)
      have b1 : (m + (t + 1) * 104729) % 998244353 < 998244353 := Int.emod_lt_of_pos _ (by decide)
      obtain ⟨z, hz⟩ : ∃ z, z = (m + (t + 1) * 104729) % 998244353 := ⟨_, rfl⟩
      rw [← hz] at b0 b1
      refine ⟨_, rfl, _, rfl, z, z, by rw [hz], by rw [hz], .inl ⟨by omega, by omega⟩, ?_⟩
      refine ⟨_, rfl, t + 1, 17, rfl, rfl, .inr (by decide), ?_⟩
      refine ⟨z * z, (t + 1) * 17, rfl, rfl, ?_⟩
      refine .inl ⟨z * z + (t + 1) * 17, rfl, ?_⟩
      refine ⟨_, 2147483647, rfl, rfl, (by decide : (0 : Int) < 2147483647), ?_⟩
      obtain ⟨y, hy⟩ : ∃ y, y = (z * z + (t + 1) * 17) % 2147483647 := ⟨_, rfl⟩
      refine ⟨_, rfl, y, 16, by rw [hy], rfl, ⟨by decide, by decide⟩, ?_⟩
      refine .inl ⟨y / 16, rfl, ?_⟩
      refine ⟨_, rfl, y / 16, n, rfl, rfl, (by omega : (0 : Int) < n), ?_⟩
      refine hq _ H2 A2.ok ?_ fun a o e n1 n2 => k2 a o (kp a o e n1 n2) n1 n2
      show (if _ then _ else _); rw [if_neg h2]
      exact ⟨Int.emod_nonneg _ (by omega), Int.emod_lt_of_pos _ (by omega)⟩
  refine ⟨_, rfl, S.s, .int l', rfl, A'.left, l', 2, rfl, rfl, ?_⟩
  refine ⟨_, rfl, ?_⟩
  by_cases hl : l' < 2
  · show (if _ then _ else _); rw [if_pos (by simpa using hl)]
    refine ⟨_, rfl, S.c, ns'.map V.int, rfl, .inl (.of A'.2.2), ns'.map V.int |>.length, 0, rfl, rfl, ?_⟩
    refine ⟨_, rfl, ?_⟩
    rcases List.eq_nil_or_concat ns' with rfl | ⟨ms, x, rfl⟩
    · show (if _ then _ else _); rw [if_neg (by decide)]
      exact rest A' kp
    · show (if _ then _ else _); rw [if_pos (by simp)]
      refine ⟨fun σ'' H'' => ∃ l'' ns'', σ'' = [some (.ref S.s), some (.int n), some (.ref S.c), none, none, none] ∧ ns'' = ms ∧ SrcAt H'' S l'' m t ns'' ∧ ∀ a o, H a = some o → a ≠ S.s → a ≠ S.c → H'' a = some o, fun σ'' H'' ⟨l'', ns'', e1, e2, e3, e4⟩ => ⟨ms.length, by simp, l'', ns'', e1, by rw [e2], e3, e4⟩, ?_⟩
      have hpop : (List.map V.int (ms ++ [x])).dropLast = ms.map V.int := by rw [List.map_append]; simp
      have Ap : SrcAt (upd H' S.c (.lst (ms.map V.int))) S l' m t ms := ⟨A'.1, by rw [upd_ne A'.1]; exact A'.2.1, upd_same⟩
      obtain ⟨H2, d2, A2, k2⟩ := Ap.setL x
      refine ⟨_, rfl, .inl ⟨rfl, (ms ++ [x]).map V.int, .of (by simpa using A'.2.2)⟩, S.c, (ms ++ [x]).map V.int, .int x, rfl, rfl, by simpa using A'.2.2, by simp, ?_⟩
      rw [hpop]
      refine ⟨_, rfl, S.s, H2, rfl, d2, x, ms, rfl, rfl, A2, fun a o e n1 n2 => k2 a o (by rw [upd_ne n2]; exact kp a o e n1 n2) n1 n2⟩
  · show (if _ then _ else _); rw [if_neg (by simpa using hl)]
    exact rest A' kp
/-! ### where the draws come from -/
def rAbs : List V → Hp → VK → Prop := fun xs H Q => ∃ i, xs = [.int i] ∧ Q (.int (if i < 0 then -i else i)) H
def tSrc (K : PySem.W.Frag) : TS :=
  tSeq (tAsg (tC (.int 11)) (gName 1)) <|
  tSeq (tFor (iList K (tVar 0)) (gName 2) (tSeq (tAsg (tOp (rI (fun _ j => 0 < j) fun i j => .int (i % j)) (tCB rInt1 (tCons (tOp (rI0 fun i j => .int (i + j)) (tOp (rI0 fun i j => .int (i + j)) (tOp (rI CMul fun i j => .int (i * j)) (tVar 1) (tC (.int 69069))) (tOp (rI CMul fun i j => .int (i * j)) (tVar 2) (tC (.int 31)))) (tC (.int 5))) tNil)) (tC (.int 2147483629))) (gName 1)) tNext)) <|
  tSeq (tAsg (tLc (iList K (tVar 0)) (gName 2) tYes (tCB rAbs (tCons (tVar 2) tNil)) [2]) (gName 3)) <|
  tSeq (tRet (tDisp [(cK "cells", tRevL K (tVar 3)), (cK "left", tC (.int 1)), (cK "mixed", tVar 1), (cK "turn", tC (.int 0))])) tNext
def spSrc (K : PySem.W.Frag) : SpG := fun vs H Q => ∃ (a : Addr) (ns : List Int), vs = [.ref a] ∧ SqL K H a (ns.map V.int) ∧ ns.length ≤ cap ∧ ∀ (S : Srcs) (H' : Hp), SrcOk H' S → Le H H' → H S.s = none → H S.c = none → Q (.ref S.s) H'
theorem SqL.le {K : PySem.W.Frag} {H H' : Hp} {a : Addr} {xs : List V} (h : SqL K H a xs) (e : Le H H') : SqL K H' a xs := by
  rcases h with h | h
  · refine .inl ?_
    rcases h with h | ⟨o, h⟩
    · exact .inl (e _ _ h)
    · exact .inr ⟨o, e _ _ h⟩
  · exact .inr h
theorem src_sem (K : PySem.W.Frag) {N : List Str} (hN : N.length = 4) {vs : List V} {H : Hp} {Q : VK} (h : spSrc K vs H Q) : tSrc K { nx := fun _ H' => Q .non H', rt := Q } (L2.start N vs) H := by
  obtain ⟨a, ns, rfl, hq, hcap, hQ⟩ := h
  have st : L2.start N [V.ref a] = [some (.ref a), none, none, none] := by unfold L2.start; rw [hN]; rfl
  rw [st]
  refine ⟨_, rfl, a, rfl, ⟨_, hq⟩, ?_⟩
  refine for_it walk_list (fun i σ H' => H' = H ∧ ∃ (y : Int) (c : Option V), σ = [some (.ref a), some (.int y), c, none]) ⟨rfl, 11, none, rfl⟩ (fun i σ H' _ p => by rw [p.1]; exact hq) (fun i x σ H' H'' hi p y => ?_) fun σ H' p => ?_
  · obtain ⟨rfl, z, c, rfl⟩ := p
    obtain ⟨rfl, y⟩ := y
    rw [List.getElem?_map] at y
    cases e : ns[i]? with
    | none => rw [e] at y; cases y
    | some k =>
      rw [e] at y
      cases y
      refine ⟨_, rfl, z, 69069, rfl, rfl, .inr (by decide), ?_⟩
      refine ⟨_, rfl, k, 31, rfl, rfl, .inr (by decide), ?_⟩
      refine ⟨z * 69069, k * 31, rfl, rfl, z * 69069 + k * 31, 5, rfl, rfl, ?_⟩
      refine .inl ⟨z * 69069 + k * 31 + 5, rfl, ?_⟩
      refine ⟨_, 2147483629, rfl, rfl, (by decide : (0 : Int) < 2147483629), ?_⟩
      exact ⟨rfl, _, _, rfl⟩
  · obtain ⟨rfl, z, c, rfl⟩ := p
    refine ⟨_, rfl, a, rfl, ⟨_, hq⟩, fun Da hD => ?_⟩
    -- the list of sizes
    refine lc_it walk_list (Qd := _) (fun i H2 => Le H' H2 ∧ ∃ ms : List Int, H2 Da = some (.lst (ms.map V.int)) ∧ ms.length ≤ i) ⟨Le.upd hD, [], upd_same, Nat.le_refl 0⟩ (fun i H2 _ p => SqL.le hq p.1) (fun i x H2 H3 hi p y => ?_) fun H2 p => ?_
    · obtain ⟨le, ms, hm, hl⟩ := p
      obtain ⟨rfl, y⟩ := y
      rw [List.getElem?_map] at y
      cases e : ns[i]? with
      | none => rw [e] at y; cases y
      | some k =>
        rw [e] at y
        cases y
        refine ⟨rfl, ?_⟩
        dsimp only [tYes]
        rw [if_pos rfl]
        refine ⟨_, rfl, k, rfl, ms.map V.int, hm, ?_, ?_, ms ++ [if k < 0 then -k else k], ?_, ?_⟩
        · rw [List.length_map] at hi ⊢
          exact capI (by omega)
        · exact fun b o q => by
            by_cases n : b = Da
            · subst n; rw [hD] at q; cases q
            · rw [upd_ne n]; exact le _ _ q
        · rw [upd_same, List.map_append]; rfl
        · rw [List.length_append, List.length_singleton]; omega
    · obtain ⟨le, ms, hm, hl⟩ := p
      intro ps hps
      refine ⟨_, rfl, Da, ms.map V.int, rfl, .of (by rw [upd_ne (by intro e; subst e; rw [hps] at hm; cases hm)]; exact hm), fun pc hpc => ?_⟩
      have hne : pc ≠ ps := fun e => by subst e; rw [upd_same] at hpc; cases hpc
      have hpc' : H2 pc = none := by rw [upd_ne hne] at hpc; exact hpc
      refine ⟨_, rfl, by rw [upd_ne hne.symm]; exact upd_same, [(.inr "cells", .ref pc), (.inr "left", .int 1), (.inr "mixed", .int z), (.inr "turn", .int 0)], rfl, (show 4 ≤ 15 by decide), ?_⟩
      have e1 : mergeK [] [((.inr "cells" : Key), V.ref pc), (.inr "left", .int 1), (.inr "mixed", .int z), (.inr "turn", .int 0)] = [(.inr "cells", .ref pc), (.inr "left", .int 1), (.inr "mixed", .int z), (.inr "turn", .int 0)] := by
        kernel_rfl
      rw [e1]
      have up : ∀ b, H' b ≠ none → b ≠ ps ∧ b ≠ pc := by
        intro b hb
        cases q : H' b with
        | none => exact absurd q hb
        | some o =>
          have q2 := le _ _ q
          constructor
          · intro e; subst e; rw [hps] at q2; cases q2
          · intro e; subst e; rw [hpc'] at q2; cases q2
      refine hQ ⟨ps, pc⟩ _ ⟨hne.symm, ⟨1, z, 0, upd_same⟩, ms.reverse, by rw [upd_ne hne, upd_same, List.map_reverse]⟩ (fun b o q => ?_) ?_ ?_
      · obtain ⟨n1, n2⟩ := up b (by rw [q]; simp)
        rw [upd_ne n1, upd_ne n2, upd_ne n1]
        exact le _ _ q
      · cases q : H' ps with
        | none => rfl
        | some o => exact absurd rfl (up ps (by rw [q]; simp)).1
      · cases q : H' pc with
        | none => rfl
        | some o => exact absurd rfl (up pc (by rw [q]; simp)).2
end
end Bq

set_option Elab.async false
set_option autoImplicit false
set_option linter.all false
set_option maxRecDepth 100000
/-! A def by a reading of its body; the law's own def; the end. -/
namespace Bq
open PySem PySem.Spec PyProof.Rows L2 StX
section
variable {Z : Wd} {base : Heap}
/-- a def by a reading of its body -/
theorem enterG {fnm : Nat → Str} {has : Nat → Bool} {k : Nat} {f : Addr} {sp : SpG} {x : Str} {st : Stmt} {fd : FuncData} {N ps : List Str} (Fn : C8.Fun Z.K x x st f fd) (hb : Binds Z.K fd ps []) (Sc : FnScope N ps (C8.fnScope st))
    (len : ∀ vs H Q, sp vs H Q → vs.length = ps.length)
    (hrun : ∀ (X : Cx), zOf X Z.fa = Z → X.base = base → CxOk ⟨N, fnm, has⟩ k (C8.fnScope st) X → ∀ vs H Q, sp vs H Q → ∃ t, PSs X (C8.fnBody st) t ∧ t { nx := fun _ H' => Q .non H', rt := Q } (L2.start N vs) H) :
    FnG Z base (k + 1) f sp := by
  intro A outer s H us vs Q hr hgd e0 rv hsp
  obtain ⟨oc, od, dV, kV, doc, pm, an, cdv, ct, osl, rfl, lk, hcd⟩ := Fn.ex
  have hl : vs.length = ps.length := len _ _ _ hsp
  have KX : Z.K.In s.heap := e0.mod.kin.keeps fun b o e => (e0.bs b o e).1
  have lim : s.heap.NoLimit := e0.mod.nolimit.keeps fun b o e => (e0.bs b o e).1
  have hlu : (us ++ []).length = ps.length := by rw [List.append_nil, ← rv.length]; exact hl
  have hbb := hb s us KX hlu
  rw [List.append_nil] at hbb
  have hkind : ∀ y ∈ ps.zip us, (C8.fnScope st).names.lookup y.1 = some .local ∨ ((C8.fnScope st).names.lookup y.1 = some .cell ∧ ((cellsFrom (s.heap.objs.size + 1) (C8.fnScope st).names []).lookup y.1).isSome = true) := fun ⟨n, v⟩ hy => by
    rcases Sc.par n (List.of_mem_zip hy).1 with q | q
    · exact .inl q
    · exact .inr ⟨q, PySem.W.cellsFrom_some _ _ _ (.inl q)⟩
  refine codeAny_call_function hr.depth (KX _ _ lk) rfl Sc.co Sc.gen rfl (PySem.W.codeRec_of KX hcd) (hbb _ _ _ _ ?_)
  refine wpAny_newFunctionEnv_cells Sc.kind hkind fun env he s1 xx => ?_
  subst he
  refine ⟨lim.keeps xx.toInCall.keep, codeAny_func ?_⟩
  have I0 : Inv (cxOf C8.CX0 Z.P Z.w Z.K Z.mg base N x (C8.fnScope st) f cdv A outer s H C8.E0) [] (L2.start N vs) H s1 := inv_start Sc hr.hd e0 hl rv xx
  have I : Inv (cxOf C8.CX0 Z.P Z.w Z.K Z.mg base N x (C8.fnScope st) f cdv A outer s H C8.E0).nox [] (L2.start N vs) H s1 := I0.wish _
  have C : CxOk ⟨N, fnm, has⟩ k (C8.fnScope st) (cxOf C8.CX0 Z.P Z.w Z.K Z.mg base N x (C8.fnScope st) f cdv A outer s H C8.E0).nox :=
    ⟨rfl, rfl, Sc.nd, hr.deeper _, hgd, rfl, fun y kk e => ⟨kk, e, .inl rfl⟩, Sc.kind, fun _ _ => rfl⟩
  obtain ⟨t, body, q⟩ := hrun _ rfl rfl C vs H Q hsp
  refine wpAny_mono (body.run [] s1 (L2.start N vs) H { nx := fun _ H' => Q .non H', rt := Q } I q) (fun fl s' hs => ?_) fun e s' hs => hs.elim
  cases fl with
  | ret u =>
    obtain ⟨v, σ', H', J, rv, q⟩ := hs
    exact ⟨v, H', J.os, J.bare, J.base, J.hok, rv, q⟩
  | next =>
    obtain ⟨σ', H', J, q⟩ := hs
    exact ⟨.non, H', J.os, J.bare, J.base, J.hok, rfl, q⟩
  | brk =>
    obtain ⟨_, _, _, q⟩ := hs
    exact False.elim q
  | cont =>
    obtain ⟨_, _, _, q⟩ := hs
    exact False.elim q
/-- the draw, from its body's reading -/
theorem pickG {f : Addr} {x : Str} {st : Stmt} {fd : FuncData} {N ps : List Str} (Fn : C8.Fun Z.K x x st f fd) (hb : Binds Z.K fd ps []) (Sc : FnScope N ps (C8.fnScope st)) (hps : ps.length = 2) (hN : N.length = 6)
    (hbody : ∀ (X : Cx) (k : Nat), X.mg = Z.mg → CxOk ⟨N, fun _ => "", fun _ => false⟩ k (C8.fnScope st) X → PSs X (C8.fnBody st) (tPick X.K)) : FnG Z base 8 f spPick := by
  refine enterG (k := 7) (fnm := fun _ => "") (has := fun _ => false) Fn hb Sc (fun vs H Q h => ?_) fun X hZ hbase C vs H Q h => ⟨_, hbody X 7 (by rw [← hZ]) C, pick_sem _ hN h⟩
  obtain ⟨S, n, _, rfl, _⟩ := h
  rw [hps]; rfl
theorem srcG {f : Addr} {x : Str} {st : Stmt} {fd : FuncData} {N ps : List Str} (Fn : C8.Fun Z.K x x st f fd) (hb : Binds Z.K fd ps []) (Sc : FnScope N ps (C8.fnScope st)) (hps : ps.length = 1) (hN : N.length = 4)
    (hbody : ∀ (X : Cx) (k : Nat), X.mg = Z.mg → CxOk ⟨N, fun _ => "", fun _ => false⟩ k (C8.fnScope st) X → PSs X (C8.fnBody st) (tSrc X.K)) : FnG Z base 8 f (spSrc Z.K) := by
  refine enterG (k := 7) (fnm := fun _ => "") (has := fun _ => false) Fn hb Sc (fun vs H Q h => ?_) fun X hZ hbase C vs H Q h => ⟨_, hbody X 7 (by rw [← hZ]) C, src_sem _ hN (by
    have e : X.K = Z.K := by rw [← hZ]
    rw [e]; exact h)⟩
  obtain ⟨a, ns, rfl, _⟩ := h
  rw [hps]; rfl
/-- the law's body: the source, then what matches -/
def mLaw (c : Cm) (src : Str) (b : Sts) (sc : Scope) : List Stmt → Bool
  | .Assign [.Name x _] (.Call (.Name y _) [.Name z _] [] _) _ :: r => stoOk c sc 1 x && gblOk sc y src && nmOk y && varOk c sc 0 z && mSs c b sc r
  | _ => false
/-- the law's data: its script is not looked at again -/
def lawM (Φ : Tab) (fuel : Nat) (df : Df) : M (Fl × Env) := evSs (run Φ fuel) df.body (.u :: .vl .src :: List.replicate df.nl .u)
/-- what the law promises -/
def spLaw (K : PySem.W.Frag) : SpG := fun vs H Q => ∃ (a : Addr) (ns : List Int), vs = [.ref a] ∧ SqL K H a (ns.map V.int) ∧ ns.length ≤ cap ∧ ∀ H', Q (.bl true) H'
theorem lawG {fnm : Nat → Str} {has : Nat → Bool} {Φ : Tab} {fuel : Nat} {f fs : Addr} {x src : Str} {st : Stmt} {fd : FuncData} {N ps : List Str} {df : Df} (Tb : TabOk fnm has Φ Z base) (hsrc : Z.mg src = some (.ref fs)) (hkeep : PySem.W.keepIn Z.K (.ref fs) = true) (Gs0 : FnG Z base 8 fs (spSrc Z.K))
    (Fn : C8.Fun Z.K x x st f fd) (hb : Binds Z.K fd ps []) (Sc : FnScope N ps (C8.fnScope st)) (hps : ps.length = 1) (hN : N.length = df.nl + 2) (hm : mLaw ⟨N, fnm, has⟩ src df.body (C8.fnScope st) (C8.fnBody st) = true)
    (hlaw : (lawM Φ fuel df).all fun r => r.1 = .rt (.bl true)) : FnG Z base (fuel + 9) f (spLaw Z.K) := by
  refine enterG (k := fuel + 8) (fnm := fnm) (has := has) Fn hb Sc (fun vs H Q h => ?_) fun X hZ hbase C vs H Q h => ?_
  · obtain ⟨a, ns, rfl, _⟩ := h
    rw [hps]; rfl
  · obtain ⟨a, ns, rfl, hq, hcap, hQ⟩ := h
    obtain ⟨pa, p1, p2, p3⟩ := Tb.pick
    have eK : X.K = Z.K := by rw [← hZ]
    have eM : X.mg = Z.mg := by rw [← hZ]
    have G : Gs ⟨N, fnm, has⟩ (fuel + 8) X Z.fa (run Φ fuel) := by
      refine ⟨fun y hy => by rw [eM]; exact Tb.bl y hy, fun g hg => by rw [eM]; exact Tb.mg g hg, fun g => ⟨by rw [eK]; exact Tb.kp g, ?_⟩, pa, by rw [eM]; exact p1, by rw [eK]; exact p2, ?_⟩
      · rw [hZ, hbase]; exact all_fnG Tb fuel g
      · rw [hZ, hbase]; exact p3.mono (by omega)
    generalize C8.fnBody st = body at hm
    unfold mLaw at hm
    split at hm
    · rename_i y py z pz w pw p1' p2' r
      simp only [nmOk, Bool.and_eq_true, Bool.not_eq_true'] at hm
      obtain ⟨⟨⟨⟨h1, h2⟩, h3, _⟩, h4⟩, h5⟩ := hm
      obtain ⟨s1, s2⟩ := stoOk_ok h1
      obtain ⟨rfl, hg⟩ := gblOk_ok C h2
      obtain ⟨v1, v2, v3, v4⟩ := varOk_ok h4
      have Gf : FnG (zOf X Z.fa) X.base (fuel + 8) fs (spSrc X.K) := by rw [hZ, hbase, eK]; exact Gs0.mono (by omega)
      have hcall := pe_callG (p := pz) (pos := p1') Gf C hg (by rw [eM]; exact hsrc) (by rw [eK]; exact hkeep) (pa_cons (pe_var (pos := pw) (i := 0) (by rw [C.hN]; exact v1) (C.vis v2) v3 v4) pa_nil rfl) h3 rfl
      have rest := mSs_ok (cl := run Φ fuel) df.body (C8.fnScope st) X r C G h5
      refine ⟨_, pss_cons (ps_set C.nd (by rw [C.hN]; exact s1) (C.loc s2).1 hcall rfl (C.loc s2).2) rest, ?_⟩
      have hst : L2.start N [V.ref a] = some (.ref a) :: none :: List.replicate df.nl none := by
        unfold L2.start
        rw [hN]
        show [some (V.ref a)] ++ List.replicate (df.nl + 2 - 1) none = _
        have e : df.nl + 2 - 1 = df.nl + 1 := by omega
        rw [e, List.replicate_succ]
        rfl
      rw [hst]
      refine ⟨_, rfl, a, ns, rfl, by rw [eK]; exact hq, hcap, fun S H' hs hle n1 n2 => ?_⟩
      show rdS (zOf X Z.fa) (evSs (run Φ fuel) df.body) _ (some (.ref a) :: some (.ref S.s) :: List.replicate df.nl none) H'
      refine ⟨S, fun _ => none, H', [], .u :: .vl .src :: List.replicate df.nl .u, fun _ => none, ?_, M.all_mono (fun q hq => ?_) hlaw⟩
      · have get : ∀ (i : Nat) (s : Sl), (Sl.u :: Sl.vl .src :: List.replicate df.nl Sl.u)[i]? = some s → (i = 1 ∧ s = .vl .src) ∨ s = .u := fun i s h => by
          match i, h with
          | 0, h => right; simpa using h.symm
          | 1, h => left; exact ⟨rfl, by simpa using h.symm⟩
          | i + 2, h =>
            right
            have h : (List.replicate df.nl Sl.u)[i]? = some s := by simpa using h
            rw [List.getElem?_replicate] at h
            split at h
            · exact (Option.some.inj h).symm
            · cases h
        have noow : ∀ (i : Nat) (x : D), (Sl.u :: Sl.vl .src :: List.replicate df.nl Sl.u)[i]? ≠ some (.ow x) := fun i x h => by
          rcases get i _ h with ⟨_, e⟩ | e <;> cases e
        refine ⟨hs, fun a o e => (by cases e), rfl, rfl, fun a o e _ _ => e, fun a o e => e, fun _ _ _ => rfl, by simp, fun i x h => ?_, fun i x h => absurd h (noow i x), fun q hq => absurd hq (by simp), fun i j x y p h => absurd h (noow i x), fun i x p h => absurd h (noow i x), List.nodup_nil⟩
        rcases get i _ h with ⟨rfl, e⟩ | e
        · cases e
          exact ⟨.ref S.s, rfl, rfl⟩
        · cases e
      · obtain ⟨f, env⟩ := q
        cases (show f = .rt (.bl true) from hq)
        exact fun v σ' H2 F' R l rp => by
          cases (show v = V.bl true from rp)
          exact hQ H2
    · cases hm
end
end Bq

set_option Elab.async false
set_option autoImplicit false
set_option linter.all false
set_option maxRecDepth 100000
/-! The end: the law's call behind the top. -/
namespace Bq
open PySem PySem.Spec PyProof.Rows L2 StX
/-- the script alone is tracked, and stays as it is (or nothing is, where the script is the module's own) -/
def scrH (a : Addr) (f : HO) (on : Bool) : Hp := fun b => if on = true ∧ b = a then some f else none
theorem law_callG {Z : Wd} {mb : Str → Option Value} {k : Nat} {fa a : Addr} {s₁ : Shared} {vs : List Value} {ns : List Int}
    (KX : Z.K.In s₁.heap) (hns : s₁.heap.Ns mainGlobals Z.mg) (hb : s₁.heap.Ns builtinsNs mb) (hbb : ∀ x : Str, x ≠ "__name__" → mb x = bootBuiltins x) (hlim : s₁.heap.NoLimit) (hg : s₁.gens = #[])
    (ha : s₁.heap.get? a = some { cls := .type "list", data := .seq vs.toArray }) (hi : IntsAre vs ns) (hl : ns.length ≤ cap) (hr : Room k callerA)
    (F : ∀ base : Heap, Z.K.In base → base.Ns mainGlobals Z.mg → FnG Z base k fa (spLaw Z.K)) :
    codeAny (model Z.P Z.w) callerA (.call (.ref fa) ⟨[.ref a], []⟩) (fun r s' => r = .ok (.ret (.bool true)) ∧ OldK s₁.heap s'.heap ∧ s'.os = s₁.os ∧ AllBare s'.gens) s₁ := by
  have rv : Vals (ns.map V.int) vs := vals_ints hi
  obtain ⟨f, hf⟩ : ∃ f : HO, f = .frz { cls := .type "list", data := .seq vs.toArray } (.lst (ns.map V.int)) := ⟨_, rfl⟩
  obtain ⟨on, hon⟩ : ∃ on : Bool, on = (Z.K.lookup a).isNone := ⟨_, rfl⟩
  obtain ⟨H, hH⟩ : ∃ H : Hp, H = scrH a f on := ⟨_, rfl⟩
  have at_a : ∀ b o, H b = some o → on = true ∧ b = a ∧ o = f := fun b o e => by
    subst hH
    unfold scrH at e
    split at e
    · rename_i h; exact ⟨h.1, h.2, (Option.some.inj e).symm⟩
    · cases e
  have off_d : ∀ (b : Addr) (o : Obj) (es : Array DictEntry) (ep : Nat), s₁.heap.get? b = some o → o.data = .dict es ep → H b = none := fun b o es ep e d => by
    cases q : H b with
    | none => rfl
    | some u =>
      obtain ⟨_, rfl, _⟩ := at_a b u q
      rw [ha] at e; cases e
      exact nomatch (show Data.seq vs.toArray _ = Data.dict es ep from d)
  have off_k : ∀ (b : Addr) (o : Obj), Z.K.lookup b = some o → H b = none := fun b o e => by
    cases q : H b with
    | none => rfl
    | some u =>
      obtain ⟨h1, rfl, _⟩ := at_a b u q
      rw [hon, e] at h1; cases h1
  have hok : HOk Z.P Z.w H s₁.heap := fun b u q => by
    obtain ⟨_, rfl, rfl⟩ := at_a b u q
    rw [hf]
    exact ⟨ha, by rw [List.length_map]; exact cap_le hl, vs, _, rv, ha⟩
  have sq : SqL Z.K H a (ns.map V.int) := by
    cases q : Z.K.lookup a with
    | some o =>
      have e := KX a o q
      rw [ha] at e; cases e
      exact .inr ⟨_, vs.toArray, _, q, rfl, rfl, rfl, by rw [List.size_toArray, hi.length]; exact cap_le hl, by simpa using rv⟩
    | none =>
      refine .inl (.inr ⟨{ cls := .type "list", data := .seq vs.toArray }, ?_⟩)
      rw [hH, ← hf]
      exact if_pos ⟨by rw [hon, q]; rfl, rfl⟩
  have nsB : ∀ {b : Addr} {m : Str → Option Value}, s₁.heap.Ns b m → (hidT s₁.heap H).Ns b m := fun {b m} ⟨o, es, ep, e, d, r⟩ => ⟨o, es, ep, hidT_get e (off_d b o es ep e d), d, r⟩
  have hKb : Z.K.In (hidT s₁.heap H) := fun b o e => hidT_get (KX b o e) (off_k b o e)
  have hM : Mod Z.K Z.mg (hidT s₁.heap H) := ⟨hKb, nsB hns, ⟨mb, nsB hb, hbb⟩, let ⟨mc, h1, h2⟩ := hlim; ⟨mc, nsB h1, h2⟩⟩
  have e0 : Env0 Z.P Z.w Z.K Z.mg (hidT s₁.heap H) callerA [] s₁ H := ⟨rfl, hM, fun b o e => of_hidT e, Nat.le_of_eq (hidT_size _ _), trivial, fun b hb => (nomatch hb), hok, .of_eq hg⟩
  refine codeAny_mono (F _ hKb (nsB hns) callerA [] s₁ H [.ref a] [.ref a] (fun v _ => v = .bl true) hr rfl e0 (.cons rfl .nil) ⟨a, ns, rfl, sq, hl, fun _ => rfl⟩) fun r s' h => ?_
  cases r with
  | error e => exact h.elim
  | ok fl =>
    cases fl with
    | next => exact False.elim h
    | brk => exact False.elim h
    | cont => exact False.elim h
    | ret u =>
      obtain ⟨v, H', os, bare, un, hok', r', q⟩ := h
      have q : v = .bl true := q
      subst q
      obtain rfl : u = Value.bool true := r'
      refine ⟨rfl, OldK.of_keep fun b o e => ?_, os, bare⟩
      cases q : H b with
      | none => exact un.keep b o e q (fun z => (nomatch z)) (by simp)
      | some w =>
        obtain ⟨_, rfl, rfl⟩ := at_a b w q
        rw [hf] at q
        obtain ⟨e2, _⟩ := hok' _ _ (un.frzs _ _ _ q)
        rw [ha] at e; cases e
        exact e2
theorem walk_ofG {l : PySem.W.OpenLaw} {n k : Nat} {q : Program} {loose : List Str} {XP : (Str → Option Value) → Heap → Prop} {YP : World → Heap → Prop} {d : DefRec} {K : Params → PySem.W.Frag} {fa' : Addr → Nat → Addr}
    (hn : l.most = some n) (hn2 : n ≤ cap) (hdf : d.params.defaults = []) (hr : Room k callerA) (hY : ∀ (w : World) (h : Heap), YP w h → (K w.params).In h)
    (F : ∀ (w : World) (mg : Str → Option Value) (fa : Addr) (h : Heap), (K w.params).In h → h.Ns mainGlobals mg → mg d.name = some (.ref fa) →
      ∀ base : Heap, (K w.params).In base → base.Ns mainGlobals mg → FnG ⟨l.prog, w, K w.params, mg, fa' fa⟩ base k fa (spLaw (K w.params))) :
    PySem.W.WalkO q loose XP YP l.row.toRowW d [] (fun f vs => PySem.call f vs) := by
  refine Att.attach_call hn hdf fun w s₀ s₁ mg mb fa o pm cd doc a vs ns G Y ho hd hcd hmg hobj hints hlen hg => ?_
  have KX := hY w _ Y
  exact law_callG (Z := ⟨l.prog, w, K w.params, mg, fa' fa⟩) KX G.T.g G.T.b G.T.builtins G.T.nolimit hg hobj hints (Nat.le_trans hlen hn2) hr (F w mg fa _ KX G.T.g hmg)
end Bq

set_option Elab.async false
set_option autoImplicit false
set_option linter.all false
set_option maxRecDepth 100000
/-! Small things for a law's head. -/
namespace Bq
open PySem PySem.Spec PyProof.Rows L2 StX
theorem CxOk.hu1 {c : Cm} {k : Nat} {sc : Scope} {X : Cx} (C : CxOk c k sc X) : X.A.units + 1 < cLine := by have := C.hu; omega
theorem fm {α : Type} {P : α → Prop} {p : α} {r : List α} (h : P p) (t : ∀ q ∈ r, P q) : ∀ q ∈ p :: r, P q := fun q hq => by
  rcases List.mem_cons.mp hq with rfl | hq
  · exact h
  · exact t q hq
theorem fm0 {α : Type} {P : α → Prop} : ∀ q ∈ ([] : List α), P q := fun _ h => nomatch h
theorem lookup_all {β : Type} {P : Nat → β → Prop} : ∀ {L : List (Nat × β)}, (∀ p ∈ L, P p.1 p.2) → ∀ g b, L.lookup g = some b → P g b
  | [], _, _, _, e => nomatch e
  | (k, v) :: r, h, g, b, e => by
    rw [List.lookup_cons] at e
    cases hb : g == k with
    | true =>
      rw [hb] at e
      cases e
      have hk : g = k := eq_of_beq hb
      subst hk
      exact h _ List.mem_cons_self
    | false =>
      rw [hb] at e
      exact lookup_all (fun p hp => h p (List.mem_cons_of_mem _ hp)) g b e
def faOf (As : List (Nat × Addr)) (d : Addr) : Nat → Addr := fun g => (As.lookup g).getD d
theorem kp_of {K : PySem.W.Frag} {As : List (Nat × Addr)} {d : Addr} (hd : PySem.W.keepIn K (.ref d) = true) (h : ∀ p ∈ As, PySem.W.keepIn K (.ref p.2) = true) (g : Nat) : PySem.W.keepIn K (.ref (faOf As d g)) = true := by
  unfold faOf
  cases e : As.lookup g with
  | none => exact hd
  | some a => exact lookup_all (P := fun _ a => PySem.W.keepIn K (.ref a) = true) h g a e
theorem mg_all {mg : Str → Option Value} {names : List (Nat × Str)} {fa : Nat → Addr} (h : ∀ p ∈ names, mg p.2 = some (.ref (fa p.1))) (g : Nat) (hg : (names.lookup g).isSome = true) : mg ((names.lookup g).getD "") = some (.ref (fa g)) := by
  cases e : names.lookup g with
  | none => rw [e] at hg; cases hg
  | some x => exact lookup_all (P := fun g x => mg x = some (.ref (fa g))) h g x e
end Bq

set_option Elab.async false
set_option linter.all false
set_option maxRecDepth 100000
namespace Bq
def d1_is_bit_number : Df := { np := 2, nl := 0, body := (.cons (.ret (.bop true (.cons (.bi (.isi .int) (.cons (.v 1) .nil)) (.cons (.nt (.bi (.isi .bool) (.cons (.v 1) .nil))) (.cons (.chn .le .lt (.int 0) (.v 1) (.v 0)) .nil))))) .nil) }
def d2_b0 : Sts := (.cons (.asg 3 (.pop 2)) (.cons (.iff (.bop false (.cons (.nt (.bi (.isi .tuple) (.cons (.v 3) .nil))) (.cons (.cmp .nmem (.bi .len (.cons (.v 3) .nil)) (.tup (.cons (.int 2) (.cons (.int 3) .nil)))) (.cons (.nt (.bi (.isi .str) (.cons (.ix (.v 3) (.int 0)) .nil))) .nil)))) (.cons (.ret (.bl false)) .nil) .nil) (.cons (.iff (.cmp .eq (.bi .len (.cons (.v 3) .nil)) (.int 2)) (.cons (.iff (.bop false (.cons (.cmp .nmem (.ix (.v 3) (.int 0)) (.tup (.cons (.str "bit") (.cons (.str "not") .nil)))) (.cons (.nt (.call 1 (.cons (.v 0) (.cons (.ix (.v 3) (.int 1)) .nil)))) .nil))) (.cons (.ret (.bl false)) .nil) .nil) .nil) (.cons (.iff (.cmp .nmem (.ix (.v 3) (.int 0)) (.tup (.cons (.str "and") (.cons (.str "or") .nil)))) (.cons (.ret (.bl false)) .nil) .nil) (.cons (.asg 2 (.lst (.star (.v 2) (.cons (.ix (.v 3) (.int 1)) (.cons (.ix (.v 3) (.int 2)) .nil))))) .nil))) .nil)))
def d2_w0 : St := .wh (.cmp .ne (.v 2) (.lst .nil)) d2_b0
def d2_is_leaf_formula : Df := { np := 2, nl := 2, body := (.cons (.asg 2 (.lst (.cons (.v 1) .nil))) (.cons d2_w0 (.cons (.ret (.bl true)) .nil))) }
def d3_b0 : Sts := (.cons (.asg 3 (.pop 1)) (.cons (.iff (.cmp .eq (.bi .len (.cons (.v 3) .nil)) (.int 2)) (.cons (.asg 2 (.bin .add (.v 2) (.int 1))) .nil) (.cons (.asg 1 (.lst (.star (.v 1) (.cons (.ix (.v 3) (.int 1)) (.cons (.ix (.v 3) (.int 2)) .nil))))) .nil)) .nil))
def d3_w0 : St := .wh (.cmp .ne (.v 1) (.lst .nil)) d3_b0
def d3_leaves_in : Df := { np := 1, nl := 3, body := (.cons (.par [1, 2] (.cons (.lst (.cons (.v 0) .nil)) (.cons (.int 0) .nil))) (.cons d3_w0 (.cons (.ret (.v 2)) .nil))) }
def d4_b0 : Sts := (.cons (.asg 0 (.bin .fdiv (.v 0) (.int 2))) .nil)
def d4_f0 : St := .fr (.nm 3) (.rg1 (.v 1)) d4_b0
def d4_bit_in : Df := { np := 3, nl := 1, body := (.cons d4_f0 (.cons (.ret (.bin .mod (.bin .add (.v 0) (.bi .int (.cons (.v 2) .nil))) (.int 2))) .nil)) }
def d5_l0 : Ex := .lc (.call 4 (.cons (.v 10) (.cons (.ix (.v 9) (.int 1)) (.cons (.cmp .eq (.ix (.v 9) (.int 0)) (.str "not")) .nil)))) (.nm 10) (.rg1 (.v 2)) .nil [10] []
def d5_l1 : Ex := .lc (.ite (.v 13) (.bi .min2 (.cons (.v 14) (.cons (.v 15) .nil))) (.bi .max2 (.cons (.v 14) (.cons (.v 15) .nil)))) (.tp [(.nm 14), (.nm 15)]) (.zip (.cons (.v 11) (.cons (.v 12) .nil)) true) .nil [14, 15] []
def d5_b0 : Sts := (.cons (.asg 9 (.ix (.v 4) (.v 8))) (.cons (.iff (.isN true (.ix (.v 6) (.v 8))) (.cons (.setI 7 (.v 8) d5_l0) .nil) (.cons (.par [11, 12] (.cons (.ix (.v 7) (.ix (.ix (.v 6) (.v 8)) (.int 0))) (.cons (.ix (.v 7) (.ix (.ix (.v 6) (.v 8)) (.int 1))) .nil))) (.cons (.asg 13 (.cmp .eq (.ix (.v 9) (.int 0)) (.str "and"))) (.cons (.setI 7 (.v 8) d5_l1) .nil)))) .nil))
def d5_f0 : St := .fr (.nm 8) (.rg3 (.bin .sub (.bi .len (.cons (.v 4) .nil)) (.int 1)) (.neg (.int 1)) (.neg (.int 1))) d5_b0
def d5_b1 : Sts := (.cons (.app 6 (.ite (.cmp .eq (.bi .len (.cons (.ix (.v 4) (.v 5)) .nil)) (.int 3)) (.tup (.cons (.bi .len (.cons (.v 4) .nil)) (.cons (.bin .add (.bi .len (.cons (.v 4) .nil)) (.int 1)) .nil))) .non)) (.cons (.iff (.cmp .eq (.bi .len (.cons (.ix (.v 4) (.v 5)) .nil)) (.int 3)) (.cons (.asg 4 (.lst (.star (.v 4) (.cons (.ix (.ix (.v 4) (.v 5)) (.int 1)) (.cons (.ix (.ix (.v 4) (.v 5)) (.int 2)) .nil))))) .nil) .nil) (.cons (.asg 5 (.bin .add (.v 5) (.int 1))) .nil)))
def d5_w0 : St := .wh (.cmp .lt (.v 5) (.bi .len (.cons (.v 4) .nil))) d5_b1
def d5_b2 : Sts := (.cons (.asg 2 (.bin .mul (.v 2) (.int 2))) .nil)
def d5_f1 : St := .fr (.nm 3) (.rg1 (.v 0)) d5_b2
def d5_answers_told : Df := { np := 2, nl := 14, body := (.cons (.asg 2 (.int 1)) (.cons d5_f1 (.cons (.par [4, 5, 6] (.cons (.lst (.cons (.v 1) .nil)) (.cons (.int 0) (.cons (.lst .nil) .nil)))) (.cons d5_w0 (.cons (.asg 7 (.dnew false)) (.cons d5_f0 (.cons (.ret (.bi .tuple (.cons (.ix (.v 7) (.int 0)) .nil))) .nil))))))) }
def d6_b0 : Sts := (.cons (.app 1 (.bin .mul (.int 2) (.bin .add (.ix (.v 1) (.bin .fdiv (.v 2) (.int 2))) (.ix (.v 1) (.bin .sub (.v 2) (.bin .fdiv (.v 2) (.int 2))))))) .nil)
def d6_f0 : St := .fr (.nm 2) (.rg2 (.int 2) (.bin .add (.v 0) (.int 1))) d6_b0
def d6_halved_leaves : Df := { np := 1, nl := 2, body := (.cons (.asg 1 (.lst (.cons (.int 0) (.cons (.int 1) .nil)))) (.cons d6_f0 (.cons (.ret (.ix (.v 1) (.v 0))) .nil))) }
def d7_halved_pair : Df := { np := 2, nl := 4, body := (.cons (.iff (.cmp .eq (.v 1) (.int 1)) (.cons (.ret (.tup (.cons (.tup (.cons (.str "bit") (.cons (.v 0) .nil))) (.cons (.tup (.cons (.str "not") (.cons (.v 0) .nil))) .nil)))) .nil) .nil) (.cons (.asgT (.tp [(.nm 2), (.nm 3)]) (.call 7 (.cons (.v 0) (.cons (.bin .fdiv (.v 1) (.int 2)) .nil)))) (.cons (.asgT (.tp [(.nm 4), (.nm 5)]) (.call 7 (.cons (.bin .add (.v 0) (.bin .fdiv (.v 1) (.int 2))) (.cons (.bin .sub (.v 1) (.bin .fdiv (.v 1) (.int 2))) .nil)))) (.cons (.ret (.tup (.cons (.tup (.cons (.str "or") (.cons (.tup (.cons (.str "and") (.cons (.v 2) (.cons (.v 5) .nil)))) (.cons (.tup (.cons (.str "and") (.cons (.v 3) (.cons (.v 4) .nil)))) .nil)))) (.cons (.tup (.cons (.str "or") (.cons (.tup (.cons (.str "and") (.cons (.v 2) (.cons (.v 4) .nil)))) (.cons (.tup (.cons (.str "and") (.cons (.v 3) (.cons (.v 5) .nil)))) .nil)))) .nil)))) .nil)))) }
def d8_halved_formula : Df := { np := 2, nl := 2, body := (.cons (.asgT (.tp [(.nm 2), (.nm 3)]) (.call 7 (.cons (.int 0) (.cons (.v 0) .nil)))) (.cons (.ret (.ite (.v 1) (.v 2) (.v 3))) .nil)) }
def d9_b0 : Sts := (.cons (.app 2 (.bin .add (.v 1) (.bin .mul (.v 3) (.bin .sub (.int 1) (.bin .mul (.int 2) (.bin .mod (.bin .fdiv (.v 1) (.v 3)) (.int 2))))))) (.cons (.asg 3 (.bin .mul (.v 3) (.int 2))) .nil))
def d9_f0 : St := .fr (.nm 4) (.rg1 (.v 0)) d9_b0
def d9_input_neighbours : Df := { np := 2, nl := 3, body := (.cons (.par [2, 3] (.cons (.lst .nil) (.cons (.int 1) .nil))) (.cons d9_f0 (.cons (.ret (.v 2)) .nil))) }
def d10_l0 : Ex := .lc (.v 3) (.nm 3) (.seq (.call 9 (.cons (.v 0) (.cons (.v 4) .nil)))) (.cons (.cmp .mem (.v 3) (.v 2)) .nil) [3] []
def d10_l1 : Ex := .lc (.bi .len (.cons d10_l0 .nil)) (.nm 4) (.seq (.v 1)) .nil [4] [3, 0]
def d10_across_pairs : Df := { np := 3, nl := 2, body := (.cons (.ret (.bi .sum (.cons d10_l1 .nil))) .nil) }
def d11_l0 : Ex := .lc (.cmp .eq (.ix (.v 4) (.v 5)) (.int 0)) (.nm 5) (.seq (.v 3)) .nil [5] []
def d11_l1 : Ex := .lc (.cmp .eq (.ix (.v 4) (.v 5)) (.int 1)) (.nm 5) (.seq (.v 2)) .nil [5] []
def d11_does_part_lots : Df := { np := 4, nl := 2, body := (.cons (.asg 4 (.call 5 (.cons (.v 0) (.cons (.v 1) .nil)))) (.cons (.ret (.bop true (.cons (.bi .all (.cons d11_l1 .nil)) (.cons (.bi .all (.cons d11_l0 .nil)) .nil)))) .nil)) }
def d12_leaves_by_lots : Df := { np := 3, nl := 2, body := (.cons (.par [3, 4] (.cons (.call 10 (.cons (.v 0) (.cons (.v 1) (.cons (.v 2) .nil)))) (.cons (.bin .mul (.bi .len (.cons (.v 1) .nil)) (.bi .len (.cons (.v 2) .nil))) .nil))) (.cons (.ret (.bin .fdiv (.bin .sub (.bin .add (.bin .mul (.v 3) (.v 3)) (.v 4)) (.int 1)) (.v 4))) .nil)) }
def d13_b0 : Sts := (.cons (.asg 1 (.bin .mul (.v 1) (.int 2))) .nil)
def d13_f0 : St := .fr (.nm 2) (.rg1 (.v 0)) d13_b0
def d13_law_two : Df := { np := 1, nl := 2, body := (.cons (.asg 1 (.int 1)) (.cons d13_f0 (.cons (.ret (.v 1)) .nil))) }
def d14_law_bit : Df := { np := 2, nl := 0, body := (.cons (.ret (.bin .mod (.bi .int (.cons (.bin .fdiv (.v 0) (.call 13 (.cons (.v 1) .nil))) .nil)) (.int 2))) .nil) }
def d15_b0 : Sts := (.cons (.app 2 (.bi .len (.cons (.v 1) .nil))) (.cons (.par [1, 3] (.cons (.bin .add (.v 1) (.bi .list (.cons (.ite (.cmp .eq (.bi .len (.cons (.ix (.v 1) (.v 3)) .nil)) (.int 3)) (.sl (.ix (.v 1) (.v 3)) (.so (.int 1)) .no) (.tup .nil)) .nil))) (.cons (.bin .add (.v 3) (.int 1)) .nil))) .nil))
def d15_w0 : St := .wh (.cmp .lt (.v 3) (.bi .len (.cons (.v 1) .nil))) d15_b0
def d15_law_row : Df := { np := 1, nl := 3, body := (.cons (.par [1, 2, 3] (.cons (.lst (.cons (.v 0) .nil)) (.cons (.lst .nil) (.cons (.int 0) .nil)))) (.cons d15_w0 (.cons (.ret (.tup (.cons (.v 1) (.cons (.v 2) .nil)))) .nil))) }
def d16_l0 : Ex := .lc (.v 1) (.nm 1) (.seq (.ix (.call 15 (.cons (.v 0) .nil)) (.int 0))) (.cons (.cmp .eq (.bi .len (.cons (.v 1) .nil)) (.int 2)) .nil) [1] []
def d16_law_leaves : Df := { np := 1, nl := 1, body := (.cons (.ret (.bi .len (.cons d16_l0 .nil))) .nil) }
def d17_l0 : Ex := .lc (.v 6) (.nm 6) (.seq (.v 1)) (.cons (.cmp .mem (.ite (.cmp .eq (.call 14 (.cons (.v 6) (.cons (.v 4) .nil))) (.int 0)) (.bin .add (.v 6) (.v 5)) (.bin .sub (.v 6) (.v 5))) (.v 2)) .nil) [6] [4]
def d17_b0 : Sts := (.cons (.asg 5 (.call 13 (.cons (.v 4) .nil))) (.cons (.asg 3 (.bin .add (.v 3) (.bi .len (.cons d17_l0 .nil)))) .nil))
def d17_f0 : St := .fr (.nm 4) (.rg1 (.v 0)) d17_b0
def d17_law_across : Df := { np := 3, nl := 4, body := (.cons (.asg 3 (.int 0)) (.cons d17_f0 (.cons (.ret (.v 3)) .nil))) }
def d18_b0 : Sts := (.cons (.iff (.cmp .eq (.v 2) (.int 1)) (.cons (.setI 1 (.tup (.cons (.v 3) (.cons (.v 2) .nil))) (.tup (.cons (.tup (.cons (.str "bit") (.cons (.v 3) .nil))) (.cons (.tup (.cons (.str "not") (.cons (.v 3) .nil))) .nil)))) .nil) (.cons (.asgT (.tp [(.nm 4), (.nm 5)]) (.ix (.v 1) (.tup (.cons (.v 3) (.cons (.bin .fdiv (.v 2) (.int 2)) .nil))))) (.cons (.asgT (.tp [(.nm 6), (.nm 7)]) (.ix (.v 1) (.tup (.cons (.bin .add (.v 3) (.bin .fdiv (.v 2) (.int 2))) (.cons (.bin .sub (.v 2) (.bin .fdiv (.v 2) (.int 2))) .nil))))) (.cons (.asg 8 (.tup (.cons (.str "or") (.cons (.tup (.cons (.str "and") (.cons (.v 4) (.cons (.v 7) .nil)))) (.cons (.tup (.cons (.str "and") (.cons (.v 5) (.cons (.v 6) .nil)))) .nil))))) (.cons (.setI 1 (.tup (.cons (.v 3) (.cons (.v 2) .nil))) (.tup (.cons (.v 8) (.cons (.tup (.cons (.str "or") (.cons (.tup (.cons (.str "and") (.cons (.v 4) (.cons (.v 6) .nil)))) (.cons (.tup (.cons (.str "and") (.cons (.v 5) (.cons (.v 7) .nil)))) .nil)))) .nil)))) .nil))))) .nil)
def d18_f0 : St := .fr (.nm 3) (.rg1 (.bin .add (.bin .sub (.v 0) (.v 2)) (.int 1))) d18_b0
def d18_b1 : Sts := (.cons d18_f0 .nil)
def d18_f1 : St := .fr (.nm 2) (.rg2 (.int 1) (.bin .add (.v 0) (.int 1))) d18_b1
def d18_law_halved : Df := { np := 1, nl := 8, body := (.cons (.asg 1 (.dnew true)) (.cons d18_f1 (.cons (.ret (.ix (.v 1) (.tup (.cons (.int 0) (.cons (.v 0) .nil))))) .nil))) }
def d49_law_of : Df := { np := 2, nl := 0, body := (.cons (.ret (.ix (.v 1) (.pick 0 (.bi .len (.cons (.v 1) .nil))))) .nil) }
def d50_b0 : Sts := (.cons (.asg 5 (.popAt 3 (.pick 0 (.bi .len (.cons (.v 3) .nil))))) (.cons (.asg 6 (.popAt 3 (.pick 0 (.bi .len (.cons (.v 3) .nil))))) (.cons (.app 3 (.tup (.cons (.call 49 (.cons (.v 0) (.cons (.lst (.cons (.str "and") (.cons (.str "or") .nil))) .nil))) (.cons (.v 5) (.cons (.v 6) .nil))))) .nil)))
def d50_w0 : St := .wh (.cmp .gt (.bi .len (.cons (.v 3) .nil)) (.int 1)) d50_b0
def d50_b1 : Sts := (.cons (.app 3 (.tup (.cons (.call 49 (.cons (.v 0) (.cons (.lst (.cons (.str "bit") (.cons (.str "not") .nil))) .nil))) (.cons (.pick 0 (.v 1)) .nil)))) .nil)
def d50_f0 : St := .fr (.nm 4) (.rg1 (.bin .add (.int 1) (.pick 0 (.v 2)))) d50_b1
def d50_law_formula : Df := { np := 3, nl := 4, body := (.cons (.asg 3 (.lst .nil)) (.cons d50_f0 (.cons d50_w0 (.cons (.ret (.ix (.v 3) (.int 0))) .nil)))) }
def d51_l0 : Ex := .lc (.bi .int (.cons (.cmp .eq (.call 14 (.cons (.v 8) (.cons (.ix (.v 6) (.int 1)) .nil))) (.bi .int (.cons (.cmp .eq (.ix (.v 6) (.int 0)) (.str "bit")) .nil))) .nil)) (.nm 8) (.rg1 (.call 13 (.cons (.v 0) .nil))) .nil [8] []
def d51_l1 : Ex := .lc (.ite (.cmp .eq (.ix (.v 6) (.int 0)) (.str "and")) (.bi (.min1 (.int)) (.cons (.v 10) .nil)) (.bi (.max1 (.int)) (.cons (.v 10) .nil))) (.nm 10) (.seq (.v 9)) .nil [10] []
def d51_b0 : Sts := (.cons (.par [6, 7] (.cons (.ix (.v 2) (.v 5)) (.cons (.ix (.v 3) (.v 5)) .nil))) (.cons (.iff (.cmp .mem (.ix (.v 6) (.int 0)) (.tup (.cons (.str "bit") (.cons (.str "not") .nil)))) (.cons (.setI 4 (.v 5) d51_l0) .nil) (.cons (.asg 9 (.bi .zipl (.cons (.ix (.v 4) (.v 7)) (.cons (.ix (.v 4) (.bin .add (.v 7) (.int 1))) .nil)))) (.cons (.setI 4 (.v 5) d51_l1) .nil))) .nil))
def d51_f0 : St := .fr (.nm 5) (.rg3 (.bin .sub (.bi .len (.cons (.v 2) .nil)) (.int 1)) (.neg (.int 1)) (.neg (.int 1))) d51_b0
def d51_law_answers : Df := { np := 2, nl := 9, body := (.cons (.asgT (.tp [(.nm 2), (.nm 3)]) (.call 15 (.cons (.v 1) .nil))) (.cons (.asg 4 (.dnew false)) (.cons d51_f0 (.cons (.ret (.bi .tuple (.cons (.ix (.v 4) (.int 0)) .nil))) .nil)))) }
def d52_l0 : Ex := .lc (.v 3) (.nm 3) (.seq (.v 1)) (.cons (.cmp .gt (.pick 0 (.int 3)) (.int 0)) .nil) [3] [0]
def d52_law_some : Df := { np := 2, nl := 2, body := (.cons (.asg 2 d52_l0) (.cons (.ret (.bi .tuple (.cons (.ite (.cmp .ne (.v 2) (.lst .nil)) (.v 2) (.sl (.v 1) .no (.so (.int 1)))) .nil))) .nil)) }
def d56_l0 : Ex := .lc (.tup (.star (.v 3) (.cons (.v 2) .nil))) (.nm 3) (.seq (.v 1)) .nil [3] [2]
def d56_b0 : Sts := (.cons (.asg 1 (.bin .add (.v 1) d56_l0)) .nil)
def d56_f0 : St := .fr (.nm 2) (.seq (.v 0)) d56_b0
def d56_lots_of_some : Df := { np := 1, nl := 3, body := (.cons (.asg 1 (.lst (.cons (.tup .nil) .nil))) (.cons d56_f0 (.cons (.ret (.sl (.v 1) (.so (.int 1)) .no)) .nil))) }
def d57_l0 : Ex := .lc (.v 5) (.tp [(.nm 5), (.nm 6)]) (.enu (.v 2)) (.cons (.cmp .eq (.v 6) (.int 1)) .nil) [5, 6] []
def d57_l1 : Ex := .lc (.v 5) (.tp [(.nm 5), (.nm 6)]) (.enu (.v 2)) (.cons (.cmp .eq (.v 6) (.int 0)) .nil) [5, 6] []
def d57_b0 : Sts := (.cons (.asg 3 (.bi .max2 (.cons (.v 3) (.cons (.call 12 (.cons (.v 1) (.cons (.v 4) (.cons (.v 7) .nil)))) .nil)))) .nil)
def d57_f0 : St := .fr (.nm 7) (.seq (.call 56 (.cons d57_l1 .nil))) d57_b0
def d57_b1 : Sts := (.cons d57_f0 .nil)
def d57_f1 : St := .fr (.nm 4) (.seq (.call 56 (.cons d57_l0 .nil))) d57_b1
def d57_best_lots : Df := { np := 1, nl := 7, body := (.cons (.asgT (.tp [(.nm 1), (.nm 2)]) (.v 0)) (.cons (.asg 3 (.int 0)) (.cons d57_f1 (.cons (.ret (.v 3)) .nil)))) }
def d58_l0 : Ex := .lc (.bin .add (.v 3) (.tup (.cons (.v 2) .nil))) (.nm 3) (.seq (.v 1)) .nil [3] [2]
def d58_b0 : Sts := (.cons (.asg 1 (.bin .add (.v 1) d58_l0)) .nil)
def d58_f0 : St := .fr (.nm 2) (.seq (.v 0)) d58_b0
def d58_law_all : Df := { np := 1, nl := 3, body := (.cons (.asg 1 (.lst (.cons (.tup .nil) .nil))) (.cons d58_f0 (.cons (.ret (.sl (.v 1) (.so (.int 1)) .no)) .nil))) }
def d60_l0 : Ex := .lc (.popAt 2 (.pick 0 (.bi .len (.cons (.v 2) .nil)))) (.nm 3) (.rg1 (.bi .len (.cons (.v 2) .nil))) .nil [3] [0]
def d60_law_mixed : Df := { np := 2, nl := 2, body := (.cons (.asg 2 (.bi .list (.cons (.v 1) .nil))) (.cons (.ret d60_l0) .nil)) }
def d61_b0 : Sts := (.cons (.par [7, 8] (.cons (.ix (.v 2) (.v 6)) (.cons (.ix (.v 3) (.v 6)) .nil))) (.cons (.asg 9 (.ite (.isN false (.v 1)) (.ix (.v 7) (.int 0)) (.ix (.v 5) (.ix (.v 7) (.int 0))))) (.cons (.iff (.cmp .eq (.bi .len (.cons (.v 7) .nil)) (.int 2)) (.cons (.setI 4 (.v 6) (.tup (.cons (.v 9) (.cons (.ite (.isN false (.v 1)) (.ix (.v 1) (.ix (.v 7) (.int 1))) (.ix (.v 7) (.int 1))) .nil)))) .nil) (.cons (.setI 4 (.v 6) (.tup (.cons (.v 9) (.cons (.ix (.v 4) (.v 8)) (.cons (.ix (.v 4) (.bin .add (.v 8) (.int 1))) .nil))))) .nil)) .nil)))
def d61_f0 : St := .fr (.nm 6) (.rg3 (.bin .sub (.bi .len (.cons (.v 2) .nil)) (.int 1)) (.neg (.int 1)) (.neg (.int 1))) d61_b0
def d61_law_led : Df := { np := 2, nl := 8, body := (.cons (.asgT (.tp [(.nm 2), (.nm 3)]) (.call 15 (.cons (.v 0) .nil))) (.cons (.par [4, 5] (.cons (.dnew false) (.cons (.dsp [.str "bit", .str "not", .str "and", .str "or"] (.cons (.str "not") (.cons (.str "bit") (.cons (.str "or") (.cons (.str "and") .nil))))) .nil))) (.cons d61_f0 (.cons (.ret (.ix (.v 4) (.int 0))) .nil)))) }
def d62_l0 : Ex := .lc (.ite (.cmp .ne (.v 26) (.tup .nil)) (.call 10 (.cons (.v 3) (.cons (.v 21) (.cons (.v 26) .nil)))) (.int 0)) (.nm 26) (.seq (.tup (.cons (.v 23) (.cons (.v 24) .nil)))) .nil [26] [3, 21]
def d62_l1 : Ex := .lc (.v 17) (.nm 17) (.seq (.v 22)) (.cons (.cmp .eq (.ix (.v 8) (.v 17)) (.int 1)) .nil) [17] []
def d62_l2 : Ex := .lc (.v 17) (.nm 17) (.seq (.v 22)) (.cons (.cmp .eq (.ix (.v 8) (.v 17)) (.int 0)) .nil) [17] []
def d62_i0 : Sts := (.cons (.par [21, 22] (.cons (.call 52 (.cons (.v 1) (.cons (.v 19) .nil))) (.cons (.call 52 (.cons (.v 1) (.cons (.v 20) .nil))) .nil))) (.cons (.asg 23 (.bi .tuple (.cons d62_l2 .nil))) (.cons (.asg 24 (.bi .tuple (.cons d62_l1 .nil))) (.cons (.asg 25 d62_l0) (.cons (.iff (.bop false (.cons (.cmp .ne (.bi .sum (.cons (.v 25) .nil)) (.call 10 (.cons (.v 3) (.cons (.v 21) (.cons (.v 22) .nil))))) (.cons (.bop true (.cons (.cmp .ne (.v 24) (.tup .nil)) (.cons (.nt (.call 11 (.cons (.v 3) (.cons (.v 5) (.cons (.v 21) (.cons (.v 24) .nil)))))) .nil))) .nil))) (.cons (.ret (.bl false)) .nil) .nil) (.cons (.iff (.bop false (.cons (.bop true (.cons (.cmp .ne (.v 23) (.tup .nil)) (.cons (.nt (.call 11 (.cons (.v 3) (.cons (.v 4) (.cons (.v 21) (.cons (.v 23) .nil)))))) .nil))) (.cons (.nt (.call 11 (.cons (.v 3) (.cons (.v 7) (.cons (.v 21) (.cons (.v 22) .nil)))))) .nil))) (.cons (.ret (.bl false)) .nil) .nil) (.cons (.iff (.cmp .gt (.bin .mul (.ix (.v 25) (.int 0)) (.ix (.v 25) (.int 0))) (.bin .mul (.bin .mul (.call 3 (.cons (.v 4) .nil)) (.bi .len (.cons (.v 21) .nil))) (.bi .len (.cons (.v 23) .nil)))) (.cons (.ret (.bl false)) .nil) .nil) (.cons (.iff (.cmp .gt (.bin .mul (.ix (.v 25) (.int 1)) (.ix (.v 25) (.int 1))) (.bin .mul (.bin .mul (.call 3 (.cons (.v 5) .nil)) (.bi .len (.cons (.v 21) .nil))) (.bi .len (.cons (.v 24) .nil)))) (.cons (.ret (.bl false)) .nil) .nil) .nil))))))))
def d62_l3 : Ex := .lc (.v 17) (.nm 17) (.rg1 (.call 13 (.cons (.v 3) .nil))) (.cons (.cmp .eq (.ix (.v 10) (.v 17)) (.int 0)) .nil) [17] []
def d62_l4 : Ex := .lc (.v 17) (.nm 17) (.rg1 (.call 13 (.cons (.v 3) .nil))) (.cons (.cmp .eq (.ix (.v 10) (.v 17)) (.int 1)) .nil) [17] []
def d62_l5 : Ex := .lc (.bin .sub (.int 1) (.v 11)) (.nm 11) (.seq (.v 10)) .nil [11] []
def d62_l6 : Ex := .lc (.bin .mul (.call 13 (.cons (.v 18) .nil)) (.call 14 (.cons (.v 17) (.cons (.ix (.v 13) (.v 18)) .nil)))) (.nm 18) (.rg1 (.v 3)) .nil [18] [17]
def d62_b0 : Sts := (.cons (.app 16 (.ix (.v 10) (.bi .sum (.cons d62_l6 .nil)))) .nil)
def d62_f0 : St := .fr (.nm 17) (.rg1 (.call 13 (.cons (.v 3) .nil))) d62_b0
def d62_l7 : Ex := .lc (.ite (.cmp .eq (.v 6) (.str "and")) (.bi .min2 (.cons (.v 11) (.cons (.v 12) .nil))) (.bi .max2 (.cons (.v 11) (.cons (.v 12) .nil)))) (.tp [(.nm 11), (.nm 12)]) (.zip (.cons (.v 8) (.cons (.v 9) .nil)) false) .nil [11, 12] []
def d62_b1 : Sts := (.cons (.asg 3 (.bin .add (.int 1) (.pick 1 (.ix (.lst (.cons (.int 2) (.cons (.int 3) (.cons (.int 4) (.cons (.int 5) .nil))))) (.v 2))))) (.cons (.par [4, 5] (.cons (.call 50 (.cons (.v 1) (.cons (.v 3) (.cons (.int 9) .nil)))) (.cons (.call 50 (.cons (.v 1) (.cons (.v 3) (.cons (.int 9) .nil)))) .nil))) (.cons (.asg 6 (.call 49 (.cons (.v 1) (.cons (.lst (.cons (.str "and") (.cons (.str "or") .nil))) .nil)))) (.cons (.par [7, 8, 9] (.cons (.tup (.cons (.v 6) (.cons (.v 4) (.cons (.v 5) .nil)))) (.cons (.call 5 (.cons (.v 3) (.cons (.v 4) .nil))) (.cons (.call 5 (.cons (.v 3) (.cons (.v 5) .nil))) .nil)))) (.cons (.asg 10 (.bi .tuple (.cons d62_l7 .nil))) (.cons (.iff (.bop false (.cons (.cmp .ne (.call 5 (.cons (.v 3) (.cons (.v 7) .nil))) (.v 10)) (.cons (.cmp .ne (.call 3 (.cons (.v 7) .nil)) (.bin .add (.call 3 (.cons (.v 4) .nil)) (.call 3 (.cons (.v 5) .nil)))) .nil))) (.cons (.ret (.bl false)) .nil) .nil) (.cons (.asg 13 (.call 60 (.cons (.v 1) (.cons (.bi .rng1 (.cons (.v 3) .nil)) .nil)))) (.cons (.par [14, 15] (.cons (.call 61 (.cons (.v 7) (.cons (.v 13) .nil))) (.cons (.call 61 (.cons (.v 7) (.cons .non .nil))) .nil))) (.cons (.asg 16 (.lst .nil)) (.cons d62_f0 (.cons (.iff (.bop false (.cons (.cmp .ne (.call 5 (.cons (.v 3) (.cons (.v 14) .nil))) (.bi .tuple (.cons (.v 16) .nil))) (.cons (.cmp .ne (.call 5 (.cons (.v 3) (.cons (.v 15) .nil))) (.bi .tuple (.cons d62_l5 .nil))) .nil))) (.cons (.ret (.bl false)) .nil) .nil) (.cons (.iff (.bop false (.cons (.cmp .ne (.call 3 (.cons (.v 14) .nil)) (.call 3 (.cons (.v 7) .nil))) (.cons (.cmp .ne (.call 3 (.cons (.v 15) .nil)) (.call 3 (.cons (.v 7) .nil))) .nil))) (.cons (.ret (.bl false)) .nil) .nil) (.cons (.asg 19 d62_l4) (.cons (.asg 20 d62_l3) (.cons (.iff (.bop true (.cons (.cmp .eq (.v 6) (.str "and")) (.cons (.cmp .ne (.v 19) (.lst .nil)) (.cons (.cmp .ne (.v 20) (.lst .nil)) .nil)))) d62_i0 .nil) .nil)))))))))))))))
def d62_f1 : St := .fr (.nm 2) (.rg1 (.int 4)) d62_b1
def d62_law : Df := { np := 2, nl := 25, body := (.cons d62_f1 (.cons (.ret (.cmp .eq (.call 3 (.cons (.tup (.cons (.str "bit") (.cons (.int 0) .nil))) .nil)) (.int 1))) .nil)) }
def d153_b0 : Sts := (.cons (.app 1 (.bin .mul (.int 2) (.ix (.v 1) (.neg (.int 1))))) .nil)
def d153_f0 : St := .fr (.nm 2) (.rg1 (.v 0)) d153_b0
def d153_law_powers : Df := { np := 1, nl := 2, body := (.cons (.asg 1 (.lst (.cons (.int 1) .nil))) (.cons d153_f0 (.cons (.ret (.v 1)) .nil))) }
def d154_b0 : Sts := (.cons (.par [2, 0] (.cons (.bin .add (.v 2) (.lst (.cons (.bin .mod (.bi .int (.cons (.v 0) .nil)) (.int 2)) .nil))) (.cons (.bin .fdiv (.v 0) (.int 2)) .nil))) .nil)
def d154_f0 : St := .fr (.nm 3) (.rg1 (.v 1)) d154_b0
def d154_law_bits : Df := { np := 2, nl := 2, body := (.cons (.asg 2 (.lst .nil)) (.cons d154_f0 (.cons (.ret (.v 2)) .nil))) }
def d155_l0 : Ex := .lc (.ix (.lst (.cons (.bin .mul (.ix (.v 12) (.v 8)) (.ix (.v 12) (.v 9))) (.cons (.bi .max2 (.cons (.ix (.v 12) (.v 8)) (.cons (.ix (.v 12) (.v 9)) .nil))) (.cons (.bi .int (.cons (.cmp .ne (.ix (.v 12) (.v 8)) (.ix (.v 12) (.v 9))) .nil)) .nil)))) (.v 10)) (.nm 12) (.seq (.v 11)) .nil [12] []
def d155_l1 : Ex := .lc (.call 154 (.cons (.v 5) (.cons (.v 1) .nil))) (.nm 5) (.rg1 (.v 2)) .nil [5] [1]
def d155_l2 : Ex := .lc (.ix (.v 6) (.bi .sum (.cons (.call 154 (.cons (.v 5) (.cons (.v 1) .nil))) .nil))) (.nm 5) (.rg1 (.v 2)) .nil [5] [1]
def d155_l3 : Ex := .lc (.pick 0 (.int 2)) (.nm 7) (.rg1 (.bin .add (.v 1) (.int 1))) .nil [7] [0]
def d155_l4 : Ex := .lc (.bi .int (.cons (.cmp .lt (.pick 0 (.int 5)) (.v 4)) .nil)) (.nm 5) (.rg1 (.v 2)) .nil [5] [0]
def d155_law_draw : Df := { np := 2, nl := 11, body := (.cons (.par [2, 3] (.cons (.ix (.call 153 (.cons (.v 1) .nil)) (.v 1)) (.cons (.pick 0 (.int 4)) .nil))) (.cons (.iff (.cmp .lt (.v 3) (.int 2)) (.cons (.asg 4 (.bin .add (.int 1) (.pick 0 (.int 4)))) (.cons (.ret (.tup (.cons (.v 1) (.cons (.bi .tuple (.cons d155_l4 .nil)) .nil)))) .nil)) .nil) (.cons (.iff (.cmp .eq (.v 3) (.int 2)) (.cons (.asg 6 d155_l3) (.cons (.ret (.tup (.cons (.v 1) (.cons (.bi .tuple (.cons d155_l2 .nil)) .nil)))) .nil)) .nil) (.cons (.par [8, 9, 10] (.cons (.pick 0 (.v 1)) (.cons (.pick 0 (.v 1)) (.cons (.pick 0 (.int 3)) .nil)))) (.cons (.asg 11 d155_l1) (.cons (.ret (.tup (.cons (.v 1) (.cons (.bi .tuple (.cons d155_l0 .nil)) .nil)))) .nil)))))) }
def d157_l0 : Ex := .lc (.ite (.v 2) (.call 156 (.cons (.v 0) (.cons (.v 8) .nil))) (.call 155 (.cons (.v 0) (.cons (.v 8) .nil)))) (.nm 8) (.seq (.v 4)) .nil [8] [0]
def d157_b0 : Sts := (.cons (.asg 6 (.pick 0 (.bin .add (.v 3) (.int 1)))) (.cons (.asg 4 (.ite (.cmp .eq (.v 6) (.v 3)) (.v 4) (.bin .add (.bin .add (.sl (.v 4) .no (.so (.v 6))) (.lst (.cons (.bin .add (.ix (.v 4) (.v 6)) (.int 1)) .nil))) (.sl (.v 4) (.so (.bin .add (.v 6) (.int 1))) .no)))) .nil))
def d157_f0 : St := .fr (.nm 5) (.rg1 (.bin .sub (.v 1) (.v 3))) d157_b0
def d157_law_parts : Df := { np := 3, nl := 6, body := (.cons (.asg 3 (.bin .add (.int 1) (.pick 0 (.bi .min2 (.cons (.int 4) (.cons (.v 1) .nil)))))) (.cons (.asg 4 (.bin .mul (.lst (.cons (.int 1) .nil)) (.v 3))) (.cons d157_f0 (.cons (.asg 7 d157_l0) (.cons (.ret (.tup (.cons (.call 155 (.cons (.v 0) (.cons (.v 3) .nil))) (.cons (.bi .tuple (.cons (.v 7) .nil)) .nil)))) .nil))))) }
def d158_b0 : Sts := (.cons (.asg 10 (.bi .len (.cons (.v 4) .nil))) (.cons (.par [7, 8, 9] (.cons (.bin .add (.v 7) (.bin .mul (.v 8) (.ix (.v 4) (.bin .mod (.bi .int (.cons (.v 9) .nil)) (.v 10))))) (.cons (.bin .mul (.v 8) (.int 2)) (.cons (.bin .fdiv (.v 9) (.v 10)) .nil)))) .nil))
def d158_f0 : St := .fr (.tp [(.nm 3), (.nm 4)]) (.seq (.v 1)) d158_b0
def d158_b1 : Sts := (.cons (.par [7, 8, 9] (.cons (.int 0) (.cons (.int 1) (.cons (.v 6) .nil)))) (.cons d158_f0 (.cons (.app 5 (.ix (.ix (.v 0) (.int 1)) (.v 7))) .nil)))
def d158_f1 : St := .fr (.nm 6) (.rg1 (.ix (.call 153 (.cons (.v 2) .nil)) (.v 2))) d158_b1
def d158_l0 : Ex := .lc (.v 3) (.tp [(.nm 3), (.nm 4)]) (.seq (.v 1)) .nil [3, 4] []
def d158_law_put : Df := { np := 2, nl := 9, body := (.cons (.asg 2 (.bi .sum (.cons d158_l0 .nil))) (.cons (.asg 5 (.lst .nil)) (.cons d158_f1 (.cons (.ret (.tup (.cons (.v 2) (.cons (.bi .tuple (.cons (.v 5) .nil)) .nil)))) .nil)))) }
def d160_bit_at : Df := { np := 2, nl := 0, body := (.cons (.ret (.bin .mod (.bin .fdiv (.v 0) (.bin .shl (.int 1) (.v 1))) (.int 2))) .nil) }
def d170_l0 : Ex := .lc (.v 3) (.tp [(.nm 2), (.nm 3)]) (.enu (.v 0)) (.cons (.cmp .eq (.call 160 (.cons (.v 1) (.cons (.v 2) .nil))) (.int 1)) .nil) [2, 3] [1]
def d170_weight_of : Df := { np := 2, nl := 2, body := (.cons (.ret (.bi .sum (.cons d170_l0 .nil))) .nil) }
def d175_l0 : Ex := .lc (.cmp .eq (.call 160 (.cons (.v 2) (.cons (.v 4) .nil))) (.call 160 (.cons (.v 3) (.cons (.v 4) .nil)))) (.nm 4) (.rg1 (.v 0)) (.cons (.cmp .eq (.call 160 (.cons (.v 1) (.cons (.v 4) .nil))) (.int 1)) .nil) [4] [2, 3, 1]
def d175_are_alike_at : Df := { np := 4, nl := 1, body := (.cons (.ret (.bi .all (.cons d175_l0 .nil))) .nil) }
def d176_l0 : Ex := .lc (.cmp .eq (.ix (.v 4) (.v 7)) (.ix (.v 4) (.v 2))) (.nm 7) (.rg1 (.bin .shl (.int 1) (.v 3))) (.cons (.call 175 (.cons (.v 3) (.cons (.v 6) (.cons (.v 2) (.cons (.v 7) .nil))))) .nil) [7] [3, 6, 2]
def d176_b0 : Sts := (.cons (.iff (.bi .all (.cons d176_l0 .nil)) (.cons (.app 5 (.call 170 (.cons (.v 1) (.cons (.v 6) .nil)))) .nil) .nil) .nil)
def d176_f0 : St := .fr (.nm 6) (.rg1 (.bin .shl (.int 1) (.v 3))) d176_b0
def d176_weighed_paper : Df := { np := 3, nl := 5, body := (.cons (.asgT (.tp [(.nm 3), (.nm 4)]) (.v 0)) (.cons (.asg 5 (.lst .nil)) (.cons d176_f0 (.cons (.ret (.bi (.min1 (.int)) (.cons (.v 5) .nil))) .nil)))) }
def d177_l0 : Ex := .lc (.ix (.v 1) (.v 5)) (.nm 5) (.rg1 (.v 3)) (.cons (.cmp .ne (.ix (.v 4) (.v 2)) (.ix (.v 4) (.bin .add (.v 2) (.bin .mul (.bin .shl (.int 1) (.v 5)) (.bin .sub (.int 1) (.bin .mul (.int 2) (.call 160 (.cons (.v 2) (.cons (.v 5) .nil))))))))) .nil) [5] [2]
def d177_weighed_changes : Df := { np := 3, nl := 3, body := (.cons (.asgT (.tp [(.nm 3), (.nm 4)]) (.v 0)) (.cons (.ret (.bi .sum (.cons d177_l0 .nil))) .nil)) }
def d178_l0 : Ex := .lc (.bin .mul (.v 12) (.v 13)) (.tp [(.nm 12), (.nm 13)]) (.zip (.cons (.v 3) (.cons (.v 7) .nil)) false) .nil [12, 13] []
def d178_l1 : Ex := .lc (.ix (.v 11) (.v 9)) (.nm 9) (.seq (.v 8)) .nil [9] []
def d178_l2 : Ex := .lc (.ix (.ix (.v 4) (.v 2)) (.v 9)) (.nm 9) (.seq (.v 8)) .nil [9] []
def d178_l3 : Ex := .lc (.ix (.v 1) (.v 6)) (.tp [(.nm 6), (.nm 11)]) (.enu (.v 4)) (.cons (.cmp .eq d178_l1 d178_l2) .nil) [6, 11] [8]
def d178_l4 : Ex := .lc (.v 9) (.nm 9) (.rg1 (.v 0)) (.cons (.cmp .eq (.ix (.v 7) (.v 9)) (.int 1)) .nil) [9] []
def d178_b0 : Sts := (.cons (.asg 8 d178_l4) (.cons (.asg 10 d178_l3) (.cons (.iff (.cmp .eq (.v 10) (.bin .mul (.lst (.cons (.ix (.v 1) (.v 2)) .nil)) (.bi .len (.cons (.v 10) .nil)))) (.cons (.app 5 (.bi .sum (.cons d178_l0 .nil))) .nil) .nil) .nil)))
def d178_f0 : St := .fr (.nm 7) (.seq (.v 4)) d178_b0
def d178_l5 : Ex := .lc (.call 154 (.cons (.v 6) (.cons (.v 0) .nil))) (.nm 6) (.rg1 (.bi .len (.cons (.v 1) .nil))) .nil [6] [0]
def d178_law_paper : Df := { np := 4, nl := 10, body := (.cons (.par [4, 5] (.cons d178_l5 (.cons (.lst .nil) .nil))) (.cons d178_f0 (.cons (.ret (.bi (.min1 (.int)) (.cons (.v 5) .nil))) .nil))) }
def d179_l0 : Ex := .lc (.v 9) (.nm 9) (.rg1 (.v 0)) (.cons (.cmp .ne (.ix (.v 7) (.v 9)) (.ix (.ix (.v 4) (.v 2)) (.v 9))) .nil) [9] []
def d179_b0 : Sts := (.cons (.asg 8 d179_l0) (.cons (.asg 6 (.bin .add (.v 6) (.ite (.bop true (.cons (.cmp .eq (.bi .len (.cons (.v 8) .nil)) (.int 1)) (.cons (.cmp .ne (.ix (.v 1) (.v 5)) (.ix (.v 1) (.v 2))) .nil))) (.ix (.v 3) (.ix (.v 8) (.int 0))) (.int 0)))) .nil))
def d179_f0 : St := .fr (.tp [(.nm 5), (.nm 7)]) (.enu (.v 4)) d179_b0
def d179_l1 : Ex := .lc (.call 154 (.cons (.v 5) (.cons (.v 0) .nil))) (.nm 5) (.rg1 (.bi .len (.cons (.v 1) .nil))) .nil [5] [0]
def d179_law_changes : Df := { np := 4, nl := 6, body := (.cons (.asg 4 d179_l1) (.cons (.asg 6 (.int 0)) (.cons d179_f0 (.cons (.ret (.v 6)) .nil)))) }
end Bq

set_option Elab.async false
set_option autoImplicit false
set_option linter.all false
set_option maxRecDepth 100000
/-! Loops of the evaluator, for equations. -/
namespace Bq
open PySem (Str)
theorem frLoop_nil (g : Tg) (b : Env → M (Fl × Env)) (env : Env) : frLoop g b [] env = .ret (.nx, env) := rfl
/-- a for that never returns: E tells the env by a state -/
theorem frLoop_fold {σ : Type} (E : σ → Env) (f : σ → D → σ) {g : Tg} {b : Env → M (Fl × Env)} : ∀ (xs : List D) (s : σ), (∀ s, ∀ x ∈ xs, ∃ e1, asgTg g x (E s) = some e1 ∧ b e1 = .ret (.nx, E (f s x))) → frLoop g b xs (E s) = .ret (.nx, E (xs.foldl f s))
  | [], s, _ => rfl
  | x :: xs, s, h => by
    obtain ⟨e1, h1, h2⟩ := h s x List.mem_cons_self
    simp only [frLoop, h1, h2, M.bind_ret]
    exact frLoop_fold E f xs (f s x) fun s y hy => h s y (List.mem_cons_of_mem _ hy)
/-- .. over a range -/
theorem frLoop_range {σ : Type} (E : σ → Env) (f : σ → Int → σ) {g : Tg} {b : Env → M (Fl × Env)} : ∀ (n : Nat) (lo : Int) (s : σ), (∀ s i, lo ≤ i → i < lo + n → ∃ e1, asgTg g (.int i) (E s) = some e1 ∧ b e1 = .ret (.nx, E (f s i))) →
    frLoop g b (rangeD lo n) (E s) = .ret (.nx, E ((List.range n).foldl (fun s (i : Nat) => f s (lo + (i : Int))) s))
  | 0, lo, s, _ => rfl
  | n + 1, lo, s, h => by
    obtain ⟨e1, h1, h2⟩ := h s lo (by omega) (by omega)
    simp only [rangeD, frLoop, h1, h2, M.bind_ret]
    rw [frLoop_range E f n (lo + 1) (f s lo) fun s i a b => h s i (by omega) (by omega)]
    rw [List.range_succ_eq_map, List.foldl_cons, List.foldl_map]
    simp only [Int.natCast_zero, Int.add_zero]
    have e : (fun (s : σ) (i : Nat) => f s (lo + 1 + (i : Int))) = fun (s : σ) (i : Nat) => f s (lo + ((i.succ : Nat) : Int)) := by
      funext s i
      congr 1
      rw [Int.natCast_succ]
      omega
    rw [e]
/-- a comprehension whose turns leave the env -/
theorem lcLoop_map {step : D → Env → M (Option D × Env)} {env : Env} {f : D → D} : ∀ xs : List D, (∀ x ∈ xs, step x env = .ret (some (f x), env)) → lcLoop step xs env = .ret (xs.map f, env)
  | [], _ => rfl
  | x :: xs, h => by
    simp only [lcLoop, h x List.mem_cons_self, M.bind_ret, lcLoop_map xs fun y hy => h y (List.mem_cons_of_mem _ hy)]
    rfl
theorem lcLoop_filter {step : D → Env → M (Option D × Env)} {env : Env} {f : D → Option D} : ∀ xs : List D, (∀ x ∈ xs, step x env = .ret (f x, env)) → lcLoop step xs env = .ret (xs.filterMap f, env)
  | [], _ => rfl
  | x :: xs, h => by
    simp only [lcLoop, h x List.mem_cons_self, M.bind_ret, lcLoop_filter xs fun y hy => h y (List.mem_cons_of_mem _ hy), List.filterMap_cons]
    cases f x <;> rfl
def iter {σ : Type} (f : σ → σ) : Nat → σ → σ
  | 0, s => s
  | n + 1, s => iter f n (f s)
/-- a while by steps of its state; m turns -/
theorem whLoop_steps {σ : Type} (E : σ → Env) {c : Env → M (Bool × Env)} {b : Env → M (Fl × Env)} (more : σ → Bool) (f : σ → σ) (P : σ → Prop) (hc : ∀ s, P s → c (E s) = .ret (more s, E s)) (hb : ∀ s, P s → more s = true → b (E s) = .ret (.nx, E (f s)) ∧ P (f s)) :
    ∀ (m fuel : Nat) (s : σ), P s → m < fuel → (∀ j, j < m → more (iter f j s) = true) → more (iter f m s) = false → whLoop c b fuel (E s) = .ret (.nx, E (iter f m s))
  | _, 0, _, _, h, _, _ => absurd h (Nat.not_lt_zero _)
  | 0, fuel + 1, s, p, _, _, h => by
    have h : more s = false := h
    simp only [whLoop, hc s p, M.bind_ret, h]
    rfl
  | m + 1, fuel + 1, s, p, hm, h, h2 => by
    have h0 : more s = true := h 0 (by omega)
    obtain ⟨hb1, hb2⟩ := hb s p h0
    simp only [whLoop, hc s p, M.bind_ret, h0, hb1, if_true]
    exact whLoop_steps E more f P hc hb m fuel (f s) hb2 (by omega) (fun j hj => h (j + 1) (by omega)) h2
/-- a while, told by a state: I ties env and state; fin the end, μ a measure -/
theorem whLoop_rel {σ : Type} (I : σ → Env → Prop) (more : σ → Bool) (f fin : σ → σ) (μ : σ → Nat) {c : Env → M (Bool × Env)} {b : Env → M (Fl × Env)} (hc : ∀ s env, I s env → c env = .ret (more s, env))
    (hb : ∀ s env, I s env → more s = true → ∃ env', b env = .ret (.nx, env') ∧ I (f s) env') (h0 : ∀ s, more s = false → fin s = s) (h1 : ∀ s, more s = true → fin (f s) = fin s ∧ μ (f s) < μ s) :
    ∀ (fuel : Nat) (s : σ) (env : Env), I s env → μ s < fuel → ∃ env', whLoop c b fuel env = .ret (.nx, env') ∧ I (fin s) env'
  | 0, _, _, _, h => absurd h (Nat.not_lt_zero _)
  | fuel + 1, s, env, hi, h => by
    simp only [whLoop, hc s env hi, M.bind_ret]
    cases hm : more s with
    | false =>
      rw [h0 s hm]
      exact ⟨env, rfl, hi⟩
    | true =>
      obtain ⟨e1, hb1, hi1⟩ := hb s env hi hm
      obtain ⟨g1, g2⟩ := h1 s hm
      obtain ⟨e2, h2, hi2⟩ := whLoop_rel I more f fin μ hc hb h0 h1 fuel (f s) e1 hi1 (by omega)
      rw [g1] at hi2
      exact ⟨e2, by simp only [if_true, hb1, M.bind_ret, h2], hi2⟩
/-- a while by an invariant -/
theorem whLoop_inv {σ : Type} (I : σ → Env → Prop) (more : σ → Bool) (f : σ → σ) (P : σ → Prop) (μ : σ → Nat) {c : Env → M (Bool × Env)} {b : Env → M (Fl × Env)} (hc : ∀ s env, I s env → P s → c env = .ret (more s, env))
    (hb : ∀ s env, I s env → P s → more s = true → ∃ env', b env = .ret (.nx, env') ∧ I (f s) env') (hP : ∀ s, P s → more s = true → P (f s) ∧ μ (f s) < μ s) :
    ∀ (fuel : Nat) (s : σ) (env : Env), I s env → P s → μ s < fuel → ∃ s' env', whLoop c b fuel env = .ret (.nx, env') ∧ I s' env' ∧ P s' ∧ more s' = false
  | 0, _, _, _, _, h => absurd h (Nat.not_lt_zero _)
  | fuel + 1, s, env, hi, p, h => by
    simp only [whLoop, hc s env hi p, M.bind_ret]
    cases hm : more s with
    | false => exact ⟨s, env, rfl, hi, p, hm⟩
    | true =>
      obtain ⟨e1, hb1, hi1⟩ := hb s env hi p hm
      obtain ⟨g1, g2⟩ := hP s p hm
      obtain ⟨s2, e2, h2, hi2, p2, m2⟩ := whLoop_inv I more f P μ hc hb hP fuel (f s) e1 hi1 g1 (by omega)
      exact ⟨s2, e2, by simp only [if_true, hb1, M.bind_ret, h2], hi2, p2, m2⟩
theorem frLoop_rel {σ : Type} (I : σ → Env → Prop) (f : σ → D → σ) {g : Tg} {b : Env → M (Fl × Env)} : ∀ (xs : List D) (s : σ) (env : Env), I s env → (∀ s env, ∀ x ∈ xs, I s env → ∃ e1 e2, asgTg g x env = some e1 ∧ b e1 = .ret (.nx, e2) ∧ I (f s x) e2) →
    ∃ env', frLoop g b xs env = .ret (.nx, env') ∧ I (xs.foldl f s) env'
  | [], s, env, hi, _ => ⟨env, rfl, hi⟩
  | x :: xs, s, env, hi, h => by
    obtain ⟨e1, e2, h1, h2, h3⟩ := h s env x List.mem_cons_self hi
    obtain ⟨e3, h4, h5⟩ := frLoop_rel I f xs (f s x) e2 h3 fun s env y hy => h s env y (List.mem_cons_of_mem _ hy)
    exact ⟨e3, by simp only [frLoop, h1, h2, M.bind_ret, h4], h5⟩
/-- a comprehension that leaves the env: its items one by one -/
theorem lc_map {cl : Nat → List Vl → M D} {elt : Ex} {g : Tg} {it : It} {ifs : Exs} {own fz : List Nat} {env e1 e2 : Env} {xs : List D} (f : D → D) (h1 : evIt cl it env = .ret (xs, e1)) (hno : noOwn e1 own = true) (hcap : xs.length ≤ cap)
    (he : unset (shrs e1 fz) own = e2) (hs : ∀ x ∈ xs, lcStep cl elt g ifs own x e2 = .ret (some (f x), e2)) : evO cl (.lc elt g it ifs own fz) env = .ret (.fr (.lst (xs.map f)), back e1 e2 own) := by
  subst he
  rw [lc_eq, h1]
  simp only [M.bind_ret, hno, hcap, decide_true, Bool.and_self, if_true, lcLoop_map xs hs]
theorem lc_filter {cl : Nat → List Vl → M D} {elt : Ex} {g : Tg} {it : It} {ifs : Exs} {own fz : List Nat} {env e1 e2 : Env} {xs : List D} (f : D → Option D) (h1 : evIt cl it env = .ret (xs, e1)) (hno : noOwn e1 own = true) (hcap : xs.length ≤ cap)
    (he : unset (shrs e1 fz) own = e2) (hs : ∀ x ∈ xs, lcStep cl elt g ifs own x e2 = .ret (f x, e2)) : evO cl (.lc elt g it ifs own fz) env = .ret (.fr (.lst (xs.filterMap f)), back e1 e2 own) := by
  subst he
  rw [lc_eq, h1]
  simp only [M.bind_ret, hno, hcap, decide_true, Bool.and_self, if_true, lcLoop_filter xs hs]
section
variable {cl : Nat → List Vl → M D} {env e1 e2 : Env} {r : Sts}
theorem ss_st {s : St} (h : evS cl s env = .ret (.nx, e1)) : evSs cl (.cons s r) env = evSs cl r e1 := by simp only [evSs, h, M.bind_ret]
theorem ss_ret {s : St} {x : D} (h : evS cl s env = .ret (.rt x, e1)) : evSs cl (.cons s r) env = .ret (.rt x, e1) := by simp only [evSs, h, M.bind_ret]
theorem ss_fr {g : Tg} {it : It} {b : Sts} {xs : List D} (h1 : evIt cl it env = .ret (xs, e1)) (h2 : frLoop g (fun env => evSs cl b env) xs e1 = .ret (.nx, e2)) : evSs cl (.cons (.fr g it b) r) env = evSs cl r e2 := by
  simp only [evSs, evS, h1, M.bind_ret, h2]
theorem ss_wh {t : Ex} {b : Sts} (h2 : whLoop (fun env => evT cl t env) (fun env => evSs cl b env) wfuel env = .ret (.nx, e2)) : evSs cl (.cons (.wh t b) r) env = evSs cl r e2 := by
  simp only [evSs, evS, h2, M.bind_ret]
/-- the block returns x -/
def Rets (cl : Nat → List Vl → M D) (b : Sts) (env : Env) (x : D) : Prop := ∃ e, evSs cl b env = .ret (.rt x, e)
theorem Rets.st {s : St} {x : D} (h : evS cl s env = .ret (.nx, e1)) (t : Rets cl r e1 x) : Rets cl (.cons s r) env x := by
  obtain ⟨e, t⟩ := t
  exact ⟨e, (ss_st h).trans t⟩
theorem Rets.fr {g : Tg} {it : It} {b : Sts} {xs : List D} {x : D} (h1 : evIt cl it env = .ret (xs, e1)) (h2 : frLoop g (fun env => evSs cl b env) xs e1 = .ret (.nx, e2)) (t : Rets cl r e2 x) : Rets cl (.cons (.fr g it b) r) env x := by
  obtain ⟨e, t⟩ := t
  exact ⟨e, (ss_fr h1 h2).trans t⟩
theorem Rets.wh {t : Ex} {b : Sts} {x : D} (h2 : whLoop (fun env => evT cl t env) (fun env => evSs cl b env) wfuel env = .ret (.nx, e2)) (k : Rets cl r e2 x) : Rets cl (.cons (.wh t b) r) env x := by
  obtain ⟨e, k⟩ := k
  exact ⟨e, (ss_wh h2).trans k⟩
theorem Rets.iff {t : Ex} {a b : Sts} {c : Bool} {x : D} (h : evT cl t env = .ret (c, e1)) (h2 : if c = true then evSs cl a e1 = .ret (.nx, e2) else evSs cl b e1 = .ret (.nx, e2)) (k : Rets cl r e2 x) : Rets cl (.cons (.iff t a b) r) env x := by
  refine Rets.st (e1 := e2) ?_ k
  simp only [evS, h, M.bind_ret]
  cases c <;> simpa using h2
theorem Rets.iffR {t : Ex} {a b : Sts} {x : D} (h : evT cl t env = .ret (true, e1)) (k : Rets cl a e1 x) : Rets cl (.cons (.iff t a b) r) env x := by
  obtain ⟨e, k⟩ := k
  refine ⟨e, ss_ret ?_⟩
  simp only [evS, h, M.bind_ret, if_true]
  exact k
theorem Rets.ret {m : Ex} {x : D} (h : ∃ e, evS cl (.ret m) env = .ret (.rt x, e)) : Rets cl (.cons (.ret m) r) env x := by
  obtain ⟨e, h⟩ := h
  exact ⟨e, ss_ret h⟩
theorem run_def {Φ : Tab} {k g : Nat} {vs : List Vl} {df : Df} {x : D} (h : Φ g = some df) (hl : vs.length = df.np) (hb : Rets (run Φ k) df.body (vs.map Sl.vl ++ List.replicate df.nl .u) x) : run Φ (k + 1) g vs = .ret x := by
  obtain ⟨e1, hb⟩ := hb
  simp only [run, h, hl, if_true, hb, M.bind_ret]
end
end Bq

set_option Elab.async false
set_option autoImplicit false
set_option linter.all false
set_option maxRecDepth 100000
/-! The evaluator's rules, for simp: each a rewriting of its own, no match left open. Names s_..; list: simev.txt. -/
namespace Bq
open PySem (Str)
theorem nr {α : Sort _} {a b : α} (h : a = b) : a = b := h
/-- simp looks at the first part alone -/
theorem M.bind_congr1 {α β : Type} {m m' : M α} {f : α → M β} (h : m = m') : m.bind f = m'.bind f := by rw [h]
@[simp ↓] theorem M.bind_ret_pre {α β : Type} (a : α) (f : α → M β) : (M.ret a).bind f = f a := nr rfl
@[simp ↓] theorem M.bind_fail_pre {α β : Type} (f : α → M β) : (M.fail : M α).bind f = .fail := nr rfl
@[simp] theorem M.bind_pick {α β : Type} (k : Int) (c : Int → M α) (f : α → M β) : (M.pick k c).bind f = .pick k fun r => (c r).bind f := nr rfl
/-! ### slots -/
def lk : Env → Nat → Option Sl
  | [], _ => none
  | a :: _, 0 => some a
  | _ :: l, n + 1 => lk l n
theorem lk_eq : ∀ (env : Env) (i : Nat), env[i]? = lk env i
  | [], i => by simp [lk]
  | a :: l, 0 => rfl
  | a :: l, i + 1 => by rw [List.getElem?_cons_succ, lk_eq l i]; rfl
@[simp] theorem lk_0 (a : Sl) (l : Env) : lk (a :: l) 0 = some a := nr rfl
@[simp] theorem lk_s (a : Sl) (l : Env) (n : Nat) : lk (a :: l) (n + 1) = lk l n := nr rfl
def rdSl (i : Nat) (env : Env) : Option Sl → M (Od × Env)
  | some (.vl x) => .ret (.vl x, env)
  | some (.ow _) => .ret (.own i, env)
  | _ => .fail
section
variable (i : Nat) (env : Env) (x : D) (v : Vl)
@[simp] theorem rdS_v : rdSl i env (some (.vl v)) = .ret (.vl v, env) := nr rfl
@[simp] theorem rdS_o : rdSl i env (some (.ow x)) = .ret (.own i, env) := nr rfl
/-! ### operands -/
def resS : Option Sl → Option D
  | some (.ow x) => some x
  | some (.vl (.d x)) => some x
  | _ => none
@[simp] theorem resS_o : resS (some (.ow x)) = some x := nr rfl
@[simp] theorem resS_v : resS (some (.vl (.d x))) = some x := nr rfl
def resN (env : Env) (p : Od) : Option D := p.norm.res env
@[simp] theorem resN_v : resN env (.vl (.d x)) = some x := nr rfl
@[simp] theorem resN_f : resN env (.fr x) = some x := nr rfl
@[simp] theorem resN_o : resN env (.own i) = resS (lk env i) := by
  unfold resN Od.norm Od.res
  simp only [lk_eq]
  cases lk env i with
  | none => rfl
  | some s => cases s with
    | u => rfl
    | ow x => rfl
    | vl v => cases v <;> rfl
@[simp] theorem norm_v : (Od.vl v).norm = .vl v := nr rfl
@[simp] theorem norm_f : (Od.fr x).norm = .vl (.d x) := nr rfl
@[simp] theorem norm_o : (Od.own i).norm = .own i := nr rfl
def frzS (i : Nat) (env : Env) : Option Sl → Option (Vl × Env)
  | some (.ow x) => some (.d x, env.set i (.vl (.d x)))
  | some (.vl x) => some (x, env)
  | _ => none
@[simp] theorem frzS_o : frzS i env (some (.ow x)) = some (.d x, env.set i (.vl (.d x))) := nr rfl
@[simp] theorem frzS_v : frzS i env (some (.vl v)) = some (v, env) := nr rfl
@[simp] theorem frz_v : (Od.vl v).frz env = some (v, env) := nr rfl
@[simp] theorem frz_f : (Od.fr x).frz env = some (.d x, env) := nr rfl
@[simp] theorem frz_o : (Od.own i).frz env = frzS i env (lk env i) := by
  unfold Od.frz
  simp only [lk_eq]
  cases lk env i with
  | none => rfl
  | some s => cases s <;> rfl
end
@[simp] theorem od_bl (b : Bool) : Od.bl b = .vl (.d (.bl b)) := nr rfl
@[simp] theorem od_int (i : Int) : Od.int i = .vl (.d (.int i)) := nr rfl
def res1 (env : Env) (p : Od) : Option D := p.res env
@[simp] theorem res1_v (env : Env) (x : D) : res1 env (.vl (.d x)) = some x := nr rfl
@[simp] theorem res1_f (env : Env) (x : D) : res1 env (.fr x) = some x := nr rfl
@[simp] theorem res1_o (env : Env) (i : Nat) : res1 env (.own i) = resS (lk env i) := resN_o i env
def two' {α : Type} (f : D → D → Option α) : Option D → Option D → M α
  | some x, some y => M.opt (f x y)
  | _, _ => .fail
@[simp] theorem two'_s {α : Type} (f : D → D → Option α) (x y : D) : two' f (some x) (some y) = M.opt (f x y) := nr rfl
@[simp] theorem two_eq {α : Type} (p q : Od) (env : Env) (f : D → D → Option α) : two p q env f = two' f (resN env p) (resN env q) := by
  unfold two resN
  cases p.norm.res env <;> cases q.norm.res env <;> rfl
@[simp] theorem opt_s {α : Type} (a : α) : M.opt (some a) = .ret a := nr rfl
@[simp] theorem opt_n {α : Type} : M.opt (none : Option α) = .fail := nr rfl
/-! ### expressions -/
section
variable (cl : Nat → List Vl → M D) (env : Env)
@[simp] theorem u_v (i : Nat) : evO cl (.v i) env = rdSl i env (lk env i) := by
  simp only [evO, lk_eq]
  cases lk env i with
  | none => rfl
  | some s => cases s <;> rfl
@[simp] theorem u_non : evO cl .non env = .ret (.vl (.d .non), env) := nr rfl
@[simp] theorem u_bl (b : Bool) : evO cl (.bl b) env = .ret (.vl (.d (.bl b)), env) := nr rfl
@[simp] theorem u_int (i : Int) : evO cl (.int i) env = .ret (.vl (.d (.int i)), env) := nr rfl
@[simp] theorem u_str (s : Str) : evO cl (.str s) env = .ret (.vl (.d (.str s)), env) := nr rfl
@[simp] theorem u_gfn (g : Nat) : evO cl (.gfn g) env = .ret (.vl (.fn g), env) := nr rfl
@[simp] theorem u_dnew (t : Bool) : evO cl (.dnew t) env = .ret (.fr (.dic t []), env) := nr rfl
def kRet {α : Type} (env : Env) (r : α) : M (α × Env) := .ret (r, env)
@[simp] theorem kRet_e {α : Type} (r : α) : kRet env r = .ret (r, env) := nr rfl
def kBin (o : BOp) (b : Ex) (x : Od × Env) : M (Od × Env) := (evO cl b x.2).bind fun y => (two x.1 y.1 y.2 (binop o)).bind (kRet y.2)
def kBin2 (o : BOp) (p : Od) (y : Od × Env) : M (Od × Env) := (two p y.1 y.2 (binop o)).bind (kRet y.2)
@[simp] theorem kBin_e (o : BOp) (b : Ex) (p : Od) : kBin cl o b (p, env) = (evO cl b env).bind (kBin2 o p) := nr rfl
@[simp] theorem kBin2_e (o : BOp) (p q : Od) : kBin2 o p (q, env) = (two' (binop o) (resN env p) (resN env q)).bind (kRet env) := by
  unfold kBin2
  rw [two_eq]
@[simp] theorem u_bin (o : BOp) (a b : Ex) : evO cl (.bin o a b) env = (evO cl a env).bind (kBin cl o b) := by
  simp only [evO]; rfl
def kNeg (x : Od × Env) : M (Od × Env) := match x.1.res x.2 with
  | some (.int i) => .ret (.int (-i), x.2)
  | _ => .fail
@[simp] theorem kNeg_i (i : Int) : kNeg (.vl (.d (.int i)), env) = .ret (.vl (.d (.int (-i))), env) := nr rfl
@[simp] theorem u_neg (a : Ex) : evO cl (.neg a) env = (evO cl a env).bind kNeg := by
  simp only [evO]; rfl
def cmpO (o : COp) (x y : D) : Option Od := (cmpop o x y).map Od.bl
@[simp] theorem cmpO_e (o : COp) (x y : D) : cmpO o x y = (cmpop o x y).map Od.bl := nr rfl
@[simp] theorem map_bl (b : Bool) : (some b).map Od.bl = some (.vl (.d (.bl b))) := nr rfl
def kCmp2 (o : COp) (p : Od) (y : Od × Env) : M (Od × Env) := (two p y.1 y.2 (cmpO o)).bind (kRet y.2)
def kCmp (o : COp) (b : Ex) (x : Od × Env) : M (Od × Env) := (evO cl b x.2).bind (kCmp2 o x.1)
@[simp] theorem kCmp_e (o : COp) (b : Ex) (p : Od) : kCmp cl o b (p, env) = (evO cl b env).bind (kCmp2 o p) := nr rfl
@[simp] theorem kCmp2_e (o : COp) (p q : Od) : kCmp2 o p (q, env) = (two' (cmpO o) (resN env p) (resN env q)).bind (kRet env) := by
  unfold kCmp2
  rw [two_eq]
@[simp] theorem u_cmp (o : COp) (a b : Ex) : evO cl (.cmp o a b) env = (evO cl a env).bind (kCmp cl o b) := by
  simp only [evO]; rfl
def kChn3 (o2 : COp) (q : Od) (y : Od × Env) : M (Od × Env) := (two q y.1 y.2 (cmpO o2)).bind (kRet y.2)
def kChnT (o2 : COp) (c : Ex) (q : Od) (env : Env) (r : Bool) : M (Od × Env) := if r then (evO cl c env).bind (kChn3 o2 q) else .ret (.bl false, env)
def kChn2 (o o2 : COp) (c : Ex) (p : Od) (y : Od × Env) : M (Od × Env) := (two p y.1 y.2 (cmpop o)).bind (kChnT cl o2 c y.1 y.2)
def kChn (o o2 : COp) (b c : Ex) (x : Od × Env) : M (Od × Env) := (evO cl b x.2).bind (kChn2 cl o o2 c x.1)
@[simp] theorem kChn_e (o o2 : COp) (b c : Ex) (p : Od) : kChn cl o o2 b c (p, env) = (evO cl b env).bind (kChn2 cl o o2 c p) := nr rfl
@[simp] theorem kChn2_e (o o2 : COp) (c : Ex) (p q : Od) : kChn2 cl o o2 c p (q, env) = (two' (cmpop o) (resN env p) (resN env q)).bind (kChnT cl o2 c q env) := by
  unfold kChn2
  rw [two_eq]
@[simp] theorem kChnT_t (o2 : COp) (c : Ex) (q : Od) : kChnT cl o2 c q env true = (evO cl c env).bind (kChn3 o2 q) := nr rfl
@[simp] theorem kChnT_f (o2 : COp) (c : Ex) (q : Od) : kChnT cl o2 c q env false = .ret (.vl (.d (.bl false)), env) := nr rfl
@[simp] theorem kChn3_e (o2 : COp) (p q : Od) : kChn3 o2 p (q, env) = (two' (cmpO o2) (resN env p) (resN env q)).bind (kRet env) := by
  unfold kChn3
  rw [two_eq]
@[simp] theorem u_chn (o o2 : COp) (a b c : Ex) : evO cl (.chn o o2 a b c) env = (evO cl a env).bind (kChn cl o o2 b c) := by
  simp only [evO]
  congr 1; funext x; show _ = (evO cl b x.2).bind _; congr 1; funext y; show _ = (two x.1 y.1 y.2 (cmpop o)).bind _; congr 1; funext r
  cases r
  · rfl
  · show (evO cl c y.2).bind _ = (evO cl c y.2).bind _
    congr 1; funext z
    show _ = (two y.1 z.1 z.2 (cmpO o2)).bind _
    unfold two
    cases y.1.norm.res z.2 <;> cases z.1.norm.res z.2 <;> try rfl
    rename_i u w
    show (M.opt (cmpop o2 u w)).bind _ = (M.opt ((cmpop o2 u w).map Od.bl)).bind _
    cases cmpop o2 u w <;> rfl
def isNV (pos : Bool) (env : Env) : Option D → M (Od × Env)
  | some .non => .ret (.bl pos, env)
  | some _ => .ret (.bl (!pos), env)
  | none => .fail
def kIsN (pos : Bool) (x : Od × Env) : M (Od × Env) := isNV pos x.2 (resN x.2 x.1)
@[simp] theorem kIsN_e (pos : Bool) (p : Od) : kIsN pos (p, env) = isNV pos env (resN env p) := nr rfl
@[simp] theorem isNV_non (pos : Bool) : isNV pos env (some .non) = .ret (.vl (.d (.bl pos)), env) := nr rfl
@[simp] theorem isNV_bl (pos b : Bool) : isNV pos env (some (.bl b)) = .ret (.vl (.d (.bl (!pos))), env) := nr rfl
@[simp] theorem isNV_int (pos : Bool) (i : Int) : isNV pos env (some (.int i)) = .ret (.vl (.d (.bl (!pos))), env) := nr rfl
@[simp] theorem isNV_str (pos : Bool) (s : Str) : isNV pos env (some (.str s)) = .ret (.vl (.d (.bl (!pos))), env) := nr rfl
@[simp] theorem isNV_tup (pos : Bool) (l : List D) : isNV pos env (some (.tup l)) = .ret (.vl (.d (.bl (!pos))), env) := nr rfl
@[simp] theorem isNV_lst (pos : Bool) (l : List D) : isNV pos env (some (.lst l)) = .ret (.vl (.d (.bl (!pos))), env) := nr rfl
@[simp] theorem isNV_dic (pos t : Bool) (l : List (D × D)) : isNV pos env (some (.dic t l)) = .ret (.vl (.d (.bl (!pos))), env) := nr rfl
@[simp] theorem u_isN (pos : Bool) (a : Ex) : evO cl (.isN pos a) env = (evO cl a env).bind (kIsN pos) := by
  simp only [evO]
  congr 1
def kIsB (pos b : Bool) (x : Od × Env) : M (Od × Env) := match x.1 with
  | .vl (.d (.bl c)) => .ret (.bl ((b == c) == pos), x.2)
  | _ => .fail
@[simp] theorem kIsB_e (pos b c : Bool) : kIsB pos b (.vl (.d (.bl c)), env) = .ret (.vl (.d (.bl ((b == c) == pos))), env) := nr rfl
@[simp] theorem u_isB (pos b : Bool) (a : Ex) : evO cl (.isB pos b a) env = (evO cl a env).bind (kIsB pos b) := by simp only [evO]; rfl
def kNt (x : Od × Env) : M (Od × Env) := match x.1 with
  | .vl (.d (.bl c)) => .ret (.bl (!c), x.2)
  | _ => .fail
@[simp] theorem kNt_e (c : Bool) : kNt (.vl (.d (.bl c)), env) = .ret (.vl (.d (.bl (!c))), env) := nr rfl
@[simp] theorem u_nt (a : Ex) : evO cl (.nt a) env = (evO cl a env).bind kNt := by simp only [evO]; rfl
def kBl (x : Bool × Env) : M (Od × Env) := .ret (.vl (.d (.bl x.1)), x.2)
@[simp] theorem kBl_e (b : Bool) : kBl (b, env) = .ret (.vl (.d (.bl b)), env) := nr rfl
@[simp] theorem u_bop (a : Bool) (es : Exs) : evO cl (.bop a es) env = (evB cl a es env).bind kBl := by simp only [evO]; rfl
def kB (a : Bool) (r : Exs) (x : Od × Env) : M (Bool × Env) := match x.1 with
  | .vl (.d (.bl b)) => if b == a then evB cl a r x.2 else .ret (b, x.2)
  | _ => .fail
@[simp] theorem u_b0 (a : Bool) : evB cl a .nil env = .ret (a, env) := nr rfl
@[simp] theorem u_b1 (a : Bool) (e : Ex) (r : Exs) : evB cl a (.cons e r) env = (evO cl e env).bind (kB cl a r) := by simp only [evB]; rfl
@[simp] theorem kB_tt (r : Exs) : kB cl true r (.vl (.d (.bl true)), env) = evB cl true r env := nr rfl
@[simp] theorem kB_tf (r : Exs) : kB cl true r (.vl (.d (.bl false)), env) = .ret (false, env) := nr rfl
@[simp] theorem kB_ff (r : Exs) : kB cl false r (.vl (.d (.bl false)), env) = evB cl false r env := nr rfl
@[simp] theorem kB_ft (r : Exs) : kB cl false r (.vl (.d (.bl true)), env) = .ret (true, env) := nr rfl
@[simp] theorem kB_last (a b : Bool) : kB cl a .nil (.vl (.d (.bl b)), env) = .ret (b, env) := by
  cases a <;> cases b <;> rfl
/-- a test of unknown value: the rest leaves the slots -/
@[simp] theorem kB_tx (b : Bool) (e : Ex) (r : Exs) : kB cl true (.cons e r) (.vl (.d (.bl b)), env) = if b = true then evB cl true (.cons e r) env else .ret (false, env) := by
  cases b <;> rfl
@[simp] theorem kB_fx (b : Bool) (e : Ex) (r : Exs) : kB cl false (.cons e r) (.vl (.d (.bl b)), env) = if b = true then .ret (true, env) else evB cl false (.cons e r) env := by
  cases b <;> rfl
def kIte (a b : Ex) (x : Od × Env) : M (Od × Env) := match x.1 with
  | .vl (.d (.bl true)) => evO cl a x.2
  | .vl (.d (.bl false)) => evO cl b x.2
  | _ => .fail
@[simp] theorem kIte_t (a b : Ex) : kIte cl a b (.vl (.d (.bl true)), env) = evO cl a env := nr rfl
@[simp] theorem kIte_f (a b : Ex) : kIte cl a b (.vl (.d (.bl false)), env) = evO cl b env := nr rfl
@[simp] theorem kIte_x (a b : Ex) (c : Bool) : kIte cl a b (.vl (.d (.bl c)), env) = if c = true then evO cl a env else evO cl b env := by cases c <;> rfl
@[simp] theorem u_ite (c a b : Ex) : evO cl (.ite c a b) env = (evO cl c env).bind (kIte cl a b) := by
  simp only [evO]; rfl
def mkTup (env : Env) : Option (List D) → M (Od × Env)
  | some xs => if xs.length ≤ cap then .ret (.vl (.d (.tup xs)), env) else .fail
  | none => .fail
def mkLst (env : Env) : Option (List D) → M (Od × Env)
  | some xs => if xs.length ≤ cap then .ret (.fr (.lst xs), env) else .fail
  | none => .fail
def kTup (x : List Vl × Env) : M (Od × Env) := mkTup x.2 (vlDs x.1)
def kLst (x : List Vl × Env) : M (Od × Env) := mkLst x.2 (vlDs x.1)
@[simp] theorem kTup_e (vs : List Vl) : kTup (vs, env) = mkTup env (vlDs vs) := nr rfl
@[simp] theorem kLst_e (vs : List Vl) : kLst (vs, env) = mkLst env (vlDs vs) := nr rfl
@[simp] theorem mkTup_s (xs : List D) : mkTup env (some xs) = if xs.length ≤ 1000000 then .ret (.vl (.d (.tup xs)), env) else .fail := nr rfl
@[simp] theorem mkLst_s (xs : List D) : mkLst env (some xs) = if xs.length ≤ 1000000 then .ret (.fr (.lst xs), env) else .fail := nr rfl
@[simp] theorem vlDs_0 : vlDs [] = some [] := nr rfl
@[simp] theorem vlDs_1 (x : D) (r : List Vl) : vlDs (.d x :: r) = (vlDs r).map (x :: ·) := nr rfl
@[simp] theorem vlDs_app (ds : List D) (r : List Vl) : vlDs (ds.map Vl.d ++ r) = (vlDs r).map (ds ++ ·) := by
  induction ds with
  | nil => simp
  | cons d ds ih =>
    simp only [List.map_cons, List.cons_append, vlDs, ih]
    cases vlDs r <;> rfl
@[simp] theorem u_tup (es : Exs) : evO cl (.tup es) env = (evVs cl es env).bind kTup := by
  simp only [evO]
  congr 1
def mkDsp (ks : List D) (env : Env) : Option (List D) → M (Od × Env)
  | some xs => if ks.length = xs.length then .ret (.fr (.dic false (dputs ks xs [])), env) else .fail
  | none => .fail
def kDsp (ks : List D) (x : List Vl × Env) : M (Od × Env) := mkDsp ks x.2 (vlDs x.1)
@[simp] theorem kDsp_e (ks : List D) (vs : List Vl) : kDsp ks (vs, env) = mkDsp ks env (vlDs vs) := nr rfl
@[simp] theorem mkDsp_s (ks xs : List D) : mkDsp ks env (some xs) = if ks.length = xs.length then .ret (.fr (.dic false (dputs ks xs [])), env) else .fail := nr rfl
@[simp] theorem u_dsp (ks : List D) (es : Exs) : evO cl (.dsp ks es) env = (evVs cl es env).bind (kDsp ks) := by
  simp only [evO]
  congr 1
@[simp] theorem u_lst (es : Exs) : evO cl (.lst es) env = (evVs cl es env).bind kLst := by
  simp only [evO]
  congr 1
def idxO (x y : D) : Option Od := (index x y).map fun r => .vl (.d r)
@[simp] theorem idxO_e (x y : D) : idxO x y = (index x y).map fun r => .vl (.d r) := nr rfl
@[simp] theorem map_vd (x : D) : (some x).map (fun r => Od.vl (.d r)) = some (.vl (.d x)) := nr rfl
def kIx2 (p : Od) (y : Od × Env) : M (Od × Env) := (two p y.1 y.2 idxO).bind (kRet y.2)
def kIx (i : Ex) (x : Od × Env) : M (Od × Env) := (evO cl i x.2).bind (kIx2 x.1)
@[simp] theorem kIx_e (i : Ex) (p : Od) : kIx cl i (p, env) = (evO cl i env).bind (kIx2 p) := nr rfl
@[simp] theorem kIx2_e (p q : Od) : kIx2 p (q, env) = (two' idxO (resN env p) (resN env q)).bind (kRet env) := by
  unfold kIx2
  rw [two_eq]
@[simp] theorem u_ix (a i : Ex) : evO cl (.ix a i) env = (evO cl a env).bind (kIx cl i) := by simp only [evO]; rfl
def slO (env : Env) (l h : Option Int) : Option D → M (Od × Env)
  | some x => (M.opt (slice x l h)).bind (kRet env)
  | none => .fail
@[simp] theorem slO_s (l h : Option Int) (x : D) : slO env l h (some x) = (M.opt (slice x l h)).bind (kRet env) := nr rfl
def kSl3 (p : Od) (l : Option Int) (z : Option Int × Env) : M (Od × Env) := slO z.2 l z.1 (resN z.2 p)
def kSl2 (hi : Ox) (p : Od) (y : Option Int × Env) : M (Od × Env) := (evX cl hi y.2).bind (kSl3 p y.1)
def kSl (lo hi : Ox) (x : Od × Env) : M (Od × Env) := (evX cl lo x.2).bind (kSl2 cl hi x.1)
@[simp] theorem kSl_e (lo hi : Ox) (p : Od) : kSl cl lo hi (p, env) = (evX cl lo env).bind (kSl2 cl hi p) := nr rfl
@[simp] theorem kSl2_e (hi : Ox) (p : Od) (l : Option Int) : kSl2 cl hi p (l, env) = (evX cl hi env).bind (kSl3 p l) := nr rfl
@[simp] theorem kSl3_e (p : Od) (l h : Option Int) : kSl3 p l (h, env) = slO env l h (resN env p) := nr rfl
@[simp] theorem u_sl (a : Ex) (lo hi : Ox) : evO cl (.sl a lo hi) env = (evO cl a env).bind (kSl cl lo hi) := by
  simp only [evO]
  congr 1
def kX (x : Od × Env) : M (Option Int × Env) := match x.1 with
  | .vl (.d (.int i)) => if small i then .ret (some i, x.2) else .fail
  | _ => .fail
@[simp] theorem kX_e (i : Int) : kX (.vl (.d (.int i)), env) = if small i = true then .ret (some i, env) else .fail := nr rfl
@[simp] theorem u_x0 : evX cl .no env = .ret (none, env) := nr rfl
@[simp] theorem u_x1 (e : Ex) : evX cl (.so e) env = (evO cl e env).bind kX := by simp only [evX]; rfl
def revO (env : Env) : Option D → M (Od × Env)
  | some (.lst xs) => .ret (.fr (.lst xs.reverse), env)
  | some (.tup xs) => .ret (.vl (.d (.tup xs.reverse)), env)
  | _ => .fail
@[simp] theorem revO_t (xs : List D) : revO env (some (.tup xs)) = .ret (.vl (.d (.tup xs.reverse)), env) := nr rfl
@[simp] theorem revO_l (xs : List D) : revO env (some (.lst xs)) = .ret (.fr (.lst xs.reverse), env) := nr rfl
def kRev (x : Od × Env) : M (Od × Env) := revO x.2 (resN x.2 x.1)
@[simp] theorem kRev_e (p : Od) : kRev (p, env) = revO env (resN env p) := nr rfl
@[simp] theorem u_rev (a : Ex) : evO cl (.rev a) env = (evO cl a env).bind kRev := by
  simp only [evO]
  congr 1
def kVd (env : Env) (x : D) : M (Od × Env) := .ret (.vl (.d x), env)
@[simp] theorem kVd_e (x : D) : kVd env x = .ret (.vl (.d x), env) := nr rfl
def kCall (g : Nat) (x : List Vl × Env) : M (Od × Env) := (cl g x.1).bind (kVd x.2)
@[simp] theorem kCall_e (g : Nat) (vs : List Vl) : kCall cl g (vs, env) = (cl g vs).bind (kVd env) := nr rfl
@[simp] theorem u_call (g : Nat) (es : Exs) : evO cl (.call g es) env = (evVs cl es env).bind (kCall cl g) := by simp only [evO]; rfl
def callS (cl : Nat → List Vl → M D) (es : Exs) (env : Env) : Option Sl → M (Od × Env)
  | some (.vl (.fn g)) => (evVs cl es env).bind (kCall cl g)
  | _ => .fail
@[simp] theorem callS_e (es : Exs) (g : Nat) : callS cl es env (some (.vl (.fn g))) = (evVs cl es env).bind (kCall cl g) := nr rfl
@[simp] theorem u_callv (i : Nat) (es : Exs) : evO cl (.callv i es) env = callS cl es env (lk env i) := by
  simp only [evO, lk_eq]
  cases lk env i with
  | none => rfl
  | some s => cases s with
    | u => rfl
    | ow x => rfl
    | vl v => cases v <;> rfl
def biO (b : Bi) (env : Env) : Option (List D) → M (Od × Env)
  | some xs => (M.opt (bi b xs)).bind (kRet env)
  | none => .fail
@[simp] theorem biO_s (b : Bi) (xs : List D) : biO b env (some xs) = (M.opt (bi b xs)).bind (kRet env) := nr rfl
def kBi (b : Bi) (x : List Od × Env) : M (Od × Env) := biO b x.2 (resAll x.2 x.1)
@[simp] theorem kBi_e (b : Bi) (os : List Od) : kBi b (os, env) = biO b env (resAll env os) := nr rfl
@[simp] theorem u_bi (b : Bi) (es : Exs) : evO cl (.bi b es) env = (evOs cl es env).bind (kBi b) := by
  simp only [evO]
  congr 1
def consO : Option D → Option (List D) → Option (List D)
  | some x, some xs => some (x :: xs)
  | _, _ => none
@[simp] theorem consO_s (x : D) (xs : List D) : consO (some x) (some xs) = some (x :: xs) := nr rfl
@[simp] theorem resAll_0 : resAll env [] = some [] := nr rfl
@[simp] theorem resAll_1 (o : Od) (r : List Od) : resAll env (o :: r) = consO (res1 env o) (resAll env r) := by
  simp only [resAll, res1]
  cases o.res env <;> cases resAll env r <;> rfl
def kOs2 (o : Od) (x : List Od × Env) : M (List Od × Env) := .ret (o.norm :: x.1, x.2)
@[simp] theorem kOs2_e (o : Od) (os : List Od) : kOs2 o (os, env) = .ret (o.norm :: os, env) := nr rfl
def kOs (r : Exs) (x : Od × Env) : M (List Od × Env) := (evOs cl r x.2).bind (kOs2 x.1)
@[simp] theorem kOs_e (r : Exs) (o : Od) : kOs cl r (o, env) = (evOs cl r env).bind (kOs2 o) := nr rfl
@[simp] theorem u_os0 : evOs cl .nil env = .ret ([], env) := nr rfl
@[simp] theorem u_os1 (e : Ex) (r : Exs) : evOs cl (.cons e r) env = (evO cl e env).bind (kOs cl r) := by simp only [evOs]; rfl
def vsO (r : Exs) : Option (Vl × Env) → M (List Vl × Env)
  | some (x, env) => (evVs cl r env).bind fun y => .ret (x :: y.1, y.2)
  | none => .fail
def kVs2 (x : Vl) (y : List Vl × Env) : M (List Vl × Env) := .ret (x :: y.1, y.2)
@[simp] theorem kVs2_e (x : Vl) (xs : List Vl) : kVs2 x (xs, env) = .ret (x :: xs, env) := nr rfl
@[simp] theorem vsO_s (r : Exs) (x : Vl) : vsO cl r (some (x, env)) = (evVs cl r env).bind (kVs2 x) := nr rfl
def kVs (r : Exs) (x : Od × Env) : M (List Vl × Env) := vsO cl r (x.1.frz x.2)
@[simp] theorem kVs_e (r : Exs) (o : Od) : kVs cl r (o, env) = vsO cl r (o.frz env) := nr rfl
@[simp] theorem u_vs0 : evVs cl .nil env = .ret ([], env) := nr rfl
@[simp] theorem u_vs1 (e : Ex) (r : Exs) : evVs cl (.cons e r) env = (evO cl e env).bind (kVs cl r) := by
  simp only [evVs]
  congr 1
def starO (cl : Nat → List Vl → M D) (r : Exs) (env : Env) : Option (List D) → M (List Vl × Env)
  | some ys => (evVs cl r env).bind fun y => .ret (ys.map Vl.d ++ y.1, y.2)
  | none => .fail
def kSt2 (ys : List D) (y : List Vl × Env) : M (List Vl × Env) := .ret (ys.map Vl.d ++ y.1, y.2)
@[simp] theorem kSt2_e (ys : List D) (xs : List Vl) : kSt2 ys (xs, env) = .ret (ys.map Vl.d ++ xs, env) := nr rfl
@[simp] theorem starO_s (r : Exs) (ys : List D) : starO cl r env (some ys) = (evVs cl r env).bind (kSt2 ys) := nr rfl
def kSt (r : Exs) (x : Od × Env) : M (List Vl × Env) := starO cl r x.2 ((resN x.2 x.1).bind seqOf)
@[simp] theorem kSt_e (r : Exs) (o : Od) : kSt cl r (o, env) = starO cl r env ((resN env o).bind seqOf) := nr rfl
@[simp] theorem bind_some {α β : Type} (a : α) (f : α → Option β) : (some a).bind f = f a := nr rfl
@[simp] theorem seqOf_t (xs : List D) : seqOf (.tup xs) = some xs := nr rfl
@[simp] theorem seqOf_l (xs : List D) : seqOf (.lst xs) = some xs := nr rfl
@[simp] theorem itemsOf_t (xs : List D) : itemsOf (.tup xs) = some xs := nr rfl
@[simp] theorem itemsOf_l (xs : List D) : itemsOf (.lst xs) = some xs := nr rfl
@[simp] theorem itemsOf_d (t : Bool) (kvs : List (D × D)) : itemsOf (.dic t kvs) = some (kvs.map (·.1)) := nr rfl
@[simp] theorem u_vss (e : Ex) (r : Exs) : evVs cl (.star e r) env = (evO cl e env).bind (kSt cl r) := by
  simp only [evVs]
  congr 1
def popS (i : Nat) (env : Env) : Option Sl → M (Od × Env)
  | some (.ow (.lst xs)) => match xs.getLast? with
    | some x => .ret (.vl (.d x), env.set i (.ow (.lst xs.dropLast)))
    | none => .fail
  | _ => .fail
@[simp] theorem popS_e (i : Nat) (xs : List D) (x : D) : popS i env (some (.ow (.lst (xs ++ [x])))) = .ret (.vl (.d x), env.set i (.ow (.lst xs))) := by
  simp [popS]
@[simp] theorem popS_1 (i : Nat) (x : D) : popS i env (some (.ow (.lst [x]))) = .ret (.vl (.d x), env.set i (.ow (.lst []))) := nr rfl
@[simp] theorem u_pop (i : Nat) : evO cl (.pop i) env = popS i env (lk env i) := by
  simp only [evO, lk_eq]
  cases lk env i with
  | none => rfl
  | some s => cases s with
    | u => rfl
    | vl v => rfl
    | ow x => cases x <;> rfl
def pickS (cl : Nat → List Vl → M D) (k : Ex) (env : Env) : Option Sl → M (Od × Env)
  | some (.vl .src) => (evO cl k env).bind fun (p, env) => match p with
    | .vl (.d (.int n)) => if n < 2 then .ret (.int 0, env) else if n.natAbs < 1000000000 then .pick n fun r => .ret (.int r, env) else .fail
    | _ => .fail
  | _ => .fail
def pk (env : Env) (n : Int) : M (Od × Env) := if n < 2 then .ret (.int 0, env) else if n.natAbs < 1000000000 then .pick n fun r => .ret (.int r, env) else .fail
def kPk (x : Od × Env) : M (Od × Env) := match x.1 with
  | .vl (.d (.int n)) => pk x.2 n
  | _ => .fail
@[simp] theorem kPk_e (n : Int) : kPk (.vl (.d (.int n)), env) = pk env n := nr rfl
@[simp] theorem pickS_e (k : Ex) : pickS cl k env (some (.vl .src)) = (evO cl k env).bind kPk := by
  show M.bind _ _ = _
  rfl
@[simp] theorem u_pick (s : Nat) (k : Ex) : evO cl (.pick s k) env = pickS cl k env (lk env s) := by
  simp only [evO, lk_eq]
  cases lk env s with
  | none => rfl
  | some s => cases s with
    | u => rfl
    | ow x => rfl
    | vl v => cases v <;> rfl
/-- a draw, for all that may come -/
theorem pk_all (n : Int) (h : n.natAbs < 1000000000) (Q : Od × Env → Prop) (hq : ∀ r : Int, 0 ≤ r → (r < n ∨ r = 0) → Q (.vl (.d (.int r)), env)) : (pk env n).all Q := by
  unfold pk
  by_cases h2 : n < 2
  · rw [if_pos h2]
    exact hq 0 (Int.le_refl 0) (.inr rfl)
  · rw [if_neg h2, if_pos h]
    intro r h0 h1
    exact hq r h0 (.inl h1)
/-! ### what is run through -/
def seqM (env : Env) (x : D) : M (List D × Env) := (M.opt (seqOf x)).bind (kRet env)
@[simp] theorem seqM_e (x : D) : seqM env x = (M.opt (seqOf x)).bind (kRet env) := nr rfl
def itO (f : Env → D → M (List D × Env)) : Option (Vl × Env) → M (List D × Env)
  | some (.d x, env) => f env x
  | _ => .fail
@[simp] theorem itO_s (f : Env → D → M (List D × Env)) (x : D) : itO f (some (.d x, env)) = f env x := nr rfl
def kIt (f : Env → D → M (List D × Env)) (x : Od × Env) : M (List D × Env) := itO f (x.1.frz x.2)
@[simp] theorem kIt_e (f : Env → D → M (List D × Env)) (o : Od) : kIt f (o, env) = itO f (o.frz env) := nr rfl
@[simp] theorem u_seq (e : Ex) : evIt cl (.seq e) env = (evO cl e env).bind (kIt seqM) := by
  simp only [evIt]
  congr 1
def enuM (env : Env) (x : D) : M (List D × Env) := (M.opt ((seqOf x).map (enumD 0))).bind (kRet env)
@[simp] theorem enuM_e (x : D) : enuM env x = (M.opt ((seqOf x).map (enumD 0))).bind (kRet env) := nr rfl
@[simp] theorem u_enu (e : Ex) : evIt cl (.enu e) env = (evO cl e env).bind (kIt enuM) := by
  simp only [evIt]
  congr 1; funext x
  show _ = itO enuM (x.1.frz x.2)
  cases x.1.frz x.2 with
  | none => rfl
  | some y =>
    obtain ⟨v, e⟩ := y
    cases v with
    | d x =>
      show (M.opt (seqOf x)).bind _ = (M.opt ((seqOf x).map (enumD 0))).bind _
      cases seqOf x <;> rfl
    | src => rfl
    | fn g => rfl
def rg1M (x : Od × Env) : M (List D × Env) := match x.1 with
  | .vl (.d (.int n)) => if small n then .ret (rangeD 0 n.toNat, x.2) else .fail
  | _ => .fail
@[simp] theorem rg1M_e (n : Int) : rg1M (.vl (.d (.int n)), env) = if small n = true then .ret (rangeD 0 n.toNat, env) else .fail := nr rfl
@[simp] theorem u_rg1 (e : Ex) : evIt cl (.rg1 e) env = (evO cl e env).bind rg1M := by simp only [evIt]; rfl
def rg2M (p : Od) (y : Od × Env) : M (List D × Env) := match p, y.1 with
  | .vl (.d (.int m)), .vl (.d (.int n)) => if small m && small n then .ret (rangeD m (n - m).toNat, y.2) else .fail
  | _, _ => .fail
@[simp] theorem rg2M_e (m n : Int) : rg2M (.vl (.d (.int m))) (.vl (.d (.int n)), env) = if small m = true ∧ small n = true then .ret (rangeD m (n - m).toNat, env) else .fail := by
  show (if (small m && small n) = true then _ else _) = _
  simp only [Bool.and_eq_true]
def kRg2 (b : Ex) (x : Od × Env) : M (List D × Env) := (evO cl b x.2).bind (rg2M x.1)
@[simp] theorem kRg2_e (b : Ex) (p : Od) : kRg2 cl b (p, env) = (evO cl b env).bind (rg2M p) := nr rfl
@[simp] theorem u_rg2 (a b : Ex) : evIt cl (.rg2 a b) env = (evO cl a env).bind (kRg2 cl b) := by simp only [evIt]; rfl
def rg3M (p q : Od) (y : Od × Env) : M (List D × Env) := match p, q, y.1 with
  | .vl (.d (.int m)), .vl (.d (.int n)), .vl (.d (.int k)) => if small m && small n && k == -1 then .ret (stepsD m k (m - n).toNat, y.2) else .fail
  | _, _, _ => .fail
@[simp] theorem rg3M_e (m n : Int) : rg3M (.vl (.d (.int m))) (.vl (.d (.int n))) (.vl (.d (.int (-1))), env) = if small m = true ∧ small n = true then .ret (stepsD m (-1) (m - n).toNat, env) else .fail := by
  show (if (small m && small n && (-1 : Int) == -1) = true then _ else _) = _
  simp
def kRg3b (c : Ex) (p : Od) (y : Od × Env) : M (List D × Env) := (evO cl c y.2).bind (rg3M p y.1)
@[simp] theorem kRg3b_e (c : Ex) (p q : Od) : kRg3b cl c p (q, env) = (evO cl c env).bind (rg3M p q) := nr rfl
def kRg3 (b c : Ex) (x : Od × Env) : M (List D × Env) := (evO cl b x.2).bind (kRg3b cl c x.1)
@[simp] theorem kRg3_e (b c : Ex) (p : Od) : kRg3 cl b c (p, env) = (evO cl b env).bind (kRg3b cl c p) := nr rfl
@[simp] theorem u_rg3 (a b c : Ex) : evIt cl (.rg3 a b c) env = (evO cl a env).bind (kRg3 cl b c) := by simp only [evIt]; rfl
def zipO (strict : Bool) (n : Nat) (env : Env) : Option (List D) → M (List D × Env)
  | some xs => (M.opt (if xs.length == n then zipAll strict xs else none)).bind (kRet env)
  | none => .fail
@[simp] theorem zipO_2 (strict : Bool) (a b : D) : zipO strict 2 env (some [a, b]) = (M.opt (zipAll strict [a, b])).bind (kRet env) := nr rfl
@[simp] theorem zipO_3 (strict : Bool) (a b c : D) : zipO strict 3 env (some [a, b, c]) = (M.opt (zipAll strict [a, b, c])).bind (kRet env) := nr rfl
def zipS2 (strict : Bool) : Option (List D) → Option (List D) → Option (List D)
  | some xs, some ys => if !strict || xs.length == ys.length then some (zipD xs ys) else none
  | _, _ => none
@[simp] theorem zipS2_f (xs ys : List D) : zipS2 false (some xs) (some ys) = some (zipD xs ys) := nr rfl
@[simp] theorem zipS2_t (xs ys : List D) : zipS2 true (some xs) (some ys) = if xs.length = ys.length then some (zipD xs ys) else none := by
  simp [zipS2]
@[simp] theorem zipAll_2 (strict : Bool) (a b : D) : zipAll strict [a, b] = zipS2 strict (seqOf a) (seqOf b) := by
  simp only [zipAll]
  cases seqOf a <;> cases seqOf b <;> rfl
def zipS3 : Option (List D) → Option (List D) → Option (List D) → Option (List D)
  | some xs, some ys, some zs => some (zip3D xs ys zs)
  | _, _, _ => none
@[simp] theorem zipS3_e (xs ys zs : List D) : zipS3 (some xs) (some ys) (some zs) = some (zip3D xs ys zs) := nr rfl
@[simp] theorem zipAll_3 (a b c : D) : zipAll false [a, b, c] = zipS3 (seqOf a) (seqOf b) (seqOf c) := by
  simp only [zipAll]
  cases seqOf a <;> cases seqOf b <;> cases seqOf c <;> rfl
def kZip (strict : Bool) (n : Nat) (x : List Vl × Env) : M (List D × Env) := zipO strict n x.2 (vlDs x.1)
@[simp] theorem kZip_e (strict : Bool) (n : Nat) (vs : List Vl) : kZip strict n (vs, env) = zipO strict n env (vlDs vs) := nr rfl
@[simp] theorem u_zip (es : Exs) (strict : Bool) : evIt cl (.zip es strict) env = (evVs cl es env).bind (kZip strict (exsLen es)) := by
  simp only [evIt]
  congr 1
/-! ### statements -/
def kT (x : Od × Env) : M (Bool × Env) := match x.1 with
  | .vl (.d (.bl b)) => .ret (b, x.2)
  | _ => .fail
@[simp] theorem kT_e (b : Bool) : kT (.vl (.d (.bl b)), env) = .ret (b, env) := nr rfl
@[simp] theorem u_T (e : Ex) : evT cl e env = (evO cl e env).bind kT := by simp only [evT]; rfl
def asgO (i : Nat) : Option (Vl × Env) → M (Fl × Env)
  | some (x, env) => .ret (.nx, env.set i (.vl x))
  | none => .fail
@[simp] theorem asgO_s (i : Nat) (v : Vl) : asgO i (some (v, env)) = .ret (.nx, env.set i (.vl v)) := nr rfl
def kAsg (i : Nat) (x : Od × Env) : M (Fl × Env) := match x.1 with
  | .fr y => .ret (.nx, x.2.set i (.ow y))
  | o => asgO i (o.frz x.2)
@[simp] theorem kAsg_f (i : Nat) (y : D) : kAsg i (.fr y, env) = .ret (.nx, env.set i (.ow y)) := nr rfl
@[simp] theorem kAsg_v (i : Nat) (v : Vl) : kAsg i (.vl v, env) = .ret (.nx, env.set i (.vl v)) := nr rfl
@[simp] theorem kAsg_o (i j : Nat) : kAsg i (.own j, env) = asgO i (frzS j env (lk env j)) := by
  show asgO i ((Od.own j).frz env) = _
  rw [frz_o]
@[simp] theorem u_asg (i : Nat) (e : Ex) : evS cl (.asg i e) env = (evO cl e env).bind (kAsg i) := by
  simp only [evS]
  congr 1
def kPut (is : List Nat) (x : List Od × Env) : M (Fl × Env) := (M.opt (putOds is x.1 x.2)).bind fun env => .ret (.nx, env)
def kNx (env : Env) : M (Fl × Env) := .ret (.nx, env)
@[simp] theorem kNx_e : kNx env = .ret (.nx, env) := nr rfl
@[simp] theorem kPut_e (is : List Nat) (os : List Od) : kPut is (os, env) = (M.opt (putOds is os env)).bind kNx := nr rfl
@[simp] theorem putOds_0 : putOds [] [] env = some env := nr rfl
@[simp] theorem putOds_f (i : Nat) (is : List Nat) (x : D) (os : List Od) : putOds (i :: is) (.fr x :: os) env = putOds is os (env.set i (.ow x)) := nr rfl
@[simp] theorem putOds_v (i : Nat) (is : List Nat) (v : Vl) (os : List Od) : putOds (i :: is) (.vl v :: os) env = putOds is os (env.set i (.vl v)) := nr rfl
def kPar2 (o : Od) (x : List Od × Env) : M (List Od × Env) := .ret (o :: x.1, x.2)
@[simp] theorem kPar2_e (o : Od) (os : List Od) : kPar2 o (os, env) = .ret (o :: os, env) := nr rfl
def parO (r : Exs) : Option (Vl × Env) → M (List Od × Env)
  | some (x, env) => (evPar cl r env).bind (kPar2 (.vl x))
  | none => .fail
@[simp] theorem parO_s (r : Exs) (v : Vl) : parO cl r (some (v, env)) = (evPar cl r env).bind (kPar2 (.vl v)) := nr rfl
def kPar (r : Exs) (x : Od × Env) : M (List Od × Env) := match x.1 with
  | .fr y => (evPar cl r x.2).bind (kPar2 (.fr y))
  | o => parO cl r (o.frz x.2)
@[simp] theorem kPar_f (r : Exs) (y : D) : kPar cl r (.fr y, env) = (evPar cl r env).bind (kPar2 (.fr y)) := nr rfl
@[simp] theorem kPar_v (r : Exs) (v : Vl) : kPar cl r (.vl v, env) = (evPar cl r env).bind (kPar2 (.vl v)) := nr rfl
@[simp] theorem kPar_o (r : Exs) (j : Nat) : kPar cl r (.own j, env) = parO cl r (frzS j env (lk env j)) := by
  show parO cl r ((Od.own j).frz env) = _
  rw [frz_o]
@[simp] theorem u_par0 : evPar cl .nil env = .ret ([], env) := nr rfl
@[simp] theorem u_par1 (e : Ex) (r : Exs) : evPar cl (.cons e r) env = (evO cl e env).bind (kPar cl r) := by
  simp only [evPar]
  congr 1
@[simp] theorem u_par (is : List Nat) (es : Exs) : evS cl (.par is es) env = (evPar cl es env).bind (kPut is) := by
  simp only [evS]; rfl
def tgO (g : Tg) : Option (Vl × Env) → M (Fl × Env)
  | some (.d x, env) => (M.opt (asgTg g x env)).bind kNx
  | _ => .fail
@[simp] theorem tgO_s (g : Tg) (x : D) : tgO g (some (.d x, env)) = (M.opt (asgTg g x env)).bind kNx := nr rfl
def kTg (g : Tg) (x : Od × Env) : M (Fl × Env) := tgO g (x.1.frz x.2)
@[simp] theorem kTg_e (g : Tg) (o : Od) : kTg g (o, env) = tgO g (o.frz env) := nr rfl
@[simp] theorem u_asgT (g : Tg) (e : Ex) : evS cl (.asgT g e) env = (evO cl e env).bind (kTg g) := by
  simp only [evS]
  congr 1
@[simp] theorem tg_nm (i : Nat) (x : D) : asgTg (.nm i) x env = some (env.set i (.vl (.d x))) := by cases x <;> rfl
@[simp] theorem tg_tp (ts : List Tg) (xs : List D) : asgTg (.tp ts) (.tup xs) env = asgTgs ts xs env := nr rfl
@[simp] theorem tg_lp (ts : List Tg) (xs : List D) : asgTg (.tp ts) (.lst xs) env = asgTgs ts xs env := nr rfl
@[simp] theorem tgs_0 : asgTgs [] [] env = some env := nr rfl
@[simp] theorem tgs_1 (t : Tg) (ts : List Tg) (x : D) (xs : List D) : asgTgs (t :: ts) (x :: xs) env = (asgTg t x env).bind (asgTgs ts xs) := nr rfl
def setV (i : Nat) (x : D) (env : Env) : Option D → Option Sl → M (Fl × Env)
  | some (.int j), some (.ow (.lst xs)) => if 0 ≤ j ∧ j < xs.length then .ret (.nx, env.set i (.ow (.lst (xs.set j.toNat x)))) else .fail
  | some k, some (.ow (.dic t kvs)) => if keyOk t k && decide (kvs.length < cap) then .ret (.nx, env.set i (.ow (.dic t (dput k x kvs)))) else .fail
  | _, _ => .fail
@[simp] theorem setV_l (i : Nat) (x : D) (j : Int) (xs : List D) : setV i x env (some (.int j)) (some (.ow (.lst xs))) = if 0 ≤ j ∧ j < xs.length then .ret (.nx, env.set i (.ow (.lst (xs.set j.toNat x)))) else .fail := nr rfl
@[simp] theorem setV_d (i : Nat) (x k : D) (t : Bool) (kvs : List (D × D)) : setV i x env (some k) (some (.ow (.dic t kvs))) = if keyOk t k = true ∧ kvs.length < 1000000 then .ret (.nx, env.set i (.ow (.dic t (dput k x kvs)))) else .fail := by
  cases k <;> (show (if (keyOk t _ && decide (kvs.length < cap)) = true then _ else _) = _) <;> simp only [Bool.and_eq_true, decide_eq_true_eq] <;> rfl
def kSet2 (i : Nat) (x : D) (y : Od × Env) : M (Fl × Env) := setV i x y.2 (resN y.2 y.1) (lk y.2 i)
@[simp] theorem kSet2_e (i : Nat) (x : D) (q : Od) : kSet2 i x (q, env) = setV i x env (resN env q) (lk env i) := nr rfl
def ownS : Option Sl → Bool
  | some (.ow _) => true
  | _ => false
@[simp] theorem ownS_o (x : D) : ownS (some (.ow x)) = true := nr rfl
def setO (i : Nat) (k : Ex) : Option (Vl × Env) → M (Fl × Env)
  | some (.d x, env) => if ownS (lk env i) then (evO cl k env).bind (kSet2 i x) else .fail
  | _ => .fail
@[simp] theorem setO_s (i : Nat) (k : Ex) (x : D) : setO cl i k (some (.d x, env)) = if ownS (lk env i) = true then (evO cl k env).bind (kSet2 i x) else .fail := nr rfl
def kSet (i : Nat) (k : Ex) (x : Od × Env) : M (Fl × Env) := setO cl i k (x.1.frz x.2)
@[simp] theorem kSet_e (i : Nat) (k : Ex) (o : Od) : kSet cl i k (o, env) = setO cl i k (o.frz env) := nr rfl
theorem ownO_lk (i : Nat) : ownO env i = ownS (lk env i) := by
  simp only [ownO, lk_eq]
  cases lk env i with
  | none => rfl
  | some s => cases s <;> rfl
@[simp] theorem u_setI (i : Nat) (k e : Ex) : evS cl (.setI i k e) env = (evO cl e env).bind (kSet cl i k) := by
  simp only [evS]
  congr 1; funext x
  show _ = setO cl i k (x.1.frz x.2)
  cases x.1.frz x.2 with
  | none => rfl
  | some y =>
    obtain ⟨v, e⟩ := y
    cases v with
    | d x =>
      simp only [setO_s, ownO_lk]
      congr 1
      congr 1; funext y
      show _ = setV i x y.2 (y.1.norm.res y.2) (lk y.2 i)
      simp only [lk_eq]
      cases y.1.norm.res y.2 with
      | none => cases lk y.2 i with
        | none => rfl
        | some s => cases s with
          | u => rfl
          | vl v => rfl
          | ow z => cases z <;> rfl
      | some k => cases k <;> (cases lk y.2 i with
        | none => rfl
        | some s => cases s with
          | u => rfl
          | vl v => rfl
          | ow z => cases z <;> rfl)
    | src => rfl
    | fn g => rfl
def augV (i : Nat) (o : BOp) (a : Int) (x : Od × Env) : M (Fl × Env) := match x.1, o with
  | .vl (.d (.int b)), .add => .ret (.nx, x.2.set i (.vl (.d (.int (a + b)))))
  | .vl (.d (.int b)), .sub => .ret (.nx, x.2.set i (.vl (.d (.int (a - b)))))
  | _, _ => .fail
@[simp] theorem augV_a (i : Nat) (a b : Int) : augV i .add a (.vl (.d (.int b)), env) = .ret (.nx, env.set i (.vl (.d (.int (a + b))))) := nr rfl
@[simp] theorem augV_s (i : Nat) (a b : Int) : augV i .sub a (.vl (.d (.int b)), env) = .ret (.nx, env.set i (.vl (.d (.int (a - b))))) := nr rfl
def augS (i : Nat) (o : BOp) (e : Ex) (env : Env) : Option Sl → M (Fl × Env)
  | some (.vl (.d (.int a))) => (evO cl e env).bind (augV i o a)
  | _ => .fail
@[simp] theorem augS_e (i : Nat) (o : BOp) (e : Ex) (a : Int) : augS cl i o e env (some (.vl (.d (.int a)))) = (evO cl e env).bind (augV i o a) := nr rfl
@[simp] theorem u_aug (i : Nat) (o : BOp) (e : Ex) : evS cl (.aug i o e) env = augS cl i o e env (lk env i) := by
  simp only [evS, lk_eq]
  cases lk env i with
  | none => rfl
  | some s => cases s with
    | u => rfl
    | ow x => rfl
    | vl v => cases v with
      | src => rfl
      | fn g => rfl
      | d x => cases x <;> rfl
def ownLS : Option Sl → Bool
  | some (.ow (.lst _)) => true
  | _ => false
@[simp] theorem ownLS_o (xs : List D) : ownLS (some (.ow (.lst xs))) = true := nr rfl
theorem ownL_lk (i : Nat) : ownL env i = ownLS (lk env i) := by
  simp only [ownL, lk_eq]
  cases lk env i with
  | none => rfl
  | some s => cases s with
    | u => rfl
    | vl v => rfl
    | ow x => cases x <;> rfl
def appV (i : Nat) (x : D) (env : Env) : Option Sl → M (Fl × Env)
  | some (.ow (.lst xs)) => if xs.length < cap then .ret (.nx, env.set i (.ow (.lst (xs ++ [x])))) else .fail
  | _ => .fail
@[simp] theorem appV_e (i : Nat) (x : D) (xs : List D) : appV i x env (some (.ow (.lst xs))) = if xs.length < 1000000 then .ret (.nx, env.set i (.ow (.lst (xs ++ [x])))) else .fail := nr rfl
def appO (i : Nat) : Option (Vl × Env) → M (Fl × Env)
  | some (.d x, env) => appV i x env (lk env i)
  | _ => .fail
@[simp] theorem appO_s (i : Nat) (x : D) : appO i (some (.d x, env)) = appV i x env (lk env i) := nr rfl
def kApp (i : Nat) (x : Od × Env) : M (Fl × Env) := appO i (x.1.frz x.2)
@[simp] theorem kApp_e (i : Nat) (o : Od) : kApp i (o, env) = appO i (o.frz env) := nr rfl
@[simp] theorem u_app (i : Nat) (e : Ex) : evS cl (.app i e) env = if ownLS (lk env i) = true then (evO cl e env).bind (kApp i) else .fail := by
  simp only [evS, ownL_lk]
  congr 1
  congr 1; funext x
  show _ = appO i (x.1.frz x.2)
  cases x.1.frz x.2 with
  | none => rfl
  | some y =>
    obtain ⟨v, e⟩ := y
    cases v with
    | d x =>
      simp only [lk_eq]
      show _ = appV i x e (lk e i)
      cases lk e i with
      | none => rfl
      | some s => cases s with
        | u => rfl
        | vl v => rfl
        | ow x => cases x <;> rfl
    | src => rfl
    | fn g => rfl
def extV (i : Nat) (env : Env) : Option D → Option Sl → M (Fl × Env)
  | some (.lst ys), some (.ow (.lst xs)) => if xs.length + ys.length ≤ cap then .ret (.nx, env.set i (.ow (.lst (xs ++ ys)))) else .fail
  | _, _ => .fail
@[simp] theorem extV_e (i : Nat) (xs ys : List D) : extV i env (some (.lst ys)) (some (.ow (.lst xs))) = if xs.length + ys.length ≤ 1000000 then .ret (.nx, env.set i (.ow (.lst (xs ++ ys)))) else .fail := nr rfl
def kExt (i : Nat) (x : Od × Env) : M (Fl × Env) := extV i x.2 (resN x.2 x.1) (lk x.2 i)
@[simp] theorem kExt_e (i : Nat) (o : Od) : kExt i (o, env) = extV i env (resN env o) (lk env i) := nr rfl
@[simp] theorem u_ext (i : Nat) (e : Ex) : evS cl (.ext i e) env = if ownLS (lk env i) = true then (evO cl e env).bind (kExt i) else .fail := by
  simp only [evS, ownL_lk]
  congr 1
  congr 1; funext x
  show _ = extV i x.2 (x.1.norm.res x.2) (lk x.2 i)
  simp only [lk_eq]
  cases x.1.norm.res x.2 with
  | none => rfl
  | some d => cases d <;> rfl
def kIf (a b : Sts) (x : Bool × Env) : M (Fl × Env) := if x.1 then evSs cl a x.2 else evSs cl b x.2
@[simp] theorem kIf_t (a b : Sts) : kIf cl a b (true, env) = evSs cl a env := nr rfl
@[simp] theorem kIf_f (a b : Sts) : kIf cl a b (false, env) = evSs cl b env := nr rfl
@[simp] theorem kIf_x (a b : Sts) (t : Bool) : kIf cl a b (t, env) = if t = true then evSs cl a env else evSs cl b env := nr rfl
@[simp] theorem u_iff (c : Ex) (a b : Sts) : evS cl (.iff c a b) env = (evT cl c env).bind (kIf cl a b) := by simp only [evS]; rfl
def retO : Option (Vl × Env) → M (Fl × Env)
  | some (.d x, env) => .ret (.rt x, env)
  | _ => .fail
@[simp] theorem retO_s (x : D) : retO (some (.d x, env)) = .ret (.rt x, env) := nr rfl
def kRt (x : Od × Env) : M (Fl × Env) := retO (x.1.frz x.2)
@[simp] theorem kRt_e (o : Od) : kRt (o, env) = retO (o.frz env) := nr rfl
@[simp] theorem u_ret (e : Ex) : evS cl (.ret e) env = (evO cl e env).bind kRt := by
  simp only [evS]
  congr 1
@[simp] theorem u_retN : evS cl .retN env = .ret (.rt .non, env) := nr rfl
@[simp] theorem u_pass : evS cl .pass env = .ret (.nx, env) := nr rfl
@[simp] theorem u_shr (is : List Nat) : evS cl (.shr is) env = .ret (.nx, shrs env is) := nr rfl
def kSs (r : Sts) (x : Fl × Env) : M (Fl × Env) := match x.1 with
  | .nx => evSs cl r x.2
  | .rt y => .ret (.rt y, x.2)
@[simp] theorem kSs_n (r : Sts) : kSs cl r (.nx, env) = evSs cl r env := nr rfl
@[simp] theorem kSs_r (r : Sts) (x : D) : kSs cl r (.rt x, env) = .ret (.rt x, env) := nr rfl
@[simp] theorem u_s0 : evSs cl .nil env = .ret (.nx, env) := nr rfl
@[simp] theorem u_s1 (s : St) (r : Sts) : evSs cl (.cons s r) env = (evS cl s env).bind (kSs cl r) := by
  simp only [evSs]
  congr 1
/-! ### sharing -/
def shrS (i : Nat) (env : Env) : Option Sl → Env
  | some (.ow x) => env.set i (.vl (.d x))
  | _ => env
@[simp] theorem shrS_o (i : Nat) (x : D) : shrS i env (some (.ow x)) = env.set i (.vl (.d x)) := nr rfl
@[simp] theorem shrS_v (i : Nat) (v : Vl) : shrS i env (some (.vl v)) = env := nr rfl
@[simp] theorem shrS_u (i : Nat) : shrS i env (some .u) = env := nr rfl
@[simp] theorem shrs_0 : shrs env [] = env := nr rfl
@[simp] theorem shrs_1 (i : Nat) (r : List Nat) : shrs env (i :: r) = shrs (shrS i env (lk env i)) r := by
  simp only [shrs, shr, lk_eq]
  congr 1
@[simp] theorem unset_0 : unset env [] = env := nr rfl
@[simp] theorem unset_1 (i : Nat) (r : List Nat) : unset env (i :: r) = (unset env r).set i .u := nr rfl
def bkS : Option Sl → Sl
  | some s => s
  | none => .u
@[simp] theorem bkS_s (s : Sl) : bkS (some s) = s := nr rfl
@[simp] theorem back_0 (old new : Env) : back old new [] = new := nr rfl
@[simp] theorem back_1 (old new : Env) (i : Nat) (r : List Nat) : back old new (i :: r) = (back old new r).set i (bkS (lk old i)) := by
  simp only [back, lk_eq]
  congr 1
def noS : Option Sl → Bool
  | some (.ow _) => false
  | _ => true
@[simp] theorem noS_v (v : Vl) : noS (some (.vl v)) = true := nr rfl
@[simp] theorem noS_u : noS (some .u) = true := nr rfl
@[simp] theorem noOwn_0 : noOwn env [] = true := nr rfl
@[simp] theorem noOwn_1 (i : Nat) (r : List Nat) : noOwn env (i :: r) = (noS (lk env i) && noOwn env r) := by
  simp only [noOwn, List.all_cons, lk_eq]
  congr 1
/-- a turn of a comprehension -/
def frzLc (own : List Nat) : Option (Vl × Env) → M (Option D × Env)
  | some (.d y, env) => .ret (some y, unset env own)
  | _ => .fail
@[simp] theorem frzLc_s (own : List Nat) (y : D) : frzLc own (some (.d y, env)) = .ret (some y, unset env own) := nr rfl
def kLc2 (own : List Nat) (x : Od × Env) : M (Option D × Env) := frzLc own (x.1.frz x.2)
@[simp] theorem kLc2_e (own : List Nat) (o : Od) : kLc2 own (o, env) = frzLc own (o.frz env) := nr rfl
def kLc (elt : Ex) (own : List Nat) (x : Bool × Env) : M (Option D × Env) := if x.1 then (evO cl elt x.2).bind (kLc2 own) else .ret (none, unset x.2 own)
@[simp] theorem kLc_t (elt : Ex) (own : List Nat) : kLc cl elt own (true, env) = (evO cl elt env).bind (kLc2 own) := nr rfl
@[simp] theorem kLc_f (elt : Ex) (own : List Nat) : kLc cl elt own (false, env) = .ret (none, unset env own) := nr rfl
@[simp] theorem kLc_x (elt : Ex) (own : List Nat) (t : Bool) : kLc cl elt own (t, env) = if t = true then (evO cl elt env).bind (kLc2 own) else .ret (none, unset env own) := nr rfl
def lcO (elt : Ex) (ifs : Exs) (own : List Nat) : Option Env → M (Option D × Env)
  | some env => (evB cl true ifs env).bind (kLc cl elt own)
  | none => .fail
@[simp] theorem lcO_s (elt : Ex) (ifs : Exs) (own : List Nat) : lcO cl elt ifs own (some env) = (evB cl true ifs env).bind (kLc cl elt own) := nr rfl
@[simp] theorem u_lcStep (elt : Ex) (g : Tg) (ifs : Exs) (own : List Nat) (x : D) : lcStep cl elt g ifs own x env = lcO cl elt ifs own (asgTg g x env) := by
  simp only [lcStep]
  cases asgTg g x env with
  | none => rfl
  | some e =>
    show _ = (evB cl true ifs e).bind (kLc cl elt own)
    congr 1
end
@[simp] theorem exsLen_0 : exsLen .nil = 0 := nr rfl
@[simp] theorem exsLen_1 (e : Ex) (r : Exs) : exsLen (.cons e r) = exsLen r + 1 := nr rfl
@[simp] theorem exsLen_s (e : Ex) (r : Exs) : exsLen (.star e r) = exsLen r + 1 := nr rfl
/-! ### data -/
section
variable (i j : Int) (a b : List D)
@[simp] theorem b_add : binop .add (.int i) (.int j) = some (.vl (.d (.int (i + j)))) := nr rfl
@[simp] theorem b_addl : binop .add (.lst a) (.lst b) = if a.length + b.length ≤ 1000000 then some (.fr (.lst (a ++ b))) else none := nr rfl
@[simp] theorem b_addt : binop .add (.tup a) (.tup b) = if a.length + b.length ≤ 1000000 then some (.vl (.d (.tup (a ++ b)))) else none := nr rfl
@[simp] theorem b_sub : binop .sub (.int i) (.int j) = some (.vl (.d (.int (i - j)))) := nr rfl
@[simp] theorem b_mul : binop .mul (.int i) (.int j) = if bnd64 i = true ∨ bnd64 j = true then some (.vl (.d (.int (i * j)))) else none := by
  show (if (bnd64 i || bnd64 j) = true then _ else _) = _
  simp only [Bool.or_eq_true]; rfl
@[simp] theorem b_mull : binop .mul (.lst a) (.int j) = if 0 ≤ j ∧ j.natAbs ≤ 1000000 ∧ a.length * j.toNat ≤ 1000000 then some (.fr (.lst (rep j.toNat a))) else none := nr rfl
@[simp] theorem b_mult : binop .mul (.tup a) (.int j) = if j = 1 then some (.vl (.d (.tup a))) else if 2 ≤ j ∧ j.natAbs ≤ 1000 ∧ a.isEmpty = false ∧ a.length ≤ 1000 then some (.vl (.d (.tup (rep j.toNat a)))) else none := nr rfl
@[simp] theorem b_fdiv : binop .fdiv (.int i) (.int j) = if 0 < j ∧ j.natAbs < 1073741824 then some (.vl (.d (.int (i / j)))) else none := nr rfl
@[simp] theorem b_mod : binop .mod (.int i) (.int j) = if 0 < j then some (.vl (.d (.int (i % j)))) else none := nr rfl
@[simp] theorem b_shl : binop .shl (.int i) (.int j) = if 0 ≤ j ∧ j.natAbs ≤ 1000000 ∧ i.natAbs < 18446744073709551616 then some (.vl (.d (.int (i * 2 ^ j.toNat)))) else none := nr rfl
@[simp] theorem b_pow : binop .pow (.int i) (.int j) = if 0 ≤ j ∧ j.natAbs ≤ 1000000 ∧ i.natAbs < 18446744073709551616 then some (.vl (.d (.int (i ^ j.toNat)))) else none := nr rfl
variable (s t : Str) (x : D)
@[simp] theorem c_eqi : cmpop .eq (.int i) (.int j) = some (i == j) := by simp [cmpop, eqOk, plain, dep, eqv]
@[simp] theorem c_nei : cmpop .ne (.int i) (.int j) = some (!(i == j)) := by simp [cmpop, eqOk, plain, dep, eqv]
@[simp] theorem c_eqs : cmpop .eq (.str s) (.str t) = some (s == t) := nr rfl
@[simp] theorem c_nes : cmpop .ne (.str s) (.str t) = some (!(s == t)) := nr rfl
@[simp] theorem c_eqb (p q : Bool) : cmpop .eq (.bl p) (.bl q) = some (p == q) := by simp [cmpop, eqOk, plain, dep, eqv]
@[simp] theorem c_neb (p q : Bool) : cmpop .ne (.bl p) (.bl q) = some (!(p == q)) := by simp [cmpop, eqOk, plain, dep, eqv]
@[simp] theorem c_eqt : cmpop .eq (.tup a) (.tup b) = if eqOk (.tup a) (.tup b) = true then some (eqvs a b) else none := nr rfl
@[simp] theorem c_net : cmpop .ne (.tup a) (.tup b) = if eqOk (.tup a) (.tup b) = true then some (!eqvs a b) else none := nr rfl
@[simp] theorem c_eql : cmpop .eq (.lst a) (.lst b) = if eqOk (.lst a) (.lst b) = true then some (eqvs a b) else none := nr rfl
@[simp] theorem c_nel : cmpop .ne (.lst a) (.lst b) = if eqOk (.lst a) (.lst b) = true then some (!eqvs a b) else none := nr rfl
@[simp] theorem c_lt : cmpop .lt (.int i) (.int j) = some (decide (i < j)) := nr rfl
@[simp] theorem c_le : cmpop .le (.int i) (.int j) = some (decide (i ≤ j)) := nr rfl
@[simp] theorem c_gt : cmpop .gt (.int i) (.int j) = some (decide (j < i)) := nr rfl
@[simp] theorem c_ge : cmpop .ge (.int i) (.int j) = some (decide (j ≤ i)) := nr rfl
@[simp] theorem c_ltt : cmpop .lt (.tup a) (.tup b) = if (hasAll .int a && hasAll .int b) = true then some (ltDs a b) else none := nr rfl
@[simp] theorem c_memt : cmpop .mem x (.tup a) = if memOk x a = true then some (a.any fun y => eqv y x) else none := by cases x <;> rfl
@[simp] theorem c_meml : cmpop .mem x (.lst a) = if memOk x a = true then some (a.any fun y => eqv y x) else none := by cases x <;> rfl
@[simp] theorem c_nmemt : cmpop .nmem x (.tup a) = if memOk x a = true then some (!a.any fun y => eqv y x) else none := by cases x <;> rfl
@[simp] theorem c_nmeml : cmpop .nmem x (.lst a) = if memOk x a = true then some (!a.any fun y => eqv y x) else none := by cases x <;> rfl
@[simp] theorem c_memd (t : Bool) (kvs : List (D × D)) : cmpop .mem x (.dic t kvs) = if keyOk t x = true then some (dget x kvs).isSome else none := by cases x <;> rfl
@[simp] theorem c_nmemd (t : Bool) (kvs : List (D × D)) : cmpop .nmem x (.dic t kvs) = if keyOk t x = true then some (!(dget x kvs).isSome) else none := by cases x <;> rfl
@[simp] theorem i_t : index (.tup a) (.int i) = atD a i := nr rfl
@[simp] theorem i_l : index (.lst a) (.int i) = atD a i := nr rfl
@[simp] theorem i_d (t : Bool) (kvs : List (D × D)) (k : D) : index (.dic t kvs) k = if keyOk t k = true then dget k kvs else none := by cases k <;> rfl
@[simp] theorem k_i : keyOk false (.int i) = true := nr rfl
@[simp] theorem k_s : keyOk false (.str s) = true := nr rfl
@[simp] theorem at_nat (n : Nat) : atD a (n : Int) = a[n]? := by
  unfold atD
  rw [if_pos (by omega)]
  by_cases h : n < a.length
  · rw [if_pos (by omega)]; rfl
  · rw [if_neg (by omega)]; simp; omega
@[simp] theorem at_0 (x : D) : atD (x :: a) 0 = some x := by simp [atD]
@[simp] theorem at_1 (x y : D) : atD (x :: y :: a) 1 = some y := by simp [atD]; omega
@[simp] theorem at_2 (x y z : D) : atD (x :: y :: z :: a) 2 = some z := by simp [atD]; omega
@[simp] theorem at_3 (x y z w : D) : atD (x :: y :: z :: w :: a) 3 = some w := by simp [atD]; omega
@[simp] theorem at_m1 (x : D) : atD (a ++ [x]) (-1) = some x := by
  unfold atD
  have h : (a ++ [x]).length = a.length + 1 := by simp
  rw [if_neg (by omega), if_pos (by omega), h]
  have : (-1 + ((a.length + 1 : Nat) : Int)).toNat = a.length := by omega
  rw [this]
  simp
@[simp] theorem sl_t (l h : Option Int) : slice (.tup a) l h = some (.vl (.d (.tup (cut a l h)))) := nr rfl
@[simp] theorem sl_l (l h : Option Int) : slice (.lst a) l h = some (.fr (.lst (cut a l h))) := nr rfl
@[simp] theorem q_lent : bi .len [.tup a] = some (.vl (.d (.int a.length))) := nr rfl
@[simp] theorem q_lenl : bi .len [.lst a] = some (.vl (.d (.int a.length))) := nr rfl
@[simp] theorem q_lend (kvs : List (D × D)) : bi .len [.dic false kvs] = some (.vl (.d (.int kvs.length))) := nr rfl
@[simp] theorem q_listt : bi .list [.tup a] = some (.fr (.lst a)) := nr rfl
@[simp] theorem q_listl : bi .list [.lst a] = some (.fr (.lst a)) := nr rfl
@[simp] theorem q_tupt : bi .tuple [.tup a] = some (.vl (.d (.tup a))) := nr rfl
@[simp] theorem q_tupl : bi .tuple [.lst a] = some (.vl (.d (.tup a))) := nr rfl
@[simp] theorem q_inti : bi .int [.int i] = some (.vl (.d (.int i))) := nr rfl
@[simp] theorem q_intb (p : Bool) : bi .int [.bl p] = some (.vl (.d (.int (if p = true then 1 else 0)))) := nr rfl
@[simp] theorem q_abs : bi .abs [.int i] = some (.vl (.d (.int (if i < 0 then -i else i)))) := nr rfl
@[simp] theorem q_zipl (b : List D) : bi .zipl [.lst a, .lst b] = if a.length = b.length then some (.fr (.lst (zipD a b))) else none := nr rfl
@[simp] theorem q_sum : bi .sum [.lst a] = (toInts a).map fun ns => .vl (.d (.int ns.sum)) := nr rfl
theorem q_min1 {t : Bool} {m : Int} {ms : List Int} (h : toInts a = some (m :: ms)) : bi (.min1 .int) [if t = true then .tup a else .lst a] = some (.vl (.d (.int (ms.foldl (fun a b => if b < a then b else a) m)))) := by
  cases a with
  | nil => cases h
  | cons x xs => cases t <;> (show (match toInts (x :: xs) with | some (n :: ns) => _ | _ => _) = _) <;> rw [h] <;> rfl
theorem q_max1 {t : Bool} {m : Int} {ms : List Int} (h : toInts a = some (m :: ms)) : bi (.max1 .int) [if t = true then .tup a else .lst a] = some (.vl (.d (.int (ms.foldl (fun a b => if a < b then b else a) m)))) := by
  cases a with
  | nil => cases h
  | cons x xs => cases t <;> (show (match toInts (x :: xs) with | some (n :: ns) => _ | _ => _) = _) <;> rw [h] <;> rfl
@[simp] theorem q_min1t (i j : Int) : bi (.min1 .int) [.tup [.int i, .int j]] = some (.vl (.d (.int (if j < i then j else i)))) := nr rfl
@[simp] theorem q_max1t (i j : Int) : bi (.max1 .int) [.tup [.int i, .int j]] = some (.vl (.d (.int (if i < j then j else i)))) := nr rfl
@[simp] theorem q_min2 : bi .min2 [.int i, .int j] = some (.vl (.d (.int (if j < i then j else i)))) := nr rfl
@[simp] theorem q_max2 : bi .max2 [.int i, .int j] = some (.vl (.d (.int (if j > i then j else i)))) := nr rfl
@[simp] theorem q_all : bi .all [.lst a] = (toBools a).map fun bs => .vl (.d (.bl (bs.all id))) := nr rfl
@[simp] theorem q_any : bi .any [.lst a] = (toBools a).map fun bs => .vl (.d (.bl (bs.any id))) := nr rfl
@[simp] theorem q_repr : bi .repr [x] = (shown x).map fun s => .vl (.d (.str s)) := by cases x <;> rfl
@[simp] theorem q_isi (c : Cl) : bi (.isi c) [x] = (isCl c x).map Od.bl := by cases x <;> rfl
@[simp] theorem q_sorted : bi (.sorted .int) [.lst a] = (toInts a).map fun ns => .fr (.lst ((sortI ns).map D.int)) := nr rfl
@[simp] theorem q_rng1 : bi .rng1 [.int i] = if small i = true then some (.fr (.lst (rangeD 0 i.toNat))) else none := nr rfl
@[simp] theorem bnd64_2 : bnd64 2 = true := by decide
@[simp] theorem bnd64_n (n : Nat) : bnd64 (n : Int) = decide (n < 18446744073709551616) := nr rfl
@[simp] theorem small_n (n : Nat) : small (n : Int) = decide (n ≤ 1000000) := nr rfl
@[simp] theorem small_i : small i = decide (i.natAbs ≤ 1000000) := nr rfl
end
end Bq

set_option Elab.async false
set_option autoImplicit false
set_option linter.all false
set_option maxRecDepth 100000
/-! Tools for equations, 2: comprehensions and loops over typed lists. -/
namespace Bq
open PySem (Str)
abbrev vI (i : Int) : Sl := .vl (.d (.int i))
abbrev vB (b : Bool) : Sl := .vl (.d (.bl b))
abbrev vD (d : D) : Sl := .vl (.d d)
theorem rangeD_map (lo : Int) (n : Nat) : rangeD lo n = (List.range n).map fun i : Nat => D.int (lo + (i : Int)) := by
  induction n generalizing lo with
  | zero => rfl
  | succ n ih =>
    rw [List.range_succ_eq_map, List.map_cons, List.map_map, rangeD, ih]
    congr 1
    · simp
    · apply List.map_congr_left
      intro i _
      simp only [Function.comp]
      congr 1
      push_cast
      omega
theorem rangeD0 (n : Nat) : rangeD 0 n = (List.range n).map fun i : Nat => D.int (i : Int) := by
  rw [rangeD_map]
  simp
section
variable {cl : Nat → List Vl → M D} {env e1 e2 : Env} {r : Sts} {α : Type}
theorem lc_m {elt : Ex} {g : Tg} {it : It} {ifs : Exs} {own fz : List Nat} {l : List α} {h : α → D} (f : α → D) (h1 : evIt cl it env = .ret (l.map h, e1)) (hno : noOwn e1 own = true) (hcap : l.length ≤ cap)
    (he : unset (shrs e1 fz) own = e2) (hs : ∀ a ∈ l, lcStep cl elt g ifs own (h a) e2 = .ret (some (f a), e2)) : evO cl (.lc elt g it ifs own fz) env = .ret (.fr (.lst (l.map f)), back e1 e2 own) := by
  subst he
  rw [lc_eq, h1]
  have : ∀ l : List α, (∀ a ∈ l, lcStep cl elt g ifs own (h a) (unset (shrs e1 fz) own) = .ret (some (f a), unset (shrs e1 fz) own)) → lcLoop (lcStep cl elt g ifs own) (l.map h) (unset (shrs e1 fz) own) = .ret (l.map f, unset (shrs e1 fz) own) := by
    intro l
    induction l with
    | nil => intro _; rfl
    | cons a l ih =>
      intro hs
      simp only [List.map_cons, lcLoop, hs a List.mem_cons_self, M.bind_ret, ih fun b hb => hs b (List.mem_cons_of_mem _ hb)]
  simp only [M.bind_ret, hno, List.length_map, hcap, decide_true, Bool.and_self, if_true, this l hs]
theorem lc_f0 {elt : Ex} {g : Tg} {it : It} {ifs : Exs} {own fz : List Nat} {l : List α} {h : α → D} (f : α → D) (p : α → Bool) (h1 : evIt cl it env = .ret (l.map h, e1)) (hno : noOwn e1 own = true) (hcap : l.length ≤ cap)
    (he : unset (shrs e1 fz) own = e2) (hs : ∀ a ∈ l, lcStep cl elt g ifs own (h a) e2 = .ret (if p a = true then some (f a) else none, e2)) : evO cl (.lc elt g it ifs own fz) env = .ret (.fr (.lst ((l.filter p).map f)), back e1 e2 own) := by
  subst he
  rw [lc_eq, h1]
  have : ∀ l : List α, (∀ a ∈ l, lcStep cl elt g ifs own (h a) (unset (shrs e1 fz) own) = .ret (if p a = true then some (f a) else none, unset (shrs e1 fz) own)) → lcLoop (lcStep cl elt g ifs own) (l.map h) (unset (shrs e1 fz) own) = .ret ((l.filter p).map f, unset (shrs e1 fz) own) := by
    intro l
    induction l with
    | nil => intro _; rfl
    | cons a l ih =>
      intro hs
      simp only [List.map_cons, lcLoop, hs a List.mem_cons_self, M.bind_ret, ih fun b hb => hs b (List.mem_cons_of_mem _ hb)]
      cases hp : p a <;> simp [List.filter_cons, hp]
  simp only [M.bind_ret, hno, List.length_map, hcap, decide_true, Bool.and_self, if_true, this l hs]
theorem lc_f {elt : Ex} {g : Tg} {it : It} {ifs : Exs} {own fz : List Nat} {l : List α} {h : α → D} (f : α → D) (p : α → Bool) (h1 : evIt cl it env = .ret (l.map h, e1)) (hno : noOwn e1 own = true) (hcap : l.length ≤ cap)
    (he : unset (shrs e1 fz) own = e2) (hs : ∀ a ∈ l, lcStep cl elt g ifs own (h a) e2 = if p a = true then .ret (some (f a), e2) else .ret (none, e2)) : evO cl (.lc elt g it ifs own fz) env = .ret (.fr (.lst ((l.filter p).map f)), back e1 e2 own) :=
  lc_f0 f p h1 hno hcap he fun a ha => by rw [hs a ha]; split <;> rfl
/-- a for by an invariant of how many items are done -/
theorem fr_inv {g : Tg} {b : Env → M (Fl × Env)} (h : α → D) (I : Nat → Env → Prop) : ∀ (l : List α) (n : Nat) (env : Env), I n env →
    (∀ k a env, l[k]? = some a → I (n + k) env → ∃ e1 e2, asgTg g (h a) env = some e1 ∧ b e1 = .ret (.nx, e2) ∧ I (n + k + 1) e2) →
    ∃ env', frLoop g b (l.map h) env = .ret (.nx, env') ∧ I (n + l.length) env'
  | [], n, env, hi, _ => ⟨env, rfl, hi⟩
  | a :: l, n, env, hi, hb => by
    obtain ⟨e1, e2, h1, h2, h3⟩ := hb 0 a env rfl hi
    obtain ⟨e3, h4, h5⟩ := fr_inv h I l (n + 1) e2 h3 fun k c env hc hk => by
      have := hb (k + 1) c env (by simpa using hc) (by rw [show n + (k + 1) = n + 1 + k by omega]; exact hk)
      rw [show n + (k + 1) + 1 = n + 1 + k + 1 by omega] at this
      exact this
    refine ⟨e3, by simp only [List.map_cons, frLoop, h1, h2, M.bind_ret, h4], ?_⟩
    rw [List.length_cons, show n + (l.length + 1) = n + 1 + l.length by omega]
    exact h5
/-- a for statement -/
theorem evS_fr {g : Tg} {it : It} {b : Sts} (h : α → D) (I : Nat → Env → Prop) (l : List α) (h1 : evIt cl it env = .ret (l.map h, e1)) (h0 : I 0 e1)
    (hb : ∀ k a env, l[k]? = some a → I k env → ∃ e1 e2, asgTg g (h a) env = some e1 ∧ evSs cl b e1 = .ret (.nx, e2) ∧ I (k + 1) e2) :
    ∃ env', evS cl (.fr g it b) env = .ret (.nx, env') ∧ I l.length env' := by
  obtain ⟨e, h2, h3⟩ := fr_inv (g := g) (b := fun env => evSs cl b env) h I l 0 e1 h0 fun k a env ha hi => by
    rw [Nat.zero_add] at hi ⊢
    exact hb k a env ha hi
  rw [Nat.zero_add] at h3
  exact ⟨e, by simp only [evS, h1, M.bind_ret, h2], h3⟩
/-- .. over a range from 0 -/
theorem evS_frR {g : Tg} {it : It} {b : Sts} (I : Nat → Env → Prop) (n : Nat) (h1 : evIt cl it env = .ret (rangeD 0 n, env)) (h0 : I 0 env)
    (hb : ∀ (k : Nat) env, k < n → I k env → ∃ e1 e2, asgTg g (.int k) env = some e1 ∧ evSs cl b e1 = .ret (.nx, e2) ∧ I (k + 1) e2) :
    ∃ env', evS cl (.fr g it b) env = .ret (.nx, env') ∧ I n env' := by
  have := evS_fr (cl := cl) (env := env) (g := g) (it := it) (b := b) (fun i : Nat => D.int (i : Int)) I (List.range n) (by rw [h1, rangeD0]) h0 fun k a env ha hi => by
    rw [List.getElem?_eq_some_iff] at ha
    obtain ⟨h1, h2⟩ := ha
    rw [List.length_range] at h1
    rw [List.getElem_range] at h2
    subst h2
    exact hb k env h1 hi
  rwa [List.length_range] at this
/-- a while that may return: fin tells what it returns, if anything -/
theorem whLoop_fin {σ : Type} (I : σ → Env → Prop) (more : σ → Bool) (P : σ → Prop) (μ : σ → Nat) (fin : σ → Option D) {c : Env → M (Bool × Env)} {b : Env → M (Fl × Env)} (hc : ∀ s env, I s env → P s → c env = .ret (more s, env)) (h0 : ∀ s, P s → more s = false → fin s = none)
    (hb : ∀ s env, I s env → P s → more s = true → (∃ s' env', b env = .ret (.nx, env') ∧ I s' env' ∧ P s' ∧ μ s' < μ s ∧ fin s' = fin s) ∨ (∃ x env', b env = .ret (.rt x, env') ∧ fin s = some x)) :
    ∀ (fuel : Nat) (s : σ) (env : Env), I s env → P s → μ s < fuel → (fin s = none ∧ ∃ s' env', whLoop c b fuel env = .ret (.nx, env') ∧ I s' env' ∧ P s' ∧ more s' = false) ∨ (∃ x env', fin s = some x ∧ whLoop c b fuel env = .ret (.rt x, env'))
  | 0, _, _, _, _, h => absurd h (Nat.not_lt_zero _)
  | fuel + 1, s, env, hi, p, h => by
    cases hm : more s with
    | false => exact .inl ⟨h0 s p hm, s, env, by simp only [whLoop, hc s env hi p, M.bind_ret, hm]; rfl, hi, p, hm⟩
    | true =>
      rcases hb s env hi p hm with ⟨s1, e1, h1, hi1, p1, m1, f1⟩ | ⟨x, e1, h1, f1⟩
      · rcases whLoop_fin I more P μ fin hc h0 hb fuel s1 e1 hi1 p1 (by omega) with ⟨g, s2, e2, h2, hi2, p2, m2⟩ | ⟨x, e2, g, h2⟩
        · exact .inl ⟨by rw [← f1]; exact g, s2, e2, by simp only [whLoop, hc s env hi p, M.bind_ret, hm, if_true, h1, h2], hi2, p2, m2⟩
        · exact .inr ⟨x, e2, by rw [← f1]; exact g, by simp only [whLoop, hc s env hi p, M.bind_ret, hm, if_true, h1, h2]⟩
      · exact .inr ⟨x, e1, f1, by simp only [whLoop, hc s env hi p, M.bind_ret, hm, if_true, h1]⟩
theorem evS_whf {σ : Type} {t : Ex} {b : Sts} (I : σ → Env → Prop) (more : σ → Bool) (P : σ → Prop) (μ : σ → Nat) (fin : σ → Option D) (hc : ∀ s env, I s env → P s → evT cl t env = .ret (more s, env)) (h0 : ∀ s, P s → more s = false → fin s = none)
    (hb : ∀ s env, I s env → P s → more s = true → (∃ s' env', evSs cl b env = .ret (.nx, env') ∧ I s' env' ∧ P s' ∧ μ s' < μ s ∧ fin s' = fin s) ∨ (∃ x env', evSs cl b env = .ret (.rt x, env') ∧ fin s = some x)) (s : σ) (hi : I s env) (p : P s) (hm : μ s < 1000000) :
    (fin s = none ∧ ∃ s' env', evS cl (.wh t b) env = .ret (.nx, env') ∧ I s' env' ∧ P s' ∧ more s' = false) ∨ (∃ x env', fin s = some x ∧ evS cl (.wh t b) env = .ret (.rt x, env')) := by
  have := whLoop_fin I more P μ fin (c := fun env => evT cl t env) (b := fun env => evSs cl b env) hc h0 hb wfuel s env hi p hm
  simp only [evS]
  exact this
theorem Rets.stR {s : St} {x : D} (h : evS cl s env = .ret (.rt x, e1)) : Rets cl (.cons s r) env x := ⟨e1, ss_ret h⟩
theorem frLoop_cons {g : Tg} {b : Env → M (Fl × Env)} {x : D} {xs : List D} (h1 : asgTg g x env = some e1) (h2 : b e1 = .ret (.nx, e2)) : frLoop g b (x :: xs) env = frLoop g b xs e2 := by
  simp only [frLoop, h1, h2, M.bind_ret]
/-- a while statement, by an invariant and a measure; s a state -/
theorem evS_wh {σ : Type} {t : Ex} {b : Sts} (I : σ → Env → Prop) (more : σ → Bool) (f : σ → σ) (P : σ → Prop) (μ : σ → Nat) (hc : ∀ s env, I s env → P s → evT cl t env = .ret (more s, env))
    (hb : ∀ s env, I s env → P s → more s = true → ∃ env', evSs cl b env = .ret (.nx, env') ∧ I (f s) env') (hP : ∀ s, P s → more s = true → P (f s) ∧ μ (f s) < μ s) (s : σ) (hi : I s env) (p : P s) (hm : μ s < 1000000) :
    ∃ s' env', evS cl (.wh t b) env = .ret (.nx, env') ∧ I s' env' ∧ P s' ∧ more s' = false := by
  obtain ⟨s', e', h, h2⟩ := whLoop_inv I more f P μ (c := fun env => evT cl t env) (b := fun env => evSs cl b env) hc hb hP wfuel s env hi p hm
  exact ⟨s', e', by simp only [evS]; exact h, h2⟩
theorem back_get2 {old new : Env} : ∀ (own : List Nat) (j : Nat), (back old new own)[j]? = if j ∈ own ∧ j < new.length then some (match old[j]? with | some s => s | none => .u) else new[j]?
  | [], j => by simp [back]
  | i :: r, j => by
    have hl : (back old new r).length = new.length := by
      have : ∀ r : List Nat, (back old new r).length = new.length := fun r => by
        induction r with
        | nil => rfl
        | cons i r ih => simp only [back, List.length_set, ih]
      exact this r
    simp only [back, List.getElem?_set, back_get2 r j, hl]
    by_cases h : i = j
    · subst h
      by_cases h2 : i < new.length
      · simp [h2] <;> cases old[i]? <;> rfl
      · simp [h2]
    · have : j ≠ i := fun e => h e.symm
      simp [h, this]
theorem unset_get2 {env : Env} : ∀ (own : List Nat) (j : Nat), (unset env own)[j]? = if j ∈ own ∧ j < env.length then some .u else env[j]?
  | [], j => by simp [unset]
  | i :: r, j => by
    have hl : (unset env r).length = env.length := by
      have : ∀ r : List Nat, (unset env r).length = env.length := fun r => by
        induction r with
        | nil => rfl
        | cons i r ih => simp only [unset, List.length_set, ih]
      exact this r
    simp only [unset, List.getElem?_set, unset_get2 r j, hl]
    by_cases h : i = j
    · subst h
      by_cases h2 : i < env.length <;> simp [h2]
    · have : j ≠ i := fun e => h e.symm
      simp [h, this]
theorem unset_len2 (env : Env) : ∀ own : List Nat, (unset env own).length = env.length
  | [] => rfl
  | i :: r => by simp only [unset, List.length_set, unset_len2 env r]
/-- a comprehension gives its names back -/
theorem back_unset2 (env : Env) (own : List Nat) : back env (unset env own) own = env := by
  apply List.ext_getElem?
  intro j
  rw [back_get2, unset_get2, unset_len2]
  by_cases h : j ∈ own ∧ j < env.length
  · rw [if_pos h, List.getElem?_eq_getElem h.2]
  · rw [if_neg h, if_neg h]
theorem run_rets {Φ : Tab} {k g : Nat} {vs : List Vl} {df : Df} {x : D} (h : Φ g = some df) (hl : vs.length = df.np) (e0 : Env) (he : vs.map Sl.vl ++ List.replicate df.nl .u = e0) (hb : Rets (run Φ k) df.body e0 x) : run Φ (k + 1) g vs = .ret x := run_def h hl (by rw [he]; exact hb)
theorem it_rg1 {e : Ex} {m : Int} {n : Nat} (h : evO cl e env = .ret (.vl (.d (.int m)), e1)) (hm : m = (n : Int)) (hn : n ≤ 1000000) : evIt cl (.rg1 e) env = .ret ((List.range n).map fun i : Nat => D.int (i : Int), e1) := by
  subst hm
  have : small (n : Int) = true := by simp [small]; omega
  simp only [evIt, h, M.bind_ret, this, if_true, Int.toNat_natCast, rangeD0]
theorem two_pow_cast (n : Nat) : (2 : Int) ^ n = ((2 ^ n : Nat) : Int) := by push_cast; rfl
/-! dicts -/
/-- keys with which == is = -/
def KEq (kvs : List (D × D)) (k : D) : Prop := ∀ p ∈ kvs, eqv p.1 k = true ↔ p.1 = k
theorem dput_len (k v : D) (kvs : List (D × D)) : (dput k v kvs).length ≤ kvs.length + 1 := by
  unfold dput
  split <;> simp
theorem dget_put {k l : D} (v : D) (hkl : eqv k l = true ↔ k = l) : ∀ {kvs : List (D × D)}, KEq kvs k → KEq kvs l → dget l (dput k v kvs) = if eqv k l = true then some v else dget l kvs := by
  have hm : ∀ kvs : List (D × D), KEq kvs k → KEq kvs l → dget l (kvs.map fun p => if eqv p.1 k = true then (p.1, v) else p) = if eqv k l = true ∧ kvs.any (fun p => eqv p.1 k) = true then some v else dget l kvs := by
    intro kvs
    induction kvs with
    | nil => intro _ _; simp [dget]
    | cons p r ih =>
      intro h1 h2
      obtain ⟨a, b⟩ := p
      have i := ih (fun p hp => h1 p (List.mem_cons_of_mem _ hp)) (fun p hp => h2 p (List.mem_cons_of_mem _ hp))
      have g1 : eqv a k = true ↔ a = k := h1 (a, b) List.mem_cons_self
      have g2 : eqv a l = true ↔ a = l := h2 (a, b) List.mem_cons_self
      rw [List.map_cons]
      by_cases e : eqv a k = true
      · have e' := g1.mp e
        subst e'
        simp only [e, if_true, dget, List.any_cons, Bool.true_or, and_true]
        by_cases e2 : eqv a l = true
        · simp [e2]
        · simp only [e2]
          rw [i]
          simp [e2]
      · by_cases e2 : eqv a l = true
        · have : ¬ eqv k l = true := fun x => e (by rw [g1, g2.mp e2, hkl.mp x])
          simp [e, e2, dget, this]
        · have e' : eqv a k = false := by simpa using e
          have e3 : ((a, b) :: r).any (fun p => eqv p.1 k) = r.any (fun p => eqv p.1 k) := by rw [List.any_cons]; show (eqv a k || _) = _; rw [e', Bool.false_or]
          rw [e3]
          simp only [e', Bool.false_eq_true, if_false, dget, e2]
          exact i
  intro kvs h1 h2
  unfold dput
  by_cases ha : kvs.any (fun p => eqv p.1 k) = true
  · rw [if_pos ha, hm kvs h1 h2]
    simp [ha]
  · rw [if_neg ha]
    have : ∀ kvs : List (D × D), KEq kvs k → KEq kvs l → ¬ kvs.any (fun p => eqv p.1 k) = true → dget l (kvs ++ [(k, v)]) = if eqv k l = true then some v else dget l kvs := by
      intro kvs
      induction kvs with
      | nil => intro _ _ _; simp [dget]
      | cons p r ih =>
        intro h1 h2 ha
        obtain ⟨a, b⟩ := p
        simp only [List.any_cons, Bool.or_eq_true, not_or] at ha
        have i := ih (fun p hp => h1 p (List.mem_cons_of_mem _ hp)) (fun p hp => h2 p (List.mem_cons_of_mem _ hp)) ha.2
        have g1 : eqv a k = true ↔ a = k := h1 (a, b) List.mem_cons_self
        have g2 : eqv a l = true ↔ a = l := h2 (a, b) List.mem_cons_self
        rw [List.cons_append]
        simp only [dget, i]
        by_cases e2 : eqv a l = true
        · have : ¬ eqv k l = true := fun x => ha.1 (by rw [g1, g2.mp e2, hkl.mp x])
          simp [e2, this]
        · simp [e2]
    exact this kvs h1 h2 ha
theorem dput_keys (k v : D) (kvs : List (D × D)) (P : D → Prop) (hk : P k) (h : ∀ p ∈ kvs, P p.1) : ∀ p ∈ dput k v kvs, P p.1 := by
  unfold dput
  split
  · intro p hp
    rw [List.mem_map] at hp
    obtain ⟨q, h1, h2⟩ := hp
    split at h2
    · subst h2; exact h q h1
    · subst h2; exact h q h1
  · intro p hp
    rw [List.mem_append] at hp
    rcases hp with hp | hp
    · exact h p hp
    · rw [List.mem_singleton] at hp
      subst hp
      exact hk
/-- keys that are ints -/
def KInt (kvs : List (D × D)) : Prop := ∀ p ∈ kvs, ∃ i : Int, p.1 = .int i
theorem KInt.keq {kvs : List (D × D)} (h : KInt kvs) (i : Int) : KEq kvs (.int i) := fun p hp => by
  obtain ⟨j, e⟩ := h p hp
  rw [e]
  simp [eqv]
theorem KInt.put {kvs : List (D × D)} (h : KInt kvs) (i : Int) (v : D) : KInt (dput (.int i) v kvs) := dput_keys _ v kvs (fun d => ∃ i : Int, d = .int i) ⟨i, rfl⟩ h
theorem KInt.get {kvs : List (D × D)} (h : KInt kvs) (i j : Int) (v : D) : dget (.int j) (dput (.int i) v kvs) = if i = j then some v else dget (.int j) kvs := by
  rw [dget_put v (by simp [eqv]) (h.keq i) (h.keq j)]
  simp [eqv]
theorem stepsD_down (lo : Int) : ∀ n : Nat, stepsD lo (-1) n = (List.range n).map fun i : Nat => D.int (lo - (i : Int)) := by
  intro n
  induction n generalizing lo with
  | zero => rfl
  | succ n ih =>
    rw [List.range_succ_eq_map, List.map_cons, List.map_map, stepsD, ih]
    congr 1
    · simp
    · apply List.map_congr_left
      intro i _
      simp only [Function.comp]
      congr 1
      push_cast
      omega
end
/-! ### lists of numbers -/
def nL (l : List Nat) : List D := l.map fun x : Nat => D.int (x : Int)
theorem nL_len (l : List Nat) : (nL l).length = l.length := by simp [nL]
theorem plains_map {α : Type} (f : α → D) (h : ∀ a, plain (f a) = true) : ∀ l : List α, plains (l.map f) = true
  | [] => rfl
  | a :: l => by simp [plains, h a, plains_map f h l]
theorem deps_map {α : Type} (f : α → D) (h : ∀ a, dep (f a) = 0) : ∀ l : List α, deps (l.map f) = 0
  | [] => rfl
  | a :: l => by simp [deps, h a, deps_map f h l]
theorem plains_nL (l : List Nat) : plains (nL l) = true := plains_map _ (fun _ => rfl) l
theorem deps_nL (l : List Nat) : deps (nL l) = 0 := deps_map _ (fun _ => rfl) l
@[simp] theorem toInts_map {α : Type} (f : α → Int) : ∀ l : List α, toInts (l.map fun a => D.int (f a)) = some (l.map f)
  | [] => rfl
  | a :: l => by simp [toInts, toInts_map f l]
@[simp] theorem toBools_map {α : Type} (f : α → Bool) : ∀ l : List α, toBools (l.map fun a => D.bl (f a)) = some (l.map f)
  | [] => rfl
  | a :: l => by simp [toBools, toBools_map f l]
theorem mem_nL (x : Nat) : ∀ l : List Nat, (nL l).any (fun y => eqv y (.int (x : Int))) = l.contains x
  | [] => rfl
  | a :: l => by
    have := mem_nL x l
    simp only [nL, List.map_cons, List.any_cons, List.contains_cons] at this ⊢
    rw [this]
    congr 1
    by_cases h : a = x
    · subst h; simp [eqv]
    · have h2 : ¬ ((a : Int) = (x : Int)) := by omega
      have h3 : ¬ (x = a) := fun e => h e.symm
      have h4 : ((a : Int) == (x : Int)) = false := by simpa using h2
      have h5 : (x == a) = false := by simpa using h3
      show ((a : Int) == (x : Int)) = (x == a)
      rw [h4, h5]
@[simp] theorem memOk_int (i : Int) (l : List D) : memOk (.int i) l = plains l := by simp [memOk, plain, dep]
@[simp] theorem plains_nL' (l : List Nat) : plains (nL l) = true := plains_nL l
@[simp] theorem nL_len' (l : List Nat) : (nL l).length = l.length := nL_len l
@[simp] theorem mem_nL' (x : Nat) (l : List Nat) : (nL l).any (fun y => eqv y (.int (x : Int))) = decide (x ∈ l) := by rw [mem_nL]; simp
@[simp] theorem nL_get (l : List Nat) (i : Nat) : (nL l)[i]? = l[i]?.map fun x : Nat => D.int (x : Int) := by simp [nL]
@[simp] theorem nL_nil : nL [] = [] := rfl
theorem nL_cons (x : Nat) (l : List Nat) : nL (x :: l) = .int (x : Int) :: nL l := rfl
theorem nL_app (l m : List Nat) : nL (l ++ m) = nL l ++ nL m := by simp [nL]
theorem atD_nL {l : List Nat} {i x : Nat} (h : l[i]? = some x) : atD (nL l) (i : Int) = some (.int x) := by
  have hp : i < l.length := by rw [List.getElem?_eq_some_iff] at h; exact h.1
  unfold atD
  rw [if_pos (by omega), if_pos (by rw [nL_len]; omega)]
  simp [nL, h]
theorem atD_map' {α : Type} (f : α → D) {l : List α} {i : Nat} {x : α} (h : l[i]? = some x) : atD (l.map f) (i : Int) = some (f x) := by
  have hp : i < l.length := by rw [List.getElem?_eq_some_iff] at h; exact h.1
  unfold atD
  rw [if_pos (by omega), if_pos (by simp; omega)]
  simp [h]
theorem atD_range (f : Nat → D) {n i : Nat} (h : i < n) : atD ((List.range n).map f) (i : Int) = some (f i) := atD_map' f (by simp [h])
theorem getD_some' {l : List Nat} {i : Nat} (h : i < l.length) : l[i]? = some (l.getD i 0) := by simp [h]
end Bq

set_option Elab.async false
set_option autoImplicit false
set_option linter.all false
set_option maxRecDepth 100000
/-! Statements in a row; all that may be drawn. -/
namespace Bq
open PySem (Str)
section
variable {cl : Nat → List Vl → M D} {env e1 e2 : Env} {r : Sts} {X : M (Fl × Env)}
theorem nx_st {s : St} (h : evS cl s env = .ret (.nx, e1)) (t : evSs cl r e1 = X) : evSs cl (.cons s r) env = X := (ss_st h).trans t
theorem nx_if {c : Ex} {a : Sts} (h : evT cl c env = .ret (false, e1)) (t : evSs cl r e1 = X) : evSs cl (.cons (.iff c a .nil) r) env = X := by
  rw [← t]
  exact ss_st (by simp only [u_iff, h, M.bind_ret, kIf_f, u_s0])
theorem nx_ifT {c : Ex} {a b : Sts} (h : evT cl c env = .ret (true, e1)) (ha : evSs cl a e1 = .ret (.nx, e2)) (t : evSs cl r e2 = X) : evSs cl (.cons (.iff c a b) r) env = X := by
  rw [← t]
  exact ss_st (by simp only [u_iff, h, M.bind_ret, kIf_t, ha])
theorem nx_ifF {c : Ex} {a b : Sts} (h : evT cl c env = .ret (false, e1)) (ha : evSs cl b e1 = .ret (.nx, e2)) (t : evSs cl r e2 = X) : evSs cl (.cons (.iff c a b) r) env = X := by
  rw [← t]
  exact ss_st (by simp only [u_iff, h, M.bind_ret, kIf_f, ha])
/-- all that may come (a structure, so that no elaborator runs the program) -/
structure Al {α : Type} (m : M α) (Q : α → Prop) : Prop where
  h : m.all Q
theorem Al.ret {α : Type} {a : α} {Q : α → Prop} (q : Q a) : Al (.ret a) Q := ⟨q⟩
theorem Al.eq {α : Type} {m : M α} {a : α} {Q : α → Prop} (h : m = .ret a) (q : Q a) : Al m Q := by rw [h]; exact ⟨q⟩
theorem Al.bind {α β : Type} {m : M α} {f : α → M β} {P : α → Prop} {Q : β → Prop} (h : Al m P) (k : ∀ a, P a → Al (f a) Q) : Al (m.bind f) Q :=
  ⟨by rw [M.all_bind]; exact M.all_mono (fun a p => (k a p).h) h.h⟩
theorem Al.mono {α : Type} {m : M α} {P Q : α → Prop} (h : Al m P) (k : ∀ a, P a → Q a) : Al m Q := ⟨M.all_mono k h.h⟩
theorem Al.pick {α : Type} {k : Int} {c : Int → M α} {Q : α → Prop} (h : ∀ r : Int, 0 ≤ r → r < k → Al (c r) Q) : Al (.pick k c) Q := ⟨fun r r0 r1 => (h r r0 r1).h⟩
/-- a draw, for all that may come -/
theorem Al.pk {env : Env} {n : Int} {Q : Od × Env → Prop} (h : n.natAbs < 1000000000) (hq : ∀ r : Nat, (r : Int) < n ∨ r = 0 → Q (.vl (.d (.int r)), env)) : Al (pk env n) Q := ⟨pk_all env n h Q fun r r0 r1 => by
  obtain ⟨m, rfl⟩ : ∃ m : Nat, r = m := ⟨r.toNat, by omega⟩
  exact hq m (by omega)⟩
theorem Al.pkB {β : Type} {env : Env} {n : Int} {f : Od × Env → M β} {Q : β → Prop} (h : n.natAbs < 1000000000) (k : ∀ r : Nat, (r : Int) < n ∨ r = 0 → Al (f (.vl (.d (.int r)), env)) Q) : Al ((Bq.pk env n).bind f) Q :=
  Al.bind (P := fun a => ∃ r : Nat, ((r : Int) < n ∨ r = 0) ∧ a = (.vl (.d (.int r)), env)) (Al.pk h fun r hr => ⟨r, hr, rfl⟩) fun a ⟨r, hr, e⟩ => by rw [e]; exact k r hr
theorem Al.ss {s : St} {Q : Fl × Env → Prop} {P : Env → Prop} (h : Al (evS cl s env) fun x => x.1 = .nx ∧ P x.2) (k : ∀ e, P e → Al (evSs cl r e) Q) : Al (evSs cl (.cons s r) env) Q := by
  rw [u_s1]
  refine h.bind fun a ha => ?_
  obtain ⟨f, e⟩ := a
  obtain ⟨rfl, hp⟩ := ha
  rw [kSs_n]
  exact k e hp
theorem Al.st {s : St} {Q : Fl × Env → Prop} (h : evS cl s env = .ret (.nx, e1)) (k : Al (evSs cl r e1) Q) : Al (evSs cl (.cons s r) env) Q := by rw [ss_st h]; exact k
/-- a test that is always false -/
theorem Al.iff0 {c : Ex} {a : Sts} {Q : Fl × Env → Prop} {P : Env → Prop} (h : Al (evT cl c env) fun x => x.1 = false ∧ P x.2) (k : ∀ e, P e → Al (evSs cl r e) Q) : Al (evSs cl (.cons (.iff c a .nil) r) env) Q := by
  refine Al.ss (P := P) ?_ k
  rw [u_iff]
  refine h.bind fun x hx => ?_
  obtain ⟨b, e⟩ := x
  obtain ⟨rfl, hp⟩ := hx
  exact ⟨rfl, hp⟩
theorem Al.if0 {c : Ex} {a : Sts} {Q : Fl × Env → Prop} (h : evT cl c env = .ret (false, e1)) (k : Al (evSs cl r e1) Q) : Al (evSs cl (.cons (.iff c a .nil) r) env) Q := by rw [nx_if h rfl]; exact k
theorem Al.ssOr {s : St} {Q : Fl × Env → Prop} (h : Al (evS cl s env) fun x => (x.1 = .nx ∧ Al (evSs cl r x.2) Q) ∨ ((∃ y, x.1 = .rt y) ∧ Q x)) : Al (evSs cl (.cons s r) env) Q := by
  rw [u_s1]
  refine h.bind fun a ha => ?_
  obtain ⟨f, e⟩ := a
  rcases ha with ⟨rfl, h2⟩ | ⟨⟨y, rfl⟩, h2⟩
  · rw [kSs_n]; exact h2
  · rw [kSs_r]; exact ⟨h2⟩
/-- a test that holds, a branch that returns -/
theorem Al.ifR {c : Ex} {a b : Sts} {Q : Fl × Env → Prop} (h : evT cl c env = .ret (true, e1)) (k : Al (evSs cl a e1) fun x => (∃ y, x.1 = .rt y) ∧ Q x) : Al (evSs cl (.cons (.iff c a b) r) env) Q := by
  refine Al.ssOr ?_
  rw [u_iff, h, M.bind_ret, kIf_t]
  exact k.mono fun x hx => .inr hx
theorem Al.ret1 {m : Ex} {Q : Fl × Env → Prop} {P : Od × Env → Prop} (h : Al (evO cl m env) P) (k : ∀ o e, P (o, e) → Al (kRt (o, e)) Q) : Al (evSs cl (.cons (.ret m) r) env) fun x => Q x := by
  rw [u_s1, u_ret]
  refine Al.bind (P := fun x => (∃ y, x.1 = .rt y) ∧ Q x) (h.bind fun a ha => ?_) fun a ha => ?_
  · refine ⟨?_⟩
    have := (k a.1 a.2 ha).h
    obtain ⟨o, e⟩ := a
    rw [kRt_e] at this ⊢
    cases hf : o.frz e with
    | none => rw [hf] at this; exact False.elim this
    | some p =>
      obtain ⟨v, e⟩ := p
      rw [hf] at this
      cases v with
      | d x => exact ⟨⟨x, rfl⟩, this⟩
      | src => exact False.elim this
      | fn g => exact False.elim this
  · obtain ⟨f, e⟩ := a
    obtain ⟨⟨y, rfl⟩, h2⟩ := ha
    rw [kSs_r]
    exact ⟨h2⟩
/-- a for over items that may be drawn -/
theorem Al.fr {g : Tg} {it : It} {b : Sts} {Q : Fl × Env → Prop} {P : List D × Env → Prop} (h : Al (evIt cl it env) P) (k : ∀ xs e, P (xs, e) → Al (frLoop g (fun env => evSs cl b env) xs e) Q) : Al (evS cl (.fr g it b) env) Q := by
  simp only [evS]
  exact h.bind fun a ha => k a.1 a.2 ha
theorem Al.frLoop {α : Type} {g : Tg} {b : Env → M (Fl × Env)} (h : α → D) (I : Nat → Env → Prop) : ∀ (l : List α) (n : Nat) (env : Env), I n env →
    (∀ k a env, l[k]? = some a → I (n + k) env → ∃ e1, asgTg g (h a) env = some e1 ∧ Al (b e1) fun x => x.1 = .nx ∧ I (n + k + 1) x.2) →
    Al (Bq.frLoop g b (l.map h) env) fun x => x.1 = .nx ∧ I (n + l.length) x.2
  | [], n, env, hi, _ => ⟨rfl, hi⟩
  | a :: l, n, env, hi, hb => by
    obtain ⟨e1, h1, h2⟩ := hb 0 a env rfl hi
    simp only [List.map_cons, Bq.frLoop, h1]
    refine h2.bind fun x hx => ?_
    obtain ⟨f, e⟩ := x
    obtain ⟨rfl, h3⟩ := hx
    have := Al.frLoop h I l (n + 1) e h3 fun k c env hc hk => by
      have := hb (k + 1) c env (by simpa using hc) (by rw [show n + (k + 1) = n + 1 + k by omega]; exact hk)
      rw [show n + (k + 1) + 1 = n + 1 + k + 1 by omega] at this
      exact this
    rw [List.length_cons, show n + (l.length + 1) = n + 1 + l.length by omega]
    exact this
/-- a for over a known row by an invariant, drawing -/
theorem Al.frI {α : Type} {g : Tg} {it : It} {b : Sts} (h : α → D) (I : Nat → Env → Prop) (l : List α) (h1 : evIt cl it env = .ret (l.map h, e1)) (h0 : I 0 e1)
    (hb : ∀ k a env, l[k]? = some a → I k env → ∃ e1, asgTg g (h a) env = some e1 ∧ Al (evSs cl b e1) fun x => x.1 = .nx ∧ I (k + 1) x.2) :
    Al (evS cl (.fr g it b) env) fun x => x.1 = .nx ∧ I l.length x.2 := by
  simp only [evS, h1, M.bind_ret]
  have := Al.frLoop (g := g) (b := fun env => evSs cl b env) h I l 0 e1 h0 fun k a env ha hi => by
    rw [Nat.zero_add] at hi ⊢
    exact hb k a env ha hi
  rwa [Nat.zero_add] at this
/-- .. over a range from 0 -/
theorem Al.frR {g : Tg} {it : It} {b : Sts} (I : Nat → Env → Prop) (n : Nat) (h1 : evIt cl it env = .ret (rangeD 0 n, env)) (h0 : I 0 env)
    (hb : ∀ (k : Nat) env, k < n → I k env → ∃ e1, asgTg g (.int k) env = some e1 ∧ Al (evSs cl b e1) fun x => x.1 = .nx ∧ I (k + 1) x.2) :
    Al (evS cl (.fr g it b) env) fun x => x.1 = .nx ∧ I n x.2 := by
  have := Al.frI (cl := cl) (env := env) (g := g) (it := it) (b := b) (fun i : Nat => D.int (i : Int)) I (List.range n) (by rw [h1, rangeD0]) h0 fun k a env ha hi => by
    rw [List.getElem?_eq_some_iff] at ha
    obtain ⟨h1, h2⟩ := ha
    rw [List.length_range] at h1
    rw [List.getElem_range] at h2
    subst h2
    exact hb k env h1 hi
  rwa [List.length_range] at this
/-- what a turn of a drawing comprehension comes to -/
def LcQ {β : Type} (f : β → D) (P : β → Prop) (e : Env) (x : Option D × Env) : Prop := x.2 = e ∧ ∃ b, x.1 = some (f b) ∧ P b
/-- a comprehension that draws: its turns leave the slots, each item is of a kind -/
theorem Al.lc {α : Type} {elt : Ex} {g : Tg} {it : It} {ifs : Exs} {own fz : List Nat} {l : List α} {h : α → D} {β : Type} (f : β → D) (P : α → β → Prop) (h1 : evIt cl it env = .ret (l.map h, e1)) (hno : noOwn e1 own = true) (hcap : l.length ≤ cap)
    (he : unset (shrs e1 fz) own = e2) (hs : ∀ a ∈ l, Al (lcStep cl elt g ifs own (h a) e2) (LcQ f (P a) e2)) :
    Al (evO cl (.lc elt g it ifs own fz) env) fun x => x.2 = back e1 e2 own ∧ ∃ bs : List β, bs.length = l.length ∧ (∀ (i : Nat) a b, l[i]? = some a → bs[i]? = some b → P a b) ∧ x.1 = .fr (.lst (bs.map f)) := by
  subst he
  rw [lc_eq, h1]
  have key : ∀ l : List α, (∀ a ∈ l, Al (lcStep cl elt g ifs own (h a) (unset (shrs e1 fz) own)) fun x => x.2 = unset (shrs e1 fz) own ∧ ∃ b, x.1 = some (f b) ∧ P a b) →
      Al (lcLoop (lcStep cl elt g ifs own) (l.map h) (unset (shrs e1 fz) own)) fun x => x.2 = unset (shrs e1 fz) own ∧ ∃ bs : List β, bs.length = l.length ∧ (∀ (i : Nat) a b, l[i]? = some a → bs[i]? = some b → P a b) ∧ x.1 = bs.map f := by
    intro l
    induction l with
    | nil => intro _; exact ⟨rfl, [], rfl, fun i a b h => by simp at h, rfl⟩
    | cons a l ih =>
      intro hs
      rw [List.map_cons, lcLoop]
      refine (hs a List.mem_cons_self).bind fun x hx => ?_
      obtain ⟨o, e⟩ := x
      obtain ⟨rfl, b, rfl, hp⟩ := hx
      refine (ih fun c hc => hs c (List.mem_cons_of_mem _ hc)).bind fun y hy => ?_
      obtain ⟨ys, e⟩ := y
      obtain ⟨rfl, bs, hl, hP, rfl⟩ := hy
      refine ⟨rfl, b :: bs, by simp [hl], fun i c d hc hd => ?_, rfl⟩
      cases i with
      | zero =>
        simp at hc hd
        subst hc hd
        exact hp
      | succ i => exact hP i c d (by simpa using hc) (by simpa using hd)
  simp only [M.bind_ret, hno, List.length_map, hcap, decide_true, Bool.and_self, if_true]
  refine (key l hs).bind fun x hx => ?_
  obtain ⟨ys, e⟩ := x
  obtain ⟨rfl, bs, hl, hP, rfl⟩ := hx
  exact ⟨rfl, bs, hl, hP, rfl⟩
theorem Al.run {Φ : Tab} {k g : Nat} {vs : List Vl} {df : Df} {Q : D → Prop} (h : Φ g = some df) (hl : vs.length = df.np) (e0 : Env) (he : vs.map Sl.vl ++ List.replicate df.nl .u = e0)
    (hb : Al (evSs (run Φ k) df.body e0) fun x => ∃ y, x.1 = .rt y ∧ Q y) : Al (run Φ (k + 1) g vs) Q := by
  simp only [Bq.run, h, hl, if_true, he]
  refine hb.bind fun x hx => ?_
  obtain ⟨f, e⟩ := x
  obtain ⟨y, rfl, q⟩ := hx
  exact ⟨q⟩
end
theorem eqv_refl : (d : D) → plain d = true → eqv d d = true := fun d => by
  refine D.rec (motive_1 := fun d => plain d = true → eqv d d = true) (motive_2 := fun l => plains l = true → eqvs l l = true) (motive_3 := fun _ => True) (motive_4 := fun _ => True) ?_ ?_ ?_ ?_ ?_ ?_ ?_ ?_ ?_ ?_ ?_ ?_ d
  · intro _; rfl
  · intro b _; simp [eqv]
  · intro i _; simp [eqv]
  · intro s _; simp [eqv]
  · intro l ih h; exact ih h
  · intro l ih h; exact ih h
  · intro t k _ h; simp [plain] at h
  · intro _; rfl
  · intro x l h1 h2 h
    simp only [plains, Bool.and_eq_true] at h
    simp [eqvs, h1 h.1, h2 h.2]
  · trivial
  · intros; trivial
  · intros; trivial
theorem eqvs_refl (l : List D) (h : plains l = true) : eqvs l l = true := eqv_refl (.tup l) h
theorem ne_tup (l : List D) (h : plains l = true) (hd : deps l ≤ 149) : cmpop .ne (.tup l) (.tup l) = some false := by
  have : eqOk (.tup l) (.tup l) = true := by simp [eqOk, plain, h, dep]; omega
  rw [c_net, if_pos this, eqvs_refl l h]
  rfl
theorem ne_str (s : Str) : cmpop .ne (.str s) (.str s) = some false := by rw [c_nes]; simp
theorem enumD_map {α : Type} (f : α → D) : ∀ (l : List α) (i : Int), enumD i (l.map f) = l.zipIdx.map fun p => .tup [.int (i + (p.2 : Nat)), f p.1]
  | [], i => rfl
  | a :: l, i => by
    rw [List.map_cons, enumD, enumD_map f l (i + 1), List.zipIdx_cons, List.map_cons, List.zipIdx_succ, List.map_map]
    congr 1
    · simp
    · apply List.map_congr_left
      intro p _
      simp only [Function.comp]
      congr 3
      push_cast
      omega
theorem enumD_range (f : Nat → D) (n : Nat) : enumD 0 ((List.range n).map f) = (List.range n).map fun x => .tup [.int x, f x] := by
  rw [enumD_map]
  apply List.ext_getElem
  · simp
  · intro i h1 h2
    simp
end Bq

set_option Elab.async false
set_option linter.all false
set_option maxRecDepth 100000
/-! A while that draws. -/
namespace Bq
theorem Al.whLoop {c : Env → M (Bool × Env)} {b : Env → M (Fl × Env)} (I : Nat → Env → Prop) (more : Nat → Bool) (hc : ∀ k env, I k env → c env = .ret (more k, env))
    (hb : ∀ k env, I k env → more k = true → Al (b env) fun x => x.1 = .nx ∧ ∃ j, j < k ∧ I j x.2) : ∀ (fuel k : Nat) (env : Env), I k env → k < fuel →
    Al (Bq.whLoop c b fuel env) fun x => x.1 = .nx ∧ ∃ j, more j = false ∧ I j x.2
  | 0, k, env, hi, hk => by omega
  | fuel + 1, k, env, hi, hk => by
    cases hm : more k with
    | false => exact Al.eq (a := (.nx, env)) (by simp only [Bq.whLoop, hc k env hi, M.bind_ret, hm]; rfl) ⟨rfl, k, hm, hi⟩
    | true =>
      simp only [Bq.whLoop, hc k env hi, M.bind_ret, hm, if_true]
      refine (hb k env hi hm).bind ?_
      rintro ⟨f, e⟩ ⟨h1, j, hj, hij⟩
      simp only at h1 hij
      subst h1
      exact Al.whLoop I more hc hb fuel j e hij (by omega)
variable {cl : Nat → List Vl → M D} {env : Env}
theorem Al.wh {t : Ex} {b : Sts} (I : Nat → Env → Prop) (more : Nat → Bool) (hc : ∀ k env, I k env → evT cl t env = .ret (more k, env))
    (hb : ∀ k env, I k env → more k = true → Al (evSs cl b env) fun x => x.1 = .nx ∧ ∃ j, j < k ∧ I j x.2) {k : Nat} (hi : I k env) (hk : k < 1000000) :
    Al (evS cl (.wh t b) env) fun x => x.1 = .nx ∧ ∃ j, more j = false ∧ I j x.2 := by
  simp only [evS]
  exact Al.whLoop I more hc hb _ k env hi hk
/-! pop at a place -/
def popAtS (i : Nat) (env : Env) : Od → Option Sl → M (Od × Env)
  | .vl (.d (.int k)), some (.ow (.lst xs)) => if 0 ≤ k ∧ k.natAbs < 1000000 then match xs[k.toNat]? with
      | some x => .ret (.vl (.d x), env.set i (.ow (.lst (xs.eraseIdx k.toNat))))
      | none => .fail else .fail
  | _, _ => .fail
def kPopAt (i : Nat) (x : Od × Env) : M (Od × Env) := popAtS i x.2 x.1 (lk x.2 i)
@[simp] theorem kPopAt_e (i : Nat) (o : Od) : kPopAt i (o, env) = popAtS i env o (lk env i) := rfl
@[simp] theorem popAtS_e (i k : Nat) (xs : List D) : popAtS i env (.vl (.d (.int (k : Int)))) (some (.ow (.lst xs))) = if k < 1000000 then (M.opt xs[k]?).bind fun x => .ret (.vl (.d x), env.set i (.ow (.lst (xs.eraseIdx k)))) else .fail := by
  show (if 0 ≤ (k : Int) ∧ ((k : Nat) : Int).natAbs < 1000000 then _ else _) = _
  simp only [Int.natCast_nonneg, true_and, Int.natAbs_natCast, Int.toNat_natCast]
  split
  · cases xs[k]? <;> rfl
  · rfl
@[simp] theorem u_popAt (i : Nat) (e : Ex) : evO cl (.popAt i e) env = if ownLS (lk env i) = true then (evO cl e env).bind (kPopAt i) else .fail := by
  simp only [evO, ownL_lk]
  congr 1
  congr 1
  funext x
  obtain ⟨o, env⟩ := x
  simp only [kPopAt, lk_eq]
  cases o with
  | vl v => cases v with
    | d d => cases d <;> first | rfl | (cases lk env i with
      | none => rfl
      | some s => cases s with
        | u => rfl
        | vl v => rfl
        | ow x => cases x <;> rfl)
    | _ => rfl
  | _ => rfl
end Bq

set_option Elab.async false
set_option linter.all false
set_option maxRecDepth 100000
/-! Further rules for the symbolic run. -/
namespace Bq
open PySem (Str)
@[simp] theorem deps_nL' (l : List Nat) : deps (nL l) = 0 := deps_nL l
theorem eqvs_nil' (l : List D) : eqvs l [] = l.isEmpty := by cases l <;> rfl
@[simp high] theorem c_ne_nil (l : List Nat) : cmpop .ne (.lst (nL l)) (.lst []) = some (!l.isEmpty) := by
  rw [c_nel, if_pos (by simp [eqOk, plain, plains, dep, deps, plains_nL, deps_nL]), eqvs_nil']
  cases l <;> rfl
@[simp high] theorem c_eq_nil (l : List Nat) : cmpop .eq (.lst (nL l)) (.lst []) = some l.isEmpty := by
  rw [c_eql, if_pos (by simp [eqOk, plain, plains, dep, deps, plains_nL, deps_nL]), eqvs_nil']
  cases l <;> rfl
@[simp high] theorem c_ne_nilT (l : List Nat) : cmpop .ne (.tup (nL l)) (.tup []) = some (!l.isEmpty) := by
  rw [c_net, if_pos (by simp [eqOk, plain, plains, dep, deps, plains_nL, deps_nL]), eqvs_nil']
  cases l <;> rfl
@[simp high] theorem c_eq_nilT (l : List Nat) : cmpop .eq (.tup (nL l)) (.tup []) = some l.isEmpty := by
  rw [c_eqt, if_pos (by simp [eqOk, plain, plains, dep, deps, plains_nL, deps_nL]), eqvs_nil']
  cases l <;> rfl
@[simp high] theorem c_ne_00 : cmpop .ne (.lst []) (.lst []) = some false := c_ne_nil []
@[simp high] theorem c_eq_00 : cmpop .eq (.lst []) (.lst []) = some true := c_eq_nil []
@[simp high] theorem c_ne_00T : cmpop .ne (.tup []) (.tup []) = some false := c_ne_nilT []
@[simp high] theorem c_eq_00T : cmpop .eq (.tup []) (.tup []) = some true := c_eq_nilT []
/-- a slot that may be unset -/
def oD : Option D → Sl
  | none => .u
  | some d => .vl (.d d)
@[simp] theorem noS_o (o : Option D) : noS (some (oD o)) = true := by cases o <;> rfl
@[simp] theorem oD_none : oD none = .u := rfl
@[simp] theorem oD_some (d : D) : oD (some d) = .vl (.d d) := rfl
/-- a list that may be own -/
def oS (b : Bool) (d : D) : Sl := if b then .ow d else .vl (.d d)
@[simp] theorem oS_t (d : D) : oS true d = .ow d := rfl
@[simp] theorem oS_f (d : D) : oS false d = .vl (.d d) := rfl
/-- a test that draws; its branch returns -/
theorem Al.ifD {cl : Nat → List Vl → M D} {env : Env} {c : Ex} {a r : Sts} {Q : Fl × Env → Prop} {P : Bool → Env → Prop} (h : Al (evT cl c env) fun x => P x.1 x.2)
    (ka : ∀ e, P true e → Al (evSs cl a e) fun x => (∃ y, x.1 = .rt y) ∧ Q x) (kb : ∀ e, P false e → Al (evSs cl r e) Q) : Al (evSs cl (.cons (.iff c a .nil) r) env) Q := by
  refine Al.ssOr ?_
  rw [u_iff]
  refine h.bind ?_
  rintro ⟨b, e⟩ hp
  cases b with
  | true =>
    rw [kIf_t]
    exact (ka e hp).mono fun x hx => .inr hx
  | false =>
    rw [kIf_f, u_s0]
    exact ⟨.inl ⟨rfl, kb e hp⟩⟩
/-- .. whose branches go on -/
theorem Al.ifDn {cl : Nat → List Vl → M D} {env : Env} {c : Ex} {a b r : Sts} {Q : Fl × Env → Prop} {P : Bool → Env → Prop} {P2 : Env → Prop} (h : Al (evT cl c env) fun x => P x.1 x.2)
    (ka : ∀ e, P true e → Al (evSs cl a e) fun x => x.1 = .nx ∧ P2 x.2) (kb : ∀ e, P false e → Al (evSs cl b e) fun x => x.1 = .nx ∧ P2 x.2) (k : ∀ e, P2 e → Al (evSs cl r e) Q) : Al (evSs cl (.cons (.iff c a b) r) env) Q := by
  refine Al.ss (P := P2) ?_ k
  rw [u_iff]
  refine h.bind ?_
  rintro ⟨t, e⟩ hp
  cases t with
  | true => rw [kIf_t]; exact ka e hp
  | false => rw [kIf_f]; exact kb e hp
/-! slices by places -/
theorem cutAt_n (n d k : Nat) : cutAt n d (some (k : Int)) = min k n := by
  show (if (k : Int) < 0 then ((k : Int) + n).toNat else min (k : Int).toNat n) = _
  rw [if_neg (by omega)]
  rfl
theorem cut_to (xs : List D) (k : Nat) : cut xs none (some (k : Int)) = xs.take k := by
  unfold cut
  rw [cutAt_n]
  show (xs.drop 0).take (min k xs.length - 0) = _
  rw [List.drop_zero, Nat.sub_zero]
  by_cases h : k ≤ xs.length
  · rw [Nat.min_eq_left h]
  · rw [Nat.min_eq_right (by omega), List.take_of_length_le (Nat.le_refl _), List.take_of_length_le (by omega)]
theorem cut_from (xs : List D) (k : Nat) : cut xs (some (k : Int)) none = xs.drop k := by
  unfold cut
  rw [cutAt_n]
  show (xs.drop (min k xs.length)).take (xs.length - min k xs.length) = _
  by_cases h : k ≤ xs.length
  · rw [Nat.min_eq_left h, List.take_of_length_le (by rw [List.length_drop]; omega)]
  · rw [Nat.min_eq_right (by omega), List.drop_of_length_le (Nat.le_refl _), List.drop_of_length_le (by omega)]
    simp
theorem cut_seg (xs : List D) (i j : Nat) : cut xs (some (i : Int)) (some (j : Int)) = (xs.drop i).take (j - i) := by
  unfold cut
  rw [cutAt_n, cutAt_n]
  by_cases h : i ≤ xs.length
  · rw [Nat.min_eq_left h]
    by_cases h2 : j ≤ xs.length
    · rw [Nat.min_eq_left h2]
    · rw [Nat.min_eq_right (by omega), List.take_of_length_le (by rw [List.length_drop]; omega), List.take_of_length_le (by rw [List.length_drop]; omega)]
  · rw [Nat.min_eq_right (show xs.length ≤ i by omega), List.drop_of_length_le (Nat.le_refl _), List.drop_of_length_le (by omega)]
    simp
end Bq

set_option Elab.async false
set_option linter.all false
set_option maxRecDepth 100000
/-! Equations: formulas. -/
namespace Bq
open PySem (Str)
def b2i (b : Bool) : Int := if b then 1 else 0
theorem bitI (x i : Nat) : (x : Int) / 2 ^ i % 2 = b2i (x.testBit i) := by
  rw [Nat.testBit_eq_decide_div_mod_eq]
  have h : ((x / 2 ^ i % 2 : Nat) : Int) = (x : Int) / 2 ^ i % 2 := by push_cast; rfl
  rw [← h]
  unfold b2i
  by_cases h2 : x / 2 ^ i % 2 = 1
  · simp [h2]
  · have : x / 2 ^ i % 2 = 0 := by omega
    simp [this]
section
variable {cl : Nat → List Vl → M D}
theorem d4_f0_eq (x : Int) (i : Nat) (hi : i ≤ 1000000) (b s : Sl) : ∃ s', evS cl d4_f0 [vI x, vI i, b, s] = .ret (.nx, [vI (x / 2 ^ i), vI i, b, s']) := by
  obtain ⟨e, h, s', rfl⟩ := evS_frR (cl := cl) (g := .nm 3) (it := .rg1 (.v 1)) (b := d4_b0) (env := [vI x, vI i, b, s]) (fun k env => ∃ s', env = [vI (x / 2 ^ k), vI i, b, s']) i (by simp [M.bind_ret ]; omega) ⟨s, by simp⟩ (by
    rintro k env hk ⟨s', rfl⟩
    refine ⟨_, [vI (x / 2 ^ (k + 1)), vI i, b, vI k], rfl, ?_, _, rfl⟩
    have : x / 2 ^ k / 2 = x / 2 ^ (k + 1) := by rw [Int.ediv_ediv_of_nonneg (Int.le_of_lt (Int.pow_pos (by decide))), Int.pow_succ]
    simp [d4_b0, M.bind_ret , this])
  exact ⟨s', h⟩
theorem bit_in_eq {Φ : Tab} (h4 : Φ 4 = some d4_bit_in) (k : Nat) (x i : Nat) (hi : i ≤ 1000000) (t : Bool) : run Φ (k + 1) 4 [.d (.int x), .d (.int i), .d (.bl t)] = .ret (.int (b2i (x.testBit i ^^ t))) := by
  obtain ⟨s', h⟩ := d4_f0_eq (cl := run Φ k) x i hi (vB t) .u
  refine run_rets h4 rfl _ rfl (Rets.st h (Rets.ret ?_))
  have : ((x : Int) / 2 ^ i + (if t = true then 1 else 0)) % 2 = b2i (x.testBit i ^^ t) := by
    have := bitI x i
    revert this
    generalize x.testBit i = a
    unfold b2i
    cases a <;> cases t <;> simp <;> omega
  simp [M.bind_ret , this]
end
/-! ### formulas -/
inductive Fm where
  | leaf (t : Bool) (i : Nat) | node (a : Bool) (f g : Fm)
deriving DecidableEq
def leafS (t : Bool) : Str := if t then "not" else "bit"
def nodeS (a : Bool) : Str := if a then "and" else "or"
def Fm.d : Fm → D
  | .leaf t i => .tup [.str (leafS t), .int i]
  | .node a f g => .tup [.str (nodeS a), f.d, g.d]
def Fm.leaves : Fm → Nat
  | .leaf _ _ => 1
  | .node _ f g => f.leaves + g.leaves
def Fm.size : Fm → Nat
  | .leaf _ _ => 1
  | .node _ f g => f.size + g.size + 1
theorem plain_leafS (t : Bool) : plain (.str (leafS t)) = true := by cases t <;> decide +kernel
theorem plain_nodeS (t : Bool) : plain (.str (nodeS t)) = true := by cases t <;> decide +kernel
theorem Fm.plain : ∀ f : Fm, Bq.plain f.d = true
  | .leaf t i => by simp [Fm.d, Bq.plain, plains, show PySem.PyData.strOk (leafS t) = true from plain_leafS t]
  | .node a f g => by simp [Fm.d, Bq.plain, plains, show PySem.PyData.strOk (nodeS a) = true from plain_nodeS a, f.plain, g.plain]
theorem Fm.plains : ∀ fs : List Fm, Bq.plains (fs.map Fm.d) = true
  | [] => rfl
  | f :: fs => by simp [Bq.plains, f.plain, Fm.plains fs]
theorem ne_nil {cl : Nat → List Vl → M D} {env : Env} {i : Nat} {fs : List Fm} (h : env[i]? = some (.ow (.lst (fs.map Fm.d)))) : evT cl (.cmp .ne (.v i) (.lst .nil)) env = .ret (!fs.isEmpty, env) := by
  have e : eqv (.lst (fs.map Fm.d)) (.lst []) = fs.isEmpty := by cases fs <;> rfl
  simp [evT, evO, evVs, h, two, Od.norm, Od.res, vlDs, cap, cmpop, eqOk, Bq.plain, Bq.plains, Fm.plains, dep, deps, M.opt, Od.bl, e]
def sizes (fs : List Fm) : Nat := (fs.map Fm.size).sum
def lvs (fs : List Fm) : Nat := (fs.map Fm.leaves).sum
def lvStep : List Fm × Nat → List Fm × Nat
  | ([], m) => ([], m)
  | (.leaf _ _ :: r, m) => (r, m + 1)
  | (.node _ a b :: r, m) => (b :: a :: r, m)
theorem len_sizes : ∀ r : List Fm, r.length ≤ sizes r
  | [] => Nat.le_refl _
  | f :: r => by
    have h := len_sizes r
    have : 1 ≤ f.size := by cases f <;> simp [Fm.size]
    simp only [sizes, List.map_cons, List.sum_cons, List.length_cons] at h ⊢
    omega
theorem vlDs_map : ∀ (ds : List D) (r : List Vl), vlDs (ds.map Vl.d ++ r) = (vlDs r).map (ds ++ ·)
  | [], r => by simp
  | d :: ds, r => by
    simp only [List.map_cons, List.cons_append, vlDs, vlDs_map ds r]
    cases vlDs r <;> rfl
theorem vlDs_comp {α : Type} (h : α → D) (r : List α) (l : List Vl) : vlDs ((List.map (Vl.d ∘ h) r).reverse ++ l) = (vlDs l).map ((r.map h).reverse ++ ·) := by
  rw [← vlDs_map, List.map_reverse, List.map_map]
def lvI (φ : Fm) (s : List Fm × Nat) (env : Env) : Prop := ∃ last, sizes s.1 < 100000 ∧ env = [vD φ.d, .ow (.lst (s.1.reverse.map Fm.d)), vI s.2, last]
theorem leaves_in_eq {Φ : Tab} (h3 : Φ 3 = some d3_leaves_in) (k : Nat) (φ : Fm) (hφ : φ.size < 100000) : run Φ (k + 1) 3 [.d φ.d] = .ret (.int φ.leaves) := by
  refine run_def h3 rfl ?_
  show Rets _ d3_leaves_in.body [vD φ.d, .u, .u, .u] _
  unfold d3_leaves_in d3_w0 d3_b0
  refine Rets.st (e1 := [vD φ.d, .ow (.lst [φ.d]), vI 0, .u]) (by simp [evS, evPar, evO, evVs, Od.frz, vlDs, cap, Od.int, putOds, M.opt]) ?_
  have key := whLoop_rel (lvI φ) (fun s => !s.1.isEmpty) lvStep (fun s => ([], s.2 + lvs s.1)) (fun s => sizes s.1) (c := fun env => evT (run Φ k) (.cmp .ne (.v 1) (.lst .nil)) env)
    (b := fun env => evSs (run Φ k) (.cons (.asg 3 (.pop 1)) (.cons (.iff (.cmp .eq (.bi .len (.cons (.v 3) .nil)) (.int 2)) (.cons (.asg 2 (.bin .add (.v 2) (.int 1))) .nil) (.cons (.asg 1 (.lst (.star (.v 1) (.cons (.ix (.v 3) (.int 1)) (.cons (.ix (.v 3) (.int 2)) .nil))))) .nil)) .nil)) env)
    (fun s env ⟨last, _, h⟩ => by subst h; rw [ne_nil (i := 1) (fs := s.1.reverse) rfl, List.isEmpty_reverse]) ?_ ?_ ?_ wfuel ([φ], 0) [vD φ.d, .ow (.lst [φ.d]), vI 0, .u] ⟨.u, by simp [sizes]; omega, rfl⟩ (show sizes [φ] < 1000000 by simp [sizes]; omega)
  · obtain ⟨e2, hw, last, _, rfl⟩ := key
    refine Rets.wh hw (Rets.ret ?_)
    simp [evS, evO, Od.frz, lvs]
  · rintro ⟨st, m⟩ env ⟨last, hz, rfl⟩ hm
    cases st with
    | nil => cases hm
    | cons h r =>
      cases h with
      | leaf t i =>
        refine ⟨_, ?_, vD (Fm.leaf t i).d, by simp [sizes, Fm.size, lvStep] at hz ⊢; omega, rfl⟩
        simp [evSs, evS, evT, evO, evOs, resAll, two, Od.norm, Od.res, Od.frz, binop, bi, M.opt, Od.int, Od.bl, cmpop, eqOk, plain, eqv, dep, Fm.d, lvStep]
      | node a f g =>
        have hr : r.length ≤ sizes r := len_sizes r
        have hr2 : r.length + 2 ≤ 1000000 := by simp [sizes, Fm.size] at hz; unfold sizes at hr; omega
        refine ⟨_, ?_, vD (Fm.node a f g).d, by simp [sizes, Fm.size, lvStep] at hz ⊢; omega, rfl⟩
        simp [evSs, evS, evT, evO, evOs, evVs, resAll, two, Od.norm, Od.res, Od.frz, binop, bi, M.opt, Od.int, Od.bl, cmpop, eqOk, plain, eqv, dep, Fm.d, lvStep, index, atD, seqOf, vlDs, vlDs_comp, cap, hr2]
  · rintro ⟨st, m⟩ hm
    cases st with
    | nil => simp [lvs]
    | cons h r => cases hm
  · rintro ⟨st, m⟩ hm
    cases st with
    | nil => cases hm
    | cons h r =>
      cases h with
      | leaf t i => simp [lvStep, lvs, sizes, Fm.leaves, Fm.size]; omega
      | node a f g => simp [lvStep, lvs, sizes, Fm.leaves, Fm.size]; omega
end Bq

set_option Elab.async false
set_option linter.all false
set_option maxRecDepth 100000
/-! Equations: answers_told. -/
namespace Bq
open PySem (Str)
/-- what a formula answers at an input -/
def Fm.ev (x : Nat) : Fm → Bool
  | .leaf t i => x.testBit i ^^ t
  | .node a f g => if a then f.ev x && g.ev x else f.ev x || g.ev x
/-- its answers -/
def Fm.tab (n : Nat) (f : Fm) : List D := (List.range (2 ^ n)).map fun x => D.int (b2i (f.ev x))
/-- the places below -/
def Fm.low (m : Nat) : Fm → Bool
  | .leaf _ i => decide (i < m)
  | .node _ f g => f.low m && g.low m
theorem tab_length (n : Nat) (f : Fm) : (f.tab n).length = 2 ^ n := by unfold Fm.tab; rw [List.length_map, List.length_range]
theorem min_b2i (a b : Bool) : (if b2i b < b2i a then b2i b else b2i a) = b2i (a && b) := by cases a <;> cases b <;> decide
theorem max_b2i (a b : Bool) : (if b2i a < b2i b then b2i b else b2i a) = b2i (a || b) := by cases a <;> cases b <;> decide
theorem zip_map {α : Type} (f g : α → D) : ∀ l : List α, zipD (l.map f) (l.map g) = l.map fun x => .tup [f x, g x]
  | [] => rfl
  | a :: l => by simp only [List.map_cons, zipD, zip_map f g l]
theorem leafS_not (t : Bool) : (leafS t == ("not" : Str)) = t := by cases t <;> decide +kernel
theorem nodeS_and (t : Bool) : (nodeS t == ("and" : Str)) = t := by cases t <;> decide +kernel
/-- the answers at a leaf -/
theorem d5_l0_eq {Φ : Tab} (h4 : Φ 4 = some d4_bit_in) (k n : Nat) (hn : 2 ^ n ≤ 1000000) (t : Bool) (i : Nat) (hi : i ≤ 1000000) (a0 a1 a3 a4 a5 a6 a7 a8 a11 a12 a13 a14 a15 : Sl) :
    evO (run Φ (k + 1)) d5_l0 [a0, a1, vI (2 ^ n), a3, a4, a5, a6, a7, a8, vD (Fm.leaf t i).d, .u, a11, a12, a13, a14, a15] =
      .ret (.fr (.lst ((Fm.leaf t i).tab n)), [a0, a1, vI (2 ^ n), a3, a4, a5, a6, a7, a8, vD (Fm.leaf t i).d, .u, a11, a12, a13, a14, a15]) := by
  unfold d5_l0
  refine (lc_m (l := List.range (2 ^ n)) (h := fun i : Nat => D.int (i : Int)) (e1 := [a0, a1, vI (2 ^ n), a3, a4, a5, a6, a7, a8, vD (Fm.leaf t i).d, .u, a11, a12, a13, a14, a15]) (fun x => D.int (b2i ((Fm.leaf t i).ev x))) (it_rg1 (by simp [M.bind_ret ]) (two_pow_cast n) hn) rfl (by rw [List.length_range]; exact hn) rfl ?_).trans ?_
  · intro x _
    have e := bit_in_eq h4 k x i hi t
    simp [M.bind_ret , Fm.d, atD, leafS_not, e, Fm.ev]
  · simp [M.bind_ret , Fm.tab]
/-- the answers at a node -/
theorem d5_l1_eq {cl : Nat → List Vl → M D} (n : Nat) (hn : 2 ^ n ≤ 1000000) (a : Bool) (f g : Fm) (a0 a1 a2 a3 a4 a5 a6 a7 a8 a9 a10 : Sl) :
    evO cl d5_l1 [a0, a1, a2, a3, a4, a5, a6, a7, a8, a9, a10, vD (.lst (f.tab n)), vD (.lst (g.tab n)), vB a, .u, .u] =
      .ret (.fr (.lst ((Fm.node a f g).tab n)), [a0, a1, a2, a3, a4, a5, a6, a7, a8, a9, a10, vD (.lst (f.tab n)), vD (.lst (g.tab n)), vB a, .u, .u]) := by
  unfold d5_l1
  refine (lc_m (l := List.range (2 ^ n)) (h := fun x => D.tup [.int (b2i (f.ev x)), .int (b2i (g.ev x))]) (e1 := [a0, a1, a2, a3, a4, a5, a6, a7, a8, a9, a10, vD (.lst (f.tab n)), vD (.lst (g.tab n)), vB a, .u, .u]) (fun x => D.int (b2i ((Fm.node a f g).ev x))) ?_ rfl (by rw [List.length_range]; exact hn) rfl ?_).trans ?_
  · simp [M.bind_ret , tab_length, Fm.tab, zip_map]
  · intro x _
    have e1 := min_b2i (f.ev x) (g.ev x)
    have e2 := max_b2i (f.ev x) (g.ev x)
    cases a <;> simp [M.bind_ret , Fm.ev, e1, e2]
  · simp [M.bind_ret ]
    rfl
structure BfS where
  line : List Fm
  pos : Nat
  low : List (Option Nat)
def lowD : Option Nat → D
  | none => .non
  | some i => .tup [.int i, .int (i + 1)]
def bfI (n : Nat) (φ : Fm) (w : Int) (a3 : Sl) (s : BfS) (env : Env) : Prop := env = [vI n, vD φ.d, vI w, a3, .ow (.lst (s.line.map Fm.d)), vI s.pos, .ow (.lst (s.low.map lowD)), .u, .u, .u, .u, .u, .u, .u, .u, .u]
def bfStep (s : BfS) : BfS := match s.line[s.pos]? with
  | some (.node _ f g) => ⟨s.line ++ [f, g], s.pos + 1, s.low ++ [some s.line.length]⟩
  | some (.leaf _ _) => ⟨s.line, s.pos + 1, s.low ++ [none]⟩
  | none => s
def bfOk (line : List Fm) (low : List (Option Nat)) (k : Nat) : Prop := match line[k]?, low[k]? with
  | some (.leaf _ _), some none => True
  | some (.node _ f g), some (some i) => k < i ∧ line[i]? = some f ∧ line[i + 1]? = some g
  | _, _ => False
structure bfP (φ : Fm) (s : BfS) : Prop where
  len : s.low.length = s.pos
  le : s.pos ≤ s.line.length
  sz : s.pos + sizes (s.line.drop s.pos) = φ.size
  ok : ∀ k, k < s.pos → bfOk s.line s.low k
  hd : s.line[0]? = some φ
theorem sizes_cons (f : Fm) (r : List Fm) : sizes (f :: r) = f.size + sizes r := by simp [sizes]
theorem sizes_app (a b : List Fm) : sizes (a ++ b) = sizes a + sizes b := by simp [sizes]
theorem size_pos (f : Fm) : 1 ≤ f.size := by cases f <;> simp [Fm.size]
theorem drop_at {line : List Fm} {p : Nat} {h : Fm} (e : line[p]? = some h) : line.drop p = h :: line.drop (p + 1) := by
  rw [List.getElem?_eq_some_iff] at e
  obtain ⟨h1, h2⟩ := e
  rw [← h2]; exact List.drop_eq_getElem_cons h1
theorem bfOk_app {line : List Fm} {low : List (Option Nat)} {k : Nat} (l : List Fm) (m : List (Option Nat)) (h : bfOk line low k) : bfOk (line ++ l) (low ++ m) k := by
  unfold bfOk at h ⊢
  have ap : ∀ {α : Type} {a b : List α} {i : Nat} {x : α}, a[i]? = some x → (a ++ b)[i]? = some x := fun {α a b i x} e => by
    rw [List.getElem?_append_left]
    · exact e
    · rw [List.getElem?_eq_some_iff] at e; exact e.1
  cases e1 : line[k]? with
  | none => rw [e1] at h; exact h.elim
  | some x =>
    cases e2 : low[k]? with
    | none => rw [e1, e2] at h; cases x <;> exact h.elim
    | some y =>
      rw [e1, e2] at h
      rw [ap e1, ap e2]
      cases x with
      | leaf t i => cases y <;> exact h
      | node a f g =>
        cases y with
        | none => exact h
        | some i => exact ⟨h.1, ap h.2.1, ap h.2.2⟩
theorem bfStep_leaf {s : BfS} {t : Bool} {i : Nat} (e : s.line[s.pos]? = some (.leaf t i)) : bfStep s = ⟨s.line, s.pos + 1, s.low ++ [none]⟩ := by unfold bfStep; rw [e]
theorem bfStep_node {s : BfS} {a : Bool} {f g : Fm} (e : s.line[s.pos]? = some (.node a f g)) : bfStep s = ⟨s.line ++ [f, g], s.pos + 1, s.low ++ [some s.line.length]⟩ := by unfold bfStep; rw [e]
theorem bf_keep {φ : Fm} {s : BfS} (p : bfP φ s) (hm : s.pos < s.line.length) : bfP φ (bfStep s) ∧ sizes ((bfStep s).line.drop (bfStep s).pos) < sizes (s.line.drop s.pos) := by
  obtain ⟨h, e⟩ : ∃ h, s.line[s.pos]? = some h := ⟨s.line[s.pos], by simp [hm]⟩
  have ed := drop_at e
  have hz := p.sz
  rw [ed, sizes_cons] at hz
  rw [ed, sizes_cons]
  cases h with
  | leaf t i =>
    rw [bfStep_leaf e]
    have h1 : (Fm.leaf t i).size = 1 := rfl
    refine ⟨⟨by simp [p.len], hm, by show s.pos + 1 + sizes (s.line.drop (s.pos + 1)) = _; omega, fun k hk => ?_, p.hd⟩, by show sizes (s.line.drop (s.pos + 1)) < _; omega⟩
    have hk : k < s.pos + 1 := hk
    by_cases hk2 : k < s.pos
    · have := bfOk_app [] [none] (p.ok k hk2)
      rw [List.append_nil] at this
      exact this
    · have : k = s.pos := by omega
      subst this
      show bfOk s.line (s.low ++ [none]) s.pos
      unfold bfOk
      rw [e, ← p.len]
      simp
  | node a f g =>
    rw [bfStep_node e]
    have h1 : (Fm.node a f g).size = f.size + g.size + 1 := rfl
    have hd2 : (s.line ++ [f, g]).drop (s.pos + 1) = s.line.drop (s.pos + 1) ++ [f, g] := List.drop_append_of_le_length (by omega)
    refine ⟨⟨by simp [p.len], by show s.pos + 1 ≤ (s.line ++ [f, g]).length; rw [List.length_append]; simp; omega, ?_, fun k hk => ?_, ?_⟩, ?_⟩
    · show s.pos + 1 + sizes ((s.line ++ [f, g]).drop (s.pos + 1)) = _
      rw [hd2, sizes_app, sizes_cons, sizes_cons]
      have : sizes [] = 0 := rfl
      omega
    · have hk : k < s.pos + 1 := hk
      by_cases hk2 : k < s.pos
      · exact bfOk_app [f, g] [some s.line.length] (p.ok k hk2)
      · have : k = s.pos := by omega
        subst this
        show bfOk (s.line ++ [f, g]) (s.low ++ [some s.line.length]) s.pos
        unfold bfOk
        have e2 : (s.low ++ [some s.line.length])[s.pos]? = some (some s.line.length) := by rw [← p.len]; simp
        rw [List.getElem?_append_left hm, e, e2]
        refine ⟨hm, ?_, ?_⟩
        · rw [List.getElem?_append_right (Nat.le_refl _)]; simp
        · rw [List.getElem?_append_right (by omega)]; simp
    · show (s.line ++ [f, g])[0]? = some φ
      rw [List.getElem?_append_left (by omega)]
      exact p.hd
    · show sizes ((s.line ++ [f, g]).drop (s.pos + 1)) < _
      rw [hd2, sizes_app, sizes_cons, sizes_cons]
      have : sizes [] = 0 := rfl
      omega
theorem vlDs_comp' {α : Type} (h : α → D) (r : List α) (l : List Vl) : vlDs (List.map (Vl.d ∘ h) r ++ l) = (vlDs l).map (r.map h ++ ·) := by
  rw [← vlDs_map, List.map_map]
theorem atD3_0 (a b c : D) : atD [a, b, c] 0 = some a := rfl
theorem atD3_1 (a b c : D) : atD [a, b, c] 1 = some b := rfl
theorem atD3_2 (a b c : D) : atD [a, b, c] 2 = some c := rfl
theorem atD2_0 (a b : D) : atD [a, b] 0 = some a := rfl
theorem atD2_1 (a b : D) : atD [a, b] 1 = some b := rfl
def bfMore (s : BfS) : Bool := decide (s.pos < s.line.length)
theorem bf_len {φ : Fm} {s : BfS} (p : bfP φ s) : s.line.length ≤ φ.size := by
  have h := len_sizes (s.line.drop s.pos)
  rw [List.length_drop] at h
  have := p.sz
  have := p.le
  omega
theorem atD_map {line : List Fm} {p : Nat} {h : Fm} (e : line[p]? = some h) : atD (line.map Fm.d) (p : Int) = some h.d := by
  have hp : p < line.length := by rw [List.getElem?_eq_some_iff] at e; exact e.1
  unfold atD
  rw [if_pos (by omega), if_pos (by simpa using hp)]
  simp [e]
theorem bf_test {cl : Nat → List Vl → M D} {n : Nat} {φ : Fm} {w : Int} {a3 : Sl} {s : BfS} {env : Env} (h : bfI n φ w a3 s env) : evT cl (.cmp .lt (.v 5) (.bi .len (.cons (.v 4) .nil))) env = .ret (bfMore s, env) := by
  subst h
  simp [evT, evO, evOs, resAll, two, Od.norm, Od.res, bi, M.opt, Od.int, Od.bl, cmpop, bfMore]
theorem bf_body {cl : Nat → List Vl → M D} {n : Nat} {φ : Fm} {w : Int} {a3 : Sl} {s : BfS} {env : Env} (hφ : φ.size < 100000) (h : bfI n φ w a3 s env) (p : bfP φ s) (hm : bfMore s = true) : ∃ env', evSs cl d5_b1 env = .ret (.nx, env') ∧ bfI n φ w a3 (bfStep s) env' := by
  have hm : s.pos < s.line.length := of_decide_eq_true hm
  obtain ⟨f, e⟩ : ∃ f, s.line[s.pos]? = some f := ⟨s.line[s.pos], by simp [hm]⟩
  have hat := atD_map e
  have hl := bf_len p
  have hlow : s.low.length < 1000000 := by have := p.len; omega
  have hl2 : s.line.length + 2 ≤ 1000000 := by omega
  subst h
  cases f with
  | leaf t i =>
    rw [bfStep_leaf e]
    refine ⟨_, ?_, rfl⟩
    simp [d5_b1, evSs, evS, evT, evO, evOs, evVs, resAll, two, Od.norm, Od.res, Od.frz, binop, bi, M.opt, Od.int, Od.bl, cmpop, eqOk, plain, eqv, dep, index, hat, Fm.d, ownL, cap, hlow, lowD]
  | node a f g =>
    rw [bfStep_node e]
    refine ⟨_, ?_, rfl⟩
    simp [d5_b1, evSs, evS, evT, evO, evOs, evVs, resAll, two, Od.norm, Od.res, Od.frz, binop, bi, M.opt, Od.int, Od.bl, cmpop, eqOk, plain, eqv, dep, index, hat, Fm.d, ownL, cap, hlow, lowD, vlDs, vlDs_comp', seqOf, hl2, atD3_0, atD3_1, atD3_2]
end Bq

set_option Elab.async false
set_option linter.all false
set_option maxRecDepth 100000
/-! Equations: answers_told, its end. -/
namespace Bq
open PySem (Str)
section
variable {cl : Nat → List Vl → M D}
theorem d5_b2_eq (b : Int) (a0 a1 a3 a4 a5 a6 a7 a8 a9 a10 a11 a12 a13 a14 a15 : Sl) : evSs cl d5_b2 [a0, a1, vI b, a3, a4, a5, a6, a7, a8, a9, a10, a11, a12, a13, a14, a15] = .ret (.nx, [a0, a1, vI (b * 2), a3, a4, a5, a6, a7, a8, a9, a10, a11, a12, a13, a14, a15]) := by simp [d5_b2, M.bind_ret , bnd64_2]
theorem d5_f1_eq (n : Nat) (hn : n ≤ 1000000) (a1 a3 a4 a5 a6 a7 a8 a9 a10 a11 a12 a13 a14 a15 : Sl) : ∃ a3', evS cl d5_f1 [vI n, a1, vI 1, a3, a4, a5, a6, a7, a8, a9, a10, a11, a12, a13, a14, a15] = .ret (.nx, [vI n, a1, vI (2 ^ n), a3', a4, a5, a6, a7, a8, a9, a10, a11, a12, a13, a14, a15]) := by
  obtain ⟨e, h, s', rfl⟩ := evS_frR (cl := cl) (g := .nm 3) (it := .rg1 (.v 0)) (b := d5_b2) (env := [vI n, a1, vI 1, a3, a4, a5, a6, a7, a8, a9, a10, a11, a12, a13, a14, a15]) (fun k env => ∃ s', env = [vI n, a1, vI (2 ^ k), s', a4, a5, a6, a7, a8, a9, a10, a11, a12, a13, a14, a15]) n (by simp [M.bind_ret ]; omega) ⟨a3, by simp⟩ (by
    rintro k env hk ⟨s', rfl⟩
    exact ⟨_, [vI n, a1, vI (2 ^ (k + 1)), vI k, a4, a5, a6, a7, a8, a9, a10, a11, a12, a13, a14, a15], rfl, by rw [Int.pow_succ]; exact d5_b2_eq .., _, rfl⟩)
  exact ⟨s', h⟩
end
def upI (n : Nat) (φ : Fm) (s : BfS) (a3 : Sl) (j : Nat) (env : Env) : Prop := ∃ kvs a8 a9 a11 a12 a13, env = [vI n, vD φ.d, vI (2 ^ n), a3, .ow (.lst (s.line.map Fm.d)), vI s.pos, .ow (.lst (s.low.map lowD)), .ow (.dic false kvs), a8, a9, .u, a11, a12, a13, .u, .u] ∧
  KInt kvs ∧ kvs.length ≤ j ∧ ∀ k f, s.line.length ≤ k + j → s.line[k]? = some f → dget (.int k) kvs = some (.lst (f.tab n))
theorem low_at {low : List (Option Nat)} {p : Nat} {h : Option Nat} (e : low[p]? = some h) : atD (low.map lowD) (p : Int) = some (lowD h) := by
  have hp : p < low.length := by rw [List.getElem?_eq_some_iff] at e; exact e.1
  unfold atD
  rw [if_pos (by omega), if_pos (by simpa using hp)]
  simp [e]
theorem up_body {Φ : Tab} (h4 : Φ 4 = some d4_bit_in) (k n : Nat) (hn : 2 ^ n ≤ 1000000) (φ : Fm) (hφ : φ.size < 100000) (s : BfS) (p : bfP φ s) (hl : s.pos = s.line.length) (hlow : ∀ f ∈ s.line, f.low 1000000 = true) (a3 : Sl) (j : Nat) (hj : j < s.line.length) (env : Env) (hi : upI n φ s a3 j env) :
    ∃ e1 e2, asgTg (.nm 8) (.int ((s.line.length - 1 - j : Nat) : Int)) env = some e1 ∧ evSs (run Φ (k + 1)) d5_b0 e1 = .ret (.nx, e2) ∧ upI n φ s a3 (j + 1) e2 := by
  obtain ⟨kvs, a8, a9, a11, a12, a13, rfl, hK, hL, hG⟩ := hi
  generalize hq : s.line.length - 1 - j = q
  have hq1 : q < s.line.length := by omega
  obtain ⟨f, ef⟩ : ∃ f, s.line[q]? = some f := ⟨s.line[q], by simp [hq1]⟩
  have hat := atD_map ef
  have hb := p.ok q (by omega)
  have hlen := bf_len p
  have hcap : kvs.length < 1000000 := by omega
  have hmem : f ∈ s.line := by rw [List.getElem?_eq_some_iff] at ef; obtain ⟨_, rfl⟩ := ef; exact List.getElem_mem _
  unfold bfOk at hb
  have fin : ∀ env, (∃ a8 a9 a11 a12 a13, env = [vI n, vD φ.d, vI (2 ^ n), a3, .ow (.lst (s.line.map Fm.d)), vI s.pos, .ow (.lst (s.low.map lowD)), .ow (.dic false (dput (.int q) (.lst (f.tab n)) kvs)), a8, a9, .u, a11, a12, a13, .u, .u]) → upI n φ s a3 (j + 1) env := by
    rintro env ⟨a8, a9, a11, a12, a13, rfl⟩
    refine ⟨_, a8, a9, a11, a12, a13, rfl, hK.put _ _, Nat.le_trans (dput_len _ _ _) (by omega), fun k g hk hg => ?_⟩
    rw [hK.get]
    by_cases e : q = k
    · subst e
      rw [ef] at hg
      injection hg with hg
      subst hg
      simp
    · have : ¬ ((q : Int) = (k : Int)) := by omega
      rw [if_neg this]
      exact hG k g (by omega) hg
  cases f with
  | leaf t i =>
    have hi : i ≤ 1000000 := by
      have := hlow _ hmem
      simp [Fm.low] at this
      omega
    rw [ef] at hb
    cases e : s.low[q]? with
    | none => rw [e] at hb; exact hb.elim
    | some o =>
      rw [e] at hb
      cases o with
      | some i => exact hb.elim
      | none =>
        have hlo := low_at e
        have e0 := d5_l0_eq h4 k n hn t i hi (vI n) (vD φ.d) a3 (.ow (.lst (s.line.map Fm.d))) (vI s.pos) (.ow (.lst (s.low.map lowD))) (.ow (.dic false kvs)) (vI q) a11 a12 a13 .u .u
        refine ⟨_, [vI n, vD φ.d, vI (2 ^ n), a3, .ow (.lst (s.line.map Fm.d)), vI s.pos, .ow (.lst (s.low.map lowD)), .ow (.dic false (dput (.int q) (.lst ((Fm.leaf t i).tab n)) kvs)), vI q, vD (Fm.leaf t i).d, .u, a11, a12, a13, .u, .u], rfl, ?_, fin _ ⟨_, _, _, _, _, rfl⟩⟩
        simp [d5_b0, M.bind_ret , hat, hlo, lowD, e0, keyOk, hcap]
  | node a g h =>
    rw [ef] at hb
    cases e : s.low[q]? with
    | none => rw [e] at hb; exact hb.elim
    | some o =>
      rw [e] at hb
      cases o with
      | none => exact hb.elim
      | some i =>
        have hlo := low_at e
        obtain ⟨b1, b2, b3⟩ := hb
        have g1 := hG i g (by omega) b2
        have g2 := hG (i + 1) h (by omega) b3
        rw [show ((i + 1 : Nat) : Int) = (i : Int) + 1 by push_cast; rfl] at g2
        have e1 := d5_l1_eq (cl := run Φ (k + 1)) n hn a g h (vI n) (vD φ.d) (vI (2 ^ n)) a3 (.ow (.lst (s.line.map Fm.d))) (vI s.pos) (.ow (.lst (s.low.map lowD))) (.ow (.dic false kvs)) (vI q) (vD (Fm.node a g h).d) .u
        refine ⟨_, [vI n, vD φ.d, vI (2 ^ n), a3, .ow (.lst (s.line.map Fm.d)), vI s.pos, .ow (.lst (s.low.map lowD)), .ow (.dic false (dput (.int q) (.lst ((Fm.node a g h).tab n)) kvs)), vI q, vD (Fm.node a g h).d, .u, vD (.lst (g.tab n)), vD (.lst (h.tab n)), vB a, .u, .u], rfl, ?_, fin _ ⟨_, _, _, _, _, rfl⟩⟩
        simp only [Fm.d] at e1
        simp [d5_b0, M.bind_ret , hat, hlo, lowD, keyOk, hcap, atD2_0, atD2_1, atD3_0, g1, g2, Fm.d, nodeS_and, e1]
theorem answers_told_eq {Φ : Tab} (h4 : Φ 4 = some d4_bit_in) (h5 : Φ 5 = some d5_answers_told) (k n : Nat) (hn : 2 ^ n ≤ 1000000) (φ : Fm) (hφ : φ.size < 100000) (hlo : φ.low 1000000 = true) : run Φ (k + 2) 5 [.d (.int n), .d φ.d] = .ret (.tup (φ.tab n)) := by
  have hn1 : n ≤ 1000000 := Nat.le_trans (Nat.le_of_lt Nat.lt_two_pow_self) hn
  obtain ⟨a3, h1⟩ := d5_f1_eq (cl := run Φ (k + 1)) n hn1 (vD φ.d) .u .u .u .u .u .u .u .u .u .u .u .u .u
  have h1 := h1
  have hw := evS_wh (cl := run Φ (k + 1)) (t := .cmp .lt (.v 5) (.bi .len (.cons (.v 4) .nil))) (b := d5_b1) (bfI n φ (2 ^ n) a3) bfMore bfStep (fun s => bfP φ s ∧ ∀ f ∈ s.line, f.low 1000000 = true) (fun s => sizes (s.line.drop s.pos))
    (fun s env hi _ => bf_test hi) (fun s env hi p hm => bf_body hφ hi p.1 hm) (fun s p hm => ?_) ⟨[φ], 0, []⟩ (env := [vI n, vD φ.d, vI (2 ^ n), a3, .ow (.lst [φ.d]), vI 0, .ow (.lst []), .u, .u, .u, .u, .u, .u, .u, .u, .u]) rfl ?_ (by simp [sizes]; omega)
  · obtain ⟨s, e, h2, rfl, ⟨p, pl⟩, hm⟩ := hw
    have hl : s.pos = s.line.length := by
      have := p.le
      have : ¬ s.pos < s.line.length := of_decide_eq_false hm
      omega
    have hlen := bf_len p
    obtain ⟨e3, h3, kvs, a8, a9, a11, a12, a13, rfl, hK, hL, hG⟩ := evS_fr (cl := run Φ (k + 1)) (g := .nm 8) (it := .rg3 (.bin .sub (.bi .len (.cons (.v 4) .nil)) (.int 1)) (.neg (.int 1)) (.neg (.int 1))) (b := d5_b0)
      (env := [vI n, vD φ.d, vI (2 ^ n), a3, .ow (.lst (s.line.map Fm.d)), vI s.pos, .ow (.lst (s.low.map lowD)), .ow (.dic false []), .u, .u, .u, .u, .u, .u, .u, .u])
      (fun j : Nat => D.int ((s.line.length - 1 - j : Nat) : Int)) (upI n φ s a3) (List.range s.line.length) (e1 := [vI n, vD φ.d, vI (2 ^ n), a3, .ow (.lst (s.line.map Fm.d)), vI s.pos, .ow (.lst (s.low.map lowD)), .ow (.dic false []), .u, .u, .u, .u, .u, .u, .u, .u])
      (by
        have hz : ((s.line.length : Int) - 1 - -1).toNat = s.line.length := by omega
        have hr : stepsD ((s.line.length : Int) - 1) (-1) s.line.length = (List.range s.line.length).map (fun j : Nat => D.int ((s.line.length - 1 - j : Nat) : Int)) := by
          rw [stepsD_down]
          apply List.map_congr_left
          intro j hj
          rw [List.mem_range] at hj
          congr 1
          omega
        have hs : ((s.line.length : Int) - 1).natAbs ≤ 1000000 := by omega
        simp [M.bind_ret , hz, hr, hs])
      ⟨[], .u, .u, .u, .u, .u, rfl, fun p hp => by (cases hp), Nat.le_refl 0, fun k f hk hf => by
        rw [List.getElem?_eq_some_iff] at hf
        obtain ⟨hf, _⟩ := hf
        omega⟩
      (fun j q env hq hi => by
        rw [List.getElem?_eq_some_iff] at hq
        obtain ⟨h1, h2⟩ := hq
        rw [List.length_range] at h1
        rw [List.getElem_range] at h2
        subst h2
        exact up_body h4 k n hn φ hφ s p hl pl a3 j h1 env hi)
    rw [List.length_range] at hG
    have g := hG 0 φ (by omega) p.hd
    refine run_rets h5 rfl [vI n, vD φ.d, .u, .u, .u, .u, .u, .u, .u, .u, .u, .u, .u, .u, .u, .u] rfl (Rets.st (e1 := [vI n, vD φ.d, vI 1, .u, .u, .u, .u, .u, .u, .u, .u, .u, .u, .u, .u, .u]) (by simp [M.bind_ret ]) (Rets.st h1 (Rets.st (e1 := [vI n, vD φ.d, vI (2 ^ n), a3, .ow (.lst [φ.d]), vI 0, .ow (.lst []), .u, .u, .u, .u, .u, .u, .u, .u, .u]) (by simp [M.bind_ret ]) (Rets.st h2 (Rets.st (e1 := [vI n, vD φ.d, vI (2 ^ n), a3, .ow (.lst (s.line.map Fm.d)), vI s.pos, .ow (.lst (s.low.map lowD)), .ow (.dic false []), .u, .u, .u, .u, .u, .u, .u, .u]) (by simp [M.bind_ret ]) (Rets.st h3 (Rets.ret ?_)))))))
    have g : dget (.int 0) kvs = some (.lst (φ.tab n)) := g
    simp [M.bind_ret , keyOk, g]
  · obtain ⟨p, pl⟩ := p
    have hm : s.pos < s.line.length := of_decide_eq_true hm
    obtain ⟨b1, b2⟩ := bf_keep p hm
    refine ⟨⟨b1, ?_⟩, b2⟩
    intro f hf
    unfold bfStep at hf
    cases e : s.line[s.pos]? with
    | none => rw [e] at hf; exact pl f hf
    | some x =>
      rw [e] at hf
      cases x with
      | leaf t i => exact pl f hf
      | node a g h =>
        have hx : (Fm.node a g h).low 1000000 = true := pl _ (by rw [List.getElem?_eq_some_iff] at e; obtain ⟨_, e⟩ := e; rw [← e]; exact List.getElem_mem _)
        simp [Fm.low] at hx
        rcases List.mem_append.mp hf with hf | hf
        · exact pl f hf
        · simp at hf
          rcases hf with rfl | rfl
          · exact hx.1
          · exact hx.2
  · exact ⟨⟨rfl, Nat.zero_le _, by simp [sizes], fun k hk => (by cases hk), rfl⟩, fun f hf => by simp at hf; subst hf; exact hlo⟩
end Bq

set_option Elab.async false
set_option linter.all false
set_option maxRecDepth 100000
/-! Equations: lots, neighbours, small helpers. -/
namespace Bq
open PySem (Str)
/-! ### powers, bits -/
section
variable {cl : Nat → List Vl → M D}
theorem d13_b0_eq (b : Int) (a0 a2 : Sl) : evSs cl d13_b0 [a0, vI b, a2] = .ret (.nx, [a0, vI (b * 2), a2]) := by simp [d13_b0, M.bind_ret , bnd64_2]
theorem law_two_eq {Φ : Tab} (h : Φ 13 = some d13_law_two) (k n : Nat) (hn : n ≤ 1000000) : run Φ (k + 1) 13 [.d (.int n)] = .ret (.int (2 ^ n)) := by
  obtain ⟨e, h1, s', rfl⟩ := evS_frR (cl := run Φ k) (g := .nm 2) (it := .rg1 (.v 0)) (b := d13_b0) (env := [vI n, vI 1, .u]) (fun k env => ∃ s', env = [vI n, vI (2 ^ k), s']) n (by simp [M.bind_ret ]; omega) ⟨.u, by simp⟩ (by
    rintro k env hk ⟨s', rfl⟩
    exact ⟨_, [vI n, vI (2 ^ (k + 1)), vI k], rfl, by rw [Int.pow_succ]; exact d13_b0_eq .., _, rfl⟩)
  exact run_rets h rfl [vI n, .u, .u] rfl (Rets.st (e1 := [vI n, vI 1, .u]) (by simp [M.bind_ret ]) (Rets.st h1 (Rets.ret (by simp [M.bind_ret ]))))
theorem law_bit_eq {Φ : Tab} (h : Φ 13 = some d13_law_two) (h2 : Φ 14 = some d14_law_bit) (k x i : Nat) (hi : i < 30) : run Φ (k + 2) 14 [.d (.int x), .d (.int i)] = .ret (.int (b2i (x.testBit i))) := by
  have e := law_two_eq h k i (by omega)
  have e2 := bitI x i
  have hp : 0 < (2 : Int) ^ i := Int.pow_pos (by decide)
  have hp2 : (2 : Int) ^ i < 1073741824 := by
    have : 2 ^ i < 2 ^ 30 := Nat.pow_lt_pow_right (by decide) hi
    have h3 : ((2 ^ i : Nat) : Int) < ((2 ^ 30 : Nat) : Int) := by exact_mod_cast this
    rw [two_pow_cast]
    exact h3
  revert e e2 hp hp2
  generalize (2 : Int) ^ i = q
  intro e e2 hp hp2
  refine run_rets h2 rfl [vI x, vI i] rfl (Rets.ret ?_)
  have hp3 : q.natAbs < 1073741824 := by omega
  simp [M.bind_ret , e, hp, hp3, e2]
end
/-! ### neighbours -/
def flip (x i : Nat) : Nat := if x.testBit i then x - 2 ^ i else x + 2 ^ i
theorem two_le_of_bit {x i : Nat} (h : x.testBit i = true) : 2 ^ i ≤ x := Nat.ge_two_pow_of_testBit h
theorem flipI (x i : Nat) : (x : Int) + 2 ^ i * (1 - 2 * ((x : Int) / 2 ^ i % 2)) = (flip x i : Int) := by
  rw [bitI]
  unfold flip b2i
  by_cases h : x.testBit i = true
  · have := two_le_of_bit h
    simp only [h, if_true]
    rw [Int.natCast_sub this, two_pow_cast]
    omega
  · simp only [h]
    rw [two_pow_cast]
    push_cast
    simp
section
variable {cl : Nat → List Vl → M D}
theorem d9_b0_eq (x p : Int) (l : List D) (hp : 0 < p) (hp2 : p < 1073741824) (hl : l.length < 1000000) (a0 a4 : Sl) : evSs cl d9_b0 [a0, vI x, .ow (.lst l), vI p, a4] = .ret (.nx, [a0, vI x, .ow (.lst (l ++ [.int (x + p * (1 - 2 * (x / p % 2)))])), vI (p * 2), a4]) := by
  have hb : bnd64 p = true := by unfold bnd64; simp; omega
  have hp3 : p.natAbs < 1073741824 := by omega
  simp [d9_b0, M.bind_ret , bnd64_2, hp, hp3, hl, hb]
end
theorem neighbours_eq {Φ : Tab} (h : Φ 9 = some d9_input_neighbours) (k n x : Nat) (hn : n ≤ 30) : run Φ (k + 1) 9 [.d (.int n), .d (.int x)] = .ret (.lst (nL ((List.range n).map (flip x)))) := by
  obtain ⟨e, h1, s', rfl⟩ := evS_frR (cl := run Φ k) (g := .nm 4) (it := .rg1 (.v 0)) (b := d9_b0) (env := [vI n, vI x, .ow (.lst []), vI 1, .u]) (fun k env => ∃ s', env = [vI n, vI x, .ow (.lst (nL ((List.range k).map (flip x)))), vI (2 ^ k), s']) n (by simp [M.bind_ret ]; omega) ⟨.u, by simp [nL]⟩ (by
    rintro k env hk ⟨s', rfl⟩
    refine ⟨_, [vI n, vI x, .ow (.lst (nL ((List.range (k + 1)).map (flip x)))), vI (2 ^ (k + 1)), vI k], rfl, ?_, _, rfl⟩
    have hp2 : (2 : Int) ^ k < 1073741824 := by
      have : 2 ^ k < 2 ^ 30 := Nat.pow_lt_pow_right (by decide) (by omega)
      have h3 : ((2 ^ k : Nat) : Int) < ((2 ^ 30 : Nat) : Int) := by exact_mod_cast this
      rw [two_pow_cast]
      exact h3
    rw [Int.pow_succ, List.range_succ, List.map_append]
    have := d9_b0_eq (cl := run Φ ‹_›) x (2 ^ k) (nL ((List.range k).map (flip x))) (Int.pow_pos (by decide)) hp2 (by rw [nL_len]; simp; omega) (vI n) (vI k)
    rw [flipI] at this
    rw [show nL (List.map (flip x) (List.range k) ++ List.map (flip x) [k]) = nL ((List.range k).map (flip x)) ++ [.int (flip x k : Int)] by simp [nL]]
    exact this)
  exact run_rets h rfl [vI n, vI x, .u, .u, .u] rfl (Rets.st (e1 := [vI n, vI x, .ow (.lst []), vI 1, .u]) (by simp [M.bind_ret ]) (Rets.st h1 (Rets.ret (by simp [M.bind_ret ]))))
/-! ### pairs across -/
def across (n : Nat) (A B : List Nat) : Nat := (A.map fun x => (((List.range n).map (flip x)).filter fun y => B.contains y).length).sum
theorem natsum (l : List Nat) : (l.map fun x : Nat => (x : Int)).sum = ((l.sum : Nat) : Int) := by
  induction l with
  | nil => rfl
  | cons a l ih => simp [ih]
theorem natsum' {α : Type} (f : α → Nat) (l : List α) : (l.map fun x => ((f x : Nat) : Int)).sum = (((l.map f).sum : Nat) : Int) := by
  rw [← natsum, List.map_map]
  rfl
/-- a lot as data -/
def lotD (t : Bool) (A : List Nat) : D := if t then .tup (nL A) else .lst (nL A)
theorem across_eq {Φ : Tab} (h9 : Φ 9 = some d9_input_neighbours) (h : Φ 10 = some d10_across_pairs) (k n : Nat) (hn : n ≤ 30) (A B : List Nat) (hA : A.length ≤ 1000000) (t u : Bool) :
    run Φ (k + 2) 10 [.d (.int n), .d (lotD t A), .d (lotD u B)] = .ret (.int (across n A B)) := by
  have e0 : ∀ (a1 : Sl) (x : Nat), evO (run Φ (k + 1)) d10_l0 [vI n, a1, vD (lotD u B), .u, vI x] = .ret (.fr (.lst (nL (((List.range n).map (flip x)).filter fun y => B.contains y))), [vI n, a1, vD (lotD u B), .u, vI x]) := by
    intro a1 x
    have e9 := neighbours_eq h9 k n x hn
    unfold d10_l0
    refine (lc_f (l := (List.range n).map (flip x)) (h := fun x : Nat => D.int (x : Int)) (e1 := [vI n, a1, vD (lotD u B), .u, vI x]) (fun x : Nat => D.int (x : Int)) (fun y => B.contains y) (by simp [M.bind_ret , e9, nL]) rfl (by simp [cap]; omega) rfl ?_).trans ?_
    · intro y _
      cases u <;> simp [lotD]
    · simp [M.bind_ret , nL]
  have e1 : evO (run Φ (k + 1)) d10_l1 [vI n, vD (lotD t A), vD (lotD u B), .u, .u] = .ret (.fr (.lst (A.map fun x => .int ((((List.range n).map (flip x)).filter fun y => B.contains y).length : Nat))), [vI n, vD (lotD t A), vD (lotD u B), .u, .u]) := by
    unfold d10_l1
    refine (lc_m (l := A) (h := fun x : Nat => D.int (x : Int)) (e1 := [vI n, vD (lotD t A), vD (lotD u B), .u, .u]) (fun x => .int ((((List.range n).map (flip x)).filter fun y => B.contains y).length : Nat)) (by cases t <;> simp [M.bind_ret , lotD, nL]) rfl hA rfl ?_).trans ?_
    · intro x _
      have := e0 (vD (lotD t A)) x
      simp [M.bind_ret , this, nL_len]
    · simp [M.bind_ret ]
  refine run_rets h rfl [vI n, vD (lotD t A), vD (lotD u B), .u, .u] rfl (Rets.ret ?_)
  simp [e1, natsum', across]
/-- leaves told by lots -/
theorem d12_s0 {cl : Nat → List Vl → M D} (n : Int) (A B : D) (a b : Nat) (c : Int) (hA : bi .len [A] = some (.int a)) (hB : bi .len [B] = some (.int b)) (e : cl 10 [.d (.int n), .d A, .d B] = .ret (.int c)) (hb1 : bnd64 (a : Int) = true) :
    evS cl (.par [3, 4] (.cons (.call 10 (.cons (.v 0) (.cons (.v 1) (.cons (.v 2) .nil)))) (.cons (.bin .mul (.bi .len (.cons (.v 1) .nil)) (.bi .len (.cons (.v 2) .nil))) .nil))) [vI n, vD A, vD B, .u, .u] = .ret (.nx, [vI n, vD A, vD B, vI c, vI (a * b)]) := by
  simp [evS, evPar, evO, evVs, evOs, putOds, Od.frz, e, resAll, hA, hB, M.opt, two, Od.int, Od.norm, Od.res, binop, hb1]
theorem d12_s1 {cl : Nat → List Vl → M D} (a0 a1 a2 : Sl) (c q : Int) (hb1 : bnd64 c = true) (hp : 0 < q) (hp3 : q.natAbs < 1073741824) :
    ∃ e, evS cl (.ret (.bin .fdiv (.bin .sub (.bin .add (.bin .mul (.v 3) (.v 3)) (.v 4)) (.int 1)) (.v 4))) [a0, a1, a2, vI c, vI q] = .ret (.rt (.int ((c * c + q - 1) / q)), e) := by
  simp [M.bind_ret , hb1, hp, hp3]
theorem len_lot (t : Bool) (A : List Nat) : bi .len [lotD t A] = some (.int A.length) := by cases t <;> simp [lotD, bi, nL_len]
def byLots (n : Nat) (A B : List Nat) : Int := ((across n A B : Int) * (across n A B : Int) + (A.length : Int) * (B.length : Int) - 1) / ((A.length : Int) * (B.length : Int))
theorem by_lots_eq {Φ : Tab} (h9 : Φ 9 = some d9_input_neighbours) (h10 : Φ 10 = some d10_across_pairs) (h : Φ 12 = some d12_leaves_by_lots) (k n : Nat) (hn : n ≤ 30) (A B : List Nat) (hA : A.length ≤ 30000) (hB : B.length ≤ 30000) (ha : A ≠ []) (hb : B ≠ []) (hc : across n A B < 1000000000) (t u : Bool) :
    run Φ (k + 3) 12 [.d (.int n), .d (lotD t A), .d (lotD u B)] = .ret (.int (byLots n A B)) := by
  have e := across_eq h9 h10 k n hn A B (by omega) t u
  have h1 : 0 < A.length := List.length_pos_iff.mpr ha
  have h2 : 0 < B.length := List.length_pos_iff.mpr hb
  have hp : (0 : Int) < (A.length : Int) * (B.length : Int) := by
    have : 0 < A.length * B.length := Nat.mul_pos h1 h2
    exact_mod_cast this
  have hp2 : ((A.length : Int) * (B.length : Int)).natAbs < 1073741824 := by
    have : A.length * B.length ≤ 30000 * 30000 := Nat.mul_le_mul hA hB
    rw [Int.natAbs_mul, Int.natAbs_natCast, Int.natAbs_natCast]
    omega
  have hb1 : bnd64 (across n A B : Int) = true := by rw [bnd64_n]; simp; omega
  have hb2 : bnd64 (A.length : Int) = true := by rw [bnd64_n]; simp; omega
  exact run_rets h rfl [vI n, vD (lotD t A), vD (lotD u B), .u, .u] rfl (Rets.st (d12_s0 _ _ _ _ _ _ (len_lot t A) (len_lot u B) e hb2) (Rets.ret (d12_s1 _ _ _ _ _ hb1 hp hp2)))
/-- lots that a formula parts -/
theorem part_lots_eq {Φ : Tab} (h4 : Φ 4 = some d4_bit_in) (h5 : Φ 5 = some d5_answers_told) (h : Φ 11 = some d11_does_part_lots) (k n : Nat) (hn : 2 ^ n ≤ 1000000) (φ : Fm) (hφ : φ.size < 100000) (hlo : φ.low 1000000 = true) (A B : List Nat) (hA : A.length ≤ 1000000) (hB : B.length ≤ 1000000) (ha : ∀ x ∈ A, x < 2 ^ n) (hb : ∀ x ∈ B, x < 2 ^ n) :
    run Φ (k + 3) 11 [.d (.int n), .d φ.d, .d (lotD true A), .d (lotD true B)] = .ret (.bl (A.all (fun x => φ.ev x) && B.all (fun x => !φ.ev x))) := by
  have e := answers_told_eq h4 h5 k n hn φ hφ hlo
  have e1 : evO (run Φ (k + 2)) d11_l1 [vI n, vD φ.d, vD (lotD true A), vD (lotD true B), vD (.tup (φ.tab n)), .u] = .ret (.fr (.lst (A.map fun x => .bl (φ.ev x))), [vI n, vD φ.d, vD (lotD true A), vD (lotD true B), vD (.tup (φ.tab n)), .u]) := by
    unfold d11_l1
    refine (lc_m (l := A) (h := fun x : Nat => D.int (x : Int)) (e1 := [vI n, vD φ.d, vD (lotD true A), vD (lotD true B), vD (.tup (φ.tab n)), .u]) (fun x => .bl (φ.ev x)) (by simp [M.bind_ret , lotD, nL]) rfl hA rfl ?_).trans ?_
    · intro x hx
      have := atD_range (fun x => D.int (b2i (φ.ev x))) (ha x hx)
      have h2 : (b2i (φ.ev x) == 1) = φ.ev x := by cases φ.ev x <;> rfl
      simp [M.bind_ret , Fm.tab, this, h2]
    · simp [M.bind_ret ]
  have e0 : evO (run Φ (k + 2)) d11_l0 [vI n, vD φ.d, vD (lotD true A), vD (lotD true B), vD (.tup (φ.tab n)), .u] = .ret (.fr (.lst (B.map fun x => .bl (!φ.ev x))), [vI n, vD φ.d, vD (lotD true A), vD (lotD true B), vD (.tup (φ.tab n)), .u]) := by
    unfold d11_l0
    refine (lc_m (l := B) (h := fun x : Nat => D.int (x : Int)) (e1 := [vI n, vD φ.d, vD (lotD true A), vD (lotD true B), vD (.tup (φ.tab n)), .u]) (fun x => .bl (!φ.ev x)) (by simp [M.bind_ret , lotD, nL]) rfl hB rfl ?_).trans ?_
    · intro x hx
      have := atD_range (fun x => D.int (b2i (φ.ev x))) (hb x hx)
      have h2 : (b2i (φ.ev x) == 0) = !φ.ev x := by cases φ.ev x <;> rfl
      simp [M.bind_ret , Fm.tab, this, h2]
    · simp [M.bind_ret ]
  refine run_rets h rfl [vI n, vD φ.d, vD (lotD true A), vD (lotD true B), .u, .u] rfl (Rets.st (e1 := [vI n, vD φ.d, vD (lotD true A), vD (lotD true B), vD (.tup (φ.tab n)), .u]) (by simp [M.bind_ret , e]) (Rets.ret ?_))
  have t1 := toBools_map (fun x => φ.ev x) A
  have t0 := toBools_map (fun x => !φ.ev x) B
  have a1 : (A.map fun x => φ.ev x).all id = A.all (fun x => φ.ev x) := by simp [List.all_map, Function.comp_def]
  have a0 : (B.map fun x => !φ.ev x).all id = B.all (fun x => !φ.ev x) := by simp [List.all_map, Function.comp_def]
  cases h1 : A.all (fun x => φ.ev x) <;> cases h0 : B.all (fun x => !φ.ev x) <;> rw [h1] at a1 <;> rw [h0] at a0 <;> simp [M.bind_ret , e1, e0, t1, t0, a1, a0]
end Bq

set_option Elab.async false
set_option linter.all false
set_option maxRecDepth 100000
/-! Equations: halved formulas; what is a formula; the law's rows. -/
namespace Bq
open PySem (Str)
/-! ### halved leaves -/
def hlv : Nat → List Nat
  | 0 => [0, 1]
  | m + 1 => let l := hlv m; l ++ [2 * (l.getD ((m + 2) / 2) 0 + l.getD ((m + 2) - (m + 2) / 2) 0)]
theorem hlv_len (m : Nat) : (hlv m).length = m + 2 := by induction m with | zero => rfl | succ m ih => simp [hlv, ih]
section
variable {cl : Nat → List Vl → M D}
theorem d6_b0_eq (l : List D) (m a b : Int) (a0 : Sl) (h1 : atD l (m / 2) = some (.int a)) (h2 : atD l (m - m / 2) = some (.int b)) (hl : l.length < 1000000) : evSs cl d6_b0 [a0, .ow (.lst l), vI m] = .ret (.nx, [a0, .ow (.lst (l ++ [.int (2 * (a + b))])), vI m]) := by
  simp [d6_b0, M.bind_ret , bnd64_2, h1, h2, hl]
end
theorem getD_some0 {l : List Nat} {i : Nat} (h : i < l.length) : l[i]? = some (l.getD i 0) := by simp [h]
theorem halved_leaves_eq {Φ : Tab} (h : Φ 6 = some d6_halved_leaves) (k n : Nat) (hn : n ≤ 1000) : run Φ (k + 1) 6 [.d (.int n)] = .ret (.int ((hlv (n - 1)).getD n 0)) := by
  have hr : rangeD 2 ((n : Int) + 1 - 2).toNat = (List.range (n - 1)).map fun i : Nat => D.int ((i + 2 : Nat) : Int) := by
    rw [rangeD_map]
    have : ((n : Int) + 1 - 2).toNat = n - 1 := by omega
    rw [this]
    apply List.map_congr_left
    intro i _
    congr 1
    omega
  obtain ⟨e, h1, s', rfl⟩ := evS_fr (cl := run Φ k) (g := .nm 2) (it := .rg2 (.int 2) (.bin .add (.v 0) (.int 1))) (b := d6_b0) (env := [vI n, .ow (.lst (nL [0, 1])), .u]) (e1 := [vI n, .ow (.lst (nL [0, 1])), .u]) (fun i : Nat => D.int ((i + 2 : Nat) : Int)) (fun k env => ∃ s', env = [vI n, .ow (.lst (nL (hlv k))), s']) (List.range (n - 1))
    (by
      have : ((n : Int) + 1).natAbs ≤ 1000000 := by omega
      simp [M.bind_ret , this, hr]) ⟨.u, rfl⟩ (by
    rintro k a env ha ⟨s', rfl⟩
    rw [List.getElem?_eq_some_iff] at ha
    obtain ⟨hk, rfl⟩ := ha
    rw [List.length_range] at hk
    rw [List.getElem_range]
    refine ⟨_, [vI n, .ow (.lst (nL (hlv (k + 1)))), vI ((k + 2 : Nat) : Int)], rfl, ?_, _, rfl⟩
    have hl := hlv_len k
    have g1 : atD (nL (hlv k)) (((k + 2 : Nat) : Int) / 2) = some (.int ((hlv k).getD ((k + 2) / 2) 0 : Nat)) := by
      rw [show ((k + 2 : Nat) : Int) / 2 = (((k + 2) / 2 : Nat) : Int) by omega]
      exact atD_nL (getD_some0 (by omega))
    have g2 : atD (nL (hlv k)) (((k + 2 : Nat) : Int) - ((k + 2 : Nat) : Int) / 2) = some (.int ((hlv k).getD ((k + 2) - (k + 2) / 2) 0 : Nat)) := by
      rw [show ((k + 2 : Nat) : Int) - ((k + 2 : Nat) : Int) / 2 = (((k + 2) - (k + 2) / 2 : Nat) : Int) by omega]
      exact atD_nL (getD_some0 (by omega))
    have := d6_b0_eq (cl := run Φ ‹_›) (nL (hlv k)) ((k + 2 : Nat) : Int) _ _ (vI n) g1 g2 (by rw [nL_len]; omega)
    rw [show nL (hlv (k + 1)) = nL (hlv k) ++ [.int (2 * (((hlv k).getD ((k + 2) / 2) 0 : Nat) + ((hlv k).getD ((k + 2) - (k + 2) / 2) 0 : Nat)) : Int)] by simp [hlv, nL]]
    exact this)
  have hl := hlv_len (n - 1)
  rw [List.length_range] at h1
  have g : atD (nL (hlv (n - 1))) (n : Int) = some (.int ((hlv (n - 1)).getD n 0 : Nat)) := atD_nL (getD_some0 (by omega))
  exact run_rets h rfl [vI n, .u, .u] rfl (Rets.st (e1 := [vI n, .ow (.lst (nL [0, 1])), .u]) (by simp [M.bind_ret , nL]) (Rets.st h1 (Rets.ret (by simp [M.bind_ret , g]))))
/-! ### halved formulas -/
def hp : Nat → Nat → Nat → Fm × Fm
  | 0, first, _ => (.leaf false first, .leaf true first)
  | k + 1, first, many => if many = 1 then (.leaf false first, .leaf true first) else
    let p := hp k first (many / 2)
    let q := hp k (first + many / 2) (many - many / 2)
    (.node false (.node true p.1 q.2) (.node true p.2 q.1), .node false (.node true p.1 q.1) (.node true p.2 q.2))
theorem hp_fuel : ∀ (k j first many : Nat), 1 ≤ many → many ≤ 2 ^ k → many ≤ 2 ^ j → hp k first many = hp j first many := by
  intro k
  induction k with
  | zero =>
    intro j first many h1 h2 h3
    have : many = 1 := by simp at h2; omega
    subst this
    cases j <;> simp [hp]
  | succ k ih =>
    intro j first many h1 h2 h3
    cases j with
    | zero =>
      have : many = 1 := by simp at h3; omega
      subst this
      simp [hp]
    | succ j =>
      simp only [hp]
      by_cases h : many = 1
      · simp [h]
      · rw [if_neg h, if_neg h, ih j first (many / 2) (by omega) (by rw [Nat.pow_succ] at h2; omega) (by rw [Nat.pow_succ] at h3; omega), ih j (first + many / 2) (many - many / 2) (by omega) (by rw [Nat.pow_succ] at h2; omega) (by rw [Nat.pow_succ] at h3; omega)]
def pairD (p : Fm × Fm) : D := .tup [p.1.d, p.2.d]
section
variable {cl : Nat → List Vl → M D}
theorem d7_s1 (a m : Int) (x y : D) (c : cl 7 [.d (.int a), .d (.int (m / 2))] = .ret (.tup [x, y])) (a2 a3 a4 a5 : Sl) : evS cl (.asgT (.tp [(.nm 2), (.nm 3)]) (.call 7 (.cons (.v 0) (.cons (.bin .fdiv (.v 1) (.int 2)) .nil)))) [vI a, vI m, a2, a3, a4, a5] = .ret (.nx, [vI a, vI m, vD x, vD y, a4, a5]) := by simp [M.bind_ret , c]
theorem d7_s2 (a m : Int) (x y : D) (c : cl 7 [.d (.int (a + m / 2)), .d (.int (m - m / 2))] = .ret (.tup [x, y])) (a2 a3 a4 a5 : Sl) : evS cl (.asgT (.tp [(.nm 4), (.nm 5)]) (.call 7 (.cons (.bin .add (.v 0) (.bin .fdiv (.v 1) (.int 2))) (.cons (.bin .sub (.v 1) (.bin .fdiv (.v 1) (.int 2))) .nil)))) [vI a, vI m, a2, a3, a4, a5] = .ret (.nx, [vI a, vI m, a2, a3, vD x, vD y]) := by simp [M.bind_ret , c]
end
theorem halved_pair_eq {Φ : Tab} (h : Φ 7 = some d7_halved_pair) : ∀ (j k first many : Nat), 1 ≤ many → many ≤ 2 ^ j → run Φ (k + j + 1) 7 [.d (.int first), .d (.int many)] = .ret (pairD (hp j first many)) := by
  intro j
  induction j with
  | zero =>
    intro k first many h1 h2
    have : many = 1 := by simp at h2; omega
    subst this
    refine run_rets h rfl [vI first, vI 1, .u, .u, .u, .u] rfl (Rets.iffR (e1 := [vI first, vI 1, .u, .u, .u, .u]) (by simp [M.bind_ret ]) (Rets.ret (by simp [M.bind_ret , hp, pairD, Fm.d, leafS])))
  | succ j ih =>
    intro k first many h1 h2
    by_cases hm : many = 1
    · subst hm
      refine run_rets h rfl [vI first, vI 1, .u, .u, .u, .u] rfl (Rets.iffR (e1 := [vI first, vI 1, .u, .u, .u, .u]) (by simp [M.bind_ret ]) (Rets.ret (by simp [M.bind_ret , hp, pairD, Fm.d, leafS])))
    · rw [Nat.pow_succ] at h2
      have c1 := ih k first (many / 2) (by omega) (by omega)
      have c2 := ih k (first + many / 2) (many - many / 2) (by omega) (by omega)
      simp only [pairD] at c1 c2
      rw [show ((many / 2 : Nat) : Int) = (many : Int) / 2 by omega] at c1
      rw [show ((first + many / 2 : Nat) : Int) = (first : Int) + (many : Int) / 2 by omega, show ((many - many / 2 : Nat) : Int) = (many : Int) - (many : Int) / 2 by omega] at c2
      have hm1 : ((many : Int) == 1) = false := by simp; omega
      rw [show k + (j + 1) + 1 = (k + j + 1) + 1 by omega]
      refine run_rets h rfl [vI first, vI many, .u, .u, .u, .u] rfl (Rets.iff (c := false) (e1 := [vI first, vI many, .u, .u, .u, .u]) (by simp [M.bind_ret , hm1]) (by simp only [Bool.false_eq_true, if_false]; rfl)
        (Rets.st (d7_s1 _ _ _ _ c1 _ _ _ _) (Rets.st (d7_s2 _ _ _ _ c2 _ _ _ _) (Rets.ret ?_))))
      simp [M.bind_ret , hp, hm, pairD, Fm.d, nodeS]
theorem halved_formula_eq {Φ : Tab} (h7 : Φ 7 = some d7_halved_pair) (h : Φ 8 = some d8_halved_formula) (j k n : Nat) (h1 : 1 ≤ n) (h2 : n ≤ 2 ^ j) (o : Bool) : run Φ (k + j + 2) 8 [.d (.int n), .d (.bl o)] = .ret (if o then (hp j 0 n).1.d else (hp j 0 n).2.d) := by
  have c := halved_pair_eq h7 j k 0 n h1 h2
  simp only [pairD] at c
  have c : run Φ (k + j + 1) 7 [.d (.int 0), .d (.int n)] = .ret (.tup [(hp j 0 n).1.d, (hp j 0 n).2.d]) := c
  refine run_rets h rfl [vI n, vB o, .u, .u] rfl (Rets.st (e1 := [vI n, vB o, vD (hp j 0 n).1.d, vD (hp j 0 n).2.d]) (by simp [M.bind_ret , c]) (Rets.ret ?_))
  cases o <;> simp [M.bind_ret ]
/-! ### pairs across, by bits -/
def across2 (n : Nat) (A B : List Nat) : Nat := ((List.range n).map fun i => (A.filter fun x => B.contains (flip x i)).length).sum
theorem d17_b0_l (x i : Nat) : (if b2i (x.testBit i) = 0 then (x : Int) + 2 ^ i else (x : Int) - 2 ^ i) = (flip x i : Int) := by
  unfold flip b2i
  by_cases h : x.testBit i = true
  · have := two_le_of_bit h
    simp only [h, if_true]
    rw [Int.natCast_sub this, two_pow_cast]
    simp
  · simp only [h]
    rw [two_pow_cast]
    push_cast
    simp
theorem law_across_eq {Φ : Tab} (h13 : Φ 13 = some d13_law_two) (h14 : Φ 14 = some d14_law_bit) (h : Φ 17 = some d17_law_across) (k n : Nat) (hn : n < 30) (A B : List Nat) (hA : A.length ≤ 1000000) (t u : Bool) :
    run Φ (k + 3) 17 [.d (.int n), .d (lotD t A), .d (lotD u B)] = .ret (.int (across2 n A B)) := by
  have e0 : ∀ (a3 : Sl) (i : Nat) (p : Int), p = 2 ^ i → i < 30 → evO (run Φ (k + 2)) d17_l0 [vI n, vD (lotD t A), vD (lotD u B), a3, vI i, vI p, .u] = .ret (.fr (.lst (nL (A.filter fun x => B.contains (flip x i)))), [vI n, vD (lotD t A), vD (lotD u B), a3, vI i, vI p, .u]) := by
    intro a3 i p hp hi
    unfold d17_l0
    refine (lc_f (l := A) (h := fun x : Nat => D.int (x : Int)) (e1 := [vI n, vD (lotD t A), vD (lotD u B), a3, vI i, vI p, .u]) (fun x : Nat => D.int (x : Int)) (fun x => B.contains (flip x i)) (by cases t <;> simp [M.bind_ret , lotD, nL]) rfl hA rfl ?_).trans ?_
    · intro x _
      have e14 := law_bit_eq h13 h14 k x i hi
      have hf := d17_b0_l x i
      rw [← hp] at hf
      have hc : (b2i (x.testBit i) == 0) = decide (b2i (x.testBit i) = 0) := by cases x.testBit i <;> rfl
      by_cases hb : b2i (x.testBit i) = 0
      · rw [if_pos hb] at hf
        cases u <;> simp [e14, hc, hb, hf, lotD]
      · rw [if_neg hb] at hf
        cases u <;> simp [e14, hc, hb, hf, lotD]
    · simp [M.bind_ret , nL]
  obtain ⟨e, h1, s', s'', rfl⟩ := evS_frR (cl := run Φ (k + 2)) (g := .nm 4) (it := .rg1 (.v 0)) (b := d17_b0) (env := [vI n, vD (lotD t A), vD (lotD u B), vI 0, .u, .u, .u]) (fun k env => ∃ s' s'', env = [vI n, vD (lotD t A), vD (lotD u B), vI (((List.range k).map fun i => (A.filter fun x => B.contains (flip x i)).length).sum : Nat), s', s'', .u]) n (by simp [M.bind_ret ]; omega) ⟨.u, .u, rfl⟩ (by
    rintro i env hi ⟨s', s'', rfl⟩
    refine ⟨_, [vI n, vD (lotD t A), vD (lotD u B), vI (((List.range (i + 1)).map fun i => (A.filter fun x => B.contains (flip x i)).length).sum : Nat), vI i, vI (2 ^ i), .u], rfl, ?_, _, _, rfl⟩
    have e13 := law_two_eq h13 (k + 1) i (by omega)
    obtain ⟨p, hp⟩ : ∃ p, p = (2 : Int) ^ i := ⟨_, rfl⟩
    rw [← hp] at e13 ⊢
    have e0 := e0 (vI (((List.range i).map fun i => (A.filter fun x => B.contains (flip x i)).length).sum : Nat)) i p hp (by omega)
    rw [List.range_succ, List.map_append, List.sum_append]
    generalize ((List.range i).map fun i => (A.filter fun x => B.contains (flip x i)).length).sum = m at e0 ⊢
    simp [d17_b0, M.bind_ret , e13, e0, nL_len])
  exact run_rets h rfl [vI n, vD (lotD t A), vD (lotD u B), .u, .u, .u, .u] rfl (Rets.st (e1 := [vI n, vD (lotD t A), vD (lotD u B), vI 0, .u, .u, .u]) (by simp [M.bind_ret ]) (Rets.st h1 (Rets.ret (by simp [M.bind_ret , across2]))))
end Bq

set_option Elab.async false
set_option linter.all false
set_option maxRecDepth 100000
/-! Equations: what is a formula; the law's rows. -/
namespace Bq
open PySem (Str)
/-! ### what is a formula, of anything -/
mutual
def dsz : D → Nat
  | .tup xs => dszs xs + 1
  | .lst xs => dszs xs + 1
  | _ => 1
def dszs : List D → Nat
  | [] => 0
  | x :: xs => dsz x + dszs xs
end
theorem dsz_pos (d : D) : 1 ≤ dsz d := by cases d <;> simp [dsz]
def isBitN (n : Nat) : D → Bool
  | .int i => decide (0 ≤ i) && decide (i < n)
  | _ => false
def isLeafW (s : Str) : Bool := s == ("bit" : Str) || s == ("not" : Str)
def isNodeW (s : Str) : Bool := s == ("and" : Str) || s == ("or" : Str)
/-- the parts of a formula, in form -/
def fmP : D → Option (Str × D × Option D)
  | .tup [.str s, x] => some (s, x, none)
  | .tup [.str s, x, y] => some (s, x, some y)
  | _ => none
def isF (n : Nat) : Nat → D → Bool
  | 0, _ => false
  | k + 1, d => match fmP d with
    | some (s, x, none) => isLeafW s && isBitN n x
    | some (s, x, some y) => isNodeW s && isF n k x && isF n k y
    | none => false
theorem fmP_sz {d : D} {s : Str} {x y : D} (h : fmP d = some (s, x, some y)) : dsz d = dsz x + dsz y + 2 := by
  unfold fmP at h
  split at h
  · simp at h
  · simp only [Option.some.injEq, Prod.mk.injEq] at h
    obtain ⟨_, rfl, rfl⟩ := h
    simp [dsz, dszs]; omega
  · cases h
theorem isF_fuel (n : Nat) : ∀ (k j : Nat) (d : D), dsz d ≤ k → dsz d ≤ j → isF n k d = isF n j d := by
  intro k
  induction k with
  | zero => intro j d h _; have := dsz_pos d; omega
  | succ k ih =>
    intro j d h1 h2
    cases j with
    | zero => have := dsz_pos d; omega
    | succ j =>
      simp only [isF]
      cases e : fmP d with
      | none => rfl
      | some p =>
        obtain ⟨s, x, o⟩ := p
        cases o with
        | none => rfl
        | some y =>
          have := fmP_sz e
          simp only
          rw [ih j x (by omega) (by omega), ih j y (by omega) (by omega)]
/-- anything is a formula -/
def isForm (n : Nat) (d : D) : Bool := isF n (dsz d) d
theorem isForm_2 (n : Nat) (s : Str) (x : D) : isForm n (.tup [.str s, x]) = (isLeafW s && isBitN n x) := rfl
theorem isForm_3 (n : Nat) (s : Str) (x y : D) : isForm n (.tup [.str s, x, y]) = (isNodeW s && isForm n x && isForm n y) := by
  unfold isForm
  rw [show dsz (.tup [.str s, x, y]) = (dsz x + dsz y + 1) + 1 by simp [dsz, dszs]; omega]
  show (isNodeW s && isF n (dsz x + dsz y + 1) x && isF n (dsz x + dsz y + 1) y) = _
  rw [isF_fuel n _ (dsz x) x (by omega) (Nat.le_refl _), isF_fuel n _ (dsz y) y (by omega) (Nat.le_refl _)]
theorem isForm_0 (n : Nat) (d : D) (h : fmP d = none) : isForm n d = false := by
  unfold isForm
  cases e : dsz d with
  | zero => rfl
  | succ k => simp only [isF, h]
theorem leafW (t : Bool) : isLeafW (leafS t) = true := by cases t <;> decide +kernel
theorem nodeW (t : Bool) : isNodeW (nodeS t) = true := by cases t <;> decide +kernel
theorem Fm.isForm (n : Nat) : ∀ f : Fm, Bq.isForm n f.d = f.low n
  | .leaf t i => by
    simp [Fm.d, isForm_2, leafW, isBitN, Fm.low]
  | .node a f g => by simp [Fm.d, isForm_3, nodeW, f.isForm n, g.isForm n, Fm.low]
theorem bit_number_eq {Φ : Tab} (h : Φ 1 = some d1_is_bit_number) (k n : Nat) (x : D) (hx : plain x = true) : run Φ (k + 1) 1 [.d (.int n), .d x] = .ret (.bl (isBitN n x)) := by
  refine run_rets h rfl [vI n, vD x] rfl (Rets.ret ?_)
  cases x with
  | int i =>
    by_cases h0 : 0 ≤ i
    · simp [isCl, isBitN, h0]
    · simp [isCl, isBitN, h0]
  | dic t kvs => simp [plain] at hx
  | _ => simp [isCl, isBitN]
/-- the law's own bounded stack -/
def okSt (st : List D) : Prop := plains st = true ∧ deps st ≤ 100 ∧ dszs st < 100000
theorem plains_app : ∀ a b : List D, plains (a ++ b) = (plains a && plains b)
  | [], b => rfl
  | x :: a, b => by simp [plains, plains_app a b, Bool.and_assoc]
theorem deps_app : ∀ a b : List D, deps (a ++ b) = max (deps a) (deps b)
  | [], b => by simp [deps]
  | x :: a, b => by simp [deps, deps_app a b, Nat.max_assoc]
theorem dszs_app : ∀ a b : List D, dszs (a ++ b) = dszs a + dszs b
  | [], b => by simp [dszs]
  | x :: a, b => by simp [dszs, dszs_app a b]; omega
theorem dszs_len : ∀ a : List D, a.length ≤ dszs a
  | [] => Nat.le_refl _
  | x :: a => by have := dszs_len a; have := dsz_pos x; simp [dszs]; omega
theorem eqvs_nil (a : List D) : eqvs a [] = a.isEmpty := by cases a <;> rfl
theorem st_test {cl : Nat → List Vl → M D} {env : Env} {i : Nat} {st : List D} (h : lk env i = some (.ow (.lst st))) (hp : plains st = true) : evT cl (.cmp .ne (.v i) (.lst .nil)) env = .ret (!st.isEmpty, env) := by
  have : eqOk (.lst st) (.lst []) = true := by simp [eqOk, plain, plains, hp, dep, deps]
  simp [h, this, eqvs_nil]
theorem str2 (s a b : Str) : ([D.str a, D.str b].any fun y => eqv y (.str s)) = (s == a || s == b) := by
  have e : ∀ x y : Str, (x == y) = (y == x) := fun x y => by
    by_cases h : x = y
    · subst h; rfl
    · have h2 : ¬ y = x := fun e => h e.symm
      rw [beq_eq_false_iff_ne.mpr h, beq_eq_false_iff_ne.mpr h2]
  simp [eqv, e s a, e s b]
theorem mem_leafW (s : Str) (h : plain (.str s) = true) : cmpop .nmem (.str s) (.tup [.str "bit", .str "not"]) = some (!isLeafW s) := by
  have : plains [.str "bit", .str "not"] = true := by decide +kernel
  simp only [c_nmemt, memOk, h, this, dep, str2]
  rfl
theorem mem_nodeW (s : Str) (h : plain (.str s) = true) : cmpop .nmem (.str s) (.tup [.str "and", .str "or"]) = some (!isNodeW s) := by
  have : plains [.str "and", .str "or"] = true := by decide +kernel
  simp only [c_nmemt, memOk, h, this, dep, str2]
  rfl
section
variable {cl : Nat → List Vl → M D}
theorem d2_len (m : Nat) : cmpop .nmem (.int m) (.tup [.int 2, .int 3]) = some (!(m == 2 || m == 3)) := by
  have : ∀ k : Nat, ((k : Int) == (m : Int)) = (m == k) := fun k => by
    by_cases h : m = k
    · subst h; simp
    · have h2 : ¬ ((k : Int) = (m : Int)) := by omega
      rw [beq_eq_false_iff_ne.mpr h, beq_eq_false_iff_ne.mpr h2]
  have h2 := this 2
  have h3 := this 3
  simp only [c_nmemt, memOk, plain, plains, dep, List.any_cons, List.any_nil, eqv]
  rw [show ((2 : Int) == (m : Int)) = (m == 2) from h2, show ((3 : Int) == (m : Int)) = (m == 3) from h3]
  simp
/-- a turn of the stack -/
theorem d2_turn {Φ : Tab} (h1 : Φ 1 = some d1_is_bit_number) (k n : Nat) (v a3 : Sl) (st : List D) (d : D) (hs : okSt (st ++ [d])) :
    (∃ st' a3', evSs (run Φ (k + 1)) d2_b0 [vI n, v, .ow (.lst (st ++ [d])), a3] = .ret (.nx, [vI n, v, .ow (.lst st'), a3']) ∧ okSt st' ∧ dszs st' < dszs (st ++ [d]) ∧ st'.all (isForm n) = (st ++ [d]).all (isForm n)) ∨
    (∃ env', evSs (run Φ (k + 1)) d2_b0 [vI n, v, .ow (.lst (st ++ [d])), a3] = .ret (.rt (.bl false), env') ∧ isForm n d = false) := by
  obtain ⟨p1, p2, p3⟩ := hs
  rw [plains_app, Bool.and_eq_true] at p1
  rw [deps_app] at p2
  rw [dszs_app] at p3 ⊢
  have pd : plain d = true := by have := p1.2; simp [plains] at this; exact this
  have hz : dszs [d] = dsz d := by simp [dszs]
  have hd := dsz_pos d
  have hl := dszs_len st
  have d0 := d2_len 0
  have d1 := d2_len 1
  have d2 := d2_len 2
  have d3 := d2_len 3
  simp only [Int.cast_ofNat_Int, Nat.reduceBEq, Bool.or_self, Bool.not_false, Bool.or_false, Bool.or_true, Bool.not_true] at d0 d1 d2 d3
  cases d with
  | tup xs =>
    rcases xs with _ | ⟨a, _ | ⟨b, _ | ⟨c, _ | ⟨e, r⟩⟩⟩⟩
    · exact .inr (by simp [d2_b0, isCl, d0, -c_nmemt]; exact isForm_0 n _ rfl)
    · exact .inr (by simp [d2_b0, isCl, d1, -c_nmemt]; exact isForm_0 n _ (by cases a <;> rfl))
    · cases a with
      | str s =>
        have ps : plain (.str s) = true ∧ plain b = true := by simpa [plain, plains] using pd
        have hb := bit_number_eq h1 k n b ps.2
        have hw := mem_leafW s ps.1
        by_cases w : isLeafW s = true
        · by_cases w2 : isBitN n b = true
          · refine .inl ⟨st, vD (.tup [.str s, b]), ?_, ⟨p1.1, by omega, by omega⟩, by omega, ?_⟩
            · simp [d2_b0, isCl, d2, hw, w, hb, w2, -c_nmemt]
            · simp [isForm_2, w, w2]
          · exact .inr (by simp [d2_b0, isCl, d2, hw, w, hb, w2, isForm_2, -c_nmemt])
        · exact .inr (by simp [d2_b0, isCl, d2, hw, w, isForm_2, -c_nmemt])
      | dic t kvs => simp [plain, plains] at pd
      | _ => exact .inr (by simp [d2_b0, isCl, d2, -c_nmemt]; exact isForm_0 n _ rfl)
    · cases a with
      | str s =>
        have ps : plain (.str s) = true ∧ plain b = true ∧ plain c = true := by simpa [plain, plains, Bool.and_assoc] using pd
        have hw := mem_nodeW s ps.1
        by_cases w : isNodeW s = true
        · have q2 : max (dep b) (dep c) + 1 ≤ 100 := by
            have : deps [D.tup [.str s, b, c]] = max (dep b) (dep c) + 1 := by simp [deps, dep]
            omega
          have q3 : dsz (D.tup [.str s, b, c]) = dsz b + dsz c + 2 := by simp [dsz, dszs]; omega
          have hl2 : st.length + 2 ≤ 1000000 := by omega
          refine .inl ⟨st ++ [b, c], vD (.tup [.str s, b, c]), ?_, ⟨by simp [plains_app, p1.1, plains, ps.2.1, ps.2.2], by rw [deps_app]; simp [deps]; omega, by rw [dszs_app]; simp [dszs]; omega⟩, by rw [dszs_app]; simp [dszs] at hz ⊢; omega, ?_⟩
          · simp [d2_b0, isCl, d3, hw, w, hl2, -c_nmemt]
          · simp [isForm_3, w, Bool.and_assoc]
        · exact .inr (by simp [d2_b0, isCl, d3, hw, w, isForm_3, -c_nmemt])
      | dic t kvs => simp [plain, plains] at pd
      | _ => exact .inr (by simp [d2_b0, isCl, d3, -c_nmemt]; exact isForm_0 n _ rfl)
    · have dl := d2_len (r.length + 4)
      have e1 : (r.length + 4 == 2) = false := by simp
      have e2 : (r.length + 4 == 3) = false := by simp
      rw [e1, e2] at dl
      have hc : (r.length : Int) + 1 + 1 + 1 + 1 = ((r.length + 4 : Nat) : Int) := by omega
      exact .inr (by simp [d2_b0, isCl, hc, dl, -c_nmemt, -Int.natCast_add]; exact isForm_0 n _ (by cases a <;> rfl))
  | dic t kvs => simp [plain] at pd
  | _ => exact .inr (by simp [d2_b0, isCl]; exact isForm_0 n _ rfl)
end
theorem is_formula_eq {Φ : Tab} (h1 : Φ 1 = some d1_is_bit_number) (h2 : Φ 2 = some d2_is_leaf_formula) (k n : Nat) (d : D) (hp : plain d = true) (hd : dep d ≤ 100) (hz : dsz d < 100000) : run Φ (k + 2) 2 [.d (.int n), .d d] = .ret (.bl (isForm n d)) := by
  have key := evS_whf (cl := run Φ (k + 1)) (t := .cmp .ne (.v 2) (.lst .nil)) (b := d2_b0) (σ := List D) (fun st env => ∃ a3, env = [vI n, vD d, .ow (.lst st), a3]) (fun st => !st.isEmpty) okSt dszs (fun st => if st.all (isForm n) = true then none else some (.bl false)) ?_ ?_ ?_ [d] (env := [vI n, vD d, .ow (.lst [d]), .u]) ⟨.u, rfl⟩ ?_ ?_
  · rcases key with ⟨hf, st, env', hw, ⟨a3, rfl⟩, hs, hm⟩ | ⟨x, env', hf, hw⟩
    · have e : isForm n d = true := by simpa using hf
      exact run_rets h2 rfl [vI n, vD d, .u, .u] rfl (Rets.st (e1 := [vI n, vD d, .ow (.lst [d]), .u]) (by simp) (Rets.st hw (Rets.ret (by simp [e]))))
    · have e : isForm n d = false ∧ x = .bl false := by
        by_cases h : isForm n d = true
        · simp [h] at hf
        · simp [h] at hf; exact ⟨by simpa using h, hf.symm⟩
      obtain ⟨e, rfl⟩ := e
      rw [e]
      exact run_rets h2 rfl [vI n, vD d, .u, .u] rfl (Rets.st (e1 := [vI n, vD d, .ow (.lst [d]), .u]) (by simp) (Rets.stR hw))
  · rintro st env ⟨a3, rfl⟩ hs
    exact st_test rfl hs.1
  · intro st hs hm
    have : st = [] := by cases st <;> simp at hm ⊢
    subst this
    rfl
  · rintro st env ⟨a3, rfl⟩ hs hm
    rcases List.eq_nil_or_concat st with rfl | ⟨r, x, rfl⟩
    · cases hm
    · rw [List.concat_eq_append] at hs ⊢
      rcases d2_turn h1 k n (vD d) a3 r x hs with ⟨st', a3', e1, e2, e3, e4⟩ | ⟨env', e1, e2⟩
      · exact .inl ⟨st', _, e1, ⟨a3', rfl⟩, e2, e3, by rw [e4]⟩
      · exact .inr ⟨_, env', e1, by simp [e2]⟩
  · exact ⟨by simp [plains, hp], by simp [deps]; omega, by simp [dszs]; omega⟩
  · simp [dszs]; omega
end Bq

set_option Elab.async false
set_option linter.all false
set_option maxRecDepth 100000
/-! Equations: the law's rows of a formula; its leaves; its halved formulas. -/
namespace Bq
open PySem (Str)
structure RwS where
  line : List Fm
  pos : Nat
  low : List Nat
def rwI (φ : Fm) (s : RwS) (env : Env) : Prop := env = [vD φ.d, .ow (.lst (s.line.map Fm.d)), .ow (.lst (nL s.low)), vI s.pos]
def Fm.kids : Fm → List Fm
  | .leaf _ _ => []
  | .node _ f g => [f, g]
def rwOk (line : List Fm) (low : List Nat) (k : Nat) : Prop := match line[k]?, low[k]? with
  | some f, some i => k < i ∧ (∀ a g h, f = .node a g h → line[i]? = some g ∧ line[i + 1]? = some h)
  | _, _ => False
structure rwP (φ : Fm) (s : RwS) : Prop where
  len : s.low.length = s.pos
  le : s.pos ≤ s.line.length
  sz : s.pos + sizes (s.line.drop s.pos) = φ.size
  ok : ∀ k, k < s.pos → rwOk s.line s.low k
  hd : s.line[0]? = some φ
  lv : ((s.line.take s.pos).filter fun f => f.kids.isEmpty).length + lvs (s.line.drop s.pos) = φ.leaves
  lw : ∀ m, φ.low m = true → ∀ f ∈ s.line, f.low m = true
def rwStep (s : RwS) (f : Fm) : RwS := ⟨s.line ++ f.kids, s.pos + 1, s.low ++ [s.line.length]⟩
theorem get_app {α : Type} {a b : List α} {i : Nat} {x : α} (e : a[i]? = some x) : (a ++ b)[i]? = some x := by
  rw [List.getElem?_append_left]
  · exact e
  · rw [List.getElem?_eq_some_iff] at e; exact e.1
theorem rwOk_app {line : List Fm} {low : List Nat} {k : Nat} (l : List Fm) (m : List Nat) (h : rwOk line low k) : rwOk (line ++ l) (low ++ m) k := by
  unfold rwOk at h ⊢
  cases e1 : line[k]? with
  | none => rw [e1] at h; exact h.elim
  | some x =>
    cases e2 : low[k]? with
    | none => rw [e1, e2] at h; exact h.elim
    | some y =>
      rw [e1, e2] at h
      rw [get_app e1, get_app e2]
      exact ⟨h.1, fun a g h' e => ⟨get_app (h.2 a g h' e).1, get_app (h.2 a g h' e).2⟩⟩
theorem rw_keep {φ : Fm} {s : RwS} {f : Fm} (p : rwP φ s) (e : s.line[s.pos]? = some f) : rwP φ (rwStep s f) ∧ sizes ((rwStep s f).line.drop (rwStep s f).pos) < sizes (s.line.drop s.pos) := by
  have hm : s.pos < s.line.length := by rw [List.getElem?_eq_some_iff] at e; exact e.1
  have ed := drop_at e
  have hz := p.sz
  rw [ed, sizes_cons] at hz
  rw [ed, sizes_cons]
  have hd2 : (s.line ++ f.kids).drop (s.pos + 1) = s.line.drop (s.pos + 1) ++ f.kids := List.drop_append_of_le_length (by omega)
  have hk : sizes f.kids + 1 = f.size := by cases f <;> simp [Fm.kids, Fm.size, sizes]
  have hv : lvs f.kids + (if f.kids.isEmpty = true then 1 else 0) = f.leaves := by cases f <;> simp [Fm.kids, Fm.leaves, lvs]
  refine ⟨⟨by simp [rwStep, p.len], by simp [rwStep]; omega, ?_, fun k hk => ?_, ?_, ?_, ?_⟩, ?_⟩
  · show s.pos + 1 + sizes ((s.line ++ f.kids).drop (s.pos + 1)) = _
    rw [hd2, sizes_app]
    omega
  · have hk : k < s.pos + 1 := hk
    by_cases hk2 : k < s.pos
    · exact rwOk_app f.kids [s.line.length] (p.ok k hk2)
    · have : k = s.pos := by omega
      subst this
      show rwOk (s.line ++ f.kids) (s.low ++ [s.line.length]) s.pos
      unfold rwOk
      have e2 : (s.low ++ [s.line.length])[s.pos]? = some s.line.length := by rw [← p.len]; simp
      rw [get_app e, e2]
      refine ⟨hm, fun a g h eh => ?_⟩
      subst eh
      constructor
      · rw [List.getElem?_append_right (Nat.le_refl _)]; simp [Fm.kids]
      · rw [List.getElem?_append_right (by omega)]; simp [Fm.kids]
  · exact get_app p.hd
  · show (((s.line ++ f.kids).take (s.pos + 1)).filter fun f => f.kids.isEmpty).length + lvs ((s.line ++ f.kids).drop (s.pos + 1)) = _
    have h1 := p.lv
    rw [ed] at h1
    have ht : (s.line ++ f.kids).take (s.pos + 1) = s.line.take s.pos ++ [f] := by
      rw [List.take_append_of_le_length (by omega), List.take_add_one]
      rw [e]; rfl
    have la : ∀ a b : List Fm, lvs (a ++ b) = lvs a + lvs b := fun a b => by simp [lvs]
    have lc : lvs (f :: s.line.drop (s.pos + 1)) = f.leaves + lvs (s.line.drop (s.pos + 1)) := by simp [lvs]
    rw [ht, hd2, la, List.filter_append, List.length_append]
    rw [lc] at h1
    have hf : ([f].filter fun f => f.kids.isEmpty).length = if f.kids.isEmpty = true then 1 else 0 := by
      cases h : f.kids.isEmpty <;> simp [List.filter_cons, h]
    omega
  · intro m hm2 g hg
    rcases List.mem_append.mp hg with hg | hg
    · exact p.lw m hm2 g hg
    · have hf := p.lw m hm2 f (by rw [List.getElem?_eq_some_iff] at e; obtain ⟨_, e⟩ := e; rw [← e]; exact List.getElem_mem _)
      cases f with
      | leaf t i => simp [Fm.kids] at hg
      | node a x y =>
        simp [Fm.low] at hf
        simp [Fm.kids] at hg
        rcases hg with rfl | rfl
        · exact hf.1
        · exact hf.2
  · show sizes ((s.line ++ f.kids).drop (s.pos + 1)) < _
    rw [hd2, sizes_app]
    have := size_pos f
    omega
theorem rw_len {φ : Fm} {s : RwS} (p : rwP φ s) : s.line.length ≤ φ.size := by
  have h := len_sizes (s.line.drop s.pos)
  rw [List.length_drop] at h
  have := p.sz
  have := p.le
  omega
theorem rw_body {cl : Nat → List Vl → M D} {φ : Fm} {s : RwS} {f : Fm} {env : Env} (hφ : φ.size < 100000) (h : rwI φ s env) (p : rwP φ s) (e : s.line[s.pos]? = some f) : ∃ env', evSs cl d15_b0 env = .ret (.nx, env') ∧ rwI φ (rwStep s f) env' := by
  have hm : s.pos < s.line.length := by rw [List.getElem?_eq_some_iff] at e; exact e.1
  have hat : (s.line.map Fm.d)[s.pos]? = some f.d := by simp [e]
  have hl := rw_len p
  have hlow : s.low.length < 1000000 := by have := p.len; omega
  have hl2 : s.line.length + 2 ≤ 1000000 := by omega
  have hl3 : s.line.length ≤ 1000000 := by omega
  subst h
  refine ⟨_, ?_, rfl⟩
  cases f with
  | leaf t i => simp [d15_b0, hat, Fm.d, hlow, hl3, rwStep, Fm.kids, nL_app, nL_cons, -List.getElem?_map]
  | node a f g => simp [d15_b0, hat, Fm.d, hlow, hl2, rwStep, Fm.kids, nL_app, nL_cons, cut, cutAt, small_i, -List.getElem?_map]
/-- a formula's row: φ's parts, each behind its own, and the numbers of parts -/
def Row (φ : Fm) (line : List Fm) (low : List Nat) : Prop := rwP φ ⟨line, line.length, low⟩
theorem law_row_eq {Φ : Tab} (h : Φ 15 = some d15_law_row) (k : Nat) (φ : Fm) (hφ : φ.size < 100000) : ∃ line low, Row φ line low ∧ run Φ (k + 1) 15 [.d φ.d] = .ret (.tup [.lst (line.map Fm.d), .lst (nL low)]) := by
  obtain ⟨s, e, h2, rfl, p, hm⟩ := evS_wh (cl := run Φ k) (t := .cmp .lt (.v 3) (.bi .len (.cons (.v 1) .nil))) (b := d15_b0) (σ := RwS) (rwI φ) (fun s => decide (s.pos < s.line.length)) (fun s => match s.line[s.pos]? with | some f => rwStep s f | none => s) (rwP φ) (fun s => sizes (s.line.drop s.pos))
    (fun s env hi _ => by
      subst hi
      simp)
    (fun s env hi p hm => by
      have hm : s.pos < s.line.length := of_decide_eq_true hm
      have e : s.line[s.pos]? = some s.line[s.pos] := by simp [hm]
      rw [e]
      exact rw_body hφ hi p e)
    (fun s p hm => by
      have hm : s.pos < s.line.length := of_decide_eq_true hm
      have e : s.line[s.pos]? = some s.line[s.pos] := by simp [hm]
      rw [e]
      exact rw_keep p e)
    ⟨[φ], 0, []⟩ (env := [vD φ.d, .ow (.lst [φ.d]), .ow (.lst []), vI 0]) rfl ⟨rfl, by simp, by simp [sizes], fun k hk => (by cases hk), rfl, by simp [lvs], fun m hm f hf => by simp at hf; subst hf; exact hm⟩ (by simp [sizes]; omega)
  have hl : s.pos = s.line.length := by
    have := p.le
    have : ¬ s.pos < s.line.length := of_decide_eq_false hm
    omega
  obtain ⟨line, pos, low⟩ := s
  have hl : pos = line.length := hl
  subst hl
  exact ⟨line, low, p, run_rets h rfl [vD φ.d, .u, .u, .u] rfl (Rets.st (e1 := [vD φ.d, .ow (.lst [φ.d]), .ow (.lst []), vI 0]) (by simp) (Rets.st h2 (Rets.ret (by simp))))⟩
theorem kids_len (f : Fm) : ((match f.d with | .tup l => l.length | _ => 0) == 2) = f.kids.isEmpty := by cases f <;> rfl
theorem law_leaves_eq {Φ : Tab} (h15 : Φ 15 = some d15_law_row) (h : Φ 16 = some d16_law_leaves) (k : Nat) (φ : Fm) (hφ : φ.size < 100000) : run Φ (k + 2) 16 [.d φ.d] = .ret (.int φ.leaves) := by
  obtain ⟨line, low, p, e⟩ := law_row_eq h15 k φ hφ
  have hl : line.length ≤ 1000000 := by have := rw_len p; simp at this; omega
  have e0 : evO (run Φ (k + 1)) d16_l0 [vD φ.d, .u] = .ret (.fr (.lst ((line.filter fun f => f.kids.isEmpty).map Fm.d)), [vD φ.d, .u]) := by
    unfold d16_l0
    refine (lc_f (l := line) (h := Fm.d) (e1 := [vD φ.d, .u]) Fm.d (fun f => f.kids.isEmpty) (by simp [e]) rfl hl rfl ?_).trans ?_
    · intro f _
      cases f <;> simp [Fm.d, Fm.kids]
    · simp
  have hv := p.lv
  simp [lvs] at hv
  refine run_rets h rfl [vD φ.d, .u] rfl (Rets.ret ?_)
  simp [e0, hv]
/-! ### the law's halved formulas -/
def hq (first many : Nat) : Fm × Fm := hp many first many
theorem two_pow_ge : ∀ m : Nat, m ≤ 2 ^ m := fun m => Nat.le_of_lt Nat.lt_two_pow_self
theorem hq_1 (first : Nat) : hq first 1 = (.leaf false first, .leaf true first) := by simp [hq, hp]
theorem hq_2 (first many : Nat) (h : 2 ≤ many) : hq first many = (.node false (.node true (hq first (many / 2)).1 (hq (first + many / 2) (many - many / 2)).2) (.node true (hq first (many / 2)).2 (hq (first + many / 2) (many - many / 2)).1), .node false (.node true (hq first (many / 2)).1 (hq (first + many / 2) (many - many / 2)).1) (.node true (hq first (many / 2)).2 (hq (first + many / 2) (many - many / 2)).2)) := by
  obtain ⟨k, rfl⟩ : ∃ k, many = k + 1 := ⟨many - 1, by omega⟩
  have g : ∀ m : Nat, m ≤ k → m ≤ 2 ^ k := fun m hm => Nat.le_trans hm (two_pow_ge k)
  have e1 : hp k first ((k + 1) / 2) = hq first ((k + 1) / 2) := hp_fuel k _ first _ (by omega) (g _ (by omega)) (two_pow_ge _)
  have e2 : hp k (first + (k + 1) / 2) (k + 1 - (k + 1) / 2) = hq (first + (k + 1) / 2) (k + 1 - (k + 1) / 2) := hp_fuel k _ _ _ (by omega) (g _ (by omega)) (two_pow_ge _)
  have : ¬ k = 0 := by omega
  rw [← e1, ← e2]
  simp [hq, hp, this]
def pkey (a b : Nat) : D := .tup [.int a, .int b]
def KPair (kvs : List (D × D)) : Prop := ∀ p ∈ kvs, ∃ a b : Nat, p.1 = pkey a b
theorem pkey_eqv (a b c d : Nat) : eqv (pkey a b) (pkey c d) = true ↔ pkey a b = pkey c d := by
  simp [pkey, eqv, eqvs]
theorem pkey_inj (a b c d : Nat) : pkey a b = pkey c d ↔ a = c ∧ b = d := by
  simp [pkey]; omega
theorem KPair.keq {kvs : List (D × D)} (h : KPair kvs) (a b : Nat) : KEq kvs (pkey a b) := fun p hp => by
  obtain ⟨c, d, e⟩ := h p hp
  rw [e]
  exact pkey_eqv ..
theorem KPair.put {kvs : List (D × D)} (h : KPair kvs) (a b : Nat) (v : D) : KPair (dput (pkey a b) v kvs) := dput_keys _ v kvs (fun d => ∃ a b : Nat, d = pkey a b) ⟨a, b, rfl⟩ h
theorem KPair.get {kvs : List (D × D)} (h : KPair kvs) (a b c d : Nat) (v : D) : dget (pkey c d) (dput (pkey a b) v kvs) = if a = c ∧ b = d then some v else dget (pkey c d) kvs := by
  rw [dget_put v (pkey_eqv ..) (h.keq a b) (h.keq c d)]
  by_cases e : a = c ∧ b = d
  · rw [if_pos e, if_pos ((pkey_eqv ..).mpr ((pkey_inj ..).mpr e))]
  · rw [if_neg e, if_neg fun x => e ((pkey_inj ..).mp ((pkey_eqv ..).mp x))]
def hvP (n j i : Nat) (kvs : List (D × D)) : Prop := KPair kvs ∧ kvs.length ≤ j * (n + 1) + i ∧ ∀ m f, 1 ≤ m → f + m ≤ n → (m ≤ j ∨ (m = j + 1 ∧ f < i)) → dget (pkey f m) kvs = some (pairD (hq f m))
section
variable {cl : Nat → List Vl → M D}
theorem d18_1 (kvs : List (D × D)) (f : Nat) (hl : kvs.length < 1000000) (a0 a4 a5 a6 a7 a8 : Sl) : evSs cl d18_b0 [a0, .ow (.dic true kvs), vI 1, vI f, a4, a5, a6, a7, a8] = .ret (.nx, [a0, .ow (.dic true (dput (pkey f 1) (pairD (hq f 1)) kvs)), vI 1, vI f, a4, a5, a6, a7, a8]) := by
  simp [d18_b0, hq_1, pairD, Fm.d, leafS, pkey, keyOk, keyT, keyTs, keyIn, dep, deps, hl]
theorem d18_2 (kvs : List (D × D)) (f m : Int) (p q r s : D) (hm : ¬ m = 1) (h1 : dget (.tup [.int f, .int (m / 2)]) kvs = some (.tup [p, q])) (h2 : dget (.tup [.int (f + m / 2), .int (m - m / 2)]) kvs = some (.tup [r, s])) (hl : kvs.length < 1000000) (a0 a4 a5 a6 a7 a8 : Sl) :
    evSs cl d18_b0 [a0, .ow (.dic true kvs), vI m, vI f, a4, a5, a6, a7, a8] = .ret (.nx, [a0, .ow (.dic true (dput (.tup [.int f, .int m]) (.tup [.tup [.str "or", .tup [.str "and", p, s], .tup [.str "and", q, r]], .tup [.str "or", .tup [.str "and", p, r], .tup [.str "and", q, s]]]) kvs)), vI m, vI f, vD p, vD q, vD r, vD s, vD (.tup [.str "or", .tup [.str "and", p, s], .tup [.str "and", q, r]])]) := by
  simp [d18_b0, hm, keyOk, keyT, keyTs, keyIn, dep, deps, hl, h1, h2]
end
theorem d18_turn {cl : Nat → List Vl → M D} (n j i : Nat) (hn : n ≤ 900) (hj : j < n) (hi : i + (j + 1) ≤ n) (kvs : List (D × D)) (h : hvP n j i kvs) (a0 a4 a5 a6 a7 a8 : Sl) :
    ∃ kvs' a4' a5' a6' a7' a8', evSs cl d18_b0 [a0, .ow (.dic true kvs), vI ((j + 1 : Nat) : Int), vI i, a4, a5, a6, a7, a8] = .ret (.nx, [a0, .ow (.dic true kvs'), vI ((j + 1 : Nat) : Int), vI i, a4', a5', a6', a7', a8']) ∧ hvP n j (i + 1) kvs' := by
  obtain ⟨hK, hL, hG⟩ := h
  have hb : j * (n + 1) ≤ 900 * 901 := Nat.mul_le_mul (by omega) (by omega)
  have hl : kvs.length < 1000000 := by omega
  have fin : hvP n j (i + 1) (dput (pkey i (j + 1)) (pairD (hq i (j + 1))) kvs) := by
    refine ⟨hK.put _ _ _, Nat.le_trans (dput_len ..) (by omega), fun m f h1 h2 h3 => ?_⟩
    rw [hK.get]
    by_cases e : i = f ∧ j + 1 = m
    · rw [if_pos e, e.1, e.2]
    · rw [if_neg e]
      exact hG m f h1 h2 (by omega)
  by_cases hj0 : j = 0
  · subst hj0
    exact ⟨_, _, _, _, _, _, d18_1 kvs i hl .., fin⟩
  · have g1 := hG ((j + 1) / 2) i (by omega) (by omega) (by omega)
    have g2 := hG (j + 1 - (j + 1) / 2) (i + (j + 1) / 2) (by omega) (by omega) (by omega)
    simp only [pkey, pairD] at g1 g2
    rw [show (((j + 1) / 2 : Nat) : Int) = ((j + 1 : Nat) : Int) / 2 by omega] at g1
    rw [show ((i + (j + 1) / 2 : Nat) : Int) = (i : Int) + ((j + 1 : Nat) : Int) / 2 by omega, show ((j + 1 - (j + 1) / 2 : Nat) : Int) = ((j + 1 : Nat) : Int) - ((j + 1 : Nat) : Int) / 2 by omega] at g2
    refine ⟨_, _, _, _, _, _, d18_2 kvs i ((j + 1 : Nat) : Int) _ _ _ _ (by omega) g1 g2 hl .., ?_⟩
    rw [hq_2 i (j + 1) (by omega)] at fin
    exact fin
theorem law_halved_eq {Φ : Tab} (h : Φ 18 = some d18_law_halved) (k n : Nat) (h1 : 1 ≤ n) (hn : n ≤ 900) : run Φ (k + 1) 18 [.d (.int n)] = .ret (pairD (hq 0 n)) := by
  have hr : rangeD 1 ((n : Int) + 1 - 1).toNat = (List.range n).map fun i : Nat => D.int ((i + 1 : Nat) : Int) := by
    rw [rangeD_map]
    have : ((n : Int) + 1 - 1).toNat = n := by omega
    rw [this]
    apply List.map_congr_left
    intro i _
    congr 1
    omega
  obtain ⟨e, hw, kvs, a2, a3, a4, a5, a6, a7, a8, rfl, hP⟩ := evS_fr (cl := run Φ k) (g := .nm 2) (it := .rg2 (.int 1) (.bin .add (.v 0) (.int 1))) (b := d18_b1) (env := [vI n, .ow (.dic true []), .u, .u, .u, .u, .u, .u, .u]) (e1 := [vI n, .ow (.dic true []), .u, .u, .u, .u, .u, .u, .u]) (fun i : Nat => D.int ((i + 1 : Nat) : Int))
    (fun j env => ∃ kvs a2 a3 a4 a5 a6 a7 a8, env = [vI n, .ow (.dic true kvs), a2, a3, a4, a5, a6, a7, a8] ∧ hvP n j 0 kvs) (List.range n)
    (by
      have : ((n : Int) + 1).natAbs ≤ 1000000 := by omega
      have hr' := hr
      simp at hr'
      simp [small_i, this, hr']) ⟨[], _, _, _, _, _, _, _, rfl, ⟨fun p hp => (by cases hp), by simp, fun m f _ _ h => by omega⟩⟩ (by
    rintro j a env ha ⟨kvs, a2, a3, a4, a5, a6, a7, a8, rfl, hP⟩
    rw [List.getElem?_eq_some_iff] at ha
    obtain ⟨hj, rfl⟩ := ha
    rw [List.length_range] at hj
    rw [List.getElem_range]
    obtain ⟨e, hw, kvs, a3, a4, a5, a6, a7, a8, rfl, hP⟩ := evS_frR (cl := run Φ k) (g := .nm 3) (it := .rg1 (.bin .add (.bin .sub (.v 0) (.v 2)) (.int 1))) (b := d18_b0) (env := [vI n, .ow (.dic true kvs), vI ((j + 1 : Nat) : Int), a3, a4, a5, a6, a7, a8])
      (fun i env => ∃ kvs a3 a4 a5 a6 a7 a8, env = [vI n, .ow (.dic true kvs), vI ((j + 1 : Nat) : Int), a3, a4, a5, a6, a7, a8] ∧ hvP n j i kvs) (n - j)
      (by
        have e1 : ((n : Int) - ((j : Int) + 1) + 1).natAbs ≤ 1000000 := by omega
        have e2 : ((n : Int) - ((j : Int) + 1) + 1).toNat = n - j := by omega
        simp [small_i, e1, e2]) ⟨kvs, _, _, _, _, _, _, rfl, hP⟩ (by
      rintro i env hi ⟨kvs, a3, a4, a5, a6, a7, a8, rfl, hP⟩
      obtain ⟨kvs', a4', a5', a6', a7', a8', e1, e2⟩ := d18_turn (cl := run Φ k) n j i hn hj (by omega) kvs hP (vI n) a4 a5 a6 a7 a8
      exact ⟨_, _, rfl, e1, kvs', _, _, _, _, _, _, rfl, e2⟩)
    obtain ⟨hK, hL, hG⟩ := hP
    refine ⟨_, [vI n, .ow (.dic true kvs), vI ((j + 1 : Nat) : Int), a3, a4, a5, a6, a7, a8], rfl, ?_, kvs, _, _, _, _, _, _, _, rfl, hK, ?_, fun m f h1 h2 h3 => hG m f h1 h2 (by omega)⟩
    · exact (ss_st (s := d18_f0) hw).trans rfl
    · have : (j + 1) * (n + 1) = j * (n + 1) + (n + 1) := Nat.succ_mul ..
      omega)
  rw [List.length_range] at hP
  have g := hP.2.2 n 0 h1 (by omega) (by omega)
  simp only [pkey] at g
  have g : dget (.tup [.int 0, .int n]) kvs = some (pairD (hq 0 n)) := g
  exact run_rets h rfl [vI n, .u, .u, .u, .u, .u, .u, .u, .u] rfl (Rets.st (e1 := [vI n, .ow (.dic true []), .u, .u, .u, .u, .u, .u, .u]) (by simp) (Rets.st hw (Rets.ret (by simp [keyOk, keyT, keyTs, keyIn, dep, deps, g]))))
end Bq

set_option Elab.async false
set_option linter.all false
set_option maxRecDepth 100000
/-! Equations: functions drawn, put in. -/
namespace Bq
open PySem (Str)
/-! ### powers, bits -/
section
variable {cl : Nat → List Vl → M D}
theorem d153_b0_eq (l : List D) (a : Int) (a0 s : Sl) (hl : l.length < 999999) : evSs cl d153_b0 [a0, .ow (.lst (l ++ [.int a])), s] = .ret (.nx, [a0, .ow (.lst (l ++ [.int a] ++ [.int (2 * a)])), s]) := by
  have h : l.length + 1 < 1000000 := by omega
  simp [d153_b0, h]
end
theorem law_powers_eq {Φ : Tab} (h : Φ 153 = some d153_law_powers) (k n : Nat) (hn : n ≤ 900000) : run Φ (k + 1) 153 [.d (.int n)] = .ret (.lst ((List.range (n + 1)).map fun i => .int (2 ^ i))) := by
  obtain ⟨e, h1, s', rfl⟩ := evS_frR (cl := run Φ k) (g := .nm 2) (it := .rg1 (.v 0)) (b := d153_b0) (env := [vI n, .ow (.lst [.int 1]), .u]) (fun k env => ∃ s', env = [vI n, .ow (.lst ((List.range (k + 1)).map fun i => .int (2 ^ i))), s']) n (by simp; omega) ⟨.u, by simp⟩ (by
    rintro j env hj ⟨s', rfl⟩
    refine ⟨_, [vI n, .ow (.lst ((List.range (j + 1 + 1)).map fun i => .int (2 ^ i))), vI j], rfl, ?_, _, rfl⟩
    have := d153_b0_eq (cl := run Φ k) ((List.range j).map fun i => .int (2 ^ i)) (2 ^ j) (vI n) (vI j) (by simp; omega)
    rw [show (List.range (j + 1 + 1)).map (fun i => D.int ((2 : Int) ^ i)) = (List.range j).map (fun i => D.int ((2 : Int) ^ i)) ++ [.int (2 ^ j)] ++ [.int (2 * 2 ^ j)] by simp [List.range_succ, Int.pow_succ, Int.mul_comm],
      show (List.range (j + 1)).map (fun i => D.int ((2 : Int) ^ i)) = (List.range j).map (fun i => D.int ((2 : Int) ^ i)) ++ [.int (2 ^ j)] by simp [List.range_succ]]
    exact this)
  exact run_rets h rfl [vI n, .u, .u] rfl (Rets.st (e1 := [vI n, .ow (.lst [.int 1]), .u]) (by simp) (Rets.st h1 (Rets.ret (by simp))))
def bitsD (x n : Nat) : D := .lst ((List.range n).map fun i => .int (b2i (x.testBit i)))
section
variable {cl : Nat → List Vl → M D}
theorem d154_b0_eq (x : Int) (l : List D) (a1 s : Sl) (hl : l.length < 1000000) : evSs cl d154_b0 [vI x, a1, .ow (.lst l), s] = .ret (.nx, [vI (x / 2), a1, .ow (.lst (l ++ [.int (x % 2)])), s]) := by
  have h : l.length + 1 ≤ 1000000 := by omega
  simp [d154_b0, h]
end
theorem law_bits_eq {Φ : Tab} (h : Φ 154 = some d154_law_bits) (k x n : Nat) (hn : n ≤ 900000) : run Φ (k + 1) 154 [.d (.int x), .d (.int n)] = .ret (bitsD x n) := by
  obtain ⟨e, h1, s', rfl⟩ := evS_frR (cl := run Φ k) (g := .nm 3) (it := .rg1 (.v 1)) (b := d154_b0) (env := [vI x, vI n, .ow (.lst []), .u]) (fun k env => ∃ s', env = [vI ((x : Int) / 2 ^ k), vI n, .ow (bitsD x k), s']) n (by simp; omega) ⟨.u, by simp [bitsD]⟩ (by
    rintro j env hj ⟨s', rfl⟩
    refine ⟨_, [vI ((x : Int) / 2 ^ (j + 1)), vI n, .ow (bitsD x (j + 1)), vI j], rfl, ?_, _, rfl⟩
    have := d154_b0_eq (cl := run Φ k) ((x : Int) / 2 ^ j) ((List.range j).map fun i => .int (b2i (x.testBit i))) (vI n) (vI j) (by simp; omega)
    rw [Int.ediv_ediv_of_nonneg (Int.le_of_lt (Int.pow_pos (by decide))), ← Int.pow_succ, bitI] at this
    rw [bitsD, bitsD, List.range_succ, List.map_append]
    exact this)
  exact run_rets h rfl [vI x, vI n, .u, .u] rfl (Rets.st (e1 := [vI x, vI n, .ow (.lst []), .u]) (by simp) (Rets.st h1 (Rets.ret (by simp))))
/-! ### functions as data -/
def tabD (n : Nat) (f : Nat → Bool) : List D := (List.range (2 ^ n)).map fun x => .int (b2i (f x))
def fnD (n : Nat) (f : Nat → Bool) : D := .tup [.int n, .tup (tabD n f)]
theorem tabD_len (n : Nat) (f : Nat → Bool) : (tabD n f).length = 2 ^ n := by simp [tabD]
theorem tab_of (n : Nat) (bs : List Bool) (h : bs.length = 2 ^ n) : bs.map (fun b => D.int (b2i b)) = tabD n fun x => bs.getD x false := by
  apply List.ext_getElem
  · simp [tabD, h]
  · intro i h1 h2
    simp at h1
    simp [tabD, h1]
def pcn (n x : Nat) : Nat := ((List.range n).map fun i => if x.testBit i then 1 else 0).sum
theorem pcn_le (n x : Nat) : pcn n x ≤ n := by
  unfold pcn
  induction n with
  | zero => simp
  | succ n ih =>
    rw [List.range_succ, List.map_append, List.sum_append]
    simp
    split <;> omega
theorem pcnI (n x : Nat) : ((List.range n).map fun i => b2i (x.testBit i)).sum = (pcn n x : Int) := by
  unfold pcn
  rw [← natsum, List.map_map]
  congr 1
  apply List.map_congr_left
  intro i _
  simp only [Function.comp]
  cases x.testBit i <;> rfl
theorem b2i_of (r : Nat) (h : (r : Int) < 2 ∨ r = 0) : ∃ b, (r : Int) = b2i b := by
  have : r = 0 ∨ r = 1 := by omega
  rcases this with rfl | rfl
  · exact ⟨false, rfl⟩
  · exact ⟨true, rfl⟩
/-! ### a function drawn -/
def E155 (n : Nat) (a3 a4 a6 a8 a9 a10 a11 : Sl) : Env := [.vl .src, vI n, vI (2 ^ n), a3, a4, .u, a6, .u, a8, a9, a10, a11, .u]
section
variable {cl : Nat → List Vl → M D}
theorem d155_l4_al (n : Nat) (hn : n ≤ 16) (a3 a6 a8 a9 a10 a11 : Sl) (share : Int) : Al (evO cl d155_l4 (E155 n a3 (vI share) a6 a8 a9 a10 a11)) fun x => x.2 = E155 n a3 (vI share) a6 a8 a9 a10 a11 ∧ ∃ bs : List Bool, bs.length = 2 ^ n ∧ x.1 = .fr (.lst (bs.map fun b => .int (b2i b))) := by
  unfold d155_l4
  have h2 : 2 ^ n ≤ 2 ^ 16 := Nat.pow_le_pow_right (by decide) hn
  refine (Al.lc (l := List.range (2 ^ n)) (h := fun i : Nat => D.int (i : Int)) (e1 := E155 n a3 (vI share) a6 a8 a9 a10 a11) (e2 := E155 n a3 (vI share) a6 a8 a9 a10 a11) (fun b : Bool => .int (b2i b)) (fun _ _ => True) (it_rg1 (by simp [E155]) (two_pow_cast n) (by omega)) rfl (by simp [cap]; omega) rfl ?_).mono ?_
  · intro x _
    rw [u_lcStep]
    simp [E155]
    simp only [M.bind_assoc]
    refine Al.pkB (by decide) fun r hr => ?_
    exact Al.eq (a := (some (.int (b2i (decide ((r : Int) < share)))), [.vl .src, vI n, vI (2 ^ n), a3, vI share, .u, a6, .u, a8, a9, a10, a11, .u])) (by simp [b2i]) ⟨rfl, _, rfl, trivial⟩
  · rintro ⟨o, e⟩ ⟨h1, bs, h3, _, h4⟩
    refine ⟨?_, bs, by simpa using h3, h4⟩
    rw [h1]; rfl
theorem d155_l3_al (n : Nat) (hn : n ≤ 16) (a3 a4 a6 a8 a9 a10 a11 : Sl) : Al (evO cl d155_l3 (E155 n a3 a4 a6 a8 a9 a10 a11)) fun x => x.2 = E155 n a3 a4 a6 a8 a9 a10 a11 ∧ ∃ bs : List Bool, bs.length = n + 1 ∧ x.1 = .fr (.lst (bs.map fun b => .int (b2i b))) := by
  unfold d155_l3
  refine (Al.lc (l := List.range (n + 1)) (h := fun i : Nat => D.int (i : Int)) (e1 := E155 n a3 a4 a6 a8 a9 a10 a11) (e2 := E155 n a3 a4 a6 a8 a9 a10 a11) (fun b : Bool => .int (b2i b)) (fun _ _ => True) (it_rg1 (by simp [E155]; rfl) (by push_cast; rfl) (by omega)) rfl (by simp [cap]; omega) rfl ?_).mono ?_
  · intro x _
    rw [u_lcStep]
    simp [E155]
    refine Al.pkB (by decide) fun r hr => ?_
    obtain ⟨b, hb⟩ := b2i_of r hr
    exact Al.eq (a := (some (.int (b2i b)), [.vl .src, vI n, vI (2 ^ n), a3, a4, .u, a6, .u, a8, a9, a10, a11, .u])) (by simp [hb]) ⟨rfl, _, rfl, trivial⟩
  · rintro ⟨o, e⟩ ⟨h1, bs, h3, _, h4⟩
    refine ⟨?_, bs, by simpa using h3, h4⟩
    rw [h1]; rfl
end
section
variable {Φ : Tab} (h154 : Φ 154 = some d154_law_bits)
include h154
theorem d155_l2_eq (k n : Nat) (hn : n ≤ 16) (bs : List Bool) (hb : bs.length = n + 1) (a3 a4 a8 a9 a10 a11 : Sl) : evO (run Φ (k + 1)) d155_l2 (E155 n a3 a4 (.ow (.lst (bs.map fun b => .int (b2i b)))) a8 a9 a10 a11) = .ret (.fr (.lst (tabD n fun x => bs.getD (pcn n x) false)), E155 n a3 a4 (.ow (.lst (bs.map fun b => .int (b2i b)))) a8 a9 a10 a11) := by
  unfold d155_l2
  have h2 : 2 ^ n ≤ 2 ^ 16 := Nat.pow_le_pow_right (by decide) hn
  refine (lc_m (l := List.range (2 ^ n)) (h := fun i : Nat => D.int (i : Int)) (e1 := E155 n a3 a4 (.ow (.lst (bs.map fun b => .int (b2i b)))) a8 a9 a10 a11) (e2 := E155 n a3 a4 (.ow (.lst (bs.map fun b => .int (b2i b)))) a8 a9 a10 a11) (fun x => .int (b2i (bs.getD (pcn n x) false))) (it_rg1 (by simp [E155]) (two_pow_cast n) (by omega)) rfl (by simp [cap]; omega) rfl ?_).trans ?_
  · intro x _
    have e := law_bits_eq h154 k x n (by omega)
    have hp := pcn_le n x
    have hl : pcn n x < bs.length := by omega
    have hg : bs[pcn n x]? = some bs[pcn n x] := by simp [hl]
    have hd : bs.getD (pcn n x) false = bs[pcn n x] := by simp [List.getD, hl]
    rw [hd]
    generalize bs[pcn n x] = b at hg
    simp [E155, e, bitsD, pcnI, hg]
  · rfl
theorem d155_l1_eq (k n : Nat) (hn : n ≤ 16) (a3 a4 a6 a8 a9 a10 a11 : Sl) : evO (run Φ (k + 1)) d155_l1 (E155 n a3 a4 a6 a8 a9 a10 a11) = .ret (.fr (.lst ((List.range (2 ^ n)).map fun x => bitsD x n)), E155 n a3 a4 a6 a8 a9 a10 a11) := by
  unfold d155_l1
  have h2 : 2 ^ n ≤ 2 ^ 16 := Nat.pow_le_pow_right (by decide) hn
  refine (lc_m (l := List.range (2 ^ n)) (h := fun i : Nat => D.int (i : Int)) (e1 := E155 n a3 a4 a6 a8 a9 a10 a11) (e2 := E155 n a3 a4 a6 a8 a9 a10 a11) (fun x => bitsD x n) (it_rg1 (by simp [E155]) (two_pow_cast n) (by omega)) rfl (by simp [cap]; omega) rfl ?_).trans ?_
  · intro x _
    have e := law_bits_eq h154 k x n (by omega)
    simp [E155, e]
  · rfl
end
def bb (w : Nat) (a b : Bool) : Bool := if w = 0 then a && b else if w = 1 then a || b else a != b
theorem d155_l0_eq {cl : Nat → List Vl → M D} (n i j w : Nat) (hn : n ≤ 16) (hi : i < n) (hj : j < n) (hw : w < 3) (a3 a4 a6 : Sl) : evO cl d155_l0 (E155 n a3 a4 a6 (vI i) (vI j) (vI w) (.ow (.lst ((List.range (2 ^ n)).map fun x => bitsD x n)))) = .ret (.fr (.lst (tabD n fun x => bb w (x.testBit i) (x.testBit j))), E155 n a3 a4 a6 (vI i) (vI j) (vI w) (vD (.lst ((List.range (2 ^ n)).map fun x => bitsD x n)))) := by
  unfold d155_l0
  have h2 : 2 ^ n ≤ 2 ^ 16 := Nat.pow_le_pow_right (by decide) hn
  refine (lc_m (l := List.range (2 ^ n)) (h := fun x => bitsD x n) (e1 := E155 n a3 a4 a6 (vI i) (vI j) (vI w) (vD (.lst ((List.range (2 ^ n)).map fun x => bitsD x n)))) (e2 := E155 n a3 a4 a6 (vI i) (vI j) (vI w) (vD (.lst ((List.range (2 ^ n)).map fun x => bitsD x n)))) (fun x => .int (b2i (bb w (x.testBit i) (x.testBit j)))) (by simp [E155]) rfl (by simp [cap]; omega) rfl ?_).trans ?_
  · intro x _
    have gi : ((List.range n).map fun i => D.int (b2i (x.testBit i)))[i]? = some (.int (b2i (x.testBit i))) := by simp [hi]
    have gj : ((List.range n).map fun i => D.int (b2i (x.testBit i)))[j]? = some (.int (b2i (x.testBit j))) := by simp [hj]
    have q : bnd64 (b2i (x.testBit i)) = true := by cases x.testBit i <;> decide
    have : w = 0 ∨ w = 1 ∨ w = 2 := by omega
    rcases this with rfl | rfl | rfl
    · simp [E155, bitsD, gi, gj, q, -List.getElem?_map, bb]
      cases x.testBit i <;> cases x.testBit j <;> rfl
    · simp [E155, bitsD, gi, gj, q, -List.getElem?_map, bb]
      cases x.testBit i <;> cases x.testBit j <;> rfl
    · simp [E155, bitsD, gi, gj, q, -List.getElem?_map, bb]
      cases x.testBit i <;> cases x.testBit j <;> rfl
  · rfl
def DrP (n : Nat) (e : Env) : Prop := ∃ r : Nat, e = E155 n (vI r) .u .u .u .u .u .u
def DrS (n r : Nat) (e : Env) : Prop := ∃ s : Int, e = E155 n (vI r) (vI s) .u .u .u .u .u
def DrI (n r : Nat) (e : Env) : Prop := ∃ i j w : Nat, i < n ∧ j < n ∧ w < 3 ∧ e = E155 n (vI r) .u .u (vI i) (vI j) (vI w) .u
def DrQ (n : Nat) (x : Fl × Env) : Prop := ∃ y, x.1 = .rt y ∧ ∃ f, y = fnD n f
def DrR (n : Nat) (x : Fl × Env) : Prop := (∃ y, x.1 = .rt y) ∧ DrQ n x
theorem law_draw_al {Φ : Tab} (h153 : Φ 153 = some d153_law_powers) (h154 : Φ 154 = some d154_law_bits) (h : Φ 155 = some d155_law_draw) (k n : Nat) (h1 : 1 ≤ n) (hn : n ≤ 16) : Al (run Φ (k + 2) 155 [.src, .d (.int n)]) fun d => ∃ f, d = fnD n f := by
  refine Al.run h rfl [.vl .src, vI n, .u, .u, .u, .u, .u, .u, .u, .u, .u, .u, .u] rfl ?_
  show Al _ (DrQ n)
  have e153 := law_powers_eq h153 k n (by omega)
  have g : ((List.range (n + 1)).map fun i => D.int ((2 : Int) ^ i))[n]? = some (.int (2 ^ n)) := by simp
  have e3 : ((n : Int) < 2 → n = 1) := by omega
  unfold d155_law_draw
  refine Al.ss (P := DrP n) ?_ ?_
  · simp [e153, g, -List.getElem?_map]
    simp only [M.bind_assoc]
    refine Al.pkB (by decide) fun r hr => ?_
    exact Al.eq (a := (.nx, E155 n (vI r) .u .u .u .u .u .u)) (by simp [E155]) ⟨rfl, r, rfl⟩
  · rintro e ⟨r, rfl⟩
    by_cases c1 : r < 2
    · have c1' : (r : Int) < 2 := by omega
      refine Al.ifR (e1 := E155 n (vI r) .u .u .u .u .u .u) (by simp [E155, c1']) ?_
      show Al _ (DrR n)
      refine Al.ss (P := DrS n r) ?_ ?_
      · simp [E155]
        simp only [M.bind_assoc]
        refine Al.pkB (by decide) fun s hs => ?_
        exact Al.eq (a := (.nx, E155 n (vI r) (vI (1 + s)) .u .u .u .u .u)) (by simp [E155]) ⟨rfl, _, rfl⟩
      · rintro e ⟨s, rfl⟩
        have e4 := d155_l4_al (cl := run Φ (k + 1)) n hn (vI r) .u .u .u .u .u s
        simp only [E155] at e4
        simp [E155]
        simp only [M.bind_assoc]
        refine e4.bind ?_
        rintro ⟨o, e⟩ ⟨he, bs, hb, ho⟩
        simp only at he ho
        rw [he, ho]
        exact Al.eq (a := (.rt (fnD n fun x => bs.getD x false), [.vl .src, vI n, vI (2 ^ n), vI r, vI s, .u, .u, .u, .u, .u, .u, .u, .u])) (by simp [fnD, tab_of n bs hb]) ⟨⟨_, rfl⟩, _, rfl, _, rfl⟩
    · have c1' : ¬ (r : Int) < 2 := by omega
      refine Al.if0 (e1 := E155 n (vI r) .u .u .u .u .u .u) (by simp [E155, c1']) ?_
      by_cases c2 : r = 2
      · subst c2
        refine Al.ifR (e1 := E155 n (vI 2) .u .u .u .u .u .u) (by simp [E155]) ?_
        show Al _ (DrR n)
        have e3 := d155_l3_al (cl := run Φ (k + 1)) n hn (vI 2) .u .u .u .u .u .u
        refine Al.ss (P := fun e => ∃ bs : List Bool, bs.length = n + 1 ∧ e = E155 n (vI 2) .u (.ow (.lst (bs.map fun b => .int (b2i b)))) .u .u .u .u) ?_ ?_
        · rw [u_asg]
          refine e3.bind ?_
          rintro ⟨o, e⟩ ⟨he, bs, hb, ho⟩
          simp only at he ho
          rw [he, ho]
          exact Al.eq (a := (.nx, E155 n (vI 2) .u (.ow (.lst (bs.map fun b => .int (b2i b)))) .u .u .u .u)) (by simp [E155]) ⟨rfl, bs, hb, rfl⟩
        · rintro e ⟨bs, hb, rfl⟩
          have e2 := d155_l2_eq h154 k n hn bs hb (vI 2) .u .u .u .u .u
          simp only [E155] at e2
          exact Al.eq (a := (.rt (fnD n fun x => bs.getD (pcn n x) false), E155 n (vI 2) .u (.ow (.lst (bs.map fun b => .int (b2i b)))) .u .u .u .u)) (by simp [E155, e2, fnD]) ⟨⟨_, rfl⟩, _, rfl, _, rfl⟩
      · have c2' : ((r : Int) == 2) = false := by simp; omega
        refine Al.if0 (e1 := E155 n (vI r) .u .u .u .u .u .u) (by simp [E155, c2']) ?_
        refine Al.ss (P := DrI n r) ?_ ?_
        · simp [E155]
          simp only [M.bind_assoc]
          refine Al.pkB (by omega) fun i hi => ?_
          simp
          simp only [M.bind_assoc]
          refine Al.pkB (by omega) fun j hj => ?_
          simp
          simp only [M.bind_assoc]
          refine Al.pkB (by decide) fun w hw => ?_
          exact Al.eq (a := (.nx, E155 n (vI r) .u .u (vI i) (vI j) (vI w) .u)) (by simp [E155]) ⟨rfl, i, j, w, by omega, by omega, by omega, rfl⟩
        · rintro e ⟨i, j, w, hi, hj, hw, rfl⟩
          have e1 := d155_l1_eq h154 k n hn (vI r) .u .u (vI i) (vI j) (vI w) .u
          have e0 := d155_l0_eq (cl := run Φ (k + 1)) n i j w hn hi hj hw (vI r) .u .u
          simp only [E155] at e1 e0
          exact Al.eq (a := (.rt (fnD n fun x => bb w (x.testBit i) (x.testBit j)), E155 n (vI r) .u .u (vI i) (vI j) (vI w) (vD (.lst ((List.range (2 ^ n)).map fun x => bitsD x n))))) (by simp [E155, e1, e0, fnD]) ⟨_, rfl, _, rfl⟩
end Bq

set_option Elab.async false
set_option linter.all false
set_option maxRecDepth 100000
/-! Equations: parts drawn; functions put in. -/
namespace Bq
open PySem (Str)
/-! ### parts -/
abbrev Gn := Nat × (Nat → Bool)
def Gn.d (g : Gn) : D := fnD g.1 g.2
def gsD (gs : List Gn) : D := .tup (gs.map Gn.d)
def IsL (s : Sl) (l : List D) : Prop := s = .ow (.lst l) ∨ s = vD (.lst l)
theorem rep_eq : ∀ (k : Nat) (xs : List D), rep k xs = (List.replicate k xs).flatten
  | 0, _ => rfl
  | k + 1, xs => by rw [rep, rep_eq k xs, List.replicate_succ, List.flatten_cons]
theorem rep_one (k : Nat) (x : D) : rep k [x] = List.replicate k x := by
  induction k with
  | zero => rfl
  | succ k ih => rw [rep, ih]; rfl
theorem cut_take (xs : List D) (k : Nat) (h : k ≤ xs.length) : cut xs none (some (k : Int)) = xs.take k := by
  have : ¬ ((k : Int) < 0) := by omega
  simp [cut, cutAt, this, Nat.min_eq_left h]
theorem cut_drop (xs : List D) (k : Nat) (h : k ≤ xs.length) : cut xs (some (k : Int)) none = xs.drop k := by
  have : ¬ ((k : Int) < 0) := by omega
  simp only [cut, cutAt, this, if_false, Int.toNat_natCast, Nat.min_eq_left h]
  rw [List.take_of_length_le (by simp)]
/-- one size more -/
def bump (ss : List Nat) (k : Nat) : List Nat := ss.take k ++ [ss.getD k 0 + 1] ++ ss.drop (k + 1)
theorem bump_len (ss : List Nat) (k : Nat) (h : k < ss.length) : (bump ss k).length = ss.length := by
  simp [bump]; omega
theorem bump_sum (ss : List Nat) (k : Nat) (h : k < ss.length) : (bump ss k).sum = ss.sum + 1 := by
  have e : ss = ss.take k ++ (ss.getD k 0 :: ss.drop (k + 1)) := by
    have : ss.getD k 0 = ss[k] := by simp [List.getD, h]
    rw [this, ← List.drop_eq_getElem_cons h, List.take_append_drop]
  have e2 : ss.sum = (ss.take k).sum + (ss.getD k 0 + (ss.drop (k + 1)).sum) := by
    conv => lhs; rw [e]
    simp [List.sum_append]
  rw [e2]
  simp [bump, List.sum_append]
  omega
theorem bump_pos (ss : List Nat) (k : Nat) (h : ∀ a ∈ ss, 1 ≤ a) : ∀ a ∈ bump ss k, 1 ≤ a := by
  intro a ha
  simp only [bump, List.mem_append, List.mem_singleton] at ha
  rcases ha with (ha | rfl) | ha
  · exact h a (List.mem_of_mem_take ha)
  · omega
  · exact h a (List.mem_of_mem_drop ha)
def E157 (most m : Nat) (t : Bool) (s4 a5 a6 a7 : Sl) : Env := [.vl .src, vI most, vB t, vI m, s4, a5, a6, a7, .u]
def PaI (most m : Nat) (t : Bool) (j : Nat) (e : Env) : Prop := ∃ (ss : List Nat) (s4 a5 a6 a7 : Sl), IsL s4 (nL ss) ∧ ss.length = m ∧ (∀ a ∈ ss, 1 ≤ a) ∧ ss.sum ≤ m + j ∧ e = E157 most m t s4 a5 a6 a7
def PaJ (most m : Nat) (t : Bool) (j : Nat) (x : Fl × Env) : Prop := x.1 = .nx ∧ PaI most m t j x.2
def PaM (most : Nat) (t : Bool) (e : Env) : Prop := ∃ m : Nat, 1 ≤ m ∧ m ≤ 4 ∧ m ≤ most ∧ e = [.vl .src, vI most, vB t, vI m, .u, .u, .u, .u, .u]
def PaO (most m : Nat) (t : Bool) (e : Env) : Prop := ∃ (gs : List Gn) (s4 a5 a6 : Sl), gs.length = m ∧ (∀ g ∈ gs, 1 ≤ g.1) ∧ (gs.map (·.1)).sum ≤ most ∧ e = E157 most m t s4 a5 a6 (.ow (.lst (gs.map Gn.d)))
/-- what parts are -/
def Parts (most : Nat) (d : D) : Prop := ∃ (m : Nat) (F : Nat → Bool) (gs : List Gn), 1 ≤ m ∧ m ≤ 4 ∧ gs.length = m ∧ (∀ g ∈ gs, 1 ≤ g.1) ∧ (gs.map (·.1)).sum ≤ most ∧ d = .tup [fnD m F, gsD gs]
def PaQ (most : Nat) (x : Fl × Env) : Prop := ∃ y, x.1 = .rt y ∧ Parts most y
theorem mem_le_sum {ss : List Nat} {a : Nat} (h : a ∈ ss) : a ≤ ss.sum := by
  induction ss with
  | nil => cases h
  | cons b r ih =>
    rcases List.mem_cons.mp h with rfl | h
    · simp
    · have := ih h
      simp; omega
theorem law_parts_al {Φ : Tab} (h153 : Φ 153 = some d153_law_powers) (h154 : Φ 154 = some d154_law_bits) (h155 : Φ 155 = some d155_law_draw) (h : Φ 157 = some d157_law_parts) (k most : Nat) (h1 : 1 ≤ most) (hn : most ≤ 16) : Al (run Φ (k + 3) 157 [.src, .d (.int most), .d (.bl false)]) (Parts most) := by
  refine Al.run h rfl [.vl .src, vI most, vB false, .u, .u, .u, .u, .u, .u] rfl ?_
  show Al _ (PaQ most)
  unfold d157_law_parts
  refine Al.ss (P := PaM most false) ?_ ?_
  · simp
    try simp only [M.bind_assoc]
    refine Al.pkB (by split <;> omega) fun r hr => ?_
    have : (r : Int) < 4 ∧ (r : Int) < most ∨ r = 0 := by
      rcases hr with hr | hr
      · split at hr <;> omega
      · exact .inr hr
    exact Al.eq (a := (.nx, [.vl .src, vI most, vB false, vI ((1 + r : Nat) : Int), .u, .u, .u, .u, .u])) (by simp) ⟨rfl, 1 + r, by omega, by omega, by omega, rfl⟩
  rintro e ⟨m, m1, m4, mm, rfl⟩
  refine Al.st (e1 := E157 most m false (.ow (.lst (nL (List.replicate m 1)))) .u .u .u) ?_ ?_
  · have : nL (List.replicate m 1) = List.replicate m (.int 1) := by simp [nL]
    have q : m ≤ 1000000 := by omega
    simp [E157, rep_one, this, q]
  refine Al.ss (P := PaI most m false (most - m)) ?_ ?_
  · refine Al.frR (PaI most m false) (most - m) ?_ ⟨List.replicate m 1, _, _, _, _, .inl rfl, by simp, fun a ha => by simp at ha; omega, by simp, rfl⟩ ?_
    · have e1 : ((most : Int) - (m : Int)).natAbs ≤ 1000000 := by omega
      have e2 : ((most : Int) - (m : Int)).toNat = most - m := by omega
      simp [E157, small_i, e1, e2]
    · rintro j env hj ⟨ss, s4, a5, a6, a7, hs, hl, hp, hsum, rfl⟩
      refine ⟨_, rfl, ?_⟩
      show Al _ (PaJ most m false (j + 1))
      unfold d157_b0
      refine Al.ss (P := fun e => ∃ r : Nat, r ≤ m ∧ e = E157 most m false s4 (vI j) (vI r) a7) ?_ ?_
      · simp [E157]
        try simp only [M.bind_assoc]
        refine Al.pkB (by omega) fun r hr => ?_
        exact Al.eq (a := (.nx, E157 most m false s4 (vI j) (vI r) a7)) (by simp [E157]) ⟨rfl, r, by omega, rfl⟩
      · rintro e ⟨r, hr, rfl⟩
        by_cases c : r = m
        · subst c
          refine Al.eq (a := (.nx, E157 most r false (vD (.lst (nL ss))) (vI j) (vI r) a7)) ?_ ⟨rfl, ss, _, _, _, _, .inr rfl, hl, hp, by omega, rfl⟩
          rcases hs with rfl | rfl <;> simp [E157]
        · have c' : ((r : Int) == (m : Int)) = false := by simp; omega
          have hr2 : r < ss.length := by omega
          have g : (nL ss)[r]? = some (.int (ss.getD r 0 : Nat)) := by simp [nL, hr2]
          have t1 := cut_take (nL ss) r (by rw [nL_len]; omega)
          have t2 : cut (nL ss) (some ((r : Int) + 1)) none = (nL ss).drop (r + 1) := cut_drop (nL ss) (r + 1) (by rw [nL_len]; omega)
          have s1 : r ≤ 1000000 := by omega
          have s2 : ((r : Int) + 1).natAbs ≤ 1000000 := by omega
          have hb : (nL ss).take r ++ (.int ((ss.getD r 0 : Nat) + 1) :: (nL ss).drop (r + 1)) = nL (bump ss r) := by simp [bump, nL, List.map_take, List.map_drop]
          have z1 : min r ss.length + 1 ≤ 1000000 := by omega
          have z2 : min r ss.length + 1 + (ss.length - (r + 1)) ≤ 1000000 := by omega
          refine Al.eq (a := (.nx, E157 most m false (.ow (.lst (nL (bump ss r)))) (vI j) (vI r) a7)) ?_ ⟨rfl, bump ss r, _, _, _, _, .inl rfl, by rw [bump_len ss r hr2, hl], bump_pos ss r hp, by rw [bump_sum ss r hr2]; omega, rfl⟩
          rw [← hb]
          generalize hv : ss.getD r 0 = v at g
          rcases hs with rfl | rfl <;> simp [E157, c', g, t1, t2, s1, s2, z1, z2, -nL_get]
  rintro e ⟨ss, s4, a5, a6, a7, hs, hl, hp, hsum, rfl⟩
  refine Al.ss (P := PaO most m false) ?_ ?_
  · have key : Al (evO (run Φ (k + 2)) d157_l0 (E157 most m false s4 a5 a6 a7)) fun x => x.2 = E157 most m false (vD (.lst (nL ss))) a5 a6 a7 ∧ ∃ gs : List Gn, gs.length = m ∧ (∀ g ∈ gs, 1 ≤ g.1) ∧ (gs.map (·.1)).sum ≤ most ∧ x.1 = .fr (.lst (gs.map Gn.d)) := by
      unfold d157_l0
      refine (Al.lc (l := ss) (h := fun x : Nat => D.int (x : Int)) (e1 := E157 most m false (vD (.lst (nL ss))) a5 a6 a7) (e2 := E157 most m false (vD (.lst (nL ss))) a5 a6 a7) Gn.d (fun a g => g.1 = a) ?_ rfl (by simp [cap]; omega) rfl ?_).mono ?_
      · rcases hs with rfl | rfl <;> simp [E157, nL]
      · intro a ha
        have ha2 := mem_le_sum ha
        have dr := law_draw_al h153 h154 h155 k a (hp a ha) (by omega)
        rw [u_lcStep]
        simp [E157]
        try simp only [M.bind_assoc]
        refine dr.bind ?_
        rintro d ⟨f, rfl⟩
        exact Al.eq (a := (some (fnD a f), [.vl .src, vI most, vB false, vI m, vD (.lst (nL ss)), a5, a6, a7, .u])) (by simp) ⟨rfl, (a, f), rfl, rfl⟩
      · rintro ⟨o, e⟩ ⟨he, gs, h2, h3, h4⟩
        have eg : gs.map (·.1) = ss := by
          apply List.ext_getElem
          · simp [h2]
          · intro i i1 i2
            simp at i1
            rw [List.getElem_map]
            exact h3 i _ _ (by simp [i2]) (by simp [i1])
        refine ⟨by rw [he]; rfl, gs, by omega, fun g hg => hp g.1 (by rw [← eg]; exact List.mem_map_of_mem hg), by rw [eg]; omega, h4⟩
    rw [u_asg]
    refine key.bind ?_
    rintro ⟨o, e⟩ ⟨he, gs, g1, g2, g3, ho⟩
    simp only at he ho
    rw [he, ho]
    exact Al.eq (a := (.nx, E157 most m false (vD (.lst (nL ss))) a5 a6 (.ow (.lst (gs.map Gn.d))))) (by simp [E157]) ⟨rfl, gs, _, _, _, g1, g2, g3, rfl⟩
  · rintro e ⟨gs, s4, a5, a6, g1, g2, g3, rfl⟩
    have dr := law_draw_al h153 h154 h155 k m m1 (by omega)
    simp [E157]
    try simp only [M.bind_assoc]
    refine dr.bind ?_
    rintro d ⟨F, rfl⟩
    exact Al.eq (a := (.rt (.tup [fnD m F, gsD gs]), E157 most m false s4 a5 a6 (.ow (.lst (gs.map Gn.d))))) (by simp [E157, gsD]) ⟨_, rfl, m, F, gs, m1, m4, g1, g2, g3, rfl⟩
end Bq

set_option Elab.async false
set_option linter.all false
set_option maxRecDepth 100000
/-! Equations: functions put in, as the law does. -/
namespace Bq
open PySem (Str)
/-- the bits of all parts -/
def tot (gs : List Gn) : Nat := (gs.map (·.1)).sum
/-- the input of the outer function -/
def zO : List Gn → Nat → Nat
  | [], _ => 0
  | g :: r, x => (if g.2 (x % 2 ^ g.1) then 1 else 0) + 2 * zO r (x / 2 ^ g.1)
theorem zO_lt : ∀ (gs : List Gn) (x : Nat), zO gs x < 2 ^ gs.length
  | [], x => by simp [zO]
  | g :: r, x => by
    have := zO_lt r (x / 2 ^ g.1)
    simp only [zO, List.length_cons, Nat.pow_succ]
    split <;> omega
section
variable {cl : Nat → List Vl → M D}
theorem d158_l0_eq (gs : List Gn) (hg : gs.length ≤ 1000) (a0 a2 a5 a6 a7 a8 a9 a10 : Sl) : evO cl d158_l0 [a0, vD (gsD gs), a2, .u, .u, a5, a6, a7, a8, a9, a10] = .ret (.fr (.lst (gs.map fun g => .int g.1)), [a0, vD (gsD gs), a2, .u, .u, a5, a6, a7, a8, a9, a10]) := by
  unfold d158_l0
  refine (lc_m (l := gs) (h := Gn.d) (e1 := [a0, vD (gsD gs), a2, .u, .u, a5, a6, a7, a8, a9, a10]) (fun g => .int g.1) (by simp [gsD]) rfl (by simp [cap]; omega) rfl ?_).trans ?_
  · intro g _
    simp [Gn.d, fnD]
  · rfl
theorem d158_b0_eq (a0 a1 a2 a3 a5 a6 a10 : Sl) (T : List D) (z b l t : Int) (hT : atD T (l % (T.length : Int)) = some (.int t)) (ht : bnd64 t = true) (h0 : 0 < T.length) (h1 : T.length < 1073741824) :
    evSs cl d158_b0 [a0, a1, a2, a3, vD (.tup T), a5, a6, vI z, vI b, vI l, a10] = .ret (.nx, [a0, a1, a2, a3, vD (.tup T), a5, a6, vI (z + b * t), vI (b * 2), vI (l / (T.length : Int)), vI T.length]) := by
  simp [d158_b0, hT, ht, h0, h1]
end
theorem tabD_get (n : Nat) (f : Nat → Bool) (x : Nat) (h : x < 2 ^ n) : (tabD n f)[x]? = some (.int (b2i (f x))) := by simp [tabD, h]
theorem bnd_b2i (b : Bool) : bnd64 (b2i b) = true := by cases b <;> decide
theorem pow_30 {n : Nat} (h : n < 30) : 2 ^ n < 1073741824 := by
  have : 2 ^ n < 2 ^ 30 := Nat.pow_lt_pow_right (by decide) h
  omega
def PuI (a0 a2 a5 : Sl) (gs : List Gn) (x : Nat) (j : Nat) (e : Env) : Prop := ∃ (a3 a4 a10 : Sl) (z l : Nat), z + 2 ^ j * zO (gs.drop j) l = zO gs x ∧ e = [a0, vD (gsD gs), a2, a3, a4, a5, vI x, vI z, vI ((2 ^ j : Nat) : Int), vI l, a10]
theorem put_inner {cl : Nat → List Vl → M D} (a0 a2 a5 : Sl) (gs : List Gn) (hg : ∀ g ∈ gs, g.1 < 30) (x : Nat) (a3 a4 a10 : Sl) :
    ∃ e, evS cl d158_f0 [a0, vD (gsD gs), a2, a3, a4, a5, vI x, vI 0, vI 1, vI x, a10] = .ret (.nx, e) ∧ ∃ a3 a4 a8 a9 a10, e = [a0, vD (gsD gs), a2, a3, a4, a5, vI x, vI (zO gs x), a8, a9, a10] := by
  obtain ⟨e, h1, a3, a4, a10, z, l, hz, rfl⟩ := evS_fr (cl := cl) (g := .tp [(.nm 3), (.nm 4)]) (it := .seq (.v 1)) (b := d158_b0) (env := [a0, vD (gsD gs), a2, a3, a4, a5, vI x, vI 0, vI 1, vI x, a10]) (e1 := [a0, vD (gsD gs), a2, a3, a4, a5, vI x, vI 0, vI 1, vI x, a10])
    Gn.d (PuI a0 a2 a5 gs x) gs (by simp [gsD]) ⟨a3, a4, a10, 0, x, by simp, rfl⟩ (by
    rintro j g env hj ⟨a3, a4, a10, z, l, hz, rfl⟩
    have hm : g ∈ gs := by rw [List.getElem?_eq_some_iff] at hj; obtain ⟨_, rfl⟩ := hj; exact List.getElem_mem _
    have hd : gs.drop j = g :: gs.drop (j + 1) := by
      rw [List.getElem?_eq_some_iff] at hj
      obtain ⟨h1, h2⟩ := hj
      rw [← h2]; exact List.drop_eq_getElem_cons h1
    have hp : 0 < 2 ^ g.1 := Nat.pow_pos (by decide)
    have hl : (l : Int) % ((tabD g.1 g.2).length : Int) = ((l % 2 ^ g.1 : Nat) : Int) := by rw [tabD_len]; rfl
    have hl2 : (l : Int) / ((tabD g.1 g.2).length : Int) = ((l / 2 ^ g.1 : Nat) : Int) := by rw [tabD_len]; rfl
    refine ⟨_, _, rfl, d158_b0_eq a0 (vD (gsD gs)) a2 (vI g.1) a5 (vI x) a10 (tabD g.1 g.2) z ((2 ^ j : Nat) : Int) l (b2i (g.2 (l % 2 ^ g.1))) ?_ (bnd_b2i _) (by rw [tabD_len]; exact hp) (by rw [tabD_len]; exact pow_30 (hg g hm)), vI g.1, vD (.tup (tabD g.1 g.2)), vI (tabD g.1 g.2).length, z + 2 ^ j * (if g.2 (l % 2 ^ g.1) then 1 else 0), l / 2 ^ g.1, ?_, ?_⟩
    · rw [hl, at_nat]
      exact tabD_get g.1 g.2 _ (Nat.mod_lt _ hp)
    · rw [hd] at hz
      simp only [zO] at hz
      rw [← hz, Nat.pow_succ, Nat.mul_add, Nat.mul_assoc, Nat.add_assoc]
    · rw [hl2]
      congr 8
      cases g.2 (l % 2 ^ g.1) <;> simp [b2i])
  rw [List.drop_length] at hz
  simp [zO] at hz
  subst hz
  exact ⟨_, h1, a3, a4, _, _, a10, rfl⟩
theorem law_put_eq {Φ : Tab} (h153 : Φ 153 = some d153_law_powers) (h : Φ 158 = some d158_law_put) (k m : Nat) (F : Nat → Bool) (gs : List Gn) (hm : gs.length = m) (hm2 : m < 20) (hN : tot gs < 20) :
    run Φ (k + 2) 158 [.d (fnD m F), .d (gsD gs)] = .ret (fnD (tot gs) fun x => F (zO gs x)) := by
  have hg : ∀ g ∈ gs, g.1 < 30 := fun g hg => by
    have := mem_le_sum (List.mem_map_of_mem (f := fun g : Gn => g.1) hg)
    unfold tot at hN
    omega
  have e153 := law_powers_eq h153 k (tot gs) (by omega)
  have gp : ((List.range (tot gs + 1)).map fun i => D.int ((2 : Int) ^ i))[tot gs]? = some (.int (2 ^ tot gs)) := by simp
  have el := d158_l0_eq (cl := run Φ (k + 1)) gs (by omega) (vD (fnD m F)) .u .u .u .u .u .u .u
  have hs : (gs.map fun g => (g.1 : Int)).sum = (tot gs : Int) := by rw [natsum']; rfl
  have h20 : 2 ^ tot gs ≤ 2 ^ 20 := Nat.pow_le_pow_right (by decide) (by omega)
  have h20' : 2 ^ tot gs ≤ 1000000 := by
    have : 2 ^ tot gs ≤ 2 ^ 19 := Nat.pow_le_pow_right (by decide) (by omega)
    omega
  obtain ⟨e, h1, a3, a4, a6, a7, a8, a9, a10, rfl⟩ := evS_fr (cl := run Φ (k + 1)) (g := .nm 6) (it := .rg1 (.ix (.call 153 (.cons (.v 2) .nil)) (.v 2))) (b := d158_b1) (env := [vD (fnD m F), vD (gsD gs), vI (tot gs), .u, .u, .ow (.lst []), .u, .u, .u, .u, .u]) (e1 := [vD (fnD m F), vD (gsD gs), vI (tot gs), .u, .u, .ow (.lst []), .u, .u, .u, .u, .u])
    (fun i : Nat => D.int (i : Int)) (fun j e => ∃ a3 a4 a6 a7 a8 a9 a10, e = [vD (fnD m F), vD (gsD gs), vI (tot gs), a3, a4, .ow (.lst ((List.range j).map fun x => .int (b2i (F (zO gs x))))), a6, a7, a8, a9, a10]) (List.range (2 ^ tot gs))
    (it_rg1 (by simp [e153, gp, -List.getElem?_map]) (two_pow_cast _) h20') ⟨_, _, _, _, _, _, _, rfl⟩ (by
    rintro j a env ha ⟨a3, a4, a6, a7, a8, a9, a10, rfl⟩
    rw [List.getElem?_eq_some_iff] at ha
    obtain ⟨hj, rfl⟩ := ha
    rw [List.length_range] at hj
    rw [List.getElem_range]
    obtain ⟨e, hi, b3, b4, b8, b9, b10, rfl⟩ := put_inner (cl := run Φ (k + 1)) (vD (fnD m F)) (vI (tot gs)) (.ow (.lst ((List.range j).map fun x => .int (b2i (F (zO gs x)))))) gs hg j a3 a4 a10
    have hz := zO_lt gs j
    rw [hm] at hz
    have gz := tabD_get m F (zO gs j) hz
    have hj2 : j < 1000000 := by omega
    refine ⟨_, [vD (fnD m F), vD (gsD gs), vI (tot gs), b3, b4, .ow (.lst ((List.range (j + 1)).map fun x => .int (b2i (F (zO gs x))))), vI j, vI (zO gs j), b8, b9, b10], rfl, ?_, _, _, _, _, _, _, _, rfl⟩
    unfold d158_b1
    refine nx_st (e1 := [vD (fnD m F), vD (gsD gs), vI (tot gs), a3, a4, .ow (.lst ((List.range j).map fun x => .int (b2i (F (zO gs x))))), vI j, vI 0, vI 1, vI j, a10]) (by simp) (nx_st hi ?_)
    simp [fnD, gz, hj2, List.range_succ])
  rw [List.length_range] at *
  refine run_rets h rfl [vD (fnD m F), vD (gsD gs), .u, .u, .u, .u, .u, .u, .u, .u, .u] rfl (Rets.st (e1 := [vD (fnD m F), vD (gsD gs), vI (tot gs), .u, .u, .u, .u, .u, .u, .u, .u]) (by simp [el, hs]) (Rets.st (e1 := [vD (fnD m F), vD (gsD gs), vI (tot gs), .u, .u, .ow (.lst []), .u, .u, .u, .u, .u]) (by simp) (Rets.st h1 (Rets.ret ?_))))
  simp [fnD, tabD]
end Bq

set_option Elab.async false
set_option linter.all false
set_option maxRecDepth 100000
/-! Equations: papers, changes, weighed. -/
namespace Bq
open PySem (Str)
theorem b2i_eq1 (a : Bool) : (b2i a == 1) = a := by cases a <;> rfl
theorem b2i_beq (a b : Bool) : (b2i a == b2i b) = (a == b) := by cases a <;> cases b <;> rfl
theorem b2i_ne (a b : Bool) : (!(b2i a == b2i b)) = (a != b) := by cases a <;> cases b <;> rfl
theorem pow_Z {n : Nat} (h : n < 30) : ((2 : Int) ^ n).natAbs < 1073741824 := by
  rw [two_pow_cast, Int.natAbs_natCast]
  exact pow_30 h
theorem bit_at_eq {Φ : Tab} (h : Φ 160 = some d160_bit_at) (k x i : Nat) (hi : i < 30) : run Φ (k + 1) 160 [.d (.int x), .d (.int i)] = .ret (.int (b2i (x.testBit i))) := by
  have e := bitI x i
  have hp : 0 < (2 : Int) ^ i := Int.pow_pos (by decide)
  have hz := pow_Z hi
  have hi2 : i ≤ 1000000 := by omega
  refine run_rets h rfl [vI x, vI i] rfl (Rets.ret ?_)
  obtain ⟨q, hq⟩ : ∃ q, q = (2 : Int) ^ i := ⟨_, rfl⟩
  rw [← hq] at hp hz e
  simp [hi2, ← hq, hp, hz, e]
/-- inputs that are alike at a lot -/
def alike (n lot x y : Nat) : Bool := ((List.range n).filter fun i => lot.testBit i).all fun i => x.testBit i == y.testBit i
/-- what a lot weighs -/
def wOf (ws : List Nat) (lot : Nat) : Nat := (ws.zipIdx.map fun p => if lot.testBit p.2 then p.1 else 0).sum
theorem wOf_f (lot : Nat) : ∀ (l : List (Nat × Nat)), ((l.filter fun p => lot.testBit p.2).map (·.1)).sum = (l.map fun p => if lot.testBit p.2 then p.1 else 0).sum
  | [] => rfl
  | p :: l => by
    rw [List.filter_cons, List.map_cons, List.sum_cons, ← wOf_f lot l]
    cases lot.testBit p.2 <;> simp
theorem are_alike_eq {Φ : Tab} (h160 : Φ 160 = some d160_bit_at) (h : Φ 175 = some d175_are_alike_at) (k n lot x y : Nat) (hn : n < 30) : run Φ (k + 2) 175 [.d (.int n), .d (.int lot), .d (.int x), .d (.int y)] = .ret (.bl (alike n lot x y)) := by
  have e0 : evO (run Φ (k + 1)) d175_l0 [vI n, vI lot, vI x, vI y, .u] = .ret (.fr (.lst (((List.range n).filter fun i => lot.testBit i).map fun i => .bl (x.testBit i == y.testBit i))), [vI n, vI lot, vI x, vI y, .u]) := by
    unfold d175_l0
    refine (lc_f (l := List.range n) (h := fun i : Nat => D.int (i : Int)) (e1 := [vI n, vI lot, vI x, vI y, .u]) (fun i => .bl (x.testBit i == y.testBit i)) (fun i => lot.testBit i) (it_rg1 (by simp) rfl (by omega)) rfl (by simp [cap]; omega) rfl ?_).trans ?_
    · intro i hi
      rw [List.mem_range] at hi
      have a := bit_at_eq h160 k lot i (by omega)
      have b := bit_at_eq h160 k x i (by omega)
      have c := bit_at_eq h160 k y i (by omega)
      simp [a, b, c, b2i_eq1, b2i_beq]
    · rfl
  refine run_rets h rfl [vI n, vI lot, vI x, vI y, .u] rfl (Rets.ret ?_)
  have : (((List.range n).filter fun i => lot.testBit i).map fun i => (x.testBit i == y.testBit i)).all id = alike n lot x y := by simp [alike, List.all_map, Function.comp_def]
  simp [e0, this, -List.all_map]
theorem weight_of_eq {Φ : Tab} (h160 : Φ 160 = some d160_bit_at) (h : Φ 170 = some d170_weight_of) (k lot : Nat) (ws : List Nat) (t : Bool) (hw : ws.length < 30) : run Φ (k + 2) 170 [.d (lotD t ws), .d (.int lot)] = .ret (.int (wOf ws lot)) := by
  have e0 : evO (run Φ (k + 1)) d170_l0 [vD (lotD t ws), vI lot, .u, .u] = .ret (.fr (.lst ((ws.zipIdx.filter fun p => lot.testBit p.2).map fun p => .int p.1)), [vD (lotD t ws), vI lot, .u, .u]) := by
    unfold d170_l0
    refine (lc_f (l := ws.zipIdx) (h := fun p => D.tup [.int p.2, .int p.1]) (e1 := [vD (lotD t ws), vI lot, .u, .u]) (fun p => .int p.1) (fun p => lot.testBit p.2) ?_ rfl (by simp [cap]; omega) rfl ?_).trans ?_
    · have : enumD 0 (nL ws) = ws.zipIdx.map fun p => .tup [.int p.2, .int p.1] := by
        rw [nL, enumD_map]
        simp
      cases t <;> simp [lotD, this]
    · intro p hp
      have hp2 : p.2 < 30 := by
        have := List.mem_zipIdx hp
        omega
      have a := bit_at_eq h160 k lot p.2 hp2
      simp [a, b2i_eq1]
    · rfl
  refine run_rets h rfl [vD (lotD t ws), vI lot, .u, .u] rfl (Rets.ret ?_)
  have := wOf_f lot ws.zipIdx
  have h2 := natsum' (fun p : Nat × Nat => p.1) (ws.zipIdx.filter fun p => lot.testBit p.2)
  simp [e0, h2, this, wOf]
/-! ### the least of some numbers -/
def minN : List Nat → Nat
  | [] => 0
  | a :: r => r.foldl (fun a b => if b < a then b else a) a
theorem minN_I : ∀ (r : List Nat) (a : Nat), (r.map fun x : Nat => (x : Int)).foldl (fun a b => if b < a then b else a) (a : Int) = ((r.foldl (fun a b => if b < a then b else a) a : Nat) : Int)
  | [], a => rfl
  | b :: r, a => by
    rw [List.map_cons, List.foldl_cons, List.foldl_cons, ← minN_I r]
    congr 1
    by_cases h : b < a
    · have : (b : Int) < (a : Int) := by omega
      simp [h, this]
    · have : ¬ (b : Int) < (a : Int) := by omega
      simp [h, this]
theorem q_min1N (l : List Nat) (h : l ≠ []) : bi (.min1 .int) [.lst (nL l)] = some (.vl (.d (.int (minN l)))) := by
  cases l with
  | nil => exact absurd rfl h
  | cons a r =>
    have : toInts (nL (a :: r)) = some ((a : Int) :: r.map fun x : Nat => (x : Int)) := toInts_map (fun x : Nat => (x : Int)) (a :: r)
    show (match toInts (nL (a :: r)) with | some (n :: ns) => some (Od.int (ns.foldl (fun a b => if b < a then b else a) n)) | _ => none) = _
    rw [this]
    simp only [minN_I]
    rfl
theorem minN_le : ∀ (l : List Nat) (x : Nat), x ∈ l → minN l ≤ x := by
  have key : ∀ (r : List Nat) (a : Nat), r.foldl (fun a b => if b < a then b else a) a ≤ a ∧ ∀ x ∈ r, r.foldl (fun a b => if b < a then b else a) a ≤ x := by
    intro r
    induction r with
    | nil => intro a; exact ⟨Nat.le_refl _, fun x hx => by cases hx⟩
    | cons b r ih =>
      intro a
      have i := ih (if b < a then b else a)
      rw [List.foldl_cons]
      refine ⟨Nat.le_trans i.1 (by split <;> omega), fun x hx => ?_⟩
      rcases List.mem_cons.mp hx with rfl | hx
      · exact Nat.le_trans i.1 (by split <;> omega)
      · exact i.2 x hx
  intro l x hx
  cases l with
  | nil => cases hx
  | cons a r =>
    rcases List.mem_cons.mp hx with rfl | hx
    · exact (key r x).1
    · exact (key r a).2 x hx
theorem minN_mem : ∀ (l : List Nat), l ≠ [] → minN l ∈ l := by
  have key : ∀ (r : List Nat) (a : Nat), r.foldl (fun a b => if b < a then b else a) a = a ∨ r.foldl (fun a b => if b < a then b else a) a ∈ r := by
    intro r
    induction r with
    | nil => intro a; exact .inl rfl
    | cons b r ih =>
      intro a
      rw [List.foldl_cons]
      rcases ih (if b < a then b else a) with h | h
      · rw [h]
        split
        · exact .inr List.mem_cons_self
        · exact .inl rfl
      · exact .inr (List.mem_cons_of_mem _ h)
  intro l h
  cases l with
  | nil => exact absurd rfl h
  | cons a r =>
    rcases key r a with h | h
    · simp [minN, h]
    · exact List.mem_cons_of_mem _ h
/-! ### the program's papers -/
def isCert (n : Nat) (f : Nat → Bool) (x lot : Nat) : Bool := ((List.range (2 ^ n)).filter fun y => alike n lot x y).all fun y => f y == f x
def certs (n : Nat) (f : Nat → Bool) (x : Nat) : List Nat := (List.range (2 ^ n)).filter (isCert n f x)
def paper (n : Nat) (f : Nat → Bool) (ws : List Nat) (x : Nat) : Nat := minN ((certs n f x).map (wOf ws))
theorem alike_all {n x y : Nat} (h : alike n (2 ^ n - 1) x y = true) (hx : x < 2 ^ n) (hy : y < 2 ^ n) : x = y := by
  apply Nat.eq_of_testBit_eq
  intro i
  by_cases hi : i < n
  · simp only [alike, List.all_eq_true, List.mem_filter, List.mem_range, beq_iff_eq] at h
    exact h i ⟨hi, by simp [hi]⟩
  · rw [Nat.testBit_lt_two_pow (Nat.lt_of_lt_of_le hx (Nat.pow_le_pow_right (by decide) (by omega))), Nat.testBit_lt_two_pow (Nat.lt_of_lt_of_le hy (Nat.pow_le_pow_right (by decide) (by omega)))]
theorem full_cert (n : Nat) (f : Nat → Bool) (x : Nat) (hx : x < 2 ^ n) : 2 ^ n - 1 ∈ certs n f x := by
  have : 0 < 2 ^ n := Nat.pow_pos (by decide)
  simp only [certs, List.mem_filter, List.mem_range]
  refine ⟨by omega, ?_⟩
  simp only [isCert, List.all_eq_true, List.mem_filter, List.mem_range, beq_iff_eq]
  rintro y ⟨hy, ha⟩
  rw [alike_all ha hx hy]
theorem certs_ne (n : Nat) (f : Nat → Bool) (ws : List Nat) (x : Nat) (hx : x < 2 ^ n) : (certs n f x).map (wOf ws) ≠ [] := by
  intro h
  have := full_cert n f x hx
  rw [List.map_eq_nil_iff] at h
  rw [h] at this
  cases this
theorem weighed_paper_eq {Φ : Tab} (h160 : Φ 160 = some d160_bit_at) (h170 : Φ 170 = some d170_weight_of) (h175 : Φ 175 = some d175_are_alike_at) (h : Φ 176 = some d176_weighed_paper) (k n x : Nat) (f : Nat → Bool) (ws : List Nat) (t : Bool) (hn : n < 16) (hx : x < 2 ^ n) (hw : ws.length < 30) :
    run Φ (k + 3) 176 [.d (fnD n f), .d (lotD t ws), .d (.int x)] = .ret (.int (paper n f ws x)) := by
  have h16 : 2 ^ n ≤ 2 ^ 16 := Nat.pow_le_pow_right (by decide) (by omega)
  have hn2 : n ≤ 1000000 := by omega
  have e0 : ∀ (a5 : Sl) (lot : Nat), evO (run Φ (k + 2)) d176_l0 [vD (fnD n f), vD (lotD t ws), vI x, vI n, vD (.tup (tabD n f)), a5, vI lot, .u] = .ret (.fr (.lst (((List.range (2 ^ n)).filter fun y => alike n lot x y).map fun y => .bl (f y == f x))), [vD (fnD n f), vD (lotD t ws), vI x, vI n, vD (.tup (tabD n f)), a5, vI lot, .u]) := by
    intro a5 lot
    unfold d176_l0
    refine (lc_f (l := List.range (2 ^ n)) (h := fun i : Nat => D.int (i : Int)) (e1 := [vD (fnD n f), vD (lotD t ws), vI x, vI n, vD (.tup (tabD n f)), a5, vI lot, .u]) (fun y => .bl (f y == f x)) (fun y => alike n lot x y) (it_rg1 (m := 2 ^ n) (by simp [hn2]) (two_pow_cast n) (by omega)) rfl (by simp [cap]; omega) rfl ?_).trans ?_
    · intro y hy
      rw [List.mem_range] at hy
      have a := are_alike_eq h160 h175 k n lot x y (by omega)
      have g1 := tabD_get n f y hy
      have g2 := tabD_get n f x hx
      simp [a, g1, g2, b2i_beq]
    · rfl
  obtain ⟨e, h1, a6, rfl⟩ := evS_fr (cl := run Φ (k + 2)) (g := .nm 6) (it := .rg1 (.bin .shl (.int 1) (.v 3))) (b := d176_b0) (env := [vD (fnD n f), vD (lotD t ws), vI x, vI n, vD (.tup (tabD n f)), .ow (.lst []), .u, .u]) (e1 := [vD (fnD n f), vD (lotD t ws), vI x, vI n, vD (.tup (tabD n f)), .ow (.lst []), .u, .u])
    (fun i : Nat => D.int (i : Int)) (fun j e => ∃ a6, e = [vD (fnD n f), vD (lotD t ws), vI x, vI n, vD (.tup (tabD n f)), .ow (.lst (nL (((List.range j).filter (isCert n f x)).map (wOf ws)))), a6, .u]) (List.range (2 ^ n))
    (it_rg1 (m := 2 ^ n) (by simp [hn2]) (two_pow_cast n) (by omega)) ⟨.u, rfl⟩ (by
    rintro j a env ha ⟨a6, rfl⟩
    rw [List.getElem?_eq_some_iff] at ha
    obtain ⟨hj, rfl⟩ := ha
    rw [List.length_range] at hj
    rw [List.getElem_range]
    refine ⟨_, [vD (fnD n f), vD (lotD t ws), vI x, vI n, vD (.tup (tabD n f)), .ow (.lst (nL (((List.range (j + 1)).filter (isCert n f x)).map (wOf ws)))), vI j, .u], rfl, ?_, _, rfl⟩
    have e0 := e0 (.ow (.lst (nL (((List.range j).filter (isCert n f x)).map (wOf ws))))) j
    have e170 := weight_of_eq h160 h170 k j ws t hw
    have hl : ((List.range j).filter (isCert n f x)).length < 1000000 := Nat.lt_of_le_of_lt (List.length_filter_le _ _) (by simp; omega)
    have hc : (((List.range (2 ^ n)).filter fun y => alike n j x y).map fun y => (f y == f x)).all id = isCert n f x j := by simp [isCert, List.all_map, Function.comp_def]
    rw [List.range_succ, List.filter_append, List.map_append, nL_app]
    generalize hT : nL (((List.range j).filter (isCert n f x)).map (wOf ws)) = L at e0 ⊢
    have hL : L.length < 1000000 := by rw [← hT, nL_len, List.length_map]; exact hl
    cases hcc : isCert n f x j with
    | true =>
      rw [hcc] at hc
      have : nL (([j].filter (isCert n f x)).map (wOf ws)) = [.int (wOf ws j)] := by simp [List.filter_cons, hcc, nL]
      rw [this]
      simp [d176_b0, e0, hc, e170, hL, -List.all_map]
    | false =>
      rw [hcc] at hc
      have : nL (([j].filter (isCert n f x)).map (wOf ws)) = [] := by simp [List.filter_cons, hcc, nL]
      rw [this]
      simp [d176_b0, e0, hc, -List.all_map])
  rw [List.length_range] at *
  have hm := q_min1N _ (certs_ne n f ws x hx)
  refine run_rets h rfl [vD (fnD n f), vD (lotD t ws), vI x, .u, .u, .u, .u, .u] rfl (Rets.st (e1 := [vD (fnD n f), vD (lotD t ws), vI x, vI n, vD (.tup (tabD n f)), .u, .u, .u]) (by simp [fnD]) (Rets.st (e1 := [vD (fnD n f), vD (lotD t ws), vI x, vI n, vD (.tup (tabD n f)), .ow (.lst []), .u, .u]) (by simp) (Rets.st h1 (Rets.ret ?_))))
  simp only [certs] at hm
  simp [hm, paper, certs]
end Bq

set_option Elab.async false
set_option linter.all false
set_option maxRecDepth 100000
/-! Equations: the law's papers and changes. -/
namespace Bq
open PySem (Str)
/-! ### a bit turned -/
theorem odd_pos {a : Nat} (h : a % 2 = 1) : 1 ≤ a := by omega
theorem odd_half (a : Nat) : (if a % 2 = 1 then a - 1 else a + 1) / 2 = a / 2 := by split <;> omega
theorem odd_pred {a : Nat} (h : a % 2 = 1) : (a - 1) % 2 = 0 := by omega
theorem even_succ {a : Nat} (h : ¬ a % 2 = 1) : (a + 1) % 2 = 1 := by omega
theorem flip_bit (x i j : Nat) : (flip x i).testBit j = (x.testBit j ^^ decide (i = j)) := by
  have hp : 0 < 2 ^ i := Nat.pow_pos (by decide)
  have hx : x = 2 ^ i * (x / 2 ^ i) + x % 2 ^ i := (Nat.div_add_mod x (2 ^ i)).symm
  have hr : x % 2 ^ i < 2 ^ i := Nat.mod_lt _ hp
  have hb : x.testBit i = decide (x / 2 ^ i % 2 = 1) := Nat.testBit_eq_decide_div_mod_eq
  have hf : flip x i = 2 ^ i * (if x / 2 ^ i % 2 = 1 then x / 2 ^ i - 1 else x / 2 ^ i + 1) + x % 2 ^ i := by
    unfold flip
    rw [hb]
    by_cases h : x / 2 ^ i % 2 = 1
    · simp only [h, decide_true, if_true]
      have : 1 ≤ x / 2 ^ i := odd_pos h
      rw [Nat.mul_sub, Nat.mul_one]
      have h2 : 2 ^ i ≤ 2 ^ i * (x / 2 ^ i) := Nat.le_mul_of_pos_right _ this
      omega
    · simp only [h, decide_false, Bool.false_eq_true, if_false]
      rw [Nat.mul_add, Nat.mul_one]
      omega
  conv => rhs; rw [hx]
  rw [hf, Nat.testBit_two_pow_mul_add _ hr, Nat.testBit_two_pow_mul_add _ hr]
  by_cases hj : j < i
  · have : ¬ i = j := by omega
    simp [hj, this]
  · simp only [hj, if_false]
    by_cases he : i = j
    · subst he
      simp only [Nat.sub_self, decide_true, Bool.xor_true, Nat.testBit_zero]
      by_cases h : x / 2 ^ i % 2 = 1
      · simp only [h, if_true]
        have : (x / 2 ^ i - 1) % 2 = 0 := odd_pred h
        simp [this]
      · simp only [h, if_false]
        have : (x / 2 ^ i + 1) % 2 = 1 := even_succ h
        simp [this, h]
    · simp only [he, decide_false, Bool.xor_false]
      obtain ⟨k, hk⟩ : ∃ k, j - i = k + 1 := ⟨j - i - 1, by omega⟩
      rw [hk, Nat.testBit_succ, Nat.testBit_succ]
      rw [odd_half]
theorem flip_flip (x i : Nat) : flip (flip x i) i = x := by
  apply Nat.eq_of_testBit_eq
  intro j
  rw [flip_bit, flip_bit, Bool.xor_assoc, Bool.xor_self, Bool.xor_false]
theorem bits_lt {n x : Nat} (h : ∀ i, n ≤ i → x.testBit i = false) : x < 2 ^ n := Nat.lt_pow_two_of_testBit x h
theorem bit_hi {n x i : Nat} (h : x < 2 ^ n) (hi : n ≤ i) : x.testBit i = false := Nat.testBit_lt_two_pow (Nat.lt_of_lt_of_le h (Nat.pow_le_pow_right (by decide) hi))
theorem flip_lt {n x i : Nat} (hx : x < 2 ^ n) (hi : i < n) : flip x i < 2 ^ n := by
  apply bits_lt
  intro j hj
  rw [flip_bit, bit_hi hx hj]
  have : ¬ i = j := by omega
  simp [this]
theorem bits_eq {n x y : Nat} (hx : x < 2 ^ n) (hy : y < 2 ^ n) (h : ∀ i, i < n → x.testBit i = y.testBit i) : x = y := by
  apply Nat.eq_of_testBit_eq
  intro i
  by_cases hi : i < n
  · exact h i hi
  · rw [bit_hi hx (by omega), bit_hi hy (by omega)]
/-! ### the program's changes -/
def wch (n : Nat) (f : Nat → Bool) (ws : List Nat) (x : Nat) : Nat := (((List.range n).filter fun i => f x != f (flip x i)).map fun i => ws.getD i 0).sum
theorem flipB (x i : Nat) : (x : Int) + 2 ^ i * (1 - 2 * b2i (x.testBit i)) = (flip x i : Int) := by rw [← bitI]; exact flipI x i
theorem weighed_changes_eq {Φ : Tab} (h160 : Φ 160 = some d160_bit_at) (h : Φ 177 = some d177_weighed_changes) (k n x : Nat) (f : Nat → Bool) (ws : List Nat) (t : Bool) (hn : n < 16) (hx : x < 2 ^ n) (hw : ws.length = n) :
    run Φ (k + 2) 177 [.d (fnD n f), .d (lotD t ws), .d (.int x)] = .ret (.int (wch n f ws x)) := by
  have e0 : evO (run Φ (k + 1)) d177_l0 [vD (fnD n f), vD (lotD t ws), vI x, vI n, vD (.tup (tabD n f)), .u] = .ret (.fr (.lst (((List.range n).filter fun i => f x != f (flip x i)).map fun i => .int (ws.getD i 0 : Nat))), [vD (fnD n f), vD (lotD t ws), vI x, vI n, vD (.tup (tabD n f)), .u]) := by
    unfold d177_l0
    refine (lc_f (l := List.range n) (h := fun i : Nat => D.int (i : Int)) (e1 := [vD (fnD n f), vD (lotD t ws), vI x, vI n, vD (.tup (tabD n f)), .u]) (fun i => .int (ws.getD i 0 : Nat)) (fun i => f x != f (flip x i)) (it_rg1 (by simp) rfl (by omega)) rfl (by simp [cap]; omega) rfl ?_).trans ?_
    · intro i hi
      rw [List.mem_range] at hi
      have a := bit_at_eq h160 k x i (by omega)
      have g1 := tabD_get n f x hx
      have g2 := tabD_get n f (flip x i) (flip_lt hx hi)
      have hi2 : i ≤ 1000000 := by omega
      have hf := flipB x i
      have hw2 : ws[i]? = some (ws.getD i 0) := getD_some' (by omega)
      have hq : bnd64 (1 - 2 * b2i (x.testBit i)) = true := by cases x.testBit i <;> decide
      have hq2 : bnd64 (2 : Int) = true := by decide
      obtain ⟨q, hqq⟩ : ∃ q, q = (2 : Int) ^ i := ⟨_, rfl⟩
      rw [← hqq] at hf
      generalize hv : ws.getD i 0 = v at hw2 ⊢
      cases t <;> simp [a, g1, hi2, ← hqq, hq, hf, g2, hw2, b2i_ne, lotD, hv]
    · rfl
  have h2 := natsum' (fun i : Nat => ws.getD i 0) ((List.range n).filter fun i => f x != f (flip x i))
  have h3 := toInts_map (fun i : Nat => ((ws.getD i 0 : Nat) : Int)) ((List.range n).filter fun i => f x != f (flip x i))
  refine run_rets h rfl [vD (fnD n f), vD (lotD t ws), vI x, .u, .u, .u] rfl (Rets.st (e1 := [vD (fnD n f), vD (lotD t ws), vI x, vI n, vD (.tup (tabD n f)), .u]) (by simp [fnD]) (Rets.ret ?_))
  refine ⟨[vD (fnD n f), vD (lotD t ws), vI x, vI n, vD (.tup (tabD n f)), .u], ?_⟩
  rw [u_ret, u_bi, u_os1, e0]
  simp only [M.bind_ret, kOs_e, u_os0, kOs2_e, norm_f, kBi_e, resAll_1, res1_v, resAll_0, consO_s, biO_s, q_sum, h3, h2, Option.map_some, opt_s, kRet_e, kRt_e, frz_v, retO_s]
  rfl
/-! ### the law's papers -/
theorem plain_ints {α : Type} (g : α → Int) (l : List α) : plains (l.map fun a => D.int (g a)) = true := plains_map _ (fun _ => rfl) l
theorem dep_ints {α : Type} (g : α → Int) (l : List α) : deps (l.map fun a => D.int (g a)) = 0 := deps_map _ (fun _ => rfl) l
theorem eqvs_ints : ∀ (l m : List Int), eqvs (l.map D.int) (m.map D.int) = decide (l = m)
  | [], [] => rfl
  | [], b :: m => by simp [eqvs]
  | a :: l, [] => by simp [eqvs]
  | a :: l, b :: m => by
    simp only [List.map_cons, eqvs, eqvs_ints l m, eqv]
    by_cases h : a = b
    · simp [h]
    · simp [h]
theorem eq_ints {α β : Type} (g : α → Int) (h : β → Int) (l : List α) (m : List β) : cmpop .eq (.lst (l.map fun a => D.int (g a))) (.lst (m.map fun b => D.int (h b))) = some (decide (l.map g = m.map h)) := by
  have e : eqOk (.lst (l.map fun a => D.int (g a))) (.lst (m.map fun b => D.int (h b))) = true := by simp [eqOk, plain, plain_ints, dep, dep_ints]
  rw [c_eql, if_pos e]
  have := eqvs_ints (l.map g) (m.map h)
  rw [List.map_map, List.map_map] at this
  exact congrArg some this
end Bq

set_option Elab.async false
set_option linter.all false
set_option maxRecDepth 100000
/-! Equations: the law's papers and changes, 2. -/
namespace Bq
open PySem (Str)
def rowsL (n : Nat) : List D := (List.range (2 ^ n)).map fun y => bitsD y n
def onL (n L : Nat) : List Nat := (List.range n).filter fun i => L.testBit i
abbrev Ez (n : Nat) (f : Nat → Bool) (x : Nat) (W : D) (a5 a7 a8 a10 : Sl) : Env := [vI n, vD (.tup (tabD n f)), vI x, vD W, vD (.lst (rowsL n)), a5, .u, a7, a8, .u, a10, .u, .u, .u]
theorem row_get (y : Nat) {n i : Nat} (h : i < n) : ((List.range n).map fun i => D.int (b2i (y.testBit i)))[i]? = some (.int (b2i (y.testBit i))) := by simp [h]
theorem rows_get {n x : Nat} (h : x < 2 ^ n) : (rowsL n)[x]? = some (bitsD x n) := by simp [rowsL, h]
theorem onL_lt {n L i : Nat} (h : i ∈ onL n L) : i < n := by simp [onL] at h; exact h.1
theorem pow16 {n : Nat} (hn : n < 16) : 2 ^ n ≤ 65536 := by
  have : 2 ^ n ≤ 2 ^ 16 := Nat.pow_le_pow_right (by decide) (by omega)
  omega
section
variable {cl : Nat → List Vl → M D} (n x : Nat) (f : Nat → Bool) (W : D) (hn : n < 16)
include hn
theorem d178_l4_eq (L : Nat) (a5 a8 a10 : Sl) : evO cl d178_l4 (Ez n f x W a5 (vD (bitsD L n)) a8 a10) = .ret (.fr (.lst (nL (onL n L))), Ez n f x W a5 (vD (bitsD L n)) a8 a10) := by
  unfold d178_l4
  refine (lc_f (l := List.range n) (h := fun i : Nat => D.int (i : Int)) (e1 := Ez n f x W a5 (vD (bitsD L n)) a8 a10) (fun i : Nat => D.int (i : Int)) (fun i => L.testBit i) (it_rg1 (by simp) rfl (by omega)) rfl (by simp [cap]; omega) rfl ?_).trans ?_
  · intro i hi
    rw [List.mem_range] at hi
    have g := row_get L hi
    simp [bitsD, g, b2i_eq1, -List.getElem?_map]
  · rfl
theorem d178_l1_eq (L y : Nat) (a5 a6 a7 a10 : Sl) : evO cl d178_l1 [vI n, vD (.tup (tabD n f)), vI x, vD W, vD (.lst (rowsL n)), a5, a6, a7, vD (.lst (nL (onL n L))), .u, a10, vD (bitsD y n), .u, .u] =
    .ret (.fr (.lst ((onL n L).map fun i => .int (b2i (y.testBit i)))), [vI n, vD (.tup (tabD n f)), vI x, vD W, vD (.lst (rowsL n)), a5, a6, a7, vD (.lst (nL (onL n L))), .u, a10, vD (bitsD y n), .u, .u]) := by
  unfold d178_l1
  have hl : (onL n L).length ≤ 1000000 := Nat.le_trans (List.length_filter_le _ _) (by simp; omega)
  refine (lc_m (l := onL n L) (h := fun i : Nat => D.int (i : Int)) (e1 := [vI n, vD (.tup (tabD n f)), vI x, vD W, vD (.lst (rowsL n)), a5, a6, a7, vD (.lst (nL (onL n L))), .u, a10, vD (bitsD y n), .u, .u]) (fun i => .int (b2i (y.testBit i))) (by simp [nL]) rfl hl rfl ?_).trans ?_
  · intro i hi
    have g := row_get y (onL_lt hi)
    simp [bitsD, g, -List.getElem?_map]
  · rfl
theorem d178_l2_eq (hx : x < 2 ^ n) (L y : Nat) (a5 a6 a7 a10 : Sl) : evO cl d178_l2 [vI n, vD (.tup (tabD n f)), vI x, vD W, vD (.lst (rowsL n)), a5, a6, a7, vD (.lst (nL (onL n L))), .u, a10, vD (bitsD y n), .u, .u] =
    .ret (.fr (.lst ((onL n L).map fun i => .int (b2i (x.testBit i)))), [vI n, vD (.tup (tabD n f)), vI x, vD W, vD (.lst (rowsL n)), a5, a6, a7, vD (.lst (nL (onL n L))), .u, a10, vD (bitsD y n), .u, .u]) := by
  unfold d178_l2
  have hl : (onL n L).length ≤ 1000000 := Nat.le_trans (List.length_filter_le _ _) (by simp; omega)
  refine (lc_m (l := onL n L) (h := fun i : Nat => D.int (i : Int)) (e1 := [vI n, vD (.tup (tabD n f)), vI x, vD W, vD (.lst (rowsL n)), a5, a6, a7, vD (.lst (nL (onL n L))), .u, a10, vD (bitsD y n), .u, .u]) (fun i => .int (b2i (x.testBit i))) (by simp [nL]) rfl hl rfl ?_).trans ?_
  · intro i hi
    have g := row_get x (onL_lt hi)
    have g2 := rows_get hx
    simp [g2, bitsD, g, -List.getElem?_map]
  · rfl
theorem alike_on (L x y : Nat) : decide ((onL n L).map (fun i => b2i (y.testBit i)) = (onL n L).map (fun i => b2i (x.testBit i))) = alike n L x y := by
  have : ∀ l : List Nat, decide (l.map (fun i => b2i (y.testBit i)) = l.map (fun i => b2i (x.testBit i))) = l.all fun i => x.testBit i == y.testBit i := by
    intro l
    induction l with
    | nil => rfl
    | cons a l ih =>
      rw [List.all_cons, ← ih]
      simp only [List.map_cons, List.cons.injEq]
      cases x.testBit a <;> cases y.testBit a <;> simp [b2i]
  exact this (onL n L)
theorem d178_l3_eq (hx : x < 2 ^ n) (L : Nat) (a5 a7 a10 : Sl) (s : Sl) (hs : IsL s (nL (onL n L))) : evO cl d178_l3 (Ez n f x W a5 a7 s a10) = .ret (.fr (.lst (((List.range (2 ^ n)).filter fun y => alike n L x y).map fun y => .int (b2i (f y)))), Ez n f x W a5 a7 (vD (.lst (nL (onL n L)))) a10) := by
  unfold d178_l3
  have h16 := pow16 hn
  have hen : enumD 0 (rowsL n) = (List.range (2 ^ n)).map fun y => .tup [.int y, bitsD y n] := enumD_range _ _
  refine (lc_f (l := List.range (2 ^ n)) (h := fun y : Nat => D.tup [.int y, bitsD y n]) (e1 := Ez n f x W a5 a7 s a10) (e2 := Ez n f x W a5 a7 (vD (.lst (nL (onL n L)))) a10) (fun y => .int (b2i (f y))) (fun y => alike n L x y) (by simp [hen]) rfl (by simp [cap]; omega) ?_ ?_).trans ?_
  · rcases hs with rfl | rfl <;> simp
  · intro y hy
    rw [List.mem_range] at hy
    have e1 := d178_l1_eq (cl := cl) n x f W hn L y a5 (vI y) a7 a10
    have e2 := d178_l2_eq (cl := cl) n x f W hn hx L y a5 (vI y) a7 a10
    have ec := eq_ints (fun i => b2i (y.testBit i)) (fun i => b2i (x.testBit i)) (onL n L) (onL n L)
    rw [alike_on n hn] at ec
    have g1 := tabD_get n f y hy
    simp [e1, e2, ec, g1, -c_eql]
  · rcases hs with rfl | rfl <;> simp
theorem nL_range (ws : List Nat) (hw : ws.length = n) : nL ws = (List.range n).map fun i => .int (ws.getD i 0 : Nat) := by
  apply List.ext_getElem
  · simp [nL, hw]
  · intro i h1 h2
    simp [nL] at h1 ⊢
    simp [h1]
end
theorem wOf_range (L : Nat) : ∀ (ws : List Nat) , ((List.range ws.length).map fun i => ((ws.getD i 0 : Nat) : Int) * b2i (L.testBit i)).sum = (wOf ws L : Int) := by
  intro ws
  unfold wOf
  rw [← natsum']
  congr 1
  apply List.ext_getElem
  · simp
  · intro i h1 h2
    simp at h1 ⊢
    simp only [h1, List.getElem?_eq_getElem, Option.getD_some]
    cases L.testBit i <;> simp [b2i]
section
variable {cl : Nat → List Vl → M D} (n x : Nat) (f : Nat → Bool) (ws : List Nat) (t : Bool) (hn : n < 16) (hw : ws.length = n)
include hn hw
theorem d178_l0_eq (L : Nat) (a5 a8 a10 : Sl) : evO cl d178_l0 (Ez n f x (lotD t ws) a5 (vD (bitsD L n)) a8 a10) = .ret (.fr (.lst ((List.range n).map fun i => .int (((ws.getD i 0 : Nat) : Int) * b2i (L.testBit i)))), Ez n f x (lotD t ws) a5 (vD (bitsD L n)) a8 a10) := by
  unfold d178_l0
  have hz : zipD (nL ws) ((List.range n).map fun i => .int (b2i (L.testBit i))) = (List.range n).map fun i => .tup [.int (ws.getD i 0 : Nat), .int (b2i (L.testBit i))] := by
    rw [nL_range n hn ws hw, zip_map]
  refine (lc_m (l := List.range n) (h := fun i => .tup [.int (ws.getD i 0 : Nat), .int (b2i (L.testBit i))]) (e1 := Ez n f x (lotD t ws) a5 (vD (bitsD L n)) a8 a10) (fun i => .int (((ws.getD i 0 : Nat) : Int) * b2i (L.testBit i))) ?_ rfl (by simp [cap]; omega) rfl ?_).trans ?_
  · cases t <;> simp [lotD, bitsD, hz]
  · intro i hi
    have q := bnd_b2i (L.testBit i)
    simp [q]
  · rfl
end
theorem law_paper_eq {Φ : Tab} (h154 : Φ 154 = some d154_law_bits) (h : Φ 178 = some d178_law_paper) (k n x : Nat) (f : Nat → Bool) (ws : List Nat) (t : Bool) (hn : n < 16) (hx : x < 2 ^ n) (hw : ws.length = n) :
    run Φ (k + 2) 178 [.d (.int n), .d (.tup (tabD n f)), .d (.int x), .d (lotD t ws)] = .ret (.int (paper n f ws x)) := by
  have h16 := pow16 hn
  have e5 : evO (run Φ (k + 1)) d178_l5 [vI n, vD (.tup (tabD n f)), vI x, vD (lotD t ws), .u, .u, .u, .u, .u, .u, .u, .u, .u, .u] = .ret (.fr (.lst (rowsL n)), [vI n, vD (.tup (tabD n f)), vI x, vD (lotD t ws), .u, .u, .u, .u, .u, .u, .u, .u, .u, .u]) := by
    unfold d178_l5
    refine (lc_m (l := List.range (2 ^ n)) (h := fun i : Nat => D.int (i : Int)) (e1 := [vI n, vD (.tup (tabD n f)), vI x, vD (lotD t ws), .u, .u, .u, .u, .u, .u, .u, .u, .u, .u]) (fun y => bitsD y n) (it_rg1 (m := ((tabD n f).length : Nat)) (by simp) (by rw [tabD_len]) (by omega)) rfl (by simp [cap]; omega) rfl ?_).trans ?_
    · intro y _
      have e := law_bits_eq h154 k y n (by omega)
      simp [e]
    · rfl
  obtain ⟨e, h1, a7, a8, a10, rfl⟩ := evS_fr (cl := run Φ (k + 1)) (g := .nm 7) (it := .seq (.v 4)) (b := d178_b0) (env := [vI n, vD (.tup (tabD n f)), vI x, vD (lotD t ws), .ow (.lst (rowsL n)), .ow (.lst []), .u, .u, .u, .u, .u, .u, .u, .u]) (e1 := Ez n f x (lotD t ws) (.ow (.lst [])) .u .u .u)
    (fun y => bitsD y n) (fun j e => ∃ a7 a8 a10, e = Ez n f x (lotD t ws) (.ow (.lst (nL (((List.range j).filter (isCert n f x)).map (wOf ws))))) a7 a8 a10) (List.range (2 ^ n))
    (by simp [rowsL]) ⟨.u, .u, .u, rfl⟩ (by
    rintro j L env ha ⟨a7, a8, a10, rfl⟩
    rw [List.getElem?_eq_some_iff] at ha
    obtain ⟨hj, rfl⟩ := ha
    rw [List.length_range] at hj
    rw [List.getElem_range]
    have hl : ((List.range j).filter (isCert n f x)).length < 1000000 := Nat.lt_of_le_of_lt (List.length_filter_le _ _) (by simp; omega)
    rw [List.range_succ, List.filter_append, List.map_append, nL_app]
    generalize hT : nL (((List.range j).filter (isCert n f x)).map (wOf ws)) = P
    have hP : P.length < 1000000 := by rw [← hT, nL_len, List.length_map]; exact hl
    have e4 := d178_l4_eq (cl := run Φ (k + 1)) n x f (lotD t ws) hn j (.ow (.lst P)) a8 a10
    have e3 := d178_l3_eq (cl := run Φ (k + 1)) n x f (lotD t ws) hn hx j (.ow (.lst P)) (vD (bitsD j n)) a10 (.ow (.lst (nL (onL n j)))) (.inl rfl)
    have e0 := d178_l0_eq (cl := run Φ (k + 1)) n x f ws t hn hw j (.ow (.lst P)) (vD (.lst (nL (onL n j)))) (.ow (.lst (((List.range (2 ^ n)).filter fun y => alike n j x y).map fun y => .int (b2i (f y)))))
    have hm : ((List.range (2 ^ n)).filter fun y => alike n j x y).length ≤ 1000000 := Nat.le_trans (List.length_filter_le _ _) (by simp; omega)
    have hc : decide (((List.range (2 ^ n)).filter fun y => alike n j x y).map (fun y => b2i (f y)) = ((List.range (2 ^ n)).filter fun y => alike n j x y).map (fun _ => b2i (f x))) = isCert n f x j := by
      unfold isCert
      generalize (List.range (2 ^ n)).filter (fun y => alike n j x y) = l
      induction l with
      | nil => rfl
      | cons a l ih =>
        rw [List.all_cons, ← ih]
        simp only [List.map_cons, List.cons.injEq]
        cases f a <;> cases f x <;> simp [b2i]
    have ec := eq_ints (fun y => b2i (f y)) (fun _ => b2i (f x)) ((List.range (2 ^ n)).filter fun y => alike n j x y) ((List.range (2 ^ n)).filter fun y => alike n j x y)
    rw [hc] at ec
    have hrep : rep ((List.range (2 ^ n)).filter fun y => alike n j x y).length [.int (b2i (f x))] = ((List.range (2 ^ n)).filter fun y => alike n j x y).map fun _ => .int (b2i (f x)) := by rw [rep_one, List.map_const']
    have g2 := tabD_get n f x hx
    have hs := wOf_range j ws
    rw [hw] at hs
    have ht := toInts_map (fun i => ((ws.getD i 0 : Nat) : Int) * b2i (j.testBit i)) (List.range n)
    generalize (List.range (2 ^ n)).filter (fun y => alike n j x y) = M1 at e3 e0 hm ec hrep
    refine ⟨_, Ez n f x (lotD t ws) (.ow (.lst (P ++ nL (([j].filter (isCert n f x)).map (wOf ws))))) (vD (bitsD j n)) (vD (.lst (nL (onL n j)))) (.ow (.lst (M1.map fun y => .int (b2i (f y))))), rfl, ?_, _, _, _, rfl⟩
    unfold d178_b0
    refine nx_st (e1 := Ez n f x (lotD t ws) (.ow (.lst P)) (vD (bitsD j n)) (.ow (.lst (nL (onL n j)))) a10) (by simp [e4]) ?_
    refine nx_st (e1 := Ez n f x (lotD t ws) (.ow (.lst P)) (vD (bitsD j n)) (vD (.lst (nL (onL n j)))) (.ow (.lst (M1.map fun y => .int (b2i (f y)))))) (by simp [e3]) ?_
    cases hcc : isCert n f x j with
    | true =>
      rw [hcc] at ec
      have : nL (([j].filter (isCert n f x)).map (wOf ws)) = [.int (wOf ws j)] := by simp [List.filter_cons, hcc, nL]
      rw [this]
      simp [g2, hm, hrep, ec, e0, ht, hs, hP, -c_eql, -List.getD_eq_getElem?_getD]
    | false =>
      rw [hcc] at ec
      have : nL (([j].filter (isCert n f x)).map (wOf ws)) = [] := by simp [List.filter_cons, hcc, nL]
      rw [this]
      simp [g2, hm, hrep, ec, -c_eql])
  rw [List.length_range] at *
  have hm := q_min1N _ (certs_ne n f ws x hx)
  refine run_rets h rfl [vI n, vD (.tup (tabD n f)), vI x, vD (lotD t ws), .u, .u, .u, .u, .u, .u, .u, .u, .u, .u] rfl (Rets.st (e1 := [vI n, vD (.tup (tabD n f)), vI x, vD (lotD t ws), .ow (.lst (rowsL n)), .ow (.lst []), .u, .u, .u, .u, .u, .u, .u, .u]) (by simp [e5]) (Rets.st h1 (Rets.ret ?_)))
  simp only [certs] at hm
  simp [hm, paper, certs]
end Bq

set_option Elab.async false
set_option linter.all false
set_option maxRecDepth 100000
/-! Sums over 0 .. n - 1. -/
namespace Bq
def Sm (n : Nat) (g : Nat → Nat) : Nat := ((List.range n).map g).sum
theorem Sm_0 (g : Nat → Nat) : Sm 0 g = 0 := rfl
theorem Sm_s (n : Nat) (g : Nat → Nat) : Sm (n + 1) g = Sm n g + g n := by
  unfold Sm
  rw [List.range_succ, List.map_append, List.sum_append]
  simp
theorem Sm_congr {n : Nat} {g h : Nat → Nat} (e : ∀ i, i < n → g i = h i) : Sm n g = Sm n h := by
  induction n with
  | zero => rfl
  | succ n ih => rw [Sm_s, Sm_s, ih fun i hi => e i (by omega), e n (by omega)]
theorem Sm_add (n : Nat) (g h : Nat → Nat) : Sm n (fun i => g i + h i) = Sm n g + Sm n h := by
  induction n with
  | zero => rfl
  | succ n ih => rw [Sm_s, Sm_s, Sm_s, ih]; omega
theorem Sm_zero (n : Nat) : Sm n (fun _ => 0) = 0 := by
  induction n with
  | zero => rfl
  | succ n ih => rw [Sm_s, ih]
theorem Sm_swap (n m : Nat) (g : Nat → Nat → Nat) : Sm n (fun i => Sm m (g i)) = Sm m fun j => Sm n fun i => g i j := by
  induction n with
  | zero => simp only [Sm_0]; rw [Sm_zero]
  | succ n ih =>
    rw [Sm_s, ih, ← Sm_add]
    apply Sm_congr
    intro j _
    rw [Sm_s]
theorem Sm_single (n c v : Nat) (h : c < n) : Sm n (fun i => if i = c then v else 0) = v := by
  induction n with
  | zero => omega
  | succ n ih =>
    rw [Sm_s]
    by_cases e : n = c
    · subst e
      have : Sm n (fun i => if i = n then v else 0) = 0 := by
        rw [Sm_congr (h := fun _ => 0) fun i hi => if_neg (by omega), Sm_zero]
      rw [this]
      simp
    · rw [ih (by omega)]
      simp [e]
theorem Sm_le {n : Nat} {g h : Nat → Nat} (e : ∀ i, i < n → g i ≤ h i) : Sm n g ≤ Sm n h := by
  induction n with
  | zero => exact Nat.le_refl _
  | succ n ih =>
    rw [Sm_s, Sm_s]
    have := ih fun i hi => e i (by omega)
    have := e n (by omega)
    omega
theorem Sm_mul (n c : Nat) (g : Nat → Nat) : Sm n (fun i => c * g i) = c * Sm n g := by
  induction n with
  | zero => rfl
  | succ n ih => rw [Sm_s, Sm_s, ih, Nat.mul_add]
theorem Sm_filter (n : Nat) (p : Nat → Bool) (g : Nat → Nat) : (((List.range n).filter p).map g).sum = Sm n fun i => if p i then g i else 0 := by
  induction n with
  | zero => rfl
  | succ n ih =>
    rw [List.range_succ, List.filter_append, List.map_append, List.sum_append, ih, Sm_s]
    cases h : p n <;> simp [List.filter_cons, h]
end Bq

set_option Elab.async false
set_option linter.all false
set_option maxRecDepth 100000
/-! Equations: the law's changes. -/
namespace Bq
open PySem (Str)
def unl (n x y : Nat) : List Nat := (List.range n).filter fun i => y.testBit i != x.testBit i
def cntY (n : Nat) (f : Nat → Bool) (ws : List Nat) (x y : Nat) : Nat := if (unl n x y).length = 1 ∧ f y ≠ f x then ws.getD ((unl n x y).getD 0 0) 0 else 0
theorem unl_flip {n x y i : Nat} (hx : x < 2 ^ n) (hy : y < 2 ^ n) : (unl n x y = [i] ↔ (i < n ∧ y = flip x i)) := by
  constructor
  · intro h
    have hm : i ∈ unl n x y := by rw [h]; simp
    have hi : i < n := by simp [unl] at hm; exact hm.1
    have hi2 : y.testBit i ≠ x.testBit i := by simp [unl] at hm; exact hm.2
    refine ⟨hi, bits_eq hy (flip_lt hx hi) fun j hj => ?_⟩
    rw [flip_bit]
    by_cases e : i = j
    · subst e
      revert hi2
      cases y.testBit i <;> cases x.testBit i <;> simp
    · simp only [e, decide_false, Bool.xor_false]
      by_cases e2 : y.testBit j = x.testBit j
      · exact e2
      · have : j ∈ unl n x y := by simp [unl, hj, e2]
        rw [h] at this
        simp at this
        exact absurd this.symm e
  · rintro ⟨hi, rfl⟩
    have : unl n x (flip x i) = (List.range n).filter fun j => decide (j = i) := by
      unfold unl
      apply List.filter_congr
      intro j _
      rw [flip_bit]
      by_cases e : i = j
      · subst e; simp
      · have e2 : ¬ j = i := fun h => e h.symm
        simp [e, e2]
    rw [this]
    clear this hy
    induction n with
    | zero => omega
    | succ n ih =>
      rw [List.range_succ, List.filter_append]
      by_cases e : n = i
      · subst e
        have : (List.range n).filter (fun j => decide (j = n)) = [] := by
          rw [List.filter_eq_nil_iff]
          intro a ha
          rw [List.mem_range] at ha
          simp; omega
        rw [this]
        simp
      · have e0 : [n].filter (fun j => decide (j = i)) = [] := by simp [e]
        rw [e0, List.append_nil]
        have hi2 : i < n := by omega
        clear ih hx
        have key : ∀ m, i < m → (List.range m).filter (fun j => decide (j = i)) = [i] := by
          intro m
          induction m with
          | zero => intro h; omega
          | succ m ih =>
            intro h
            rw [List.range_succ, List.filter_append]
            by_cases e : m = i
            · subst e
              have : (List.range m).filter (fun j => decide (j = m)) = [] := by
                rw [List.filter_eq_nil_iff]
                intro a ha
                rw [List.mem_range] at ha
                simp; omega
              rw [this]
              simp
            · rw [ih (by omega)]
              simp [e]
        exact key n hi2
theorem cntY_sum {n : Nat} (f : Nat → Bool) (ws : List Nat) {x y : Nat} (hx : x < 2 ^ n) (hy : y < 2 ^ n) : cntY n f ws x y = Sm n fun i => if y = flip x i then (if f x != f (flip x i) then ws.getD i 0 else 0) else 0 := by
  unfold cntY
  by_cases h : ∃ i, unl n x y = [i]
  · obtain ⟨i, hi⟩ := h
    obtain ⟨h1, h2⟩ := (unl_flip hx hy).mp hi
    have e : Sm n (fun j => if y = flip x j then (if f x != f (flip x j) then ws.getD j 0 else 0) else 0) = Sm n fun j => if j = i then (if f x != f y then ws.getD i 0 else 0) else 0 := by
      apply Sm_congr
      intro j hj
      by_cases e : j = i
      · subst e
        rw [if_pos h2, if_pos rfl, h2]
      · rw [if_neg e, if_neg]
        intro h3
        have := (unl_flip hx hy).mpr ⟨hj, h3⟩
        rw [hi] at this
        simp at this
        exact e this.symm
    rw [e, Sm_single n i _ h1, hi]
    simp only [List.length_singleton, true_and, List.getD_cons_zero]
    by_cases e2 : f y = f x
    · simp [e2]
    · have e3 : ¬ f x = f y := fun h => e2 h.symm
      simp [e2, e3]
  · have h0 : ¬ (unl n x y).length = 1 := by
      intro h1
      apply h
      obtain ⟨a, ha⟩ := List.length_eq_one_iff.mp h1
      exact ⟨a, ha⟩
    rw [if_neg (fun h => h0 h.1)]
    rw [Sm_congr (h := fun _ => 0) fun i hi => if_neg fun e => h ⟨i, (unl_flip hx hy).mpr ⟨hi, e⟩⟩, Sm_zero]
theorem cntY_wch {n : Nat} (f : Nat → Bool) (ws : List Nat) {x : Nat} (hx : x < 2 ^ n) : Sm (2 ^ n) (cntY n f ws x) = wch n f ws x := by
  rw [Sm_congr (fun y hy => cntY_sum f ws hx hy), Sm_swap]
  unfold wch
  rw [Sm_filter]
  apply Sm_congr
  intro i hi
  exact Sm_single (2 ^ n) (flip x i) _ (flip_lt hx hi)
abbrev Ey (n : Nat) (f : Nat → Bool) (x : Nat) (W : D) (a5 a6 a7 a8 : Sl) : Env := [vI n, vD (.tup (tabD n f)), vI x, vD W, vD (.lst (rowsL n)), a5, a6, a7, a8, .u]
theorem d179_l0_eq {cl : Nat → List Vl → M D} (n x y : Nat) (f : Nat → Bool) (W : D) (hn : n < 16) (hx : x < 2 ^ n) (a5 a6 a8 : Sl) : evO cl d179_l0 (Ey n f x W a5 a6 (vD (bitsD y n)) a8) = .ret (.fr (.lst (nL (unl n x y))), Ey n f x W a5 a6 (vD (bitsD y n)) a8) := by
  unfold d179_l0
  refine (lc_f (l := List.range n) (h := fun i : Nat => D.int (i : Int)) (e1 := Ey n f x W a5 a6 (vD (bitsD y n)) a8) (fun i : Nat => D.int (i : Int)) (fun i => y.testBit i != x.testBit i) (it_rg1 (by simp) rfl (by omega)) rfl (by simp [cap]; omega) rfl ?_).trans ?_
  · intro i hi
    rw [List.mem_range] at hi
    have g := row_get y hi
    have g3 := row_get x hi
    have g2 := rows_get hx
    simp [bitsD, g, g2, g3, b2i_ne, -List.getElem?_map]
  · rfl
theorem law_changes_eq {Φ : Tab} (h154 : Φ 154 = some d154_law_bits) (h : Φ 179 = some d179_law_changes) (k n x : Nat) (f : Nat → Bool) (ws : List Nat) (t : Bool) (hn : n < 16) (hx : x < 2 ^ n) (hw : ws.length = n) :
    run Φ (k + 2) 179 [.d (.int n), .d (.tup (tabD n f)), .d (.int x), .d (lotD t ws)] = .ret (.int (wch n f ws x)) := by
  have h16 := pow16 hn
  have e1 : evO (run Φ (k + 1)) d179_l1 [vI n, vD (.tup (tabD n f)), vI x, vD (lotD t ws), .u, .u, .u, .u, .u, .u] = .ret (.fr (.lst (rowsL n)), [vI n, vD (.tup (tabD n f)), vI x, vD (lotD t ws), .u, .u, .u, .u, .u, .u]) := by
    unfold d179_l1
    refine (lc_m (l := List.range (2 ^ n)) (h := fun i : Nat => D.int (i : Int)) (e1 := [vI n, vD (.tup (tabD n f)), vI x, vD (lotD t ws), .u, .u, .u, .u, .u, .u]) (fun y => bitsD y n) (it_rg1 (m := ((tabD n f).length : Nat)) (by simp) (by rw [tabD_len]) (by omega)) rfl (by simp [cap]; omega) rfl ?_).trans ?_
    · intro y _
      have e := law_bits_eq h154 k y n (by omega)
      simp [e]
    · rfl
  have hen : enumD 0 (rowsL n) = (List.range (2 ^ n)).map fun y => .tup [.int y, bitsD y n] := enumD_range _ _
  obtain ⟨e, h1, a5, a7, a8, rfl⟩ := evS_fr (cl := run Φ (k + 1)) (g := .tp [(.nm 5), (.nm 7)]) (it := .enu (.v 4)) (b := d179_b0) (env := [vI n, vD (.tup (tabD n f)), vI x, vD (lotD t ws), .ow (.lst (rowsL n)), .u, vI 0, .u, .u, .u]) (e1 := Ey n f x (lotD t ws) .u (vI 0) .u .u)
    (fun y : Nat => D.tup [.int y, bitsD y n]) (fun j e => ∃ a5 a7 a8, e = Ey n f x (lotD t ws) a5 (vI (Sm j (cntY n f ws x) : Nat)) a7 a8) (List.range (2 ^ n))
    (by simp [hen]) ⟨.u, .u, .u, rfl⟩ (by
    rintro j y env ha ⟨a5, a7, a8, rfl⟩
    rw [List.getElem?_eq_some_iff] at ha
    obtain ⟨hj, rfl⟩ := ha
    rw [List.length_range] at hj
    rw [List.getElem_range]
    generalize hS : Sm j (cntY n f ws x) = s
    have e0 := d179_l0_eq (cl := run Φ (k + 1)) n x j f (lotD t ws) hn hx (vI j) (vI s) a8
    refine ⟨_, Ey n f x (lotD t ws) (vI j) (vI (Sm (j + 1) (cntY n f ws x) : Nat)) (vD (bitsD j n)) (.ow (.lst (nL (unl n x j)))), rfl, ?_, _, _, _, rfl⟩
    rw [Sm_s, hS]
    unfold d179_b0
    refine nx_st (e1 := Ey n f x (lotD t ws) (vI j) (vI s) (vD (bitsD j n)) (.ow (.lst (nL (unl n x j))))) (by simp [e0]) ?_
    have g1 := tabD_get n f x hx
    have g2 := tabD_get n f j hj
    unfold cntY
    by_cases c1 : (unl n x j).length = 1
    · obtain ⟨i, hi⟩ := List.length_eq_one_iff.mp c1
      have hin : i < n := ((unl_flip hx hj).mp hi).1
      have gw : ws[i]? = some (ws.getD i 0) := getD_some' (by omega)
      rw [hi]
      generalize hv : ws.getD i 0 = v at gw
      by_cases c2 : f j = f x
      · simp [nL, g1, g2, c2, b2i_ne]
      · have c3 : (f j != f x) = true := by simpa using c2
        cases t <;> simp [nL, g1, g2, c2, c3, b2i_ne, lotD, gw, hv]
    · have c1' : ((unl n x j).length : Int) ≠ 1 := by omega
      simp [c1, c1'])
  rw [List.length_range, cntY_wch f ws hx] at h1
  exact run_rets h rfl [vI n, vD (.tup (tabD n f)), vI x, vD (lotD t ws), .u, .u, .u, .u, .u, .u] rfl (Rets.st (e1 := [vI n, vD (.tup (tabD n f)), vI x, vD (lotD t ws), .ow (.lst (rowsL n)), .u, .u, .u, .u, .u]) (by simp [e1]) (Rets.st (e1 := [vI n, vD (.tup (tabD n f)), vI x, vD (lotD t ws), .ow (.lst (rowsL n)), .u, vI 0, .u, .u, .u]) (by simp) (Rets.st h1 (Rets.ret (by simp)))))
end Bq

set_option Elab.async false
set_option linter.all false
set_option maxRecDepth 100000
/-! Plain laws: papers and changes of what is put in. -/
namespace Bq
/-! ### blocks of bits -/
theorem flip_mod {x i a : Nat} (h : i < a) : flip x i % 2 ^ a = flip (x % 2 ^ a) i := by
  apply Nat.eq_of_testBit_eq
  intro j
  rw [flip_bit, Nat.testBit_mod_two_pow, Nat.testBit_mod_two_pow, flip_bit]
  by_cases hj : j < a
  · simp [hj]
  · have : ¬ i = j := by omega
    simp [hj, this]
theorem flip_div {x i a : Nat} (h : i < a) : flip x i / 2 ^ a = x / 2 ^ a := by
  apply Nat.eq_of_testBit_eq
  intro j
  rw [Nat.testBit_div_two_pow, Nat.testBit_div_two_pow, flip_bit]
  have : ¬ i = j + a := by omega
  simp [this]
theorem flip_mod' (x a j : Nat) : flip x (a + j) % 2 ^ a = x % 2 ^ a := by
  apply Nat.eq_of_testBit_eq
  intro k
  rw [Nat.testBit_mod_two_pow, Nat.testBit_mod_two_pow, flip_bit]
  by_cases hk : k < a
  · have : ¬ a + j = k := by omega
    simp [this]
  · simp [hk]
theorem flip_div' (x a j : Nat) : flip x (a + j) / 2 ^ a = flip (x / 2 ^ a) j := by
  apply Nat.eq_of_testBit_eq
  intro k
  rw [Nat.testBit_div_two_pow, flip_bit, flip_bit, Nat.testBit_div_two_pow]
  by_cases h : j = k
  · subst h
    simp [Nat.add_comm]
  · have : ¬ a + j = k + a := by omega
    simp [h, this]
/-- a bit ahead of others -/
def bz (c : Bool) (u : Nat) : Nat := (if c then 1 else 0) + 2 * u
theorem bz_0 (c : Bool) (u : Nat) : (bz c u).testBit 0 = c := by
  unfold bz
  rw [Nat.testBit_zero]
  cases c <;> simp <;> omega
theorem bz_s (c : Bool) (u k : Nat) : (bz c u).testBit (k + 1) = u.testBit k := by
  unfold bz
  rw [Nat.testBit_succ]
  congr 1
  split <;> omega
theorem bz_div (c : Bool) (u : Nat) : bz c u / 2 = u := by unfold bz; split <;> omega
theorem bz_of (x : Nat) : bz (x.testBit 0) (x / 2) = x := by
  unfold bz
  rw [Nat.testBit_zero]
  by_cases h : x % 2 = 1
  · simp [h]; omega
  · simp [h]; omega
theorem flip_bz0 (c : Bool) (u : Nat) : flip (bz c u) 0 = bz (!c) u := by
  apply Nat.eq_of_testBit_eq
  intro j
  rw [flip_bit]
  cases j with
  | zero => rw [bz_0, bz_0]; simp
  | succ j => rw [bz_s, bz_s]; simp
theorem flip_bzs (c : Bool) (u k : Nat) : flip (bz c u) (k + 1) = bz c (flip u k) := by
  apply Nat.eq_of_testBit_eq
  intro j
  rw [flip_bit]
  cases j with
  | zero => rw [bz_0, bz_0]; simp
  | succ j => rw [bz_s, bz_s, flip_bit]; simp
theorem zO_cons (g : Gn) (r : List Gn) (x : Nat) : zO (g :: r) x = bz (g.2 (x % 2 ^ g.1)) (zO r (x / 2 ^ g.1)) := rfl
theorem tot_cons (g : Gn) (r : List Gn) : tot (g :: r) = g.1 + tot r := by simp [tot]
theorem Sm_split (a b : Nat) (g : Nat → Nat) : Sm (a + b) g = Sm a g + Sm b fun j => g (a + j) := by
  induction b with
  | zero => simp [Sm_0]
  | succ b ih => rw [← Nat.add_assoc, Sm_s, Sm_s, ih]; omega
theorem Sm_head (n : Nat) (g : Nat → Nat) : Sm (n + 1) g = g 0 + Sm n fun i => g (i + 1) := by
  rw [Nat.add_comm, Sm_split]
  congr 1
  apply Sm_congr
  intro i _
  rw [Nat.add_comm]
/-! ### changes -/
theorem wch_sum (n : Nat) (f : Nat → Bool) (ws : List Nat) (x : Nat) : wch n f ws x = Sm n fun i => if f x != f (flip x i) then ws.getD i 0 else 0 := by
  unfold wch
  exact Sm_filter ..
def ones (n : Nat) : List Nat := List.replicate n 1
theorem ones_get {n i : Nat} (h : i < n) : (ones n).getD i 0 = 1 := by simp [ones, h]
/-- the changes of the parts at x -/
def cps : List Gn → Nat → List Nat
  | [], _ => []
  | g :: r, x => wch g.1 g.2 (ones g.1) (x % 2 ^ g.1) :: cps r (x / 2 ^ g.1)
theorem cps_len : ∀ (gs : List Gn) (x : Nat), (cps gs x).length = gs.length
  | [], _ => rfl
  | g :: r, x => by simp [cps, cps_len r]
theorem changes_put : ∀ (gs : List Gn) (F : Nat → Bool) (x : Nat), wch (tot gs) (fun y => F (zO gs y)) (ones (tot gs)) x = wch gs.length F (cps gs x) (zO gs x)
  | [], F, x => by rw [wch_sum, wch_sum]; rfl
  | g :: r, F, x => by
    have ih := changes_put r (fun u => F (bz (g.2 (x % 2 ^ g.1)) u)) (x / 2 ^ g.1)
    rw [wch_sum, wch_sum] at ih
    rw [wch_sum, wch_sum, List.length_cons, Sm_head, tot_cons, Sm_split]
    congr 1
    · have e : ∀ i, i < g.1 → (if (F (zO (g :: r) x) != F (zO (g :: r) (flip x i))) = true then (ones (g.1 + tot r)).getD i 0 else 0) = (if (F (zO (g :: r) x) != F (flip (zO (g :: r) x) 0)) = true then 1 else 0) * (if (g.2 (x % 2 ^ g.1) != g.2 (flip (x % 2 ^ g.1) i)) = true then (ones g.1).getD i 0 else 0) := by
        intro i hi
        rw [ones_get hi, ones_get (show i < g.1 + tot r by omega), zO_cons, zO_cons, flip_mod hi, flip_div hi, flip_bz0]
        cases h1 : g.2 (x % 2 ^ g.1) <;> cases h2 : g.2 (flip (x % 2 ^ g.1) i) <;> simp
      rw [Sm_congr e, Sm_mul, ← wch_sum]
      show _ = if (F (zO (g :: r) x) != F (flip (zO (g :: r) x) 0)) = true then (cps (g :: r) x).getD 0 0 else 0
      show _ = if (F (zO (g :: r) x) != F (flip (zO (g :: r) x) 0)) = true then wch g.1 g.2 (ones g.1) (x % 2 ^ g.1) else 0
      split <;> simp
    · have e : ∀ j, j < tot r → (if (F (zO (g :: r) x) != F (zO (g :: r) (flip x (g.1 + j)))) = true then (ones (g.1 + tot r)).getD (g.1 + j) 0 else 0) = (if (F (bz (g.2 (x % 2 ^ g.1)) (zO r (x / 2 ^ g.1))) != F (bz (g.2 (x % 2 ^ g.1)) (zO r (flip (x / 2 ^ g.1) j)))) = true then (ones (tot r)).getD j 0 else 0) := by
        intro j hj
        rw [ones_get hj, ones_get (show g.1 + j < g.1 + tot r by omega), zO_cons, zO_cons, flip_mod', flip_div']
      rw [Sm_congr e, ih]
      apply Sm_congr
      intro i _
      rw [zO_cons, flip_bzs]
      rfl
/-! ### papers -/
theorem alike_iff {n L x y : Nat} : alike n L x y = true ↔ ∀ i, i < n → L.testBit i = true → x.testBit i = y.testBit i := by
  simp only [alike, List.all_eq_true, List.mem_filter, List.mem_range, beq_iff_eq]
  exact ⟨fun h i a b => h i ⟨a, b⟩, fun h i ⟨a, b⟩ => h i a b⟩
theorem isCert_iff {n : Nat} {f : Nat → Bool} {x L : Nat} : isCert n f x L = true ↔ ∀ y, y < 2 ^ n → alike n L x y = true → f y = f x := by
  simp only [isCert, List.all_eq_true, List.mem_filter, List.mem_range, beq_iff_eq]
  exact ⟨fun h y a b => h y ⟨a, b⟩, fun h y ⟨a, b⟩ => h y a b⟩
theorem alike_split {a n L x y : Nat} : alike (a + n) L x y = true ↔ alike a (L % 2 ^ a) (x % 2 ^ a) (y % 2 ^ a) = true ∧ alike n (L / 2 ^ a) (x / 2 ^ a) (y / 2 ^ a) = true := by
  simp only [alike_iff, Nat.testBit_mod_two_pow, Nat.testBit_div_two_pow]
  constructor
  · intro h
    refine ⟨fun i hi hL => ?_, fun i hi hL => h (i + a) (by omega) hL⟩
    simp only [hi, decide_true, Bool.true_and] at hL ⊢
    exact h i (by omega) hL
  · rintro ⟨h1, h2⟩ i hi hL
    by_cases c : i < a
    · have := h1 i c (by simp [c, hL])
      simpa [c] using this
    · have := h2 (i - a) (by omega) (by rw [Nat.sub_add_cancel (by omega)]; exact hL)
      rwa [Nat.sub_add_cancel (by omega)] at this
theorem alike_bz {m S : Nat} {c d : Bool} {u v : Nat} : alike (m + 1) S (bz c u) (bz d v) = true ↔ (S.testBit 0 = true → c = d) ∧ alike m (S / 2) u v = true := by
  simp only [alike_iff]
  constructor
  · intro h
    refine ⟨fun hS => ?_, fun i hi hS => ?_⟩
    · have := h 0 (by omega) hS
      rwa [bz_0, bz_0] at this
    · have := h (i + 1) (by omega) (by rw [Nat.testBit_succ]; exact hS)
      rwa [bz_s, bz_s] at this
  · rintro ⟨h1, h2⟩ i hi hS
    cases i with
    | zero => rw [bz_0, bz_0]; exact h1 hS
    | succ i => rw [bz_s, bz_s]; exact h2 i (by omega) (by rw [← Nat.testBit_succ]; exact hS)
theorem wOf_sum (ws : List Nat) (L : Nat) : wOf ws L = Sm ws.length fun i => if L.testBit i then ws.getD i 0 else 0 := by
  unfold wOf Sm
  congr 1
  apply List.ext_getElem
  · simp
  · intro i h1 h2
    simp at h1 ⊢
    simp [h1]
theorem wOf_cons (w : Nat) (ws : List Nat) (S : Nat) : wOf (w :: ws) S = (if S.testBit 0 then w else 0) + wOf ws (S / 2) := by
  rw [wOf_sum, wOf_sum, List.length_cons, Sm_head]
  congr 1
  apply Sm_congr
  intro i _
  rw [Nat.testBit_succ]
  rfl
theorem pop_split (a n L : Nat) : wOf (ones (a + n)) L = wOf (ones a) (L % 2 ^ a) + wOf (ones n) (L / 2 ^ a) := by
  have l : ∀ n, (ones n).length = n := fun n => by simp [ones]
  rw [wOf_sum, wOf_sum, wOf_sum, l, l, l, Sm_split]
  congr 1
  · apply Sm_congr
    intro i hi
    rw [ones_get hi, ones_get (show i < a + n by omega), Nat.testBit_mod_two_pow]
    simp [hi]
  · apply Sm_congr
    intro i hi
    rw [ones_get hi, ones_get (show a + i < a + n by omega), Nat.testBit_div_two_pow, Nat.add_comm]
theorem paper_le {n : Nat} {f : Nat → Bool} {ws : List Nat} {x L : Nat} (hL : L < 2 ^ n) (h : isCert n f x L = true) : paper n f ws x ≤ wOf ws L :=
  minN_le _ _ (List.mem_map_of_mem (by simp only [certs, List.mem_filter, List.mem_range]; exact ⟨hL, h⟩))
theorem paper_at {n : Nat} (f : Nat → Bool) (ws : List Nat) {x : Nat} (hx : x < 2 ^ n) : ∃ L, L < 2 ^ n ∧ isCert n f x L = true ∧ wOf ws L = paper n f ws x := by
  have := minN_mem _ (certs_ne n f ws x hx)
  rw [List.mem_map] at this
  obtain ⟨L, h1, h2⟩ := this
  simp only [certs, List.mem_filter, List.mem_range] at h1
  exact ⟨L, h1.1, h1.2, h2⟩
/-- the papers of the parts at x -/
def pps : List Gn → Nat → List Nat
  | [], _ => []
  | g :: r, x => paper g.1 g.2 (ones g.1) (x % 2 ^ g.1) :: pps r (x / 2 ^ g.1)
theorem pps_len : ∀ (gs : List Gn) (x : Nat), (pps gs x).length = gs.length
  | [], _ => rfl
  | g :: r, x => by simp [pps, pps_len r]
/-- which parts are told by a lot -/
def scL : List Gn → Nat → Nat → Nat
  | [], _, _ => 0
  | g :: r, x, L => bz (isCert g.1 g.2 (x % 2 ^ g.1) (L % 2 ^ g.1)) (scL r (x / 2 ^ g.1) (L / 2 ^ g.1))
theorem bz_lt {m u : Nat} (c : Bool) (h : u < 2 ^ m) : bz c u < 2 ^ (m + 1) := by unfold bz; rw [Nat.pow_succ]; split <;> omega
theorem scL_lt : ∀ (gs : List Gn) (x L : Nat), scL gs x L < 2 ^ gs.length
  | [], _, _ => by simp [scL]
  | g :: r, x, L => bz_lt _ (scL_lt r _ _)
theorem scL_w : ∀ (gs : List Gn) (x L : Nat), wOf (pps gs x) (scL gs x L) ≤ wOf (ones (tot gs)) L
  | [], x, L => by simp [pps, wOf]
  | g :: r, x, L => by
    rw [tot_cons, pop_split, pps, scL, wOf_cons, bz_0, bz_div]
    have := scL_w r (x / 2 ^ g.1) (L / 2 ^ g.1)
    have h0 : (if isCert g.1 g.2 (x % 2 ^ g.1) (L % 2 ^ g.1) = true then paper g.1 g.2 (ones g.1) (x % 2 ^ g.1) else 0) ≤ wOf (ones g.1) (L % 2 ^ g.1) := by
      split
      · rename_i h
        exact paper_le (Nat.mod_lt _ (Nat.pow_pos (by decide))) h
      · exact Nat.zero_le _
    omega
/-- any answers of the parts that a lot does not tell may come -/
theorem scL_real : ∀ (gs : List Gn) (x L z' : Nat), z' < 2 ^ gs.length → alike gs.length (scL gs x L) (zO gs x) z' = true → ∃ y, y < 2 ^ tot gs ∧ alike (tot gs) L x y = true ∧ zO gs y = z'
  | [], x, L, z', h, _ => ⟨0, by simp [tot], by rw [alike_iff]; intro i hi; simp [tot] at hi, by simp at h; rw [h]; rfl⟩
  | g :: r, x, L, z', h, ha => by
    have hp : 0 < 2 ^ g.1 := Nat.pow_pos (by decide)
    rw [← bz_of z', zO_cons, scL, List.length_cons, alike_bz, bz_0, bz_div] at ha
    obtain ⟨h1, h2⟩ := ha
    rw [List.length_cons, Nat.pow_succ] at h
    obtain ⟨y', hy', ha', hz'⟩ := scL_real r (x / 2 ^ g.1) (L / 2 ^ g.1) (z' / 2) (by omega) h2
    have hb : ∃ y0, y0 < 2 ^ g.1 ∧ alike g.1 (L % 2 ^ g.1) (x % 2 ^ g.1) y0 = true ∧ g.2 y0 = z'.testBit 0 := by
      by_cases c : g.2 (x % 2 ^ g.1) = z'.testBit 0
      · exact ⟨x % 2 ^ g.1, Nat.mod_lt _ hp, alike_iff.mpr fun _ _ _ => rfl, c⟩
      · have hn : ¬ isCert g.1 g.2 (x % 2 ^ g.1) (L % 2 ^ g.1) = true := fun e => c (h1 e)
        rw [isCert_iff] at hn
        simp only [Classical.not_forall] at hn
        obtain ⟨y0, a1, a2, a3⟩ := hn
        refine ⟨y0, a1, a2, ?_⟩
        revert a3 c
        cases g.2 y0 <;> cases g.2 (x % 2 ^ g.1) <;> cases z'.testBit 0 <;> simp
    obtain ⟨y0, b1, b2, b3⟩ := hb
    have m1 : (y0 + 2 ^ g.1 * y') % 2 ^ g.1 = y0 := by rw [Nat.add_mul_mod_self_left, Nat.mod_eq_of_lt b1]
    have m2 : (y0 + 2 ^ g.1 * y') / 2 ^ g.1 = y' := by rw [Nat.add_mul_div_left _ _ hp, Nat.div_eq_of_lt b1, Nat.zero_add]
    refine ⟨y0 + 2 ^ g.1 * y', ?_, ?_, ?_⟩
    · rw [tot_cons, Nat.pow_add]
      have : 2 ^ g.1 * (y' + 1) ≤ 2 ^ g.1 * 2 ^ tot r := Nat.mul_le_mul_left _ hy'
      rw [Nat.mul_add] at this
      omega
    · rw [tot_cons, alike_split, m1, m2]
      exact ⟨b2, ha'⟩
    · rw [zO_cons, m1, m2, b3, hz', bz_of]
/-- papers of parts, put together -/
noncomputable def bestC (n : Nat) (f : Nat → Bool) (x : Nat) : Nat := open Classical in if h : ∃ L, L < 2 ^ n ∧ isCert n f x L = true ∧ wOf (ones n) L = paper n f (ones n) x then h.choose else 0
theorem bestC_ok (n : Nat) (f : Nat → Bool) {x : Nat} (hx : x < 2 ^ n) : bestC n f x < 2 ^ n ∧ isCert n f x (bestC n f x) = true ∧ wOf (ones n) (bestC n f x) = paper n f (ones n) x := by
  have h := paper_at f (ones n) hx
  unfold bestC
  rw [dif_pos h]
  exact h.choose_spec
noncomputable def lcS : List Gn → Nat → Nat → Nat
  | [], _, _ => 0
  | g :: r, x, S => (if S.testBit 0 then bestC g.1 g.2 (x % 2 ^ g.1) else 0) + 2 ^ g.1 * lcS r (x / 2 ^ g.1) (S / 2)
theorem lcS_parts (g : Gn) (r : List Gn) (x S : Nat) : lcS (g :: r) x S % 2 ^ g.1 = (if S.testBit 0 then bestC g.1 g.2 (x % 2 ^ g.1) else 0) ∧ lcS (g :: r) x S / 2 ^ g.1 = lcS r (x / 2 ^ g.1) (S / 2) := by
  have hp : 0 < 2 ^ g.1 := Nat.pow_pos (by decide)
  have hb := (bestC_ok g.1 g.2 (Nat.mod_lt x hp)).1
  have : (if S.testBit 0 = true then bestC g.1 g.2 (x % 2 ^ g.1) else 0) < 2 ^ g.1 := by split <;> assumption
  simp only [lcS]
  exact ⟨by rw [Nat.add_mul_mod_self_left, Nat.mod_eq_of_lt this], by rw [Nat.add_mul_div_left _ _ hp, Nat.div_eq_of_lt this, Nat.zero_add]⟩
theorem lcS_lt : ∀ (gs : List Gn) (x S : Nat), lcS gs x S < 2 ^ tot gs
  | [], x, S => by simp [lcS, tot]
  | g :: r, x, S => by
    obtain ⟨h1, h2⟩ := lcS_parts g r x S
    have h3 := lcS_lt r (x / 2 ^ g.1) (S / 2)
    have hp : 0 < 2 ^ g.1 := Nat.pow_pos (by decide)
    rw [← h2] at h3
    rw [tot_cons, Nat.pow_add, Nat.mul_comm]
    exact (Nat.div_lt_iff_lt_mul hp).mp h3
theorem lcS_w : ∀ (gs : List Gn) (x S : Nat), wOf (ones (tot gs)) (lcS gs x S) = wOf (pps gs x) S
  | [], x, S => by simp [pps, wOf, tot, ones]
  | g :: r, x, S => by
    obtain ⟨h1, h2⟩ := lcS_parts g r x S
    have hp : 0 < 2 ^ g.1 := Nat.pow_pos (by decide)
    rw [tot_cons, pop_split, h1, h2, lcS_w r, pps, wOf_cons]
    congr 1
    split
    · exact (bestC_ok g.1 g.2 (Nat.mod_lt x hp)).2.2
    · rw [wOf_sum, Sm_congr (h := fun _ => 0) fun i _ => by simp, Sm_zero]
theorem lcS_alike : ∀ (gs : List Gn) (x S y : Nat), alike (tot gs) (lcS gs x S) x y = true → alike gs.length S (zO gs x) (zO gs y) = true
  | [], x, S, y, _ => by rw [alike_iff]; intro i hi; simp at hi
  | g :: r, x, S, y, h => by
    obtain ⟨h1, h2⟩ := lcS_parts g r x S
    have hp : 0 < 2 ^ g.1 := Nat.pow_pos (by decide)
    rw [tot_cons, alike_split, h1, h2] at h
    rw [List.length_cons, zO_cons, zO_cons, alike_bz]
    refine ⟨fun hS => ?_, lcS_alike r _ _ _ h.2⟩
    rw [if_pos hS] at h
    have := isCert_iff.mp (bestC_ok g.1 g.2 (Nat.mod_lt x hp)).2.1 (y % 2 ^ g.1) (Nat.mod_lt y hp) h.1
    exact this.symm
theorem papers_put (gs : List Gn) (F : Nat → Bool) {x : Nat} (hx : x < 2 ^ tot gs) : paper (tot gs) (fun y => F (zO gs y)) (ones (tot gs)) x = paper gs.length F (pps gs x) (zO gs x) := by
  apply Nat.le_antisymm
  · obtain ⟨S, s1, s2, s3⟩ := paper_at (n := gs.length) F (pps gs x) (zO_lt gs x)
    rw [← s3, ← lcS_w]
    refine paper_le (lcS_lt ..) (isCert_iff.mpr fun y hy ha => ?_)
    exact isCert_iff.mp s2 (zO gs y) (zO_lt gs y) (lcS_alike gs x S y ha)
  · obtain ⟨L, l1, l2, l3⟩ := paper_at (n := tot gs) (fun y => F (zO gs y)) (ones (tot gs)) hx
    rw [← l3]
    refine Nat.le_trans (paper_le (scL_lt gs x L) (isCert_iff.mpr fun z' hz' ha => ?_)) (scL_w gs x L)
    obtain ⟨y, y1, y2, y3⟩ := scL_real gs x L z' hz' ha
    rw [← y3]
    exact isCert_iff.mp l2 y y1 y2
theorem changes_le_paper {n : Nat} (f : Nat → Bool) (ws : List Nat) (hw : ws.length = n) {x : Nat} (hx : x < 2 ^ n) : wch n f ws x ≤ paper n f ws x := by
  obtain ⟨L, l1, l2, l3⟩ := paper_at f ws hx
  rw [← l3, wch_sum, wOf_sum, hw]
  apply Sm_le
  intro i hi
  by_cases c : f x = f (flip x i)
  · simp [c]
  · have : L.testBit i = true := by
      apply Classical.byContradiction
      intro hL
      apply c
      have := isCert_iff.mp l2 (flip x i) (flip_lt hx hi) (alike_iff.mpr fun j hj hj2 => by
        rw [flip_bit]
        by_cases e : i = j
        · subst e; exact absurd hj2 hL
        · simp [e])
      exact this.symm
    rw [this]
    simp
    split <;> simp
end Bq

set_option Elab.async false
set_option linter.all false
set_option maxRecDepth 100000
/-! What repr tells; bounds. -/
namespace Bq
open PySem (Str)
/-! ### repr is told -/
theorem shown_some {d : D} (h1 : plain d = true) (h2 : ints10 d = true) (h3 : dep d ≤ 150) (h4 : wid d ≤ 1000000) : ∃ s, shown d = some s := by
  unfold shown
  rw [if_pos (by simp [h1, h2, h3, h4])]
  exact ⟨_, rfl⟩
theorem log_lt {k : Nat} (h : k < 2 ^ 60) : k.log2 < 60 := by
  by_cases h0 : k = 0
  · subst h0; decide
  · exact (Nat.log2_lt h0).mpr h
theorem shown_int {k : Nat} (h : k < 2 ^ 60) : ∃ s, shown (.int (k : Int)) = some s := by
  have := log_lt h
  refine shown_some rfl ?_ (by simp [dep]) ?_
  · simp [ints10]; omega
  · simp [wid]; omega
theorem shown_two {a b : Nat} (ha : a < 2 ^ 60) (hb : b < 2 ^ 60) : ∃ s, shown (.lst [.int (a : Int), .int (b : Int)]) = some s := by
  have := log_lt ha
  have := log_lt hb
  refine shown_some rfl ?_ (by simp [dep, deps]) ?_
  · simp [ints10, ints10s]; omega
  · simp [wid, wids]; omega
theorem tabD_ok (n : Nat) (f : Nat → Bool) : plains (tabD n f) = true ∧ ints10s (tabD n f) = true ∧ deps (tabD n f) = 0 ∧ wids (tabD n f) = 10 * 2 ^ n := by
  have key : ∀ l : List Nat, ints10s (l.map fun x => D.int (b2i (f x))) = true ∧ wids (l.map fun x => D.int (b2i (f x))) = 10 * l.length := by
    intro l
    induction l with
    | nil => exact ⟨rfl, rfl⟩
    | cons a l ih =>
      refine ⟨?_, ?_⟩
      · simp only [List.map_cons, ints10s, ih.1, Bool.and_true]
        cases f a <;> decide
      · simp only [List.map_cons, wids, ih.2, List.length_cons]
        have : wid (.int (b2i (f a))) = 8 := by cases f a <;> decide
        omega
  refine ⟨plain_ints _ _, (key _).1, dep_ints _ _, ?_⟩
  unfold tabD
  rw [(key _).2, List.length_range]
theorem fnD_ok (n : Nat) (f : Nat → Bool) (hn : n < 16) : plain (fnD n f) = true ∧ ints10 (fnD n f) = true ∧ dep (fnD n f) = 2 ∧ wid (fnD n f) ≤ 10 * 2 ^ n + 100 := by
  obtain ⟨h1, h2, h3, h4⟩ := tabD_ok n f
  have hl : n.log2 < 60 := log_lt (by omega)
  refine ⟨?_, ?_, ?_, ?_⟩
  · simp [fnD, plain, plains, h1]
  · simp [fnD, ints10, ints10s, h2]; omega
  · simp [fnD, dep, deps, h3]
  · simp [fnD, wid, wids, h4]; omega
theorem gsD_ok (gs : List Gn) (b : Nat) (hb : b < 16) (h : ∀ g ∈ gs, g.1 ≤ b) : plain (gsD gs) = true ∧ ints10 (gsD gs) = true ∧ dep (gsD gs) ≤ 3 ∧ wid (gsD gs) ≤ 8 + gs.length * (10 * 2 ^ b + 110) := by
  have key : ∀ l : List Gn, (∀ g ∈ l, g.1 ≤ b) → plains (l.map Gn.d) = true ∧ ints10s (l.map Gn.d) = true ∧ deps (l.map Gn.d) ≤ 2 ∧ wids (l.map Gn.d) ≤ l.length * (10 * 2 ^ b + 110) := by
    intro l
    induction l with
    | nil => intro _; exact ⟨rfl, rfl, by simp [deps], by simp [wids]⟩
    | cons g l ih =>
      intro h
      obtain ⟨i1, i2, i3, i4⟩ := ih fun g hg => h g (List.mem_cons_of_mem _ hg)
      have hg := h g List.mem_cons_self
      obtain ⟨f1, f2, f3, f4⟩ := fnD_ok g.1 g.2 (by omega)
      have hp : 2 ^ g.1 ≤ 2 ^ b := Nat.pow_le_pow_right (by decide) hg
      refine ⟨?_, ?_, ?_, ?_⟩
      · simp only [List.map_cons, plains, Gn.d, f1, i1, Bool.and_self]
      · simp only [List.map_cons, ints10s, Gn.d, f2, i2, Bool.and_self]
      · simp only [List.map_cons, deps, Gn.d, f3]; omega
      · simp only [List.map_cons, wids, Gn.d, List.length_cons, Nat.succ_mul] at *; omega
  obtain ⟨k1, k2, k3, k4⟩ := key gs h
  exact ⟨k1, k2, by simp [gsD, dep]; omega, by simp [gsD, wid]; omega⟩
theorem shown_parts (m : Nat) (F : Nat → Bool) (gs : List Gn) (hm : m ≤ 4) (hg : gs.length = m) (h : ∀ g ∈ gs, g.1 ≤ 8) : ∃ s, shown (.lst [fnD m F, gsD gs]) = some s := by
  obtain ⟨f1, f2, f3, f4⟩ := fnD_ok m F (by omega)
  obtain ⟨k1, k2, k3, k4⟩ := gsD_ok gs 8 (by omega) h
  have hp : 2 ^ m ≤ 2 ^ 4 := Nat.pow_le_pow_right (by decide) hm
  have hl : gs.length * (10 * 2 ^ 8 + 110) ≤ 4 * (10 * 2 ^ 8 + 110) := Nat.mul_le_mul_right _ (by omega)
  refine shown_some ?_ ?_ ?_ ?_
  · simp [plain, plains, f1, k1]
  · simp [ints10, ints10s, f2, k2]
  · simp [dep, deps, f3]; omega
  · simp [wid, wids]; omega
/-! ### bounds -/
theorem sum_getD (ws : List Nat) : ws.sum = Sm ws.length fun i => ws.getD i 0 := by
  unfold Sm
  congr 1
  apply List.ext_getElem
  · simp
  · intro i h1 h2; simp [h1]
theorem wOf_le (ws : List Nat) (L : Nat) : wOf ws L ≤ ws.sum := by
  rw [wOf_sum, sum_getD]
  apply Sm_le
  intro i _
  split <;> simp
theorem paper_sum {n : Nat} (f : Nat → Bool) (ws : List Nat) {x : Nat} (hx : x < 2 ^ n) : paper n f ws x ≤ ws.sum := by
  obtain ⟨L, _, _, h⟩ := paper_at f ws hx
  rw [← h]
  exact wOf_le ..
theorem pps_sum : ∀ (gs : List Gn) (x : Nat), (pps gs x).sum ≤ tot gs
  | [], _ => by simp [pps]
  | g :: r, x => by
    have := pps_sum r (x / 2 ^ g.1)
    have h := paper_sum g.2 (ones g.1) (Nat.mod_lt x (Nat.pow_pos (by decide) : 0 < 2 ^ g.1))
    have h2 : (ones g.1).sum = g.1 := by simp [ones]
    rw [pps, List.sum_cons, tot_cons]
    omega
theorem Al.law {Φ : Tab} {k : Nat} {df : Df} {Q : Fl × Env → Prop} (h : Al (lawM Φ k df) Q) : (lawM Φ k df).all Q := h.h
end Bq

set_option Elab.async false
set_option linter.all false
set_option maxRecDepth 100000
/-! Equations: drawn formulas (k76, k77, k79, ..). -/
namespace Bq
open PySem (Str)
def OfQ (xs : List D) (x : Fl × Env) : Prop := ∃ y, x.1 = .rt y ∧ y ∈ xs
theorem law_of_al {Φ : Tab} (h : Φ 49 = some d49_law_of) (k : Nat) (xs : List D) (h0 : xs ≠ []) (h1 : xs.length < 1000000) : Al (run Φ (k + 1) 49 [.src, .d (.lst xs)]) fun d => d ∈ xs := by
  refine Al.run h rfl [.vl .src, vD (.lst xs)] rfl ?_
  show Al _ (OfQ xs)
  unfold d49_law_of
  have hp : 0 < xs.length := List.length_pos_iff.mpr h0
  simp
  try simp only [M.bind_assoc]
  refine Al.pkB (by omega) fun r hr => ?_
  have hr2 : r < xs.length := by omega
  have g : xs[r]? = some xs[r] := List.getElem?_eq_getElem hr2
  exact Al.eq (a := (.rt xs[r], [.vl .src, vD (.lst xs)])) (by simp [g]) ⟨_, rfl, List.getElem_mem _⟩
theorem size_leaves : ∀ φ : Fm, φ.size + 1 = 2 * φ.leaves
  | .leaf _ _ => rfl
  | .node _ f g => by
    have := size_leaves f
    have := size_leaves g
    simp only [Fm.size, Fm.leaves]
    omega
theorem leaves_pos : ∀ φ : Fm, 1 ≤ φ.leaves
  | .leaf _ _ => Nat.le_refl _
  | .node _ f g => by
    have := leaves_pos f
    simp only [Fm.leaves]
    omega
theorem len_lvs : ∀ fs : List Fm, fs.length ≤ lvs fs
  | [] => by simp
  | a :: fs => by
    have := leaves_pos a
    have := len_lvs fs
    simp [lvs] at *
    omega
theorem lvs_perm (fs : List Fm) (r : Nat) (h : r < fs.length) : (fs[r]).leaves + lvs (fs.eraseIdx r) = lvs fs := by
  induction fs generalizing r with
  | nil => simp at h
  | cons a fs ih =>
    cases r with
    | zero => simp [lvs]
    | succ r =>
      have := ih r (by simpa using h)
      simp [lvs] at *
      omega
def E50 (n most : Nat) (line a4 a5 a6 : Sl) : Env := [.vl .src, vI n, vI most, line, a4, a5, a6]
def F50 (n most j : Nat) (e : Env) : Prop := ∃ (fs : List Fm) (a4 : Sl), fs.length = j ∧ lvs fs = j ∧ (∀ f ∈ fs, f.low n = true) ∧ e = E50 n most (.ow (.lst (fs.map Fm.d))) a4 .u .u
def F50s (n most j : Nat) (x : Fl × Env) : Prop := x.1 = .nx ∧ F50 n most j x.2
def W50 (n most L k : Nat) (e : Env) : Prop := ∃ (fs : List Fm) (a4 a5 a6 : Sl), 1 ≤ k ∧ fs.length = k ∧ lvs fs = L ∧ (∀ f ∈ fs, f.low n = true) ∧ e = E50 n most (.ow (.lst (fs.map Fm.d))) a4 a5 a6
def W50s (n most L k : Nat) (x : Fl × Env) : Prop := x.1 = .nx ∧ ∃ j, j < k ∧ W50 n most L j x.2
def Q50 (n most : Nat) (x : Fl × Env) : Prop := ∃ y, x.1 = .rt y ∧ ∃ φ : Fm, φ.low n = true ∧ φ.leaves ≤ most ∧ y = φ.d
def W50a (n most L k : Nat) (e : Env) : Prop := ∃ (f : Fm) (fs : List Fm) (a4 a6 : Sl), fs.length + 1 = k ∧ f.leaves + lvs fs = L ∧ f.low n = true ∧ (∀ f ∈ fs, f.low n = true) ∧ e = E50 n most (.ow (.lst (fs.map Fm.d))) a4 (vD f.d) a6
def W50b (n most L k : Nat) (e : Env) : Prop := ∃ (f g : Fm) (fs : List Fm) (a4 : Sl), fs.length + 2 = k ∧ f.leaves + g.leaves + lvs fs = L ∧ f.low n = true ∧ g.low n = true ∧ (∀ f ∈ fs, f.low n = true) ∧ e = E50 n most (.ow (.lst (fs.map Fm.d))) a4 (vD f.d) (vD g.d)
theorem erase_map : ∀ (fs : List Fm) (r : Nat), (fs.map Fm.d).eraseIdx r = (fs.eraseIdx r).map Fm.d
  | [], _ => rfl
  | a :: fs, 0 => rfl
  | a :: fs, r + 1 => by simp [erase_map fs r]
theorem law_formula_al {Φ : Tab} (h49 : Φ 49 = some d49_law_of) (h : Φ 50 = some d50_law_formula) (k n most : Nat) (hn : 1 ≤ n) (hn2 : n < 1000) (hm : 1 ≤ most) (hm2 : most < 1000) :
    Al (run Φ (k + 2) 50 [.src, .d (.int n), .d (.int most)]) fun d => ∃ φ : Fm, φ.low n = true ∧ φ.leaves ≤ most ∧ d = φ.d := by
  refine Al.run h rfl [.vl .src, vI n, vI most, .u, .u, .u, .u] rfl ?_
  show Al _ (Q50 n most)
  unfold d50_law_formula
  refine Al.st (e1 := E50 n most (.ow (.lst [])) .u .u .u) (by simp [E50]) ?_
  refine Al.ss (P := fun e => ∃ L, 1 ≤ L ∧ L ≤ most ∧ F50 n most L e) ?_ ?_
  · unfold d50_f0
    refine Al.fr (P := fun x => ∃ L : Nat, 1 ≤ L ∧ L ≤ most ∧ x = (rangeD 0 L, E50 n most (.ow (.lst [])) .u .u .u)) ?_ ?_
    · simp [E50]
      try simp only [M.bind_assoc]
      refine Al.pkB (by omega) fun r hr => ?_
      have e1 : ((1 : Int) + (r : Int)).natAbs ≤ 1000000 := by omega
      have e2 : ((1 : Int) + (r : Int)).toNat = 1 + r := by omega
      exact Al.eq (a := (rangeD 0 (1 + r : Nat), E50 n most (.ow (.lst [])) .u .u .u)) (by simp [E50, small_i, e1, e2]) ⟨1 + r, by omega, by omega, rfl⟩
    · rintro xs e ⟨L, l1, l2, he⟩
      cases he
      have := Al.frLoop (g := .nm 4) (b := fun env => evSs (run Φ (k + 1)) d50_b1 env) (fun i : Nat => D.int (i : Int)) (F50 n most) (List.range L) 0 (E50 n most (.ow (.lst [])) .u .u .u) ⟨[], .u, rfl, rfl, by simp, rfl⟩ ?_
      · rw [List.length_range, Nat.zero_add] at this
        rw [rangeD0]
        exact this.mono fun x hx => ⟨hx.1, L, l1, l2, hx.2⟩
      · rintro j a env ha ⟨fs, a4, f1, f2, f3, rfl⟩
        rw [List.getElem?_eq_some_iff] at ha
        obtain ⟨hj, rfl⟩ := ha
        rw [List.length_range] at hj
        rw [List.getElem_range]
        refine ⟨_, rfl, ?_⟩
        show Al _ (F50s n most (0 + j + 1))
        have dr : Al (run Φ (k + 1) 49 [.src, .d (.lst [.str "bit", .str "not"])]) fun d => d ∈ [D.str "bit", D.str "not"] := law_of_al h49 k _ (by simp) (by simp)
        unfold d50_b1
        simp [E50]
        try simp only [M.bind_assoc]
        refine dr.bind ?_
        intro d hd
        obtain ⟨t, rfl⟩ : ∃ t : Bool, d = .str (leafS t) := by
          simp at hd
          rcases hd with rfl | rfl
          · exact ⟨false, rfl⟩
          · exact ⟨true, rfl⟩
        simp
        try simp only [M.bind_assoc]
        refine Al.pkB (by omega) fun r hr => ?_
        have hl : fs.length < 1000000 := by omega
        refine Al.eq (a := (.nx, E50 n most (.ow (.lst ((fs ++ [Fm.leaf t r]).map Fm.d))) (vI j) .u .u)) (by simp [E50, hl, Fm.d]) ⟨rfl, fs ++ [Fm.leaf t r], _, by simp; omega, ?_, ?_, rfl⟩
        · simp [lvs, Fm.leaves] at *; omega
        · intro f hf
          rcases List.mem_append.mp hf with hf | hf
          · exact f3 f hf
          · simp at hf; subst hf; simp [Fm.low]; omega
  rintro e ⟨L, l1, l2, fs, a4, f1, f2, f3, rfl⟩
  refine Al.ss (P := fun e => ∃ j, decide (1 < j) = false ∧ W50 n most L j e) ?_ ?_
  · refine Al.wh (k := L) (W50 n most L) (fun k => decide (1 < k)) ?_ ?_ ⟨fs, a4, .u, .u, l1, f1, f2, f3, rfl⟩ (by omega)
    · rintro k env ⟨fs, a4, a5, a6, k1, f1, f2, f3, rfl⟩
      have : decide ((1 : Int) < (fs.length : Int)) = decide (1 < k) := by
        rw [f1, decide_eq_decide]
        omega
      simp [E50, this]
    · rintro q env ⟨fs, a4, a5, a6, k1, f1, f2, f3, rfl⟩ hmore
      have hq : 1 < q := by simpa using hmore
      have hll := len_lvs fs
      show Al _ (W50s n most L q)
      unfold d50_b0
      refine Al.ss (P := W50a n most L q) ?_ ?_
      · simp [E50]
        try simp only [M.bind_assoc]
        refine Al.pkB (by omega) fun r hr => ?_
        have hr2 : r < fs.length := by omega
        have g : fs[r]? = some fs[r] := List.getElem?_eq_getElem hr2
        have hr3 : r < 1000000 := by omega
        exact Al.eq (a := (.nx, E50 n most (.ow (.lst ((fs.eraseIdx r).map Fm.d))) a4 (vD (fs[r]).d) a6)) (by simp [E50, g, hr3, erase_map]) ⟨rfl, fs[r], fs.eraseIdx r, a4, a6, by rw [List.length_eraseIdx_of_lt hr2]; omega, by rw [lvs_perm fs r hr2, f2], f3 _ (List.getElem_mem _), fun f hf => f3 f (List.mem_of_mem_eraseIdx hf), rfl⟩
      rintro e ⟨f, fs, a4, a6, g1, g2, g3, g4, rfl⟩
      refine Al.ss (P := W50b n most L q) ?_ ?_
      · simp [E50]
        try simp only [M.bind_assoc]
        refine Al.pkB (by omega) fun r hr => ?_
        have hr2 : r < fs.length := by omega
        have g : fs[r]? = some fs[r] := List.getElem?_eq_getElem hr2
        have hr3 : r < 1000000 := by omega
        exact Al.eq (a := (.nx, E50 n most (.ow (.lst ((fs.eraseIdx r).map Fm.d))) a4 (vD f.d) (vD (fs[r]).d))) (by simp [E50, g, hr3, erase_map]) ⟨rfl, f, fs[r], fs.eraseIdx r, a4, by rw [List.length_eraseIdx_of_lt hr2]; omega, by rw [Nat.add_assoc, lvs_perm fs r hr2, g2], g3, g4 _ (List.getElem_mem _), fun f hf => g4 f (List.mem_of_mem_eraseIdx hf), rfl⟩
      rintro e ⟨f, g, fs, a4, g1, g2, g3, g3', g4, rfl⟩
      have dr : Al (run Φ (k + 1) 49 [.src, .d (.lst [.str "and", .str "or"])]) fun d => d ∈ [D.str "and", D.str "or"] := law_of_al h49 k _ (by simp) (by simp)
      simp [E50]
      try simp only [M.bind_assoc]
      refine dr.bind ?_
      intro d hd
      obtain ⟨t, rfl⟩ : ∃ t : Bool, d = .str (nodeS t) := by
        simp at hd
        rcases hd with rfl | rfl
        · exact ⟨true, rfl⟩
        · exact ⟨false, rfl⟩
      have hl : fs.length < 1000000 := by omega
      refine Al.eq (a := (.nx, E50 n most (.ow (.lst ((fs ++ [Fm.node t f g]).map Fm.d))) a4 (vD f.d) (vD g.d))) (by simp [E50, hl, Fm.d]) ⟨rfl, q - 1, by omega, fs ++ [Fm.node t f g], _, _, _, by omega, by simp; omega, ?_, ?_, rfl⟩
      · simp [lvs, Fm.leaves] at *; omega
      · intro f' hf
        rcases List.mem_append.mp hf with hf | hf
        · exact g4 f' hf
        · simp at hf; subst hf; simp [Fm.low, g3, g3']
  rintro e ⟨j, hj, fs, a4, a5, a6, k1, f1, f2, f3, rfl⟩
  have hj1 : j = 1 := by simp at hj; omega
  subst hj1
  obtain ⟨φ, rfl⟩ := List.length_eq_one_iff.mp f1
  exact Al.eq (a := (.rt φ.d, E50 n most (.ow (.lst [φ.d])) a4 a5 a6)) (by simp [E50]) ⟨_, rfl, φ, f3 φ (by simp), by simp [lvs] at f2; omega, rfl⟩
end Bq

set_option Elab.async false
set_option linter.all false
set_option maxRecDepth 100000
/-! Equations: the law's answers of a formula. -/
namespace Bq
open PySem (Str)
/-- a for from n - 1 down to 0 -/
theorem evS_frDown {cl : Nat → List Vl → M D} {env e1 : Env} {g : Tg} {it : It} {b : Sts} (I : Nat → Env → Prop) (n : Nat) (h1 : evIt cl it env = .ret (stepsD ((n : Int) - 1) (-1) n, e1)) (h0 : I 0 e1)
    (hb : ∀ (j : Nat) env, j < n → I j env → ∃ e1 e2, asgTg g (.int ((n - 1 - j : Nat) : Int)) env = some e1 ∧ evSs cl b e1 = .ret (.nx, e2) ∧ I (j + 1) e2) :
    ∃ env', evS cl (.fr g it b) env = .ret (.nx, env') ∧ I n env' := by
  have hr : stepsD ((n : Int) - 1) (-1) n = (List.range n).map (fun j : Nat => D.int ((n - 1 - j : Nat) : Int)) := by
    rw [stepsD_down]
    apply List.map_congr_left
    intro j hj
    rw [List.mem_range] at hj
    congr 1
    omega
  have := evS_fr (cl := cl) (env := env) (g := g) (it := it) (b := b) (fun j : Nat => D.int ((n - 1 - j : Nat) : Int)) I (List.range n) (by rw [h1, hr]) h0 fun k a env ha hi => by
    rw [List.getElem?_eq_some_iff] at ha
    obtain ⟨h1, h2⟩ := ha
    rw [List.length_range] at h1
    rw [List.getElem_range] at h2
    subst h2
    exact hb k env h1 hi
  rwa [List.length_range] at this
abbrev E51 (n : Nat) (line : List Fm) (low : List Nat) (φ : Fm) (kvs : List (D × D)) (a5 a6 a7 a9 : Sl) : Env := [vI n, vD φ.d, vD (.lst (line.map Fm.d)), vD (.lst (nL low)), .ow (.dic false kvs), a5, a6, a7, .u, a9, .u]
theorem d51_l0_eq {Φ : Tab} (h13 : Φ 13 = some d13_law_two) (h14 : Φ 14 = some d14_law_bit) (k n : Nat) (hn : n < 16) (t : Bool) (i : Nat) (hi : i < 30) (line : List Fm) (low : List Nat) (φ : Fm) (kvs : List (D × D)) (a5 a7 a9 : Sl) :
    evO (run Φ (k + 2)) d51_l0 (E51 n line low φ kvs a5 (vD (Fm.leaf t i).d) a7 a9) = .ret (.fr (.lst ((Fm.leaf t i).tab n)), E51 n line low φ kvs a5 (vD (Fm.leaf t i).d) a7 a9) := by
  unfold d51_l0
  have e13 := law_two_eq h13 (k + 1) n (by omega)
  have hp : 2 ^ n ≤ 1000000 := by
    have : 2 ^ n ≤ 2 ^ 16 := Nat.pow_le_pow_right (by decide) (by omega)
    omega
  refine (lc_m (l := List.range (2 ^ n)) (h := fun i : Nat => D.int (i : Int)) (e1 := E51 n line low φ kvs a5 (vD (Fm.leaf t i).d) a7 a9) (fun x => D.int (b2i ((Fm.leaf t i).ev x))) (it_rg1 (by simp [e13]) (two_pow_cast n) hp) rfl (by rw [List.length_range]; exact hp) rfl ?_).trans ?_
  · intro x _
    have e := law_bit_eq h13 h14 k x i hi
    have e2 : (leafS t == ("bit" : Str)) = !t := by cases t <;> decide +kernel
    cases hb : x.testBit i <;> cases t <;> simp [Fm.d, e, e2, Fm.ev, hb, b2i] <;> simp [leafS, -eqv] <;> rfl
  · simp [Fm.tab]
theorem d51_l1_eq {cl : Nat → List Vl → M D} (n : Nat) (hn : 2 ^ n ≤ 1000000) (a : Bool) (f g : Fm) (line : List Fm) (low : List Nat) (φ : Fm) (kvs : List (D × D)) (a5 a7 : Sl) :
    evO cl d51_l1 (E51 n line low φ kvs a5 (vD (Fm.node a f g).d) a7 (.ow (.lst ((List.range (2 ^ n)).map fun x => D.tup [.int (b2i (f.ev x)), .int (b2i (g.ev x))])))) = .ret (.fr (.lst ((Fm.node a f g).tab n)), E51 n line low φ kvs a5 (vD (Fm.node a f g).d) a7 (vD (.lst ((List.range (2 ^ n)).map fun x => D.tup [.int (b2i (f.ev x)), .int (b2i (g.ev x))])))) := by
  unfold d51_l1
  refine (lc_m (l := List.range (2 ^ n)) (h := fun x => D.tup [.int (b2i (f.ev x)), .int (b2i (g.ev x))]) (e1 := E51 n line low φ kvs a5 (vD (Fm.node a f g).d) a7 (vD (.lst ((List.range (2 ^ n)).map fun x => D.tup [.int (b2i (f.ev x)), .int (b2i (g.ev x))])))) (fun x => D.int (b2i ((Fm.node a f g).ev x))) (by simp) rfl (by rw [List.length_range]; exact hn) rfl ?_).trans ?_
  · intro x _
    have e1 := min_b2i (f.ev x) (g.ev x)
    have e2 := max_b2i (f.ev x) (g.ev x)
    cases a <;> simp [Fm.d, Fm.ev, nodeS_and, e1, e2]
  · simp [Fm.tab]
def up51 (n : Nat) (φ : Fm) (line : List Fm) (low : List Nat) (j : Nat) (env : Env) : Prop := ∃ kvs a5 a6 a7 a9, env = E51 n line low φ kvs a5 a6 a7 a9 ∧
  KInt kvs ∧ kvs.length ≤ j ∧ ∀ k f, line.length ≤ k + j → line[k]? = some f → dget (.int k) kvs = some (.lst (f.tab n))
theorem mem_leafW2 (t : Bool) : cmpop .mem (.str (leafS t)) (.tup [.str "bit", .str "not"]) = some true := by cases t <;> decide +kernel
theorem mem_nodeW2 (t : Bool) : cmpop .mem (.str (nodeS t)) (.tup [.str "bit", .str "not"]) = some false := by cases t <;> decide +kernel
theorem up51_body {Φ : Tab} (h13 : Φ 13 = some d13_law_two) (h14 : Φ 14 = some d14_law_bit) (k n : Nat) (hn : n < 16) (φ : Fm) (hφ : φ.size < 100000) (line : List Fm) (low : List Nat) (p : Row φ line low) (hlow : ∀ f ∈ line, f.low 30 = true) (j : Nat) (hj : j < line.length) (env : Env) (hi : up51 n φ line low j env) :
    ∃ e1 e2, asgTg (.nm 5) (.int ((line.length - 1 - j : Nat) : Int)) env = some e1 ∧ evSs (run Φ (k + 2)) d51_b0 e1 = .ret (.nx, e2) ∧ up51 n φ line low (j + 1) e2 := by
  obtain ⟨kvs, a5, a6, a7, a9, rfl, hK, hL, hG⟩ := hi
  generalize hq : line.length - 1 - j = q
  have hq1 : q < line.length := by omega
  obtain ⟨f, ef⟩ : ∃ f, line[q]? = some f := ⟨line[q], by simp [hq1]⟩
  have hat : (line.map Fm.d)[q]? = some f.d := by simp [ef]
  have hb := p.ok q hq1
  have hlen := rw_len p
  simp only at hlen
  have hcap : kvs.length < 1000000 := by omega
  have hp : 2 ^ n ≤ 1000000 := by
    have : 2 ^ n ≤ 2 ^ 16 := Nat.pow_le_pow_right (by decide) (by omega)
    omega
  have hmem : f ∈ line := by rw [List.getElem?_eq_some_iff] at ef; obtain ⟨_, rfl⟩ := ef; exact List.getElem_mem _
  unfold rwOk at hb
  simp only [ef] at hb
  cases e : low[q]? with
  | none => rw [e] at hb; exact hb.elim
  | some i =>
  rw [e] at hb
  obtain ⟨b1, b2⟩ := hb
  have hlo : (nL low)[q]? = some (.int (i : Int)) := by simp [nL, e]
  have fin : ∀ env, (∃ a5 a6 a7 a9, env = E51 n line low φ (dput (.int q) (.lst (f.tab n)) kvs) a5 a6 a7 a9) → up51 n φ line low (j + 1) env := by
    rintro env ⟨a5, a6, a7, a9, rfl⟩
    refine ⟨_, a5, a6, a7, a9, rfl, hK.put _ _, Nat.le_trans (dput_len _ _ _) (by omega), fun k g hk hg => ?_⟩
    rw [hK.get]
    by_cases e : q = k
    · subst e
      rw [ef] at hg
      injection hg with hg
      subst hg
      simp
    · have : ¬ ((q : Int) = (k : Int)) := by omega
      rw [if_neg this]
      exact hG k g (by omega) hg
  cases f with
  | leaf t m =>
    have hi : m < 30 := by
      have := hlow _ hmem
      simpa [Fm.low] using this
    have e0 := d51_l0_eq h13 h14 k n hn t m hi line low φ kvs (vI q) (vI i) a9
    have mw := mem_leafW2 t
    refine ⟨_, E51 n line low φ (dput (.int q) (.lst ((Fm.leaf t m).tab n)) kvs) (vI q) (vD (Fm.leaf t m).d) (vI i) a9, rfl, ?_, fin _ ⟨_, _, _, _, rfl⟩⟩
    simp only [Fm.d] at e0 hat
    simp [d51_b0, hat, hlo, e0, keyOk, hcap, mw, Fm.d, -c_memt, -List.getElem?_map]
  | node a g h =>
    obtain ⟨b3, b4⟩ := b2 a g h rfl
    have b5 := b1
    have g1 := hG i g (by omega) b3
    have g2 := hG (i + 1) h (by omega) b4
    rw [show ((i + 1 : Nat) : Int) = (i : Int) + 1 by push_cast; rfl] at g2
    have e1 := d51_l1_eq (cl := run Φ (k + 2)) n hp a g h line low φ kvs (vI q) (vI i)
    have mw := mem_nodeW2 a
    have zp : zipD (g.tab n) (h.tab n) = (List.range (2 ^ n)).map fun x => D.tup [.int (b2i (g.ev x)), .int (b2i (h.ev x))] := by rw [Fm.tab, Fm.tab, zip_map]
    refine ⟨_, E51 n line low φ (dput (.int q) (.lst ((Fm.node a g h).tab n)) kvs) (vI q) (vD (Fm.node a g h).d) (vI i) (vD (.lst ((List.range (2 ^ n)).map fun x => D.tup [.int (b2i (g.ev x)), .int (b2i (h.ev x))]))), rfl, ?_, fin _ ⟨_, _, _, _, rfl⟩⟩
    simp only [Fm.d] at e1 hat
    simp [d51_b0, hat, hlo, e1, keyOk, hcap, mw, g1, g2, zp, tab_length, Fm.d, -c_memt, -List.getElem?_map]
theorem law_answers_eq {Φ : Tab} (h13 : Φ 13 = some d13_law_two) (h14 : Φ 14 = some d14_law_bit) (h15 : Φ 15 = some d15_law_row) (h : Φ 51 = some d51_law_answers) (k n : Nat) (hn : n < 16) (φ : Fm) (hφ : φ.size < 100000) (hlo : φ.low 30 = true) :
    run Φ (k + 3) 51 [.d (.int n), .d φ.d] = .ret (.tup (φ.tab n)) := by
  obtain ⟨line, low, p, e⟩ := law_row_eq h15 (k + 1) φ hφ
  have hlen := rw_len p
  simp only at hlen
  obtain ⟨e3, h3, kvs, a5, a6, a7, a9, rfl, hK, hL, hG⟩ := evS_frDown (cl := run Φ (k + 2)) (g := .nm 5) (it := .rg3 (.bin .sub (.bi .len (.cons (.v 2) .nil)) (.int 1)) (.neg (.int 1)) (.neg (.int 1))) (b := d51_b0)
    (env := E51 n line low φ [] .u .u .u .u) (e1 := E51 n line low φ [] .u .u .u .u) (up51 n φ line low) line.length
    (by
      have hz : ((line.length : Int) - 1 - -1).toNat = line.length := by omega
      have hs : ((line.length : Int) - 1).natAbs ≤ 1000000 := by omega
      simp [hz, hs])
    ⟨[], .u, .u, .u, .u, rfl, fun p hp => by (cases hp), Nat.le_refl 0, fun k f hk hf => by
      rw [List.getElem?_eq_some_iff] at hf
      obtain ⟨hf, _⟩ := hf
      omega⟩
    (fun j env hj hi => up51_body h13 h14 k n hn φ hφ line low p (p.lw 30 hlo) j hj env hi)
  have g := hG 0 φ (by omega) p.hd
  have g : dget (.int 0) kvs = some (.lst (φ.tab n)) := g
  refine run_rets h rfl [vI n, vD φ.d, .u, .u, .u, .u, .u, .u, .u, .u, .u] rfl (Rets.st (e1 := [vI n, vD φ.d, vD (.lst (line.map Fm.d)), vD (.lst (nL low)), .u, .u, .u, .u, .u, .u, .u]) (by simp [e]) (Rets.st (e1 := E51 n line low φ [] .u .u .u .u) (by simp) (Rets.st h3 (Rets.ret ?_))))
  simp [keyOk, g]
end Bq

set_option Elab.async false
set_option linter.all false
set_option maxRecDepth 100000
/-! Equations: drawn lots, all lots, best lots. -/
namespace Bq
open PySem (Str)
/-- a comprehension that draws which items it takes -/
theorem Al.lcf {cl : Nat → List Vl → M D} {env e1 e2 : Env} {α : Type} {elt : Ex} {g : Tg} {it : It} {ifs : Exs} {own fz : List Nat} {l : List α} {h : α → D} (f : α → D) (h1 : evIt cl it env = .ret (l.map h, e1)) (hno : noOwn e1 own = true) (hcap : l.length ≤ cap)
    (he : unset (shrs e1 fz) own = e2) (hs : ∀ a ∈ l, Al (lcStep cl elt g ifs own (h a) e2) fun x => x.2 = e2 ∧ (x.1 = none ∨ x.1 = some (f a))) :
    Al (evO cl (.lc elt g it ifs own fz) env) fun x => x.2 = back e1 e2 own ∧ ∃ l' : List α, l'.Sublist l ∧ x.1 = .fr (.lst (l'.map f)) := by
  subst he
  rw [lc_eq, h1]
  have key : ∀ l : List α, (∀ a ∈ l, Al (lcStep cl elt g ifs own (h a) (unset (shrs e1 fz) own)) fun x => x.2 = unset (shrs e1 fz) own ∧ (x.1 = none ∨ x.1 = some (f a))) →
      Al (lcLoop (lcStep cl elt g ifs own) (l.map h) (unset (shrs e1 fz) own)) fun x => x.2 = unset (shrs e1 fz) own ∧ ∃ l' : List α, l'.Sublist l ∧ x.1 = l'.map f := by
    intro l
    induction l with
    | nil => intro _; exact ⟨rfl, [], .slnil, rfl⟩
    | cons a l ih =>
      intro hs
      rw [List.map_cons, lcLoop]
      refine (hs a List.mem_cons_self).bind fun x hx => ?_
      obtain ⟨o, e⟩ := x
      obtain ⟨rfl, hx⟩ := hx
      refine (ih fun c hc => hs c (List.mem_cons_of_mem _ hc)).bind fun y hy => ?_
      obtain ⟨ys, e⟩ := y
      obtain ⟨rfl, l', hl, rfl⟩ := hy
      rcases hx with rfl | rfl
      · exact ⟨rfl, l', hl.cons _, rfl⟩
      · exact ⟨rfl, a :: l', hl.cons_cons _, rfl⟩
  simp only [M.bind_ret, hno, List.length_map, hcap, decide_true, Bool.and_self, if_true]
  refine (key l hs).bind fun x hx => ?_
  obtain ⟨ys, e⟩ := x
  obtain ⟨rfl, l', hl, rfl⟩ := hx
  exact ⟨rfl, l', hl, rfl⟩
def SomeQ (xs : List Nat) (x : Fl × Env) : Prop := ∃ y, x.1 = .rt y ∧ ∃ l : List Nat, l.Sublist xs ∧ (xs ≠ [] → l ≠ []) ∧ y = .tup (nL l)
theorem eqv_nil_nL (l : List Nat) : eqvs (nL l) [] = l.isEmpty := by cases l <;> rfl
theorem law_some_al {Φ : Tab} (h : Φ 52 = some d52_law_some) (k : Nat) (xs : List Nat) (h1 : xs.length ≤ 1000000) : Al (run Φ (k + 1) 52 [.src, .d (.lst (nL xs))]) fun d => ∃ l : List Nat, l.Sublist xs ∧ (xs ≠ [] → l ≠ []) ∧ d = .tup (nL l) := by
  refine Al.run h rfl [.vl .src, vD (.lst (nL xs)), .u, .u] rfl ?_
  show Al _ (SomeQ xs)
  unfold d52_law_some
  refine Al.ss (P := fun e => ∃ l : List Nat, l.Sublist xs ∧ e = [.vl .src, vD (.lst (nL xs)), .ow (.lst (nL l)), .u]) ?_ ?_
  · have := Al.lcf (cl := run Φ k) (env := [.vl .src, vD (.lst (nL xs)), .u, .u]) (e1 := [.vl .src, vD (.lst (nL xs)), .u, .u]) (e2 := [.vl .src, vD (.lst (nL xs)), .u, .u]) (elt := .v 3) (g := .nm 3) (it := .seq (.v 1)) (ifs := .cons (.cmp .gt (.pick 0 (.int 3)) (.int 0)) .nil) (own := [3]) (fz := [0]) (l := xs) (h := fun x : Nat => D.int (x : Int)) (fun x : Nat => D.int (x : Int)) (by simp [nL]) rfl h1 rfl ?_
    · rw [u_asg]
      refine Al.bind (m := evO (run Φ k) d52_l0 [.vl .src, vD (.lst (nL xs)), .u, .u]) this ?_
      rintro ⟨o, e⟩ ⟨rfl, l, hl, rfl⟩
      exact Al.eq (a := (.nx, [.vl .src, vD (.lst (nL xs)), .ow (.lst (nL l)), .u])) (by simp [nL]) ⟨rfl, l, hl, rfl⟩
    · intro x _
      unfold lcStep
      simp
      try simp only [M.bind_assoc]
      refine Al.pkB (by decide) fun r hr => ?_
      by_cases hr0 : r = 0
      · subst hr0
        exact Al.eq (a := (none, [.vl .src, vD (.lst (nL xs)), .u, .u])) (by simp) ⟨rfl, .inl rfl⟩
      · have : (0 : Int) < (r : Int) := by omega
        exact Al.eq (a := (some (.int (x : Int)), [.vl .src, vD (.lst (nL xs)), .u, .u])) (by simp [this, hr0]) ⟨rfl, .inr rfl⟩
  rintro e ⟨l, hl, rfl⟩
  have pl := plains_nL l
  have en := eqv_nil_nL l
  cases l with
  | nil =>
    cases xs with
    | nil => exact Al.eq (a := (.rt (.tup (nL [])), [.vl .src, vD (.lst (nL [])), .ow (.lst (nL [])), .u])) (by simp [cut, cutAt]) ⟨_, rfl, [], .slnil, by simp, rfl⟩
    | cons x xs =>
      refine Al.eq (a := (.rt (.tup (nL [x])), [.vl .src, vD (.lst (nL (x :: xs))), .ow (.lst (nL [])), .u])) ?_ ⟨_, rfl, [x], by simp, by simp, rfl⟩
      simp [cut, cutAt, nL_cons]
  | cons y ys =>
    refine Al.eq (a := (.rt (.tup (nL (y :: ys))), [.vl .src, vD (.lst (nL xs)), .ow (.lst (nL (y :: ys))), .u])) ?_ ⟨_, rfl, y :: ys, hl, by simp, rfl⟩
    simp
theorem Fm.low_le {m m' : Nat} (h : m ≤ m') : ∀ f : Fm, f.low m = true → f.low m' = true
  | .leaf t i, e => by simp [Fm.low] at e ⊢; omega
  | .node a f g, e => by
    simp [Fm.low] at e ⊢
    exact ⟨Fm.low_le h f e.1, Fm.low_le h g e.2⟩
end Bq

set_option Elab.async false
set_option linter.all false
set_option maxRecDepth 100000
/-! Equations: all lots, best lots. -/
namespace Bq
open PySem (Str)
def lotsF (xs : List Nat) : List (List Nat) := xs.foldl (fun fs x => fs ++ fs.map (· ++ [x])) [[]]
def lotT (l : List Nat) : D := .tup (nL l)
theorem lotsF_snoc (xs : List Nat) (x : Nat) : lotsF (xs ++ [x]) = lotsF xs ++ (lotsF xs).map (· ++ [x]) := by simp [lotsF, List.foldl_append]
theorem snoc_ind {P : List Nat → Prop} (h0 : P []) (h1 : ∀ l x, P l → P (l ++ [x])) : ∀ l, P l := fun l => by
  have : ∀ l : List Nat, P l.reverse := fun l => by
    induction l with
    | nil => exact h0
    | cons a l ih => rw [List.reverse_cons]; exact h1 _ _ ih
  have h := this l.reverse
  rwa [List.reverse_reverse] at h
theorem lotsF_len (xs : List Nat) : (lotsF xs).length = 2 ^ xs.length := by
  refine snoc_ind (P := fun xs => (lotsF xs).length = 2 ^ xs.length) rfl (fun l x h => ?_) xs
  rw [lotsF_snoc, List.length_append, List.length_map, h, List.length_append, List.length_singleton, Nat.pow_succ]
  omega
theorem lotsF_head (xs : List Nat) : ∃ r, lotsF xs = [] :: r ∧ ∀ l ∈ r, l ≠ [] := by
  refine snoc_ind (P := fun xs => ∃ r, lotsF xs = [] :: r ∧ ∀ l ∈ r, l ≠ []) ⟨[], rfl, by simp⟩ (fun l x h => ?_) xs
  obtain ⟨r, e, h⟩ := h
  refine ⟨r ++ ([] :: r).map (· ++ [x]), by rw [lotsF_snoc, e]; rfl, fun m hm => ?_⟩
  rcases List.mem_append.mp hm with hm | hm
  · exact h m hm
  · rw [List.mem_map] at hm
    obtain ⟨q, _, rfl⟩ := hm
    simp
theorem lotsF_sub (xs : List Nat) : ∀ l ∈ lotsF xs, l.Sublist xs := by
  refine snoc_ind (P := fun xs => ∀ l ∈ lotsF xs, l.Sublist xs) (by simp [lotsF]) (fun l x h => ?_) xs
  intro m hm
  rw [lotsF_snoc] at hm
  rcases List.mem_append.mp hm with hm | hm
  · exact (h m hm).trans (List.sublist_append_left _ _)
  · rw [List.mem_map] at hm
    obtain ⟨q, hq, rfl⟩ := hm
    exact (h q hq).append (List.Sublist.refl _)
theorem lotsF_all (xs : List Nat) : xs ∈ lotsF xs := by
  refine snoc_ind (P := fun xs => xs ∈ lotsF xs) (by simp [lotsF]) (fun l x h => ?_) xs
  rw [lotsF_snoc]
  exact List.mem_append_right _ (List.mem_map.mpr ⟨l, h, rfl⟩)
/-- all lots but () -/
def lots1 (xs : List Nat) : List (List Nat) := (lotsF xs).tail
theorem lots1_ne {xs l : List Nat} (h : l ∈ lots1 xs) : l ≠ [] := by
  obtain ⟨r, e, h2⟩ := lotsF_head xs
  rw [lots1, e] at h
  exact h2 l h
theorem lots1_sub {xs l : List Nat} (h : l ∈ lots1 xs) : l.Sublist xs := lotsF_sub xs l (List.mem_of_mem_tail h)
theorem lots1_all {xs : List Nat} (hx : xs ≠ []) : xs ∈ lots1 xs := by
  obtain ⟨r, e, h2⟩ := lotsF_head xs
  have := lotsF_all xs
  rw [lots1, e]
  rw [e] at this
  rcases List.mem_cons.mp this with h | h
  · exact absurd h hx
  · exact h
theorem lots1_len (xs : List Nat) : (lots1 xs).length < 2 ^ xs.length := by
  have := lotsF_len xs
  have : 0 < 2 ^ xs.length := Nat.pow_pos (by decide)
  rw [lots1, List.length_tail]
  omega
abbrev E58 (xs : List Nat) (fs : List (List Nat)) (a2 : Sl) : Env := [vD (.lst (nL xs)), .ow (.lst (fs.map lotT)), a2, .u]
theorem d58_turn {cl : Nat → List Vl → M D} (xs : List Nat) (fs : List (List Nat)) (x : Nat) (h1 : fs.length ≤ 100000) (h2 : ∀ l ∈ fs, l.length ≤ 1000) : evSs cl d58_b0 (E58 xs fs (vI x)) = .ret (.nx, E58 xs (fs ++ fs.map (· ++ [x])) (vI x)) := by
  have e : evO cl d58_l0 [vD (.lst (nL xs)), .ow (.lst (fs.map lotT)), vI x, .u] = .ret (.fr (.lst ((fs.map (· ++ [x])).map lotT)), [vD (.lst (nL xs)), vD (.lst (fs.map lotT)), vI x, .u]) := by
    unfold d58_l0
    refine (lc_m (l := fs) (h := lotT) (e1 := [vD (.lst (nL xs)), vD (.lst (fs.map lotT)), vI x, .u]) (fun l => lotT (l ++ [x])) (by simp) rfl (by simp [cap]; omega) rfl ?_).trans ?_
    · intro l hl
      have := h2 l hl
      have h3 : l.length + 1 ≤ 1000000 := by omega
      simp [lotT, h3, nL_app, nL_cons]
    · simp [Function.comp_def]
  have h3 : fs.length + fs.length ≤ 1000000 := by omega
  simp [d58_b0, e, h3]
theorem d56_turn {cl : Nat → List Vl → M D} (xs : List Nat) (fs : List (List Nat)) (x : Nat) (h1 : fs.length ≤ 100000) (h2 : ∀ l ∈ fs, l.length ≤ 1000) : evSs cl d56_b0 (E58 xs fs (vI x)) = .ret (.nx, E58 xs (fs ++ fs.map (· ++ [x])) (vI x)) := by
  have e : evO cl d56_l0 [vD (.lst (nL xs)), .ow (.lst (fs.map lotT)), vI x, .u] = .ret (.fr (.lst ((fs.map (· ++ [x])).map lotT)), [vD (.lst (nL xs)), vD (.lst (fs.map lotT)), vI x, .u]) := by
    unfold d56_l0
    refine (lc_m (l := fs) (h := lotT) (e1 := [vD (.lst (nL xs)), vD (.lst (fs.map lotT)), vI x, .u]) (fun l => lotT (l ++ [x])) (by simp) rfl (by simp [cap]; omega) rfl ?_).trans ?_
    · intro l hl
      have := h2 l hl
      have h3 : l.length + 1 ≤ 1000000 := by omega
      simp [lotT, h3, nL_app, nL_cons, vlDs_map]
    · simp [Function.comp_def]
  have h3 : fs.length + fs.length ≤ 1000000 := by omega
  simp [d56_b0, e, h3]
theorem lots_small {xs : List Nat} (hx : xs.length ≤ 16) : (lotsF xs).length ≤ 100000 ∧ ∀ l ∈ lotsF xs, l.length ≤ 1000 := by
  refine ⟨?_, fun l hl => ?_⟩
  · rw [lotsF_len]
    have : 2 ^ xs.length ≤ 2 ^ 16 := Nat.pow_le_pow_right (by decide) hx
    omega
  · have := (lotsF_sub xs l hl).length_le
    omega
theorem law_all_eq {Φ : Tab} (h : Φ 58 = some d58_law_all) (k : Nat) (xs : List Nat) (hx : xs.length ≤ 16) : run Φ (k + 1) 58 [.d (.lst (nL xs))] = .ret (.lst ((lots1 xs).map lotT)) := by
  obtain ⟨e, h1, a2, rfl⟩ := evS_fr (cl := run Φ k) (g := .nm 2) (it := .seq (.v 0)) (b := d58_b0) (env := E58 xs [[]] .u) (e1 := E58 xs [[]] .u) (fun x : Nat => D.int (x : Int)) (fun k env => ∃ a2, env = E58 xs (lotsF (xs.take k)) a2) xs (by simp [nL]) ⟨.u, rfl⟩ (by
    rintro j x env hj ⟨a2, rfl⟩
    have hl : j < xs.length := by rw [List.getElem?_eq_some_iff] at hj; exact hj.1
    have sm := lots_small (xs := xs.take j) (by rw [List.length_take]; omega)
    refine ⟨_, E58 xs (lotsF (xs.take (j + 1))) (vI x), rfl, ?_, _, rfl⟩
    rw [List.take_succ, hj, Option.toList_some, lotsF_snoc]
    exact d58_turn xs _ x sm.1 sm.2)
  rw [List.take_length] at h1
  have hl := lots_small hx
  have hl2 : (lotsF xs).length ≤ 1000000 := by omega
  refine run_rets h rfl [vD (.lst (nL xs)), .u, .u, .u] rfl (Rets.st (e1 := E58 xs [[]] .u) (by simp [lotT]) (Rets.st h1 (Rets.ret ?_)))
  have hm : min 1 (lotsF xs).length = 1 := by
    rw [lotsF_len]
    have : 0 < 2 ^ xs.length := Nat.pow_pos (by decide)
    omega
  simp [cut, cutAt, lots1, List.take_of_length_le, hm]
theorem lots_of_some_eq {Φ : Tab} (h : Φ 56 = some d56_lots_of_some) (k : Nat) (xs : List Nat) (hx : xs.length ≤ 16) : run Φ (k + 1) 56 [.d (.lst (nL xs))] = .ret (.lst ((lots1 xs).map lotT)) := by
  obtain ⟨e, h1, a2, rfl⟩ := evS_fr (cl := run Φ k) (g := .nm 2) (it := .seq (.v 0)) (b := d56_b0) (env := E58 xs [[]] .u) (e1 := E58 xs [[]] .u) (fun x : Nat => D.int (x : Int)) (fun k env => ∃ a2, env = E58 xs (lotsF (xs.take k)) a2) xs (by simp [nL]) ⟨.u, rfl⟩ (by
    rintro j x env hj ⟨a2, rfl⟩
    have hl : j < xs.length := by rw [List.getElem?_eq_some_iff] at hj; exact hj.1
    have sm := lots_small (xs := xs.take j) (by rw [List.length_take]; omega)
    refine ⟨_, E58 xs (lotsF (xs.take (j + 1))) (vI x), rfl, ?_, _, rfl⟩
    rw [List.take_succ, hj, Option.toList_some, lotsF_snoc]
    exact d56_turn xs _ x sm.1 sm.2)
  rw [List.take_length] at h1
  have hl := lots_small hx
  have hl2 : (lotsF xs).length ≤ 1000000 := by omega
  refine run_rets h rfl [vD (.lst (nL xs)), .u, .u, .u] rfl (Rets.st (e1 := E58 xs [[]] .u) (by simp [lotT]) (Rets.st h1 (Rets.ret ?_)))
  have hm : min 1 (lotsF xs).length = 1 := by
    rw [lotsF_len]
    have : 0 < 2 ^ xs.length := Nat.pow_pos (by decide)
    omega
  simp [cut, cutAt, lots1, List.take_of_length_le, hm]
/-! ### best lots -/
def onesF (n : Nat) (f : Nat → Bool) : List Nat := (List.range (2 ^ n)).filter fun x => f x
def nouF (n : Nat) (f : Nat → Bool) : List Nat := (List.range (2 ^ n)).filter fun x => !f x
def mx2 (a b : Int) : Int := if a < b then b else a
def best1 (n : Nat) (A : List Nat) (Bs : List (List Nat)) (b : Int) : Int := Bs.foldl (fun b B => mx2 b (byLots n A B)) b
def best2 (n : Nat) (As Bs : List (List Nat)) : Int := As.foldl (fun b A => best1 n A Bs b) 0
abbrev E57 (n : Nat) (f : Nat → Bool) (b : Int) (a4 a7 : Sl) : Env := [vD (.tup [.int n, .tup (tabD n f)]), vI n, vD (.tup (tabD n f)), vI b, a4, .u, .u, a7]
theorem b2i_1 (b : Bool) : (b2i b == 1) = b := by cases b <;> rfl
theorem b2i_0 (b : Bool) : (b2i b == 0) = !b := by cases b <;> rfl
theorem d57_l0_eq {cl : Nat → List Vl → M D} (n : Nat) (hn : 2 ^ n ≤ 1000000) (f : Nat → Bool) (b : Int) (a4 a7 : Sl) : evO cl d57_l0 (E57 n f b a4 a7) = .ret (.fr (.lst (nL (onesF n f))), E57 n f b a4 a7) := by
  unfold d57_l0
  refine (lc_f (l := List.range (2 ^ n)) (h := fun x : Nat => D.tup [.int x, .int (b2i (f x))]) (e1 := E57 n f b a4 a7) (fun x : Nat => D.int (x : Int)) (fun x => f x) (by simp [tabD, enumD_range]) rfl (by rw [List.length_range]; exact hn) rfl ?_).trans ?_
  · intro x _
    simp [b2i_1]
  · simp [onesF, nL]
theorem d57_l1_eq {cl : Nat → List Vl → M D} (n : Nat) (hn : 2 ^ n ≤ 1000000) (f : Nat → Bool) (b : Int) (a4 a7 : Sl) : evO cl d57_l1 (E57 n f b a4 a7) = .ret (.fr (.lst (nL (nouF n f))), E57 n f b a4 a7) := by
  unfold d57_l1
  refine (lc_f (l := List.range (2 ^ n)) (h := fun x : Nat => D.tup [.int x, .int (b2i (f x))]) (e1 := E57 n f b a4 a7) (fun x : Nat => D.int (x : Int)) (fun x => !f x) (by simp [tabD, enumD_range]) rfl (by rw [List.length_range]; exact hn) rfl ?_).trans ?_
  · intro x _
    simp [b2i_0]
  · simp [nouF, nL]
theorem across_le (n : Nat) (B : List Nat) : ∀ A : List Nat, across n A B ≤ n * A.length
  | [] => by simp [across]
  | a :: A => by
    have := across_le n B A
    have h : (((List.range n).map (flip a)).filter fun y => B.contains y).length ≤ n := by
      refine Nat.le_trans (List.length_filter_le _ _) ?_
      simp
    simp only [across, List.map_cons, List.sum_cons, List.length_cons, Nat.mul_add] at this ⊢
    omega
theorem by_lots_lot {Φ : Tab} (h9 : Φ 9 = some d9_input_neighbours) (h10 : Φ 10 = some d10_across_pairs) (h : Φ 12 = some d12_leaves_by_lots) (k n : Nat) (hn : n ≤ 30) (A B : List Nat) (hA : A.length ≤ 30000) (hB : B.length ≤ 30000) (ha : A ≠ []) (hb : B ≠ []) :
    run Φ (k + 3) 12 [.d (.int n), .d (lotT A), .d (lotT B)] = .ret (.int (byLots n A B)) := by
  have hc : across n A B < 1000000000 := by
    have h1 := across_le n B A
    have h2 : n * A.length ≤ 30 * 30000 := Nat.mul_le_mul hn hA
    omega
  exact by_lots_eq h9 h10 h k n hn A B hA hB ha hb hc true true
theorem best_lots_eq {Φ : Tab} (h9 : Φ 9 = some d9_input_neighbours) (h10 : Φ 10 = some d10_across_pairs) (h12 : Φ 12 = some d12_leaves_by_lots) (h56 : Φ 56 = some d56_lots_of_some) (h : Φ 57 = some d57_best_lots) (k n : Nat) (hn : n ≤ 4) (f : Nat → Bool) :
    run Φ (k + 4) 57 [.d (.tup [.int n, .tup (tabD n f)])] = .ret (.int (best2 n (lots1 (onesF n f)) (lots1 (nouF n f)))) := by
  have hp : 2 ^ n ≤ 16 := Nat.pow_le_pow_right (n := 2) (by decide) hn
  have l1 : (onesF n f).length ≤ 16 := Nat.le_trans (List.length_filter_le _ _) (by simpa using hp)
  have l0 : (nouF n f).length ≤ 16 := Nat.le_trans (List.length_filter_le _ _) (by simpa using hp)
  have c1 := lots_of_some_eq h56 (k + 2) (onesF n f) l1
  have c0 := lots_of_some_eq h56 (k + 2) (nouF n f) l0
  have e1 := fun b a4 a7 => d57_l0_eq (cl := run Φ (k + 3)) n (by omega) f b a4 a7
  have e0 := fun b a4 a7 => d57_l1_eq (cl := run Φ (k + 3)) n (by omega) f b a4 a7
  obtain ⟨e, g1, a4, a7, rfl⟩ := evS_fr (cl := run Φ (k + 3)) (g := .nm 4) (it := .seq (.call 56 (.cons d57_l0 .nil))) (b := d57_b1) (env := E57 n f 0 .u .u) (e1 := E57 n f 0 .u .u) lotT (fun k env => ∃ a4 a7, env = E57 n f (best2 n ((lots1 (onesF n f)).take k) (lots1 (nouF n f))) a4 a7) (lots1 (onesF n f)) (by simp [e1, c1]) ⟨.u, .u, rfl⟩ (by
    rintro j A env hj ⟨a4, a7, rfl⟩
    have hA : A ∈ lots1 (onesF n f) := by rw [List.getElem?_eq_some_iff] at hj; obtain ⟨_, rfl⟩ := hj; exact List.getElem_mem _
    generalize hb : best2 n ((lots1 (onesF n f)).take j) (lots1 (nouF n f)) = b
    have hb2 : best2 n ((lots1 (onesF n f)).take (j + 1)) (lots1 (nouF n f)) = best1 n A (lots1 (nouF n f)) b := by
      rw [List.take_succ, hj, Option.toList_some, best2, List.foldl_append, List.foldl_cons, List.foldl_nil, ← hb]
      rfl
    obtain ⟨e, g1, a7', rfl⟩ := evS_fr (cl := run Φ (k + 3)) (g := .nm 7) (it := .seq (.call 56 (.cons d57_l1 .nil))) (b := d57_b0) (env := E57 n f b (vD (lotT A)) a7) (e1 := E57 n f b (vD (lotT A)) a7) lotT (fun k env => ∃ a7, env = E57 n f (best1 n A ((lots1 (nouF n f)).take k) b) (vD (lotT A)) a7) (lots1 (nouF n f)) (by simp [e0, c0]) ⟨a7, rfl⟩ (by
      rintro i B env hi ⟨a7, rfl⟩
      have hB : B ∈ lots1 (nouF n f) := by rw [List.getElem?_eq_some_iff] at hi; obtain ⟨_, rfl⟩ := hi; exact List.getElem_mem _
      refine ⟨_, E57 n f (best1 n A ((lots1 (nouF n f)).take (i + 1)) b) (vD (lotT A)) (vD (lotT B)), rfl, ?_, _, rfl⟩
      have hb3 : best1 n A ((lots1 (nouF n f)).take (i + 1)) b = mx2 (best1 n A ((lots1 (nouF n f)).take i) b) (byLots n A B) := by
        rw [List.take_succ, hi, Option.toList_some, best1, List.foldl_append, List.foldl_cons, List.foldl_nil]
        rfl
      rw [hb3]
      have c12 := by_lots_lot h9 h10 h12 k n (by omega) A B (Nat.le_trans (lots1_sub hA).length_le (by omega)) (Nat.le_trans (lots1_sub hB).length_le (by omega)) (lots1_ne hA) (lots1_ne hB)
      simp [d57_b0, c12, mx2])
    rw [List.take_length] at g1
    refine ⟨_, E57 n f (best2 n ((lots1 (onesF n f)).take (j + 1)) (lots1 (nouF n f))) (vD (lotT A)) a7', rfl, ?_, _, _, rfl⟩
    rw [hb2]
    show evSs _ (.cons d57_f0 .nil) _ = _
    exact (ss_st g1).trans rfl)
  rw [List.take_length] at g1
  exact run_rets h rfl [vD (.tup [.int n, .tup (tabD n f)]), .u, .u, .u, .u, .u, .u, .u] rfl (Rets.st (e1 := [vD (.tup [.int n, .tup (tabD n f)]), vI n, vD (.tup (tabD n f)), .u, .u, .u, .u, .u]) (by simp) (Rets.st (e1 := E57 n f 0 .u .u) (by simp) (Rets.st g1 (Rets.ret (by simp)))))
theorem onesF_mem {n : Nat} {f : Nat → Bool} {x : Nat} : x ∈ onesF n f ↔ x < 2 ^ n ∧ f x = true := by simp [onesF]
theorem nouF_mem {n : Nat} {f : Nat → Bool} {x : Nat} : x ∈ nouF n f ↔ x < 2 ^ n ∧ f x = false := by simp [nouF]
theorem onesF_nd (n : Nat) (f : Nat → Bool) : (onesF n f).Nodup := by
  have := List.nodup_range (n := 2 ^ n)
  rw [List.nodup_iff_pairwise_ne] at this ⊢
  exact this.filter _
theorem nouF_nd (n : Nat) (f : Nat → Bool) : (nouF n f).Nodup := by
  have := List.nodup_range (n := 2 ^ n)
  rw [List.nodup_iff_pairwise_ne] at this ⊢
  exact this.filter _
theorem onesF_len (n : Nat) (f : Nat → Bool) : (onesF n f).length ≤ 2 ^ n := Nat.le_trans (List.length_filter_le _ _) (by simp)
theorem nouF_len (n : Nat) (f : Nat → Bool) : (nouF n f).length ≤ 2 ^ n := Nat.le_trans (List.length_filter_le _ _) (by simp)
end Bq

set_option Elab.async false
set_option linter.all false
set_option maxRecDepth 100000
/-! Plain laws: neighbours across two lots that a formula parts are few (for k77). -/
namespace Bq
/-! ### numbers -/
theorem two_mul_le {r s X Y : Nat} (h : r * r * (s * s) ≤ X * Y) : 2 * (r * s) ≤ X + Y := by
  apply Nat.le_of_not_lt
  intro hlt
  have h1 : (X + Y) * (X + Y) < (2 * (r * s)) * (2 * (r * s)) := Nat.mul_self_lt_mul_self hlt
  have h2 : 4 * (X * Y) ≤ (X + Y) * (X + Y) := by
    rcases Nat.le_total X Y with h | h
    · obtain ⟨d, rfl⟩ := Nat.le.dest h
      have : (X + (X + d)) * (X + (X + d)) = 4 * (X * (X + d)) + d * d := by simp only [Nat.mul_add, Nat.add_mul]; rw [Nat.mul_comm d X]; omega
      omega
    · obtain ⟨d, rfl⟩ := Nat.le.dest h
      have : (Y + d + Y) * (Y + d + Y) = 4 * ((Y + d) * Y) + d * d := by simp only [Nat.mul_add, Nat.add_mul]; rw [Nat.mul_comm d Y]; omega
      omega
  have h3 : (2 * (r * s)) * (2 * (r * s)) = 4 * (r * r * (s * s)) := by
    rw [Nat.mul_mul_mul_comm, Nat.mul_mul_mul_comm r s r s]
  omega
theorem step_le {r s l m a c b : Nat} (h1 : r * r ≤ l * (a * b)) (h2 : s * s ≤ m * (c * b)) : (r + s) * (r + s) ≤ (l + m) * ((a + c) * b) := by
  have h3 : r * r * (s * s) ≤ (l * (c * b)) * (m * (a * b)) := by
    refine Nat.le_trans (Nat.mul_le_mul h1 h2) (Nat.le_of_eq ?_)
    simp only [Nat.mul_assoc, Nat.mul_left_comm, Nat.mul_comm]
  have h4 := two_mul_le h3
  have e1 : (r + s) * (r + s) = r * r + s * s + 2 * (r * s) := by simp only [Nat.mul_add, Nat.add_mul]; rw [Nat.mul_comm s r]; omega
  have e2 : (l + m) * ((a + c) * b) = l * (a * b) + m * (c * b) + (l * (c * b) + m * (a * b)) := by simp only [Nat.mul_add, Nat.add_mul]; omega
  omega
/-! ### lots -/
theorem nodup_len : ∀ (L B : List Nat), L.Nodup → (∀ x ∈ L, x ∈ B) → L.length ≤ B.length
  | [], _, _, _ => by simp
  | a :: L, B, hn, hs => by
    rw [List.nodup_cons] at hn
    have ha := hs a List.mem_cons_self
    have := nodup_len L (B.erase a) hn.2 fun x hx => by
      have hne : x ≠ a := fun e => hn.1 (e ▸ hx)
      exact (List.mem_erase_of_ne hne).mpr (hs x (List.mem_cons_of_mem _ hx))
    rw [List.length_erase_of_mem ha] at this
    have : 0 < B.length := List.length_pos_of_mem ha
    simp only [List.length_cons]
    omega
/-- how many neighbours of an input are in a lot -/
def nbs (n : Nat) (x : Nat) (B : List Nat) : Nat := (((List.range n).map (flip x)).filter fun y => B.contains y).length
theorem across_nbs (n : Nat) (A B : List Nat) : across n A B = (A.map fun x => nbs n x B).sum := rfl
theorem across_split (n : Nat) (p : Nat → Bool) (B : List Nat) : ∀ A : List Nat, across n A B = across n (A.filter p) B + across n (A.filter fun x => !p x) B
  | [] => rfl
  | a :: A => by
    have ih := across_split n p B A
    simp only [across_nbs] at *
    rw [List.map_cons, List.sum_cons, ih, List.filter_cons, List.filter_cons]
    cases p a <;> simp <;> omega
theorem contains_filter (B : List Nat) (p : Nat → Bool) (y : Nat) : (B.filter p).contains y = (B.contains y && p y) := by
  rw [Bool.eq_iff_iff]
  simp [List.mem_filter]
theorem nbs_split (n : Nat) (p : Nat → Bool) (x : Nat) (B : List Nat) : nbs n x B = nbs n x (B.filter p) + nbs n x (B.filter fun y => !p y) := by
  unfold nbs
  simp only [contains_filter]
  generalize (List.range n).map (flip x) = l
  induction l with
  | nil => rfl
  | cons a l ih =>
    simp only [List.filter_cons]
    cases B.contains a <;> cases p a <;> simp only [Bool.and_true, Bool.and_false, Bool.not_true, Bool.not_false, if_true, if_false, Bool.false_eq_true, List.length_cons] <;> omega
theorem across_splitB (n : Nat) (p : Nat → Bool) (B : List Nat) : ∀ A : List Nat, across n A B = across n A (B.filter p) + across n A (B.filter fun y => !p y)
  | [] => rfl
  | a :: A => by
    have ih := across_splitB n p B A
    simp only [across_nbs] at *
    rw [List.map_cons, List.sum_cons, List.map_cons, List.sum_cons, List.map_cons, List.sum_cons, ih, nbs_split n p a B]
    omega
theorem len_split (p : Nat → Bool) : ∀ A : List Nat, A.length = (A.filter p).length + (A.filter fun x => !p x).length
  | [] => rfl
  | a :: A => by
    have ih := len_split p A
    rw [List.filter_cons, List.filter_cons]
    cases p a <;> simp <;> omega
/-! ### a bit alone -/
theorem flip_inj {x y i : Nat} (h : flip x i = flip y i) : x = y := by
  have := congrArg (flip · i) h
  simpa [flip_flip] using this
theorem nbs_leaf (n i x : Nat) (B : List Nat) (h : ∀ y ∈ B, y.testBit i ≠ x.testBit i) : nbs n x B ≤ if B.contains (flip x i) then 1 else 0 := by
  unfold nbs
  induction n with
  | zero => simp
  | succ n ih =>
    rw [List.range_succ, List.map_append, List.filter_append, List.length_append]
    by_cases hi : n = i
    · subst hi
      have z : ((List.map (flip x) (List.range n)).filter fun y => B.contains y) = [] := by
        rw [List.filter_eq_nil_iff]
        intro y hy hc
        obtain ⟨j, hj, rfl⟩ := List.mem_map.mp hy
        rw [List.mem_range] at hj
        have := h (flip x j) (by simpa using hc)
        rw [flip_bit] at this
        have : ¬ j = n := by omega
        simp_all
      rw [z]
      simp only [List.map_cons, List.map_nil, List.filter_cons, List.filter_nil, List.length_nil]
      split <;> simp
    · have z : ((List.map (flip x) [n]).filter fun y => B.contains y) = [] := by
        rw [List.filter_eq_nil_iff]
        intro y hy hc
        simp only [List.map_cons, List.map_nil, List.mem_singleton] at hy
        subst hy
        have := h (flip x n) (by simpa using hc)
        rw [flip_bit] at this
        simp_all
      rw [z]
      simpa using ih
theorem across_leaf (n i : Nat) (A B : List Nat) (hA : A.Nodup) (h : ∀ x ∈ A, ∀ y ∈ B, y.testBit i ≠ x.testBit i) : across n A B ≤ A.length ∧ across n A B ≤ B.length := by
  have key : across n A B ≤ (A.filter fun x => B.contains (flip x i)).length := by
    rw [across_nbs]
    have : ∀ A : List Nat, (∀ x ∈ A, ∀ y ∈ B, y.testBit i ≠ x.testBit i) → (A.map fun x => nbs n x B).sum ≤ (A.filter fun x => B.contains (flip x i)).length := by
      intro A
      induction A with
      | nil => intro _; simp
      | cons a A ih =>
        intro h
        have h1 := ih fun x hx => h x (List.mem_cons_of_mem _ hx)
        have h2 := nbs_leaf n i a B (h a List.mem_cons_self)
        rw [List.map_cons, List.sum_cons, List.filter_cons]
        split at h2
        · rename_i hc; rw [if_pos hc, List.length_cons]; omega
        · rename_i hc; rw [if_neg hc]; omega
    exact this A h
  refine ⟨Nat.le_trans key (List.length_filter_le _ _), Nat.le_trans key ?_⟩
  have := nodup_len ((A.filter fun x => B.contains (flip x i)).map (flip · i)) B ?_ ?_
  · simpa using this
  · exact List.pairwise_map.mpr ((hA.filter _).imp fun h e => h (flip_inj e))
  · intro y hy
    obtain ⟨x, hx, rfl⟩ := List.mem_map.mp hy
    simpa using (List.mem_filter.mp hx).2
/-! ### any formula -/
theorem few_across (n : Nat) : ∀ (φ : Fm) (A B : List Nat), A.Nodup → (∀ x ∈ A, φ.ev x = true) → (∀ y ∈ B, φ.ev y = false) → across n A B * across n A B ≤ φ.leaves * (A.length * B.length)
  | .leaf t i, A, B, hA, h1, h0 => by
    obtain ⟨a, b⟩ := across_leaf n i A B hA fun x hx y hy e => by
      have e1 := h1 x hx
      have e0 := h0 y hy
      simp only [Fm.ev] at e1 e0
      rw [e] at e0
      rw [e0] at e1
      cases e1
    simp only [Fm.leaves, Nat.one_mul]
    exact Nat.mul_le_mul a b
  | .node true f g, A, B, hA, h1, h0 => by
    have i1 := few_across n f A (B.filter fun y => !f.ev y) hA (fun x hx => by have := h1 x hx; simp [Fm.ev] at this; exact this.1) (fun y hy => by have := (List.mem_filter.mp hy).2; simpa using this)
    have i2 := few_across n g A (B.filter f.ev) hA (fun x hx => by have := h1 x hx; simp [Fm.ev] at this; exact this.2) (fun y hy => by
      have e := (List.mem_filter.mp hy).2
      have := h0 y (List.mem_filter.mp hy).1
      simp [Fm.ev, e] at this
      exact this)
    rw [across_splitB n f.ev B A, len_split f.ev B, Nat.add_comm (across n A (B.filter f.ev)), Nat.add_comm (B.filter f.ev).length, Nat.mul_comm A.length]
    rw [Nat.mul_comm A.length] at i1 i2
    exact step_le i1 i2
  | .node false f g, A, B, hA, h1, h0 => by
    have i1 := few_across n f (A.filter f.ev) B (hA.filter _) (fun x hx => (List.mem_filter.mp hx).2) (fun y hy => by have := h0 y hy; simp [Fm.ev] at this; exact this.1)
    have i2 := few_across n g (A.filter fun x => !f.ev x) B (hA.filter _) (fun x hx => by
      have e := (List.mem_filter.mp hx).2
      have := h1 x (List.mem_filter.mp hx).1
      simp at e
      simp [Fm.ev, e] at this
      exact this) (fun y hy => by have := h0 y hy; simp [Fm.ev] at this; exact this.2)
    rw [across_split n f.ev B A, len_split f.ev A]
    exact step_le i1 i2
/-- the least number of leaves that two lots let -/
theorem lots_let {n : Nat} {φ : Fm} {A B : List Nat} (hA : A.Nodup) (h1 : ∀ x ∈ A, φ.ev x = true) (h0 : ∀ y ∈ B, φ.ev y = false) (pA : 0 < A.length) (pB : 0 < B.length) : byLots n A B ≤ φ.leaves := by
  have h := few_across n φ A B hA h1 h0
  have hp : 0 < A.length * B.length := Nat.mul_pos pA pB
  unfold byLots
  have hI : ((across n A B : Nat) : Int) * (across n A B : Nat) ≤ (φ.leaves : Int) * ((A.length : Int) * (B.length : Int)) := by exact_mod_cast h
  have hpI : (0 : Int) < (A.length : Int) * (B.length : Int) := by exact_mod_cast hp
  generalize (A.length : Int) * (B.length : Int) = q at *
  generalize (across n A B : Int) * (across n A B : Int) = c at *
  have : (c + q - 1) / q < (φ.leaves : Int) + 1 := by
    rw [Int.ediv_lt_iff_lt_mul hpI, Int.add_mul, Int.one_mul]
    omega
  omega
end Bq

set_option Elab.async false
set_option linter.all false
set_option maxRecDepth 100000
/-! Neighbours across, counted otherwise; bounds by greatest numbers of neighbours. -/
namespace Bq
theorem sum_add {α : Type} (f g : α → Nat) (l : List α) : (l.map fun a => f a + g a).sum = (l.map f).sum + (l.map g).sum := by
  induction l with
  | nil => rfl
  | cons a l ih => simp only [List.map_cons, List.sum_cons, ih]; omega
theorem len_filter_cons {α : Type} (p : α → Bool) (a : α) (l : List α) : ((a :: l).filter p).length = (if p a then 1 else 0) + (l.filter p).length := by
  rw [List.filter_cons]
  cases p a <;> simp [Nat.add_comm]
theorem sum_ite_len {α : Type} (p : α → Bool) (l : List α) : (l.map fun a => if p a = true then 1 else 0).sum = (l.filter p).length := by
  induction l with
  | nil => rfl
  | cons a l ih => rw [List.map_cons, List.sum_cons, ih, len_filter_cons]
theorem cnt_swap {α β : Type} (p : α → β → Bool) (m : List β) : ∀ l : List α, (l.map fun a => (m.filter (p a)).length).sum = (m.map fun b => (l.filter fun a => p a b).length).sum
  | [] => by
    show 0 = (m.map fun b => 0).sum
    induction m with
    | nil => rfl
    | cons b m ih => simpa using ih
  | a :: l => by
    rw [List.map_cons, List.sum_cons, cnt_swap p m l]
    have : (m.map fun b => ((a :: l).filter fun a => p a b).length) = m.map fun b => (if p a b = true then 1 else 0) + (l.filter fun a => p a b).length := by
      apply List.map_congr_left
      intro b _
      exact len_filter_cons _ _ _
    rw [this, sum_add, sum_ite_len]
theorem nbs_i (n x : Nat) (B : List Nat) : nbs n x B = ((List.range n).filter fun i => B.contains (flip x i)).length := by
  unfold nbs
  rw [List.filter_map, List.length_map]
  rfl
theorem across_2 (n : Nat) (A B : List Nat) : across n A B = across2 n A B := by
  rw [across_nbs, across2]
  have : (A.map fun x => nbs n x B) = A.map fun x => ((List.range n).filter fun i => B.contains (flip x i)).length := by
    apply List.map_congr_left
    intro x _
    exact nbs_i n x B
  rw [this]
  exact cnt_swap (fun x i => B.contains (flip x i)) (List.range n) A
theorem sum_le_mul {α : Type} (f : α → Nat) (m : Nat) : ∀ l : List α, (∀ a ∈ l, f a ≤ m) → (l.map f).sum ≤ m * l.length
  | [], _ => by simp
  | a :: l, h => by
    have := sum_le_mul f m l fun b hb => h b (List.mem_cons_of_mem _ hb)
    have := h a List.mem_cons_self
    simp only [List.map_cons, List.sum_cons, List.length_cons, Nat.mul_add, Nat.mul_one]
    omega
theorem across2_leB {n : Nat} {A B : List Nat} (hA : A.Nodup) : across2 n A B ≤ n * B.length := by
  unfold across2
  have := sum_le_mul (fun i => (A.filter fun x => B.contains (flip x i)).length) B.length (List.range n) fun i _ => by
    have h1 : ((A.filter fun x => B.contains (flip x i)).map fun x => flip x i).Nodup := by
      rw [List.nodup_iff_pairwise_ne] at hA ⊢
      rw [List.pairwise_map]
      refine (hA.filter _).imp fun {a b} h e => h (flip_inj e)
    have := nodup_len _ B h1 fun y hy => by
      rw [List.mem_map] at hy
      obtain ⟨x, hx, rfl⟩ := hy
      have := (List.mem_filter.mp hx).2
      simpa using this
    rw [List.length_map] at this
    exact this
  rw [List.length_range, Nat.mul_comm] at this
  exact this
theorem by_lots_le {n q : Nat} {A B : List Nat} (h : across n A B * across n A B ≤ q * (A.length * B.length)) (pA : 0 < A.length) (pB : 0 < B.length) : byLots n A B ≤ q := by
  have hp : 0 < A.length * B.length := Nat.mul_pos pA pB
  unfold byLots
  have hI : ((across n A B : Nat) : Int) * (across n A B : Nat) ≤ (q : Int) * ((A.length : Int) * (B.length : Int)) := by exact_mod_cast h
  have hpI : (0 : Int) < (A.length : Int) * (B.length : Int) := by exact_mod_cast hp
  generalize (A.length : Int) * (B.length : Int) = w at *
  generalize (across n A B : Int) * (across n A B : Int) = c at *
  have : (c + w - 1) / w < (q : Int) + 1 := by
    rw [Int.ediv_lt_iff_lt_mul hpI, Int.add_mul, Int.one_mul]
    omega
  omega
theorem across_sq {n : Nat} {A B : List Nat} (hA : A.Nodup) : across n A B * across n A B ≤ n * n * (A.length * B.length) := by
  have h1 := across_le n B A
  have h2 : across n A B ≤ n * B.length := by rw [across_2]; exact across2_leB hA
  have := Nat.mul_le_mul h1 h2
  rw [show n * n * (A.length * B.length) = n * A.length * (n * B.length) by simp only [Nat.mul_assoc, Nat.mul_left_comm]]
  exact this
theorem by_lots_sq {n : Nat} {A B : List Nat} (hA : A.Nodup) (pA : 0 < A.length) (pB : 0 < B.length) : byLots n A B ≤ (n : Int) * n := by
  have := by_lots_le (across_sq (n := n) (B := B) hA) pA pB
  rw [show (n : Int) * n = ((n * n : Nat) : Int) by push_cast; rfl]
  exact this
/-! greatest of a list -/
def mxl (l : List Int) (a : Int) : Int := l.foldl (fun a b => if a < b then b else a) a
theorem mxl_ge : ∀ (l : List Int) (a : Int), a ≤ mxl l a ∧ ∀ b ∈ l, b ≤ mxl l a
  | [], a => ⟨Int.le_refl a, fun _ h => by cases h⟩
  | c :: l, a => by
    obtain ⟨h1, h2⟩ := mxl_ge l (if a < c then c else a)
    have e : mxl (c :: l) a = mxl l (if a < c then c else a) := rfl
    rw [e]
    refine ⟨?_, fun b hb => ?_⟩
    · refine Int.le_trans ?_ h1
      split <;> omega
    · rcases List.mem_cons.mp hb with rfl | hb
      · refine Int.le_trans ?_ h1
        split <;> omega
      · exact h2 b hb
theorem mxl_le {q : Int} : ∀ (l : List Int) (a : Int), a ≤ q → (∀ b ∈ l, b ≤ q) → mxl l a ≤ q
  | [], a, h, _ => h
  | c :: l, a, h, h2 => by
    have e : mxl (c :: l) a = mxl l (if a < c then c else a) := rfl
    rw [e]
    refine mxl_le l _ ?_ fun b hb => h2 b (List.mem_cons_of_mem _ hb)
    have := h2 c List.mem_cons_self
    split <;> omega
theorem across_leA {n m : Nat} {A B : List Nat} (h : ∀ x ∈ A, across2 n [x] B ≤ m) : across n A B ≤ m * A.length := by
  rw [across_nbs]
  refine sum_le_mul _ m A fun x hx => ?_
  have := h x hx
  rw [← across_2] at this
  simpa [across_nbs] using this
theorem nbs_sum (n x : Nat) : ∀ B : List Nat, nbs n x B ≤ (B.map fun y => nbs n x [y]).sum
  | [] => by simp [nbs]
  | b :: B => by
    have ih := nbs_sum n x B
    rw [List.map_cons, List.sum_cons]
    have : nbs n x (b :: B) ≤ nbs n x [b] + nbs n x B := by
      simp only [nbs_i]
      have : ∀ l : List Nat, (l.filter fun i => (b :: B).contains (flip x i)).length ≤ (l.filter fun i => [b].contains (flip x i)).length + (l.filter fun i => B.contains (flip x i)).length := fun l => by
        induction l with
        | nil => simp
        | cons a l ih =>
          rw [len_filter_cons, len_filter_cons, len_filter_cons]
          have : (if (b :: B).contains (flip x a) = true then 1 else 0) ≤ (if [b].contains (flip x a) = true then 1 else 0) + (if B.contains (flip x a) = true then 1 else 0) := by
            rw [List.contains_cons, List.contains_cons]
            cases (flip x a == b) <;> cases B.contains (flip x a) <;> simp
          omega
      exact this _
    omega
theorem across_leB {n m : Nat} {A B : List Nat} (h : ∀ y ∈ B, across2 n A [y] ≤ m) : across n A B ≤ m * B.length := by
  have h1 : across n A B ≤ (B.map fun y => across n A [y]).sum := by
    clear h
    induction A with
    | nil => simp [across]
    | cons a A ih =>
      have := nbs_sum n a B
      have e : (B.map fun y => across n (a :: A) [y]) = B.map fun y => nbs n a [y] + across n A [y] := by
        apply List.map_congr_left
        intro y _
        rfl
      rw [e, sum_add]
      show nbs n a B + across n A B ≤ _
      omega
  refine Nat.le_trans h1 (sum_le_mul _ m B fun y hy => ?_)
  rw [across_2]
  exact h y hy
/-! the greatest by all lots -/
theorem best1_mxl (n : Nat) (A : List Nat) (Bs : List (List Nat)) (b : Int) : best1 n A Bs b = mxl (Bs.map fun B => byLots n A B) b := by
  unfold best1 mxl
  rw [List.foldl_map]
  rfl
theorem best2_le {n : Nat} {As Bs : List (List Nat)} {q : Int} (h0 : 0 ≤ q) (h : ∀ A ∈ As, ∀ B ∈ Bs, byLots n A B ≤ q) : best2 n As Bs ≤ q := by
  have : ∀ (As : List (List Nat)) (b : Int), b ≤ q → (∀ A ∈ As, ∀ B ∈ Bs, byLots n A B ≤ q) → As.foldl (fun b A => best1 n A Bs b) b ≤ q := by
    intro As
    induction As with
    | nil => intro b hb _; exact hb
    | cons A As ih =>
      intro b hb h
      rw [List.foldl_cons]
      refine ih _ ?_ fun A hA => h A (List.mem_cons_of_mem _ hA)
      rw [best1_mxl]
      refine mxl_le _ _ hb fun c hc => ?_
      rw [List.mem_map] at hc
      obtain ⟨B, hB, rfl⟩ := hc
      exact h A List.mem_cons_self B hB
  exact this As 0 h0 h
theorem best2_ge {n : Nat} {As Bs : List (List Nat)} {A B : List Nat} (hA : A ∈ As) (hB : B ∈ Bs) : byLots n A B ≤ best2 n As Bs := by
  have mono : ∀ (As : List (List Nat)) (b : Int), b ≤ As.foldl (fun b A => best1 n A Bs b) b := by
    intro As
    induction As with
    | nil => intro b; exact Int.le_refl b
    | cons A As ih =>
      intro b
      rw [List.foldl_cons]
      refine Int.le_trans ?_ (ih _)
      rw [best1_mxl]
      exact (mxl_ge _ _).1
  have : ∀ (As : List (List Nat)) (b : Int), A ∈ As → byLots n A B ≤ As.foldl (fun b A => best1 n A Bs b) b := by
    intro As
    induction As with
    | nil => intro b h; cases h
    | cons C As ih =>
      intro b h
      rw [List.foldl_cons]
      rcases List.mem_cons.mp h with rfl | h
      · refine Int.le_trans ?_ (mono As _)
        rw [best1_mxl]
        exact (mxl_ge _ _).2 _ (List.mem_map.mpr ⟨B, hB, rfl⟩)
      · exact ih _ h
  exact this As 0 hA
end Bq

set_option Elab.async false
set_option linter.all false
set_option maxRecDepth 100000
/-! Equations: things in a drawn order; formulas led over. -/
namespace Bq
open PySem (Str)
/-- a comprehension that changes slots as it goes -/
theorem Al.lcI {cl : Nat → List Vl → M D} {env e1 : Env} {α : Type} {elt : Ex} {g : Tg} {it : It} {ifs : Exs} {own fz : List Nat} {l : List α} {h : α → D} (I : Nat → List D → Env → Prop) (h1 : evIt cl it env = .ret (l.map h, e1)) (hno : noOwn e1 own = true) (hcap : l.length ≤ cap)
    (h0 : I 0 [] (unset (shrs e1 fz) own)) (hs : ∀ k a acc env, l[k]? = some a → I k acc env → Al (lcStep cl elt g ifs own (h a) env) fun x => ∃ y, x.1 = some y ∧ I (k + 1) (acc ++ [y]) x.2) :
    Al (evO cl (.lc elt g it ifs own fz) env) fun x => ∃ ys e, I l.length ys e ∧ x = (.fr (.lst ys), back e1 e own) := by
  rw [lc_eq, h1]
  have key : ∀ (l' : List α) (k : Nat) (acc : List D) (env : Env), (∀ j a, l'[j]? = some a → l[k + j]? = some a) → I k acc env →
      Al (lcLoop (lcStep cl elt g ifs own) (l'.map h) env) fun x => I (k + l'.length) (acc ++ x.1) x.2 := by
    intro l'
    induction l' with
    | nil => intro k acc env _ hi; exact Al.eq (a := ([], env)) rfl (by simpa using hi)
    | cons a r ih =>
      intro k acc env hg hi
      rw [List.map_cons, lcLoop]
      refine (hs k a acc env (by simpa using hg 0 a rfl) hi).bind ?_
      rintro ⟨o, e⟩ ⟨y, rfl, hy⟩
      refine (ih (k + 1) (acc ++ [y]) e (fun j b hb => by have := hg (j + 1) b (by simpa using hb); rwa [show k + (j + 1) = k + 1 + j by omega] at this) hy).bind ?_
      rintro ⟨ys, e⟩ hz
      refine ⟨?_⟩
      show I (k + (a :: r).length) (acc ++ (y :: ys)) e
      rw [List.length_cons, show k + (r.length + 1) = k + 1 + r.length by omega]
      simpa using hz
  simp only [M.bind_ret, hno, List.length_map, hcap, decide_true, Bool.and_self, if_true]
  refine (key l 0 [] _ (fun j a hj => by simpa using hj) h0).bind ?_
  rintro ⟨ys, e⟩ hz
  exact ⟨ys, e, by simpa using hz, rfl⟩
theorem perm_erase {α : Type} : ∀ (l : List α) (r : Nat) (h : r < l.length), (l[r] :: l.eraseIdx r).Perm l
  | [], _, h => by simp at h
  | a :: l, 0, _ => List.Perm.refl _
  | a :: l, r + 1, h => by
    have hr : r < l.length := by simpa using h
    have := perm_erase l r hr
    show (l[r] :: a :: l.eraseIdx r).Perm (a :: l)
    exact (List.Perm.swap a l[r] _).trans (this.cons a)
def Mix60 (xs : List D) (v0 : Sl) (k : Nat) (acc : List D) (e : Env) : Prop := ∃ rest : List D, rest.length + k = xs.length ∧ (acc ++ rest).Perm xs ∧ e = [.vl .src, v0, .ow (.lst rest), .u]
theorem mixed_al {cl : Nat → List Vl → M D} (xs : List D) (hx : xs.length < 1000000) (v0 : Sl) :
    Al (evO cl d60_l0 [.vl .src, v0, .ow (.lst xs), .u]) fun x => ∃ ys, ys.Perm xs ∧ x = (.fr (.lst ys), [.vl .src, v0, .ow (.lst []), .u]) := by
  unfold d60_l0
  have := Al.lcI (cl := cl) (env := [.vl .src, v0, .ow (.lst xs), .u]) (e1 := [.vl .src, v0, .ow (.lst xs), .u]) (elt := .popAt 2 (.pick 0 (.bi .len (.cons (.v 2) .nil)))) (g := .nm 3) (it := .rg1 (.bi .len (.cons (.v 2) .nil))) (ifs := .nil) (own := [3]) (fz := [0]) (l := List.range xs.length) (h := fun i : Nat => D.int (i : Int))
    (Mix60 xs v0) (it_rg1 (m := (xs.length : Nat)) (by simp) rfl (by omega)) rfl (by rw [List.length_range]; simp [cap]; omega) ⟨xs, rfl, List.Perm.refl _, rfl⟩ ?_
  · refine this.mono ?_
    rintro x ⟨ys, e, ⟨rest, h1, h2, rfl⟩, rfl⟩
    rw [List.length_range] at h1
    have hr : rest = [] := List.length_eq_zero_iff.mp (by omega)
    subst hr
    rw [List.append_nil] at h2
    exact ⟨ys, h2, by simp⟩
  · rintro k a acc env hk ⟨rest, h1, h2, rfl⟩
    have hk2 : k < xs.length := by rw [List.getElem?_eq_some_iff] at hk; simpa using hk.1
    have hp : 0 < rest.length := by omega
    unfold lcStep
    simp
    try simp only [M.bind_assoc]
    refine Al.pkB (by omega) fun r hr => ?_
    have hr2 : r < rest.length := by omega
    have g : rest[r]? = some rest[r] := List.getElem?_eq_getElem hr2
    have hr3 : r < 1000000 := by omega
    refine Al.eq (a := (some rest[r], [.vl .src, v0, .ow (.lst (rest.eraseIdx r)), .u])) (by simp [g, hr3]) ⟨rest[r], rfl, rest.eraseIdx r, by rw [List.length_eraseIdx_of_lt hr2]; omega, ?_, rfl⟩
    refine List.Perm.trans ?_ h2
    rw [List.append_assoc]
    refine List.Perm.append_left acc ?_
    exact perm_erase rest r hr2
theorem law_mixed_al {Φ : Tab} (h : Φ 60 = some d60_law_mixed) (k : Nat) (xs : List D) (hx : xs.length < 1000000) (t : Bool) : Al (run Φ (k + 1) 60 [.src, .d (if t then .tup xs else .lst xs)]) fun d => ∃ ys, ys.Perm xs ∧ d = .lst ys := by
  refine Al.run h rfl [.vl .src, vD (if t then .tup xs else .lst xs), .u, .u] rfl ?_
  have hm := mixed_al (cl := run Φ k) xs hx (vD (if t then .tup xs else .lst xs))
  unfold d60_law_mixed
  refine Al.st (e1 := [.vl .src, vD (if t then .tup xs else .lst xs), .ow (.lst xs), .u]) (by cases t <;> simp) ?_
  refine Al.mono (P := fun x => ∃ y, x.1 = .rt y ∧ ∃ ys, ys.Perm xs ∧ y = .lst ys) ?_ (fun _ h => h)
  simp only [u_s1, u_ret, M.bind_assoc]
  refine hm.bind ?_
  rintro x ⟨ys, hp, rfl⟩
  exact Al.eq (a := (.rt (.lst ys), [.vl .src, vD (if t then .tup xs else .lst xs), .ow (.lst []), .u])) (by simp) ⟨_, rfl, ys, hp, rfl⟩
/-! ### formulas led over -/
/-- renamed, or with answers exchanged -/
def led (o : Option (List Nat)) : Fm → Fm
  | .leaf t i => match o with
    | some ns => .leaf t (ns.getD i 0)
    | none => .leaf (!t) i
  | .node a f g => .node (match o with | some _ => a | none => !a) (led o f) (led o g)
theorem led_leaves (o : Option (List Nat)) : ∀ φ : Fm, (led o φ).leaves = φ.leaves
  | .leaf t i => by cases o <;> rfl
  | .node a f g => by simp only [led, Fm.leaves, led_leaves o f, led_leaves o g]
theorem led_neg (x : Nat) : ∀ φ : Fm, (led none φ).ev x = !φ.ev x
  | .leaf t i => by simp [led, Fm.ev]
  | .node a f g => by cases a <;> simp [led, Fm.ev, led_neg x f, led_neg x g]
theorem led_low {n : Nat} (ns : List Nat) (hl : ns.length = n) (h : ∀ i ∈ ns, i < n) : ∀ φ : Fm, φ.low n = true → (led (some ns) φ).low n = true
  | .leaf t i, hi => by
    simp [Fm.low] at hi
    have : ns.getD i 0 ∈ ns := by rw [List.getD_eq_getElem?_getD, List.getElem?_eq_getElem (by omega)]; exact List.getElem_mem _
    simp only [led, Fm.low, decide_eq_true_eq]
    exact h _ this
  | .node a f g, hi => by
    simp [Fm.low] at hi
    simp only [led, Fm.low, led_low ns hl h f hi.1, led_low ns hl h g hi.2]
    rfl
theorem led_low' {n : Nat} : ∀ φ : Fm, (led none φ).low n = φ.low n
  | .leaf t i => rfl
  | .node a f g => by simp only [led, Fm.low, led_low' f, led_low' g]
/-- what the bits of an input make, renamed -/
def bsum (f : Nat → Bool) : Nat → Nat
  | 0 => 0
  | n + 1 => bsum f n + (if f n then 2 ^ n else 0)
theorem bsum_lt (f : Nat → Bool) : ∀ n, bsum f n < 2 ^ n
  | 0 => Nat.one_pos
  | n + 1 => by
    have := bsum_lt f n
    simp only [bsum, Nat.pow_succ]
    split <;> omega
theorem bsum_bit (f : Nat → Bool) : ∀ n i, i < n → (bsum f n).testBit i = f i
  | 0, i, h => by omega
  | n + 1, i, h => by
    have hl := bsum_lt f n
    simp only [bsum]
    by_cases hi : i = n
    · subst hi
      cases hf : f i
      · simp only [Bool.false_eq_true, if_false, Nat.add_zero]
        exact Nat.testBit_lt_two_pow hl
      · simp only [if_true]
        rw [Nat.add_comm, Nat.testBit_two_pow_add_eq, Nat.testBit_lt_two_pow hl]
        rfl
    · have hi2 : i < n := by omega
      rw [← bsum_bit f n i hi2]
      split
      · rw [Nat.add_comm, Nat.testBit_two_pow_add_gt hi2]
      · rfl
theorem led_ev {n : Nat} (ns : List Nat) (hl : ns.length = n) (x : Nat) : ∀ φ : Fm, φ.low n = true → (led (some ns) φ).ev x = φ.ev (bsum (fun i => x.testBit (ns.getD i 0)) n)
  | .leaf t i, h => by
    simp [Fm.low] at h
    simp only [led, Fm.ev]
    rw [bsum_bit _ n i h]
  | .node a f g, h => by
    simp [Fm.low] at h
    simp only [led, Fm.ev, led_ev ns hl x f h.1, led_ev ns hl x g h.2]
theorem bsumI (f : Nat → Bool) : ∀ n, ((List.range n).map fun i => (2 : Int) ^ i * b2i (f i)).sum = (bsum f n : Int)
  | 0 => rfl
  | n + 1 => by
    rw [List.range_succ, List.map_append, List.sum_append, bsumI f n]
    simp only [List.map_cons, List.map_nil, List.sum_cons, List.sum_nil, bsum]
    cases f n <;> simp [b2i]
def namesD : Option (List Nat) → D
  | some ns => .lst (nL ns)
  | none => .non
def otherK : List (D × D) := dputs [.str "bit", .str "not", .str "and", .str "or"] [.str "not", .str "bit", .str "or", .str "and"] []
def strOf : D → Option Str
  | .str s => some s
  | _ => none
theorem strOf_some {o : Option D} {s : Str} (h : o.bind strOf = some s) : o = some (.str s) := by
  cases o with
  | none => cases h
  | some d =>
    cases d with
    | str t => cases h; rfl
    | _ => cases h
theorem other_leaf (t : Bool) : dget (.str (leafS t)) otherK = some (.str (leafS (!t))) := strOf_some (by cases t <;> decide +kernel)
theorem other_node (t : Bool) : dget (.str (nodeS t)) otherK = some (.str (nodeS (!t))) := strOf_some (by cases t <;> decide +kernel)
abbrev E61 (φ : Fm) (o : Option (List Nat)) (line : List Fm) (low : List Nat) (kvs : List (D × D)) (a6 a7 a8 a9 : Sl) : Env := [vD φ.d, vD (namesD o), vD (.lst (line.map Fm.d)), vD (.lst (nL low)), .ow (.dic false kvs), .ow (.dic false otherK), a6, a7, a8, a9]
def up61 (φ : Fm) (o : Option (List Nat)) (line : List Fm) (low : List Nat) (j : Nat) (env : Env) : Prop := ∃ kvs a6 a7 a8 a9, env = E61 φ o line low kvs a6 a7 a8 a9 ∧
  KInt kvs ∧ kvs.length ≤ j ∧ ∀ k f, line.length ≤ k + j → line[k]? = some f → dget (.int k) kvs = some (led o f).d
theorem up61_body {cl : Nat → List Vl → M D} (φ : Fm) (hφ : φ.size < 100000) (o : Option (List Nat)) (line : List Fm) (low : List Nat) (p : Row φ line low) (hlow : ∀ ns, o = some ns → ∀ f ∈ line, f.low ns.length = true) (j : Nat) (hj : j < line.length) (env : Env) (hi : up61 φ o line low j env) :
    ∃ e1 e2, asgTg (.nm 6) (.int ((line.length - 1 - j : Nat) : Int)) env = some e1 ∧ evSs cl d61_b0 e1 = .ret (.nx, e2) ∧ up61 φ o line low (j + 1) e2 := by
  obtain ⟨kvs, a6, a7, a8, a9, rfl, hK, hL, hG⟩ := hi
  generalize hq : line.length - 1 - j = q
  have hq1 : q < line.length := by omega
  obtain ⟨f, ef⟩ : ∃ f, line[q]? = some f := ⟨line[q], by simp [hq1]⟩
  have hat : (line.map Fm.d)[q]? = some f.d := by simp [ef]
  have hb := p.ok q hq1
  have hlen := rw_len p
  simp only at hlen
  have hcap : kvs.length < 1000000 := by omega
  have hmem : f ∈ line := by rw [List.getElem?_eq_some_iff] at ef; obtain ⟨_, rfl⟩ := ef; exact List.getElem_mem _
  unfold rwOk at hb
  simp only [ef] at hb
  cases e : low[q]? with
  | none => rw [e] at hb; exact hb.elim
  | some i =>
  rw [e] at hb
  obtain ⟨b1, b2⟩ := hb
  have hlo : (nL low)[q]? = some (.int (i : Int)) := by simp [nL, e]
  have fin : ∀ env, (∃ a6 a7 a8 a9, env = E61 φ o line low (dput (.int q) (led o f).d kvs) a6 a7 a8 a9) → up61 φ o line low (j + 1) env := by
    rintro env ⟨a6, a7, a8, a9, rfl⟩
    refine ⟨_, a6, a7, a8, a9, rfl, hK.put _ _, Nat.le_trans (dput_len _ _ _) (by omega), fun k g hk hg => ?_⟩
    rw [hK.get]
    by_cases e : q = k
    · subst e
      rw [ef] at hg
      injection hg with hg
      subst hg
      simp
    · have : ¬ ((q : Int) = (k : Int)) := by omega
      rw [if_neg this]
      exact hG k g (by omega) hg
  have n1 : ∀ ns : List Nat, (namesD (some ns)) = .lst (nL ns) := fun _ => rfl
  have n0 : (namesD none) = .non := rfl
  cases f with
  | leaf t m =>
    have ol := other_leaf t
    cases o with
    | some ns =>
      have hm : m < ns.length := by
        have := hlow ns rfl _ hmem
        simpa [Fm.low] using this
      obtain ⟨v, g⟩ : ∃ v, ns[m]? = some v := ⟨ns[m], List.getElem?_eq_getElem hm⟩
      have hl : (led (some ns) (.leaf t m)).d = .tup [.str (leafS t), .int (v : Nat)] := by simp [led, Fm.d, g]
      refine ⟨_, E61 φ (some ns) line low (dput (.int q) (led (some ns) (.leaf t m)).d kvs) (vI q) (vD (Fm.leaf t m).d) (vI i) (vD (.str (leafS t))), rfl, ?_, fin _ ⟨_, _, _, _, rfl⟩⟩
      simp only [Fm.d] at hat
      rw [hl]
      simp [d61_b0, hat, hlo, keyOk, hcap, n1, g, Fm.d, -List.getElem?_map]
    | none =>
      refine ⟨_, E61 φ none line low (dput (.int q) (led none (.leaf t m)).d kvs) (vI q) (vD (Fm.leaf t m).d) (vI i) (vD (.str (leafS (!t)))), rfl, ?_, fin _ ⟨_, _, _, _, rfl⟩⟩
      simp only [Fm.d] at hat
      simp [d61_b0, hat, hlo, keyOk, hcap, n0, ol, led, Fm.d, -List.getElem?_map]
  | node a g h =>
    obtain ⟨b3, b4⟩ := b2 a g h rfl
    have g1 := hG i g (by omega) b3
    have g2 := hG (i + 1) h (by omega) b4
    rw [show ((i + 1 : Nat) : Int) = (i : Int) + 1 by push_cast; rfl] at g2
    have on := other_node a
    cases o with
    | some ns =>
      refine ⟨_, E61 φ (some ns) line low (dput (.int q) (led (some ns) (.node a g h)).d kvs) (vI q) (vD (Fm.node a g h).d) (vI i) (vD (.str (nodeS a))), rfl, ?_, fin _ ⟨_, _, _, _, rfl⟩⟩
      simp only [Fm.d] at hat
      simp [d61_b0, hat, hlo, keyOk, hcap, n1, g1, g2, led, Fm.d, -List.getElem?_map]
    | none =>
      refine ⟨_, E61 φ none line low (dput (.int q) (led none (.node a g h)).d kvs) (vI q) (vD (Fm.node a g h).d) (vI i) (vD (.str (nodeS (!a)))), rfl, ?_, fin _ ⟨_, _, _, _, rfl⟩⟩
      simp only [Fm.d] at hat
      simp [d61_b0, hat, hlo, keyOk, hcap, n0, g1, g2, on, led, Fm.d, -List.getElem?_map]
theorem law_led_eq {Φ : Tab} (h15 : Φ 15 = some d15_law_row) (h : Φ 61 = some d61_law_led) (k : Nat) (φ : Fm) (hφ : φ.size < 100000) (o : Option (List Nat)) (hlo : ∀ ns, o = some ns → φ.low ns.length = true) :
    run Φ (k + 2) 61 [.d φ.d, .d (namesD o)] = .ret (led o φ).d := by
  obtain ⟨line, low, p, e⟩ := law_row_eq h15 k φ hφ
  have hlen := rw_len p
  simp only at hlen
  obtain ⟨e3, h3, kvs, a6, a7, a8, a9, rfl, hK, hL, hG⟩ := evS_frDown (cl := run Φ (k + 1)) (g := .nm 6) (it := .rg3 (.bin .sub (.bi .len (.cons (.v 2) .nil)) (.int 1)) (.neg (.int 1)) (.neg (.int 1))) (b := d61_b0)
    (env := E61 φ o line low [] .u .u .u .u) (e1 := E61 φ o line low [] .u .u .u .u) (up61 φ o line low) line.length
    (by
      have hz : ((line.length : Int) - 1 - -1).toNat = line.length := by omega
      have hs : ((line.length : Int) - 1).natAbs ≤ 1000000 := by omega
      simp [hz, hs])
    ⟨[], .u, .u, .u, .u, rfl, fun p hp => by (cases hp), Nat.le_refl 0, fun k f hk hf => by
      rw [List.getElem?_eq_some_iff] at hf
      obtain ⟨hf, _⟩ := hf
      omega⟩
    (fun j env hj hi => up61_body φ hφ o line low p (fun ns hns => p.lw _ (hlo ns hns)) j hj env hi)
  have g := hG 0 φ (by omega) p.hd
  have g : dget (.int 0) kvs = some (led o φ).d := g
  refine run_rets h rfl [vD φ.d, vD (namesD o), .u, .u, .u, .u, .u, .u, .u, .u] rfl (Rets.st (e1 := [vD φ.d, vD (namesD o), vD (.lst (line.map Fm.d)), vD (.lst (nL low)), .u, .u, .u, .u, .u, .u]) (by simp [e]) (Rets.st (e1 := E61 φ o line low [] .u .u .u .u) (by simp [otherK]) (Rets.st h3 (Rets.ret ?_))))
  simp [keyOk, g]
end Bq

set_option Elab.async false
set_option linter.all false
set_option maxRecDepth 100000
/-! k79: the law's own def, 1. -/
namespace Bq
open PySem (Str)
structure T79 (Φ : Tab) : Prop where
  h3 : Φ 3 = some d3_leaves_in
  h4 : Φ 4 = some d4_bit_in
  h5 : Φ 5 = some d5_answers_told
  h9 : Φ 9 = some d9_input_neighbours
  h10 : Φ 10 = some d10_across_pairs
  h11 : Φ 11 = some d11_does_part_lots
  h13 : Φ 13 = some d13_law_two
  h14 : Φ 14 = some d14_law_bit
  h15 : Φ 15 = some d15_law_row
  h49 : Φ 49 = some d49_law_of
  h50 : Φ 50 = some d50_law_formula
  h52 : Φ 52 = some d52_law_some
  h60 : Φ 60 = some d60_law_mixed
  h61 : Φ 61 = some d61_law_led
abbrev E62 (a2 a3 a4 a5 a6 a7 a8 a9 a10 a13 a14 a15 a16 : Sl) (o17 : Option D) (a19 a20 a21 a22 a23 a24 a25 : Sl) : Env := [.u, .vl .src, a2, a3, a4, a5, a6, a7, a8, a9, a10, .u, .u, a13, a14, a15, a16, oD o17, .u, a19, a20, a21, a22, a23, a24, a25, .u]
theorem tab_ext {n : Nat} {φ ψ : Fm} (h : ∀ x, x < 2 ^ n → φ.ev x = ψ.ev x) : φ.tab n = ψ.tab n := by
  unfold Fm.tab
  apply List.map_congr_left
  intro x hx
  rw [h x (List.mem_range.mp hx)]
theorem ne_tab (n : Nat) (φ : Fm) : cmpop .ne (.tup (φ.tab n)) (.tup (φ.tab n)) = some false := ne_tup _ (plains_map _ (fun _ => rfl) _) (by rw [Fm.tab, deps_map _ (fun _ => rfl)]; omega)
section
variable {Φ : Tab} (T : T79 Φ)
include T
/-- answers put together -/
theorem k79_l7 (n : Nat) (hn : n ≤ 6) (w : Bool) (φ ψ : Fm) (a2 a3 a4 a5 a7 a10 a13 a14 a15 a16 : Sl) (o17 : Option D) (a19 a20 a21 a22 a23 a24 a25 : Sl) :
    evO (run Φ 12) d62_l7 (E62 a2 a3 a4 a5 (vD (.str (nodeS w))) a7 (vD (.tup (φ.tab n))) (vD (.tup (ψ.tab n))) a10 a13 a14 a15 a16 o17 a19 a20 a21 a22 a23 a24 a25) =
      .ret (.fr (.lst ((Fm.node w φ ψ).tab n)), E62 a2 a3 a4 a5 (vD (.str (nodeS w))) a7 (vD (.tup (φ.tab n))) (vD (.tup (ψ.tab n))) a10 a13 a14 a15 a16 o17 a19 a20 a21 a22 a23 a24 a25) := by
  have hp : 2 ^ n ≤ 2 ^ 6 := Nat.pow_le_pow_right (by decide) hn
  unfold d62_l7
  refine (lc_m (l := List.range (2 ^ n)) (h := fun x => D.tup [.int (b2i (φ.ev x)), .int (b2i (ψ.ev x))]) (e1 := E62 a2 a3 a4 a5 (vD (.str (nodeS w))) a7 (vD (.tup (φ.tab n))) (vD (.tup (ψ.tab n))) a10 a13 a14 a15 a16 o17 a19 a20 a21 a22 a23 a24 a25) (fun x => D.int (b2i ((Fm.node w φ ψ).ev x))) ?_ rfl (by rw [List.length_range]; simp [cap]; omega) rfl ?_).trans ?_
  · simp [Fm.tab, zip_map]
  · intro x _
    have e1 := min_b2i (φ.ev x) (ψ.ev x)
    have e2 := max_b2i (φ.ev x) (ψ.ev x)
    cases w <;> simp [Fm.ev, nodeS_and, e1, e2]
  · simp [Fm.tab, -oD_some]
/-- answers exchanged -/
theorem k79_l5 (n : Nat) (hn : n ≤ 6) (φ : Fm) (a2 a3 a4 a5 a6 a7 a8 a9 a13 a14 a15 a16 : Sl) (o17 : Option D) (a19 a20 a21 a22 a23 a24 a25 : Sl) :
    evO (run Φ 12) d62_l5 (E62 a2 a3 a4 a5 a6 a7 a8 a9 (vD (.tup (φ.tab n))) a13 a14 a15 a16 o17 a19 a20 a21 a22 a23 a24 a25) =
      .ret (.fr (.lst ((led none φ).tab n)), E62 a2 a3 a4 a5 a6 a7 a8 a9 (vD (.tup (φ.tab n))) a13 a14 a15 a16 o17 a19 a20 a21 a22 a23 a24 a25) := by
  have hp : 2 ^ n ≤ 2 ^ 6 := Nat.pow_le_pow_right (by decide) hn
  unfold d62_l5
  refine (lc_m (l := List.range (2 ^ n)) (h := fun x => D.int (b2i (φ.ev x))) (e1 := E62 a2 a3 a4 a5 a6 a7 a8 a9 (vD (.tup (φ.tab n))) a13 a14 a15 a16 o17 a19 a20 a21 a22 a23 a24 a25) (fun x => D.int (b2i ((led none φ).ev x))) ?_ rfl (by rw [List.length_range]; simp [cap]; omega) rfl ?_).trans ?_
  · simp [Fm.tab]
  · intro x _
    rw [led_neg]
    cases φ.ev x <;> simp [b2i]
  · simp [Fm.tab, -oD_some]
/-- a renamed input's number -/
theorem k79_l6 (n : Nat) (hn : n ≤ 6) (ns : List Nat) (hl : ns.length = n) (hns : ∀ i ∈ ns, i < n) (x : Nat) (a2 a4 a5 a6 a7 a8 a9 a10 a14 a15 a16 a19 a20 a21 a22 a23 a24 a25 : Sl) :
    evO (run Φ 12) d62_l6 (E62 a2 (vI n) a4 a5 a6 a7 a8 a9 a10 (vD (.lst (nL ns))) a14 a15 a16 (some (.int x)) a19 a20 a21 a22 a23 a24 a25) =
      .ret (.fr (.lst ((List.range n).map fun i => .int (2 ^ i * b2i (x.testBit (ns.getD i 0))))), E62 a2 (vI n) a4 a5 a6 a7 a8 a9 a10 (vD (.lst (nL ns))) a14 a15 a16 (some (.int x)) a19 a20 a21 a22 a23 a24 a25) := by
  unfold d62_l6
  refine (lc_m (l := List.range n) (h := fun i : Nat => D.int (i : Int)) (e1 := E62 a2 (vI n) a4 a5 a6 a7 a8 a9 a10 (vD (.lst (nL ns))) a14 a15 a16 (some (.int x)) a19 a20 a21 a22 a23 a24 a25) (fun i => .int (2 ^ i * b2i (x.testBit (ns.getD i 0)))) ?_ rfl (by rw [List.length_range]; simp [cap]; omega) rfl ?_).trans ?_
  · simp [rangeD0]; omega
  · intro i hi
    have hi : i < n := List.mem_range.mp hi
    obtain ⟨v, g⟩ : ∃ v, ns[i]? = some v := ⟨ns[i], List.getElem?_eq_getElem (by omega)⟩
    have hv : v < n := hns v (List.mem_of_getElem? g)
    have c13 := law_two_eq T.h13 11 i (by omega)
    have c14 := law_bit_eq T.h13 T.h14 10 x v (by omega)
    have gd : ns.getD i 0 = v := by rw [List.getD_eq_getElem?_getD, g]; rfl
    rw [gd]
    have hq : (2 : Int) ^ i = ((2 ^ i : Nat) : Int) := two_pow_cast i
    have hq2 : 2 ^ i ≤ 2 ^ 6 := Nat.pow_le_pow_right (by decide) (by omega)
    obtain ⟨q, hqq⟩ : ∃ q, q = (2 : Int) ^ i := ⟨_, rfl⟩
    have hb : bnd64 q = true := by rw [hqq, hq, bnd64_n]; simp; omega
    rw [← hqq] at c13 ⊢
    simp [g, c13, c14, hb]
  · simp
theorem k79_b0 (n : Nat) (hn : n ≤ 6) (φ : Fm) (ns : List Nat) (hl : ns.length = n) (hns : ∀ i ∈ ns, i < n) (hlow : φ.low n = true) (x : Nat) (hx : x < 2 ^ n) (done : List D) (hd : done.length < 1000000) (a2 a4 a5 a6 a7 a8 a9 a14 a15 a19 a20 a21 a22 a23 a24 a25 : Sl) :
    evSs (run Φ 12) d62_b0 (E62 a2 (vI n) a4 a5 a6 a7 a8 a9 (vD (.tup (φ.tab n))) (vD (.lst (nL ns))) a14 a15 (.ow (.lst done)) (some (.int x)) a19 a20 a21 a22 a23 a24 a25) =
      .ret (.nx, E62 a2 (vI n) a4 a5 a6 a7 a8 a9 (vD (.tup (φ.tab n))) (vD (.lst (nL ns))) a14 a15 (.ow (.lst (done ++ [.int (b2i ((led (some ns) φ).ev x))]))) (some (.int x)) a19 a20 a21 a22 a23 a24 a25) := by
  have e6 := k79_l6 T n hn ns hl hns x a2 a4 a5 a6 a7 a8 a9 (vD (.tup (φ.tab n))) a14 a15 (.ow (.lst done)) a19 a20 a21 a22 a23 a24 a25
  have ev := led_ev ns hl x φ hlow
  have sm := bsumI (fun i => x.testBit (ns.getD i 0)) n
  have lt := bsum_lt (fun i => x.testBit (ns.getD i 0)) n
  have ht := toInts_map (fun i => (2 : Int) ^ i * b2i (x.testBit (ns.getD i 0))) (List.range n)
  have hsum : bi .sum [.lst ((List.range n).map fun i => .int (2 ^ i * b2i (x.testBit (ns.getD i 0))))] = some (.vl (.d (.int (bsum (fun i => x.testBit (ns.getD i 0)) n : Nat)))) := by rw [q_sum, ht, ← sm]; rfl
  rw [ev]
  generalize bsum (fun i => x.testBit (ns.getD i 0)) n = y at *
  generalize hL : ((List.range n).map fun i => D.int (2 ^ i * b2i (x.testBit (ns.getD i 0)))) = L at *
  have g : (φ.tab n)[y]? = some (.int (b2i (φ.ev y))) := by simp [Fm.tab, lt]
  simp only [E62, oD_some] at e6
  simp [E62, d62_b0, e6, hsum, g, hd, -q_sum]
theorem k79_f0 (n : Nat) (hn : n ≤ 6) (φ : Fm) (ns : List Nat) (hl : ns.length = n) (hns : ∀ i ∈ ns, i < n) (hlow : φ.low n = true) (a2 a4 a5 a6 a7 a8 a9 a14 a15 : Sl) (o17 : Option D) (a19 a20 a21 a22 a23 a24 a25 : Sl) :
    ∃ o17', evS (run Φ 12) d62_f0 (E62 a2 (vI n) a4 a5 a6 a7 a8 a9 (vD (.tup (φ.tab n))) (vD (.lst (nL ns))) a14 a15 (.ow (.lst [])) o17 a19 a20 a21 a22 a23 a24 a25) =
      .ret (.nx, E62 a2 (vI n) a4 a5 a6 a7 a8 a9 (vD (.tup (φ.tab n))) (vD (.lst (nL ns))) a14 a15 (.ow (.lst ((led (some ns) φ).tab n))) o17' a19 a20 a21 a22 a23 a24 a25) := by
  have hp : 2 ^ n ≤ 2 ^ 6 := Nat.pow_le_pow_right (by decide) hn
  have e13 := law_two_eq T.h13 11 n (by omega)
  obtain ⟨e, h1, o17', rfl⟩ := evS_frR (cl := run Φ 12) (g := .nm 17) (it := .rg1 (.call 13 (.cons (.v 3) .nil))) (b := d62_b0) (env := E62 a2 (vI n) a4 a5 a6 a7 a8 a9 (vD (.tup (φ.tab n))) (vD (.lst (nL ns))) a14 a15 (.ow (.lst [])) o17 a19 a20 a21 a22 a23 a24 a25)
    (fun k env => ∃ o17, env = E62 a2 (vI n) a4 a5 a6 a7 a8 a9 (vD (.tup (φ.tab n))) (vD (.lst (nL ns))) a14 a15 (.ow (.lst ((List.range k).map fun x => D.int (b2i ((led (some ns) φ).ev x))))) o17 a19 a20 a21 a22 a23 a24 a25) (2 ^ n) (by rw [rangeD0]; exact it_rg1 (by simp [e13]) (two_pow_cast n) (by omega)) ⟨o17, rfl⟩ (by
    rintro k env hk ⟨o17, rfl⟩
    refine ⟨_, _, rfl, k79_b0 T n hn φ ns hl hns hlow k hk _ (by simp; omega) a2 a4 a5 a6 a7 a8 a9 a14 a15 a19 a20 a21 a22 a23 a24 a25, some (.int k), ?_⟩
    rw [List.range_succ, List.map_append]
    rfl)
  exact ⟨o17', h1⟩
theorem k79_l4 (n : Nat) (hn : n ≤ 6) (φ : Fm) (a2 a4 a5 a6 a7 a8 a9 a13 a14 a15 a16 : Sl) (o17 : Option D) (a19 a20 a21 a22 a23 a24 a25 : Sl) :
    evO (run Φ 12) d62_l4 (E62 a2 (vI n) a4 a5 a6 a7 a8 a9 (vD (.tup (φ.tab n))) a13 a14 a15 a16 o17 a19 a20 a21 a22 a23 a24 a25) = .ret (.fr (.lst (nL (onesF n φ.ev))), E62 a2 (vI n) a4 a5 a6 a7 a8 a9 (vD (.tup (φ.tab n))) a13 a14 a15 a16 o17 a19 a20 a21 a22 a23 a24 a25) := by
  have e13 := law_two_eq T.h13 11 n (by omega)
  have hp : 2 ^ n ≤ 2 ^ 6 := Nat.pow_le_pow_right (by decide) hn
  unfold d62_l4
  refine (lc_f (l := List.range (2 ^ n)) (h := fun x : Nat => D.int (x : Int)) (e1 := E62 a2 (vI n) a4 a5 a6 a7 a8 a9 (vD (.tup (φ.tab n))) a13 a14 a15 a16 o17 a19 a20 a21 a22 a23 a24 a25) (e2 := E62 a2 (vI n) a4 a5 a6 a7 a8 a9 (vD (.tup (φ.tab n))) a13 a14 a15 a16 none a19 a20 a21 a22 a23 a24 a25) (fun x : Nat => D.int (x : Int)) (fun x => φ.ev x) (it_rg1 (by simp [e13]) (two_pow_cast n) (by omega)) (by simp) (by rw [List.length_range]; simp [cap]; omega) (by simp) ?_).trans ?_
  · intro x hx
    have g : (φ.tab n)[x]? = some (.int (b2i (φ.ev x))) := by simp [Fm.tab, List.mem_range.mp hx]
    simp [E62, g, b2i_1]
  · simp [E62, onesF, nL]
theorem k79_l3 (n : Nat) (hn : n ≤ 6) (φ : Fm) (a2 a4 a5 a6 a7 a8 a9 a13 a14 a15 a16 : Sl) (o17 : Option D) (a19 a20 a21 a22 a23 a24 a25 : Sl) :
    evO (run Φ 12) d62_l3 (E62 a2 (vI n) a4 a5 a6 a7 a8 a9 (vD (.tup (φ.tab n))) a13 a14 a15 a16 o17 a19 a20 a21 a22 a23 a24 a25) = .ret (.fr (.lst (nL (nouF n φ.ev))), E62 a2 (vI n) a4 a5 a6 a7 a8 a9 (vD (.tup (φ.tab n))) a13 a14 a15 a16 o17 a19 a20 a21 a22 a23 a24 a25) := by
  have e13 := law_two_eq T.h13 11 n (by omega)
  have hp : 2 ^ n ≤ 2 ^ 6 := Nat.pow_le_pow_right (by decide) hn
  unfold d62_l3
  refine (lc_f (l := List.range (2 ^ n)) (h := fun x : Nat => D.int (x : Int)) (e1 := E62 a2 (vI n) a4 a5 a6 a7 a8 a9 (vD (.tup (φ.tab n))) a13 a14 a15 a16 o17 a19 a20 a21 a22 a23 a24 a25) (e2 := E62 a2 (vI n) a4 a5 a6 a7 a8 a9 (vD (.tup (φ.tab n))) a13 a14 a15 a16 none a19 a20 a21 a22 a23 a24 a25) (fun x : Nat => D.int (x : Int)) (fun x => !φ.ev x) (it_rg1 (by simp [e13]) (two_pow_cast n) (by omega)) (by simp) (by rw [List.length_range]; simp [cap]; omega) (by simp) ?_).trans ?_
  · intro x hx
    have g : (φ.tab n)[x]? = some (.int (b2i (φ.ev x))) := by simp [Fm.tab, List.mem_range.mp hx]
    simp [E62, g, b2i_0]
  · simp [E62, nouF, nL]
/-- B parted by the first answers -/
theorem k79_l2 (n : Nat) (φ : Fm) (B : List Nat) (hB : B.length ≤ 64) (hb : ∀ x ∈ B, x < 2 ^ n) (a2 a3 a4 a5 a6 a7 a9 a10 a13 a14 a15 a16 : Sl) (o17 : Option D) (a19 a20 a21 a23 a24 a25 : Sl) :
    evO (run Φ 12) d62_l2 (E62 a2 a3 a4 a5 a6 a7 (vD (.tup (φ.tab n))) a9 a10 a13 a14 a15 a16 o17 a19 a20 a21 (vD (lotT B)) a23 a24 a25) = .ret (.fr (.lst (nL (B.filter fun x => !φ.ev x))), E62 a2 a3 a4 a5 a6 a7 (vD (.tup (φ.tab n))) a9 a10 a13 a14 a15 a16 o17 a19 a20 a21 (vD (lotT B)) a23 a24 a25) := by
  unfold d62_l2
  refine (lc_f (l := B) (h := fun x : Nat => D.int (x : Int)) (e1 := E62 a2 a3 a4 a5 a6 a7 (vD (.tup (φ.tab n))) a9 a10 a13 a14 a15 a16 o17 a19 a20 a21 (vD (lotT B)) a23 a24 a25) (e2 := E62 a2 a3 a4 a5 a6 a7 (vD (.tup (φ.tab n))) a9 a10 a13 a14 a15 a16 none a19 a20 a21 (vD (lotT B)) a23 a24 a25) (fun x : Nat => D.int (x : Int)) (fun x => !φ.ev x) (by simp [lotT, nL]) (by simp) (by simp [cap]; omega) (by simp) ?_).trans ?_
  · intro x hx
    have g : (φ.tab n)[x]? = some (.int (b2i (φ.ev x))) := by simp [Fm.tab, hb x hx]
    simp [E62, g, b2i_0]
  · simp [E62, nL]
theorem k79_l1 (n : Nat) (φ : Fm) (B : List Nat) (hB : B.length ≤ 64) (hb : ∀ x ∈ B, x < 2 ^ n) (a2 a3 a4 a5 a6 a7 a9 a10 a13 a14 a15 a16 : Sl) (o17 : Option D) (a19 a20 a21 a23 a24 a25 : Sl) :
    evO (run Φ 12) d62_l1 (E62 a2 a3 a4 a5 a6 a7 (vD (.tup (φ.tab n))) a9 a10 a13 a14 a15 a16 o17 a19 a20 a21 (vD (lotT B)) a23 a24 a25) = .ret (.fr (.lst (nL (B.filter fun x => φ.ev x))), E62 a2 a3 a4 a5 a6 a7 (vD (.tup (φ.tab n))) a9 a10 a13 a14 a15 a16 o17 a19 a20 a21 (vD (lotT B)) a23 a24 a25) := by
  unfold d62_l1
  refine (lc_f (l := B) (h := fun x : Nat => D.int (x : Int)) (e1 := E62 a2 a3 a4 a5 a6 a7 (vD (.tup (φ.tab n))) a9 a10 a13 a14 a15 a16 o17 a19 a20 a21 (vD (lotT B)) a23 a24 a25) (e2 := E62 a2 a3 a4 a5 a6 a7 (vD (.tup (φ.tab n))) a9 a10 a13 a14 a15 a16 none a19 a20 a21 (vD (lotT B)) a23 a24 a25) (fun x : Nat => D.int (x : Int)) (fun x => φ.ev x) (by simp [lotT, nL]) (by simp) (by simp [cap]; omega) (by simp) ?_).trans ?_
  · intro x hx
    have g : (φ.tab n)[x]? = some (.int (b2i (φ.ev x))) := by simp [Fm.tab, hb x hx]
    simp [E62, g, b2i_1]
  · simp [E62, nL]
/-- the two parts' pairs across -/
theorem k79_l0 (n : Nat) (hn : n ≤ 6) (A L Hh : List Nat) (hA : A.length ≤ 64) (a2 a4 a5 a6 a7 a8 a9 a10 a13 a14 a15 a16 : Sl) (o17 : Option D) (a19 a20 a22 a25 : Sl) :
    evO (run Φ 12) d62_l0 (E62 a2 (vI n) a4 a5 a6 a7 a8 a9 a10 a13 a14 a15 a16 o17 a19 a20 (vD (lotT A)) a22 (vD (lotT L)) (vD (lotT Hh)) a25) =
      .ret (.fr (.lst [.int (across n A L), .int (across n A Hh)]), E62 a2 (vI n) a4 a5 a6 a7 a8 a9 a10 a13 a14 a15 a16 o17 a19 a20 (vD (lotT A)) a22 (vD (lotT L)) (vD (lotT Hh)) a25) := by
  have c10 : ∀ B : List Nat, run Φ 12 10 [.d (.int n), .d (lotT A), .d (lotT B)] = .ret (.int (across n A B)) := fun B => across_eq T.h9 T.h10 10 n (by omega) A B (by omega) true true
  have z : across n A [] = 0 := by
    clear hA c10
    induction A with
    | nil => rfl
    | cons a A ih =>
      rw [across_nbs, List.map_cons, List.sum_cons, ← across_nbs, ih]
      simp [nbs]
  unfold d62_l0
  refine (lc_m (l := [L, Hh]) (h := lotT) (e1 := E62 a2 (vI n) a4 a5 a6 a7 a8 a9 a10 a13 a14 a15 a16 o17 a19 a20 (vD (lotT A)) a22 (vD (lotT L)) (vD (lotT Hh)) a25) (fun B => .int (across n A B)) (by simp [cap]) rfl (by simp [cap]) rfl ?_).trans ?_
  · intro B _
    cases B with
    | nil => simp [lotT, z]
    | cons b B =>
      have c := c10 (b :: B)
      have hh : cmpop .ne (lotT (b :: B)) (.tup []) = some true := c_ne_nilT (b :: B)
      simp [c, hh]
  · simp
end
end Bq

set_option Elab.async false
set_option linter.all false
set_option maxRecDepth 100000
/-! k79: the law's own def, 2. -/
namespace Bq
open PySem (Str)
def P79 (a2 a3 a4 a5 a6 a7 a8 a9 a10 a13 a14 a15 a16 : Sl) (o17 : Option D) (n : Nat) (φ : Fm) (a23 a24 a25 : Sl) (e : Env) : Prop := ∃ A B : List Nat, A.Sublist (onesF n φ.ev) ∧ A ≠ [] ∧ B.Sublist (nouF n φ.ev) ∧ B ≠ [] ∧
  e = E62 a2 a3 a4 a5 a6 a7 a8 a9 a10 a13 a14 a15 a16 o17 (vD (.lst (nL (onesF n φ.ev)))) (vD (.lst (nL (nouF n φ.ev)))) (vD (lotT A)) (vD (lotT B)) a23 a24 a25
def K79 (a2 : Sl) (e : Env) : Prop := ∃ a3 a4 a5 a6 a7 a8 a9 a10 a13 a14 a15 a16 o17 a19 a20 a21 a22 a23 a24 a25, e = E62 a2 a3 a4 a5 a6 a7 a8 a9 a10 a13 a14 a15 a16 o17 a19 a20 a21 a22 a23 a24 a25
theorem nodup_filter {l : List Nat} (p : Nat → Bool) (h : l.Nodup) : (l.filter p).Nodup := by
  rw [List.nodup_iff_pairwise_ne] at h ⊢
  exact h.filter _
theorem nL_of_perm {ys : List D} {n : Nat} (h : ys.Perm (rangeD 0 n)) : ∃ ns : List Nat, ns.length = n ∧ (∀ i ∈ ns, i < n) ∧ ys = nL ns := by
  rw [rangeD0] at h
  have hm : ∀ y ∈ ys, ∃ i : Nat, i < n ∧ y = .int i := fun y hy => by
    have := h.mem_iff.mp hy
    rw [List.mem_map] at this
    obtain ⟨i, hi, rfl⟩ := this
    exact ⟨i, List.mem_range.mp hi, rfl⟩
  have hl := h.length_eq
  rw [List.length_map, List.length_range] at hl
  clear h
  have : ∀ ys : List D, (∀ y ∈ ys, ∃ i : Nat, i < n ∧ y = .int i) → ∃ ns : List Nat, ns.length = ys.length ∧ (∀ i ∈ ns, i < n) ∧ ys = nL ns := fun ys => by
    induction ys with
    | nil => intro _; exact ⟨[], rfl, by simp, rfl⟩
    | cons y ys ih =>
      intro hm
      obtain ⟨i, hi, rfl⟩ := hm y List.mem_cons_self
      obtain ⟨ns, h1, h2, h3⟩ := ih fun z hz => hm z (List.mem_cons_of_mem _ hz)
      refine ⟨i :: ns, by simp [h1], fun j hj => ?_, by rw [h3]; rfl⟩
      rcases List.mem_cons.mp hj with rfl | hj
      · exact hi
      · exact h2 j hj
  obtain ⟨ns, h1, h2, h3⟩ := this ys hm
  exact ⟨ns, by omega, h2, h3⟩
section
variable {Φ : Tab} (T : T79 Φ)
include T
theorem k79_i0 (n : Nat) (hn : n ≤ 6) (one other : Fm) (s1 : one.leaves ≤ 9) (s2 : other.leaves ≤ 9) (lo1 : one.low 1000000 = true) (lo2 : other.low 1000000 = true)
    (h1 : onesF n (Fm.node true one other).ev ≠ []) (h0 : nouF n (Fm.node true one other).ev ≠ []) (a2 a6 a9 a10 a13 a14 a15 a16 : Sl) (o17 : Option D) (a21 a22 a23 a24 a25 : Sl) :
    Al (evSs (run Φ 12) d62_i0 (E62 a2 (vI n) (vD one.d) (vD other.d) a6 (vD (Fm.node true one other).d) (vD (.tup (one.tab n))) a9 a10 a13 a14 a15 a16 o17 (.ow (.lst (nL (onesF n (Fm.node true one other).ev)))) (.ow (.lst (nL (nouF n (Fm.node true one other).ev)))) a21 a22 a23 a24 a25)) fun x => x.1 = .nx ∧ K79 a2 x.2 := by
  have hp : 2 ^ n ≤ 2 ^ 6 := Nat.pow_le_pow_right (by decide) hn
  have l1 := onesF_len n (Fm.node true one other).ev
  have l0 := nouF_len n (Fm.node true one other).ev
  have d1 := law_some_al T.h52 11 (onesF n (Fm.node true one other).ev) (by omega)
  have d0 := law_some_al T.h52 11 (nouF n (Fm.node true one other).ev) (by omega)
  unfold d62_i0
  refine Al.ss (P := P79 a2 (vI n) (vD one.d) (vD other.d) a6 (vD (Fm.node true one other).d) (vD (.tup (one.tab n))) a9 a10 a13 a14 a15 a16 o17 n (Fm.node true one other) a23 a24 a25) ?_ ?_
  · simp
    try simp only [M.bind_assoc]
    refine d1.bind ?_
    rintro d ⟨A, hA, hA2, rfl⟩
    simp
    try simp only [M.bind_assoc]
    refine d0.bind ?_
    rintro d ⟨B, hB, hB2, rfl⟩
    exact Al.eq (a := (.nx, E62 a2 (vI n) (vD one.d) (vD other.d) a6 (vD (Fm.node true one other).d) (vD (.tup (one.tab n))) a9 a10 a13 a14 a15 a16 o17 (vD (.lst (nL (onesF n (Fm.node true one other).ev)))) (vD (.lst (nL (nouF n (Fm.node true one other).ev)))) (vD (lotT A)) (vD (lotT B)) a23 a24 a25)) (by simp [lotT]) ⟨rfl, A, B, hA, hA2 h1, hB, hB2 h0, rfl⟩
  rintro e ⟨A, B, hA, hA2, hB, hB2, rfl⟩
  have lA := hA.length_le
  have lB := hB.length_le
  have sz1 : one.size < 100000 := by have := size_leaves one; omega
  have sz2 : other.size < 100000 := by have := size_leaves other; omega
  have sz3 : (Fm.node true one other).size < 100000 := by simp only [Fm.size]; have := size_leaves one; have := size_leaves other; omega
  have lo3 : (Fm.node true one other).low 1000000 = true := by simp [Fm.low, lo1, lo2]
  have ndA : A.Nodup := hA.nodup (onesF_nd n _)
  have ndB : B.Nodup := hB.nodup (nouF_nd n _)
  have cA : ∀ x ∈ A, one.ev x = true ∧ other.ev x = true := fun x hx => by
    have := (onesF_mem.mp (hA.subset hx)).2
    simpa [Fm.ev] using this
  have cB : ∀ x ∈ B, (one.ev x && other.ev x) = false := fun x hx => by
    have := (nouF_mem.mp (hB.subset hx)).2
    simpa [Fm.ev] using this
  have xA : ∀ x ∈ A, x < 2 ^ n := fun x hx => (onesF_mem.mp (hA.subset hx)).1
  have xB : ∀ x ∈ B, x < 2 ^ n := fun x hx => (nouF_mem.mp (hB.subset hx)).1
  have e2 := fun a23 a24 => k79_l2 T n one B (by omega) xB a2 (vI n) (vD one.d) (vD other.d) a6 (vD (Fm.node true one other).d) a9 a10 a13 a14 a15 a16 o17 (vD (.lst (nL (onesF n (Fm.node true one other).ev)))) (vD (.lst (nL (nouF n (Fm.node true one other).ev)))) (vD (lotT A)) a23 a24 a25
  have e1 := fun a23 a24 => k79_l1 T n one B (by omega) xB a2 (vI n) (vD one.d) (vD other.d) a6 (vD (Fm.node true one other).d) a9 a10 a13 a14 a15 a16 o17 (vD (.lst (nL (onesF n (Fm.node true one other).ev)))) (vD (.lst (nL (nouF n (Fm.node true one other).ev)))) (vD (lotT A)) a23 a24 a25
  generalize hL : B.filter (fun x => !one.ev x) = L at *
  generalize hH : B.filter (fun x => one.ev x) = Hh at *
  have mL : ∀ x ∈ L, x ∈ B ∧ one.ev x = false := fun x hx => by
    rw [← hL] at hx
    have := List.mem_filter.mp hx
    exact ⟨this.1, by simpa using this.2⟩
  have mH : ∀ x ∈ Hh, x ∈ B ∧ other.ev x = false := fun x hx => by
    rw [← hH] at hx
    have := List.mem_filter.mp hx
    have h2 := cB x this.1
    rw [this.2, Bool.true_and] at h2
    exact ⟨this.1, h2⟩
  have lL : L.length ≤ B.length := by rw [← hL]; exact List.length_filter_le _ _
  have lH : Hh.length ≤ B.length := by rw [← hH]; exact List.length_filter_le _ _
  have e0 := k79_l0 T n hn A L Hh (by omega) a2 (vD one.d) (vD other.d) a6 (vD (Fm.node true one other).d) (vD (.tup (one.tab n))) a9 a10 a13 a14 a15 a16 o17 (vD (.lst (nL (onesF n (Fm.node true one other).ev)))) (vD (.lst (nL (nouF n (Fm.node true one other).ev)))) (vD (lotT B)) a25
  have c10 : run Φ 12 10 [.d (.int n), .d (lotT A), .d (lotT B)] = .ret (.int (across n A B)) := across_eq T.h9 T.h10 10 n (by omega) A B (by omega) true true
  have part : ∀ (ψ : Fm) (C : List Nat), ψ.size < 100000 → ψ.low 1000000 = true → C.length ≤ 64 → (∀ x ∈ A, ψ.ev x = true) → (∀ x ∈ C, ψ.ev x = false ∧ x < 2 ^ n) → run Φ 12 11 [.d (.int n), .d ψ.d, .d (lotT A), .d (lotT C)] = .ret (.bl true) := fun ψ C z1 z2 z3 z4 z5 => by
    have := part_lots_eq T.h4 T.h5 T.h11 9 n (by omega) ψ z1 z2 A C (by omega) (by omega) xA (fun x hx => (z5 x hx).2)
    rw [show ((A.all fun x => ψ.ev x) && C.all fun x => !ψ.ev x) = true by
      rw [Bool.and_eq_true, List.all_eq_true, List.all_eq_true]
      exact ⟨fun x hx => z4 x hx, fun x hx => by rw [(z5 x hx).1]; rfl⟩] at this
    exact this
  have p1 := part one L sz1 lo1 (by omega) (fun x hx => (cA x hx).1) fun x hx => ⟨(mL x hx).2, xB x (mL x hx).1⟩
  have p2 := part other Hh sz2 lo2 (by omega) (fun x hx => (cA x hx).2) fun x hx => ⟨(mH x hx).2, xB x (mH x hx).1⟩
  have p3 := part (Fm.node true one other) B sz3 lo3 (by omega) (fun x hx => by simp [Fm.ev, (cA x hx).1, (cA x hx).2]) fun x hx => ⟨by have := cB x hx; simpa [Fm.ev] using this, xB x hx⟩
  have c31 := leaves_in_eq T.h3 11 one sz1
  have c32 := leaves_in_eq T.h3 11 other sz2
  have spl : across n A B = across n A L + across n A Hh := by
    have := across_splitB n (fun x => one.ev x) B A
    rw [hH, hL] at this
    omega
  have f1 := few_across n one A L ndA (fun x hx => (cA x hx).1) fun x hx => (mL x hx).2
  have f2 := few_across n other A Hh ndA (fun x hx => (cA x hx).2) fun x hx => (mH x hx).2
  have hac := across_le n B A
  have hac2 : n * A.length ≤ 6 * 64 := Nat.mul_le_mul hn (by omega)
  have lenA : bi .len [lotT A] = some (.vl (.d (.int A.length))) := by simp [lotT]
  have lenL : bi .len [lotT L] = some (.vl (.d (.int L.length))) := by simp [lotT]
  have lenH : bi .len [lotT Hh] = some (.vl (.d (.int Hh.length))) := by simp [lotT]
  have nel : cmpop .ne (lotT L) (.tup []) = some (!L.isEmpty) := c_ne_nilT L
  have neh : cmpop .ne (lotT Hh) (.tup []) = some (!Hh.isEmpty) := c_ne_nilT Hh
  have sumI : bi .sum [.lst [.int (across n A L), .int (across n A Hh)]] = some (.vl (.d (.int (across n A B)))) := by
    rw [spl, q_sum]
    simp [toInts]
  have b1 : bnd64 (across n A L : Int) = true := by simp; omega
  have b2 : bnd64 (across n A Hh : Int) = true := by simp; omega
  have b3 : bnd64 (one.leaves : Int) = true := by simp; omega
  have b4 : bnd64 (other.leaves : Int) = true := by simp; omega
  have b5 : bnd64 (L.length : Int) = true := by simp; omega
  have b6 : bnd64 (Hh.length : Int) = true := by simp; omega
  have g1 : ¬ (one.leaves : Int) * (A.length : Int) * (L.length : Int) < (across n A L : Int) * (across n A L : Int) := by
    have : ((across n A L * across n A L : Nat) : Int) ≤ ((one.leaves * (A.length * L.length) : Nat) : Int) := by exact_mod_cast f1
    push_cast at this
    rw [Int.mul_assoc]
    omega
  have g2 : ¬ (other.leaves : Int) * (A.length : Int) * (Hh.length : Int) < (across n A Hh : Int) * (across n A Hh : Int) := by
    have : ((across n A Hh * across n A Hh : Nat) : Int) ≤ ((other.leaves * (A.length * Hh.length) : Nat) : Int) := by exact_mod_cast f2
    push_cast at this
    rw [Int.mul_assoc]
    omega
  have tl : ∀ l : List Nat, bi .tuple [.lst (nL l)] = some (.vl (.d (lotT l))) := fun _ => rfl
  generalize across n A L = cL at *
  generalize across n A Hh = cH at *
  generalize across n A B = cB' at *
  generalize hb : (Fm.node true one other).d = bd at *
  refine Al.st (e1 := E62 a2 (vI n) (vD one.d) (vD other.d) a6 (vD bd) (vD (.tup (one.tab n))) a9 a10 a13 a14 a15 a16 o17 (vD (.lst (nL (onesF n (Fm.node true one other).ev)))) (vD (.lst (nL (nouF n (Fm.node true one other).ev)))) (vD (lotT A)) (vD (lotT B)) (vD (lotT L)) a24 a25) (by simp [e2, tl, -q_tupl]) ?_
  refine Al.st (e1 := E62 a2 (vI n) (vD one.d) (vD other.d) a6 (vD bd) (vD (.tup (one.tab n))) a9 a10 a13 a14 a15 a16 o17 (vD (.lst (nL (onesF n (Fm.node true one other).ev)))) (vD (.lst (nL (nouF n (Fm.node true one other).ev)))) (vD (lotT A)) (vD (lotT B)) (vD (lotT L)) (vD (lotT Hh)) a25) (by simp [e1, tl, -q_tupl]) ?_
  refine Al.st (e1 := E62 a2 (vI n) (vD one.d) (vD other.d) a6 (vD bd) (vD (.tup (one.tab n))) a9 a10 a13 a14 a15 a16 o17 (vD (.lst (nL (onesF n (Fm.node true one other).ev)))) (vD (.lst (nL (nouF n (Fm.node true one other).ev)))) (vD (lotT A)) (vD (lotT B)) (vD (lotT L)) (vD (lotT Hh)) (.ow (.lst [.int cL, .int cH]))) (by simp [e0]) ?_
  refine Al.if0 (e1 := E62 a2 (vI n) (vD one.d) (vD other.d) a6 (vD bd) (vD (.tup (one.tab n))) a9 a10 a13 a14 a15 a16 o17 (vD (.lst (nL (onesF n (Fm.node true one other).ev)))) (vD (.lst (nL (nouF n (Fm.node true one other).ev)))) (vD (lotT A)) (vD (lotT B)) (vD (lotT L)) (vD (lotT Hh)) (.ow (.lst [.int cL, .int cH]))) (by cases hz : Hh.isEmpty <;> simp [c10, sumI, neh, hz, p2, -q_sum]) ?_
  refine Al.if0 (e1 := E62 a2 (vI n) (vD one.d) (vD other.d) a6 (vD bd) (vD (.tup (one.tab n))) a9 a10 a13 a14 a15 a16 o17 (vD (.lst (nL (onesF n (Fm.node true one other).ev)))) (vD (.lst (nL (nouF n (Fm.node true one other).ev)))) (vD (lotT A)) (vD (lotT B)) (vD (lotT L)) (vD (lotT Hh)) (.ow (.lst [.int cL, .int cH]))) (by cases hz : L.isEmpty <;> simp [nel, hz, p1, p3]) ?_
  refine Al.if0 (e1 := E62 a2 (vI n) (vD one.d) (vD other.d) a6 (vD bd) (vD (.tup (one.tab n))) a9 a10 a13 a14 a15 a16 o17 (vD (.lst (nL (onesF n (Fm.node true one other).ev)))) (vD (.lst (nL (nouF n (Fm.node true one other).ev)))) (vD (lotT A)) (vD (lotT B)) (vD (lotT L)) (vD (lotT Hh)) (.ow (.lst [.int cL, .int cH]))) (by simp [c31, lenA, lenL, b1, b3, b5, g1]) ?_
  refine Al.if0 (e1 := E62 a2 (vI n) (vD one.d) (vD other.d) a6 (vD bd) (vD (.tup (one.tab n))) a9 a10 a13 a14 a15 a16 o17 (vD (.lst (nL (onesF n (Fm.node true one other).ev)))) (vD (.lst (nL (nouF n (Fm.node true one other).ev)))) (vD (lotT A)) (vD (lotT B)) (vD (lotT L)) (vD (lotT Hh)) (.ow (.lst [.int cL, .int cH]))) (by simp [c32, lenA, lenH, b2, b4, b6, g2]) ?_
  exact Al.ret ⟨rfl, _, _, _, _, _, _, _, _, _, _, _, _, o17, _, _, _, _, _, _, _, rfl⟩
def F79 (a2 a6 a7 a8 a9 a10 a13 a14 a15 a16 : Sl) (o17 : Option D) (a19 a20 a21 a22 a23 a24 a25 : Sl) (e : Env) : Prop := ∃ (n : Nat) (φ ψ : Fm), 1 ≤ n ∧ n ≤ 6 ∧ φ.low n = true ∧ φ.leaves ≤ 9 ∧ ψ.low n = true ∧ ψ.leaves ≤ 9 ∧
  e = E62 a2 (vI n) (vD φ.d) (vD ψ.d) a6 a7 a8 a9 a10 a13 a14 a15 a16 o17 a19 a20 a21 a22 a23 a24 a25
def W79 (a2 a3 a4 a5 a7 a8 a9 a10 a13 a14 a15 a16 : Sl) (o17 : Option D) (a19 a20 a21 a22 a23 a24 a25 : Sl) (e : Env) : Prop := ∃ w : Bool, e = E62 a2 a3 a4 a5 (vD (.str (nodeS w))) a7 a8 a9 a10 a13 a14 a15 a16 o17 a19 a20 a21 a22 a23 a24 a25
def M79 (n : Nat) (a2 a3 a4 a5 a6 a7 a8 a9 a10 a14 a15 a16 : Sl) (o17 : Option D) (a19 a20 a21 a22 a23 a24 a25 : Sl) (e : Env) : Prop := ∃ ns : List Nat, ns.length = n ∧ (∀ i ∈ ns, i < n) ∧ e = E62 a2 a3 a4 a5 a6 a7 a8 a9 a10 (vD (.lst (nL ns))) a14 a15 a16 o17 a19 a20 a21 a22 a23 a24 a25
theorem k79_b1 (j : Nat) (hj : j < 4) (a3 a4 a5 a6 a7 a8 a9 a10 a13 a14 a15 a16 : Sl) (o17 : Option D) (a19 a20 a21 a22 a23 a24 a25 : Sl) :
    Al (evSs (run Φ 12) d62_b1 (E62 (vI j) a3 a4 a5 a6 a7 a8 a9 a10 a13 a14 a15 a16 o17 a19 a20 a21 a22 a23 a24 a25)) fun x => x.1 = .nx ∧ K79 (vI j) x.2 := by
  unfold d62_b1
  obtain ⟨mA, gA, hA⟩ : ∃ mA : Nat, ([.int 2, .int 3, .int 4, .int 5] : List D)[j]? = some (.int mA) ∧ (mA ≤ 5 ∧ 2 ≤ mA) := by
    have : j = 0 ∨ j = 1 ∨ j = 2 ∨ j = 3 := by omega
    rcases this with rfl | rfl | rfl | rfl
    · exact ⟨2, rfl, by omega⟩
    · exact ⟨3, rfl, by omega⟩
    · exact ⟨4, rfl, by omega⟩
    · exact ⟨5, rfl, by omega⟩
  refine Al.ss (P := fun e => ∃ n : Nat, 1 ≤ n ∧ n ≤ 6 ∧ e = E62 (vI j) (vI n) a4 a5 a6 a7 a8 a9 a10 a13 a14 a15 a16 o17 a19 a20 a21 a22 a23 a24 a25) ?_ ?_
  · simp [gA]
    try simp only [M.bind_assoc]
    refine Al.pkB (by omega) fun r hr => ?_
    exact Al.eq (a := (.nx, E62 (vI j) (vI (1 + r : Nat)) a4 a5 a6 a7 a8 a9 a10 a13 a14 a15 a16 o17 a19 a20 a21 a22 a23 a24 a25)) (by simp) ⟨rfl, 1 + r, by omega, by omega, rfl⟩
  rintro e ⟨n, n1, n6, rfl⟩
  have df : Al (run Φ 12 50 [.src, .d (.int n), .d (.int 9)]) fun d => ∃ φ : Fm, φ.low n = true ∧ φ.leaves ≤ 9 ∧ d = φ.d := law_formula_al T.h49 T.h50 10 n 9 n1 (by omega) (by omega) (by omega)
  refine Al.ss (P := F79 (vI j) a6 a7 a8 a9 a10 a13 a14 a15 a16 o17 a19 a20 a21 a22 a23 a24 a25) ?_ ?_
  · simp
    try simp only [M.bind_assoc]
    refine df.bind ?_
    rintro d ⟨φ, h1, h2, rfl⟩
    simp
    try simp only [M.bind_assoc]
    refine df.bind ?_
    rintro d ⟨ψ, h3, h4, rfl⟩
    exact Al.eq (a := (.nx, E62 (vI j) (vI n) (vD φ.d) (vD ψ.d) a6 a7 a8 a9 a10 a13 a14 a15 a16 o17 a19 a20 a21 a22 a23 a24 a25)) (by simp) ⟨rfl, n, φ, ψ, n1, n6, h1, h2, h3, h4, rfl⟩
  rintro e ⟨n, φ, ψ, n1, n6, l1, v1, l2, v2, rfl⟩
  have dw : Al (run Φ 12 49 [.src, .d (.lst [.str "and", .str "or"])]) fun d => d ∈ [D.str "and", D.str "or"] := law_of_al T.h49 11 _ (by simp) (by simp)
  refine Al.ss (P := W79 (vI j) (vI n) (vD φ.d) (vD ψ.d) a7 a8 a9 a10 a13 a14 a15 a16 o17 a19 a20 a21 a22 a23 a24 a25) ?_ ?_
  · simp
    try simp only [M.bind_assoc]
    refine dw.bind ?_
    intro d hd
    obtain ⟨w, rfl⟩ : ∃ t : Bool, d = .str (nodeS t) := by
      simp at hd
      rcases hd with rfl | rfl
      · exact ⟨true, rfl⟩
      · exact ⟨false, rfl⟩
    exact Al.eq (a := (.nx, E62 (vI j) (vI n) (vD φ.d) (vD ψ.d) (vD (.str (nodeS w))) a7 a8 a9 a10 a13 a14 a15 a16 o17 a19 a20 a21 a22 a23 a24 a25)) (by simp) ⟨rfl, w, rfl⟩
  rintro e ⟨w, rfl⟩
  have hp : 2 ^ n ≤ 2 ^ 6 := Nat.pow_le_pow_right (by decide) n6
  have sz1 : φ.size < 100000 := by have := size_leaves φ; omega
  have sz2 : ψ.size < 100000 := by have := size_leaves ψ; omega
  have L1 : φ.low 1000000 = true := Fm.low_le (by omega) φ l1
  have L2 : ψ.low 1000000 = true := Fm.low_le (by omega) ψ l2
  have sz3 : (Fm.node w φ ψ).size < 100000 := by simp only [Fm.size]; have := size_leaves φ; have := size_leaves ψ; omega
  have l3 : (Fm.node w φ ψ).low n = true := by simp [Fm.low, l1, l2]
  have L3 : (Fm.node w φ ψ).low 1000000 = true := by simp [Fm.low, L1, L2]
  have c51 := answers_told_eq T.h4 T.h5 10 n (by omega) φ sz1 L1
  have c52 := answers_told_eq T.h4 T.h5 10 n (by omega) ψ sz2 L2
  have c53 := answers_told_eq T.h4 T.h5 10 n (by omega) (Fm.node w φ ψ) sz3 L3
  have c31 := leaves_in_eq T.h3 11 φ sz1
  have c32 := leaves_in_eq T.h3 11 ψ sz2
  have c33 := leaves_in_eq T.h3 11 (Fm.node w φ ψ) sz3
  have nt := ne_tab n (Fm.node w φ ψ)
  have dd : (Fm.node w φ ψ).d = .tup [.str (nodeS w), φ.d, ψ.d] := rfl
  have lv : (Fm.node w φ ψ).leaves = φ.leaves + ψ.leaves := rfl
  have e7 := fun a7 a10 => k79_l7 T n n6 w φ ψ (vI j) (vI n) (vD φ.d) (vD ψ.d) a7 a10 a13 a14 a15 a16 o17 a19 a20 a21 a22 a23 a24 a25
  refine Al.st (e1 := E62 (vI j) (vI n) (vD φ.d) (vD ψ.d) (vD (.str (nodeS w))) (vD (Fm.node w φ ψ).d) (vD (.tup (φ.tab n))) (vD (.tup (ψ.tab n))) a10 a13 a14 a15 a16 o17 a19 a20 a21 a22 a23 a24 a25) (by simp [c51, c52, dd, cap]) ?_
  refine Al.st (e1 := E62 (vI j) (vI n) (vD φ.d) (vD ψ.d) (vD (.str (nodeS w))) (vD (Fm.node w φ ψ).d) (vD (.tup (φ.tab n))) (vD (.tup (ψ.tab n))) (vD (.tup ((Fm.node w φ ψ).tab n))) a13 a14 a15 a16 o17 a19 a20 a21 a22 a23 a24 a25) (by simp [e7]) ?_
  refine Al.if0 (e1 := E62 (vI j) (vI n) (vD φ.d) (vD ψ.d) (vD (.str (nodeS w))) (vD (Fm.node w φ ψ).d) (vD (.tup (φ.tab n))) (vD (.tup (ψ.tab n))) (vD (.tup ((Fm.node w φ ψ).tab n))) a13 a14 a15 a16 o17 a19 a20 a21 a22 a23 a24 a25) (by simp [c53, nt, c33, c31, c32, lv, -c_net]) ?_
  have dm : Al (run Φ 12 60 [.src, .d (.lst (rangeD 0 n))]) fun d => ∃ ys, ys.Perm (rangeD 0 n) ∧ d = .lst ys := law_mixed_al T.h60 11 (rangeD 0 n) (by rw [rangeD0]; simp; omega) false
  refine Al.ss (P := M79 n (vI j) (vI n) (vD φ.d) (vD ψ.d) (vD (.str (nodeS w))) (vD (Fm.node w φ ψ).d) (vD (.tup (φ.tab n))) (vD (.tup (ψ.tab n))) (vD (.tup ((Fm.node w φ ψ).tab n))) a14 a15 a16 o17 a19 a20 a21 a22 a23 a24 a25) ?_ ?_
  · have sm : n ≤ 1000000 := by omega
    simp [sm]
    try simp only [M.bind_assoc]
    refine dm.bind ?_
    rintro d ⟨ys, hy, rfl⟩
    obtain ⟨ns, h1, h2, rfl⟩ := nL_of_perm hy
    exact Al.eq (a := (.nx, E62 (vI j) (vI n) (vD φ.d) (vD ψ.d) (vD (.str (nodeS w))) (vD (Fm.node w φ ψ).d) (vD (.tup (φ.tab n))) (vD (.tup (ψ.tab n))) (vD (.tup ((Fm.node w φ ψ).tab n))) (vD (.lst (nL ns))) a14 a15 a16 o17 a19 a20 a21 a22 a23 a24 a25)) (by simp) ⟨rfl, ns, h1, h2, rfl⟩
  rintro e ⟨ns, hl, hns, rfl⟩
  have c61 : run Φ 12 61 [.d (Fm.node w φ ψ).d, .d (.lst (nL ns))] = .ret (led (some ns) (Fm.node w φ ψ)).d := law_led_eq T.h15 T.h61 10 (Fm.node w φ ψ) sz3 (some ns) (fun ms h => by cases h; rw [hl]; exact l3)
  have c61' : run Φ 12 61 [.d (Fm.node w φ ψ).d, .d .non] = .ret (led none (Fm.node w φ ψ)).d := law_led_eq T.h15 T.h61 10 (Fm.node w φ ψ) sz3 none (fun ms h => by cases h)
  generalize hθ : Fm.node w φ ψ = θ at *
  have lw1 := led_low ns hl hns θ l3
  have zz : ∀ ρ : Fm, ρ.leaves = θ.leaves → ρ.size < 100000 := fun ρ h => by have := size_leaves ρ; have := size_leaves θ; omega
  have c54 := answers_told_eq T.h4 T.h5 10 n (by omega) (led (some ns) θ) (zz _ (led_leaves _ _)) (Fm.low_le (by omega) _ lw1)
  have c55 := answers_told_eq T.h4 T.h5 10 n (by omega) (led none θ) (zz _ (led_leaves _ _)) (by rw [led_low']; exact L3)
  have c34 := leaves_in_eq T.h3 11 (led (some ns) θ) (zz _ (led_leaves _ _))
  have c35 := leaves_in_eq T.h3 11 (led none θ) (zz _ (led_leaves _ _))
  rw [led_leaves] at c34 c35
  have nt1 := ne_tab n (led (some ns) θ)
  have nt2 := ne_tab n (led none θ)
  refine Al.st (e1 := E62 (vI j) (vI n) (vD φ.d) (vD ψ.d) (vD (.str (nodeS w))) (vD θ.d) (vD (.tup (φ.tab n))) (vD (.tup (ψ.tab n))) (vD (.tup (θ.tab n))) (vD (.lst (nL ns))) (vD (led (some ns) θ).d) (vD (led none θ).d) a16 o17 a19 a20 a21 a22 a23 a24 a25) (by simp [c61, c61']) ?_
  refine Al.st (e1 := E62 (vI j) (vI n) (vD φ.d) (vD ψ.d) (vD (.str (nodeS w))) (vD θ.d) (vD (.tup (φ.tab n))) (vD (.tup (ψ.tab n))) (vD (.tup (θ.tab n))) (vD (.lst (nL ns))) (vD (led (some ns) θ).d) (vD (led none θ).d) (.ow (.lst [])) o17 a19 a20 a21 a22 a23 a24 a25) (by simp) ?_
  obtain ⟨o17', f0⟩ := k79_f0 T n n6 θ ns hl hns l3 (vI j) (vD φ.d) (vD ψ.d) (vD (.str (nodeS w))) (vD θ.d) (vD (.tup (φ.tab n))) (vD (.tup (ψ.tab n))) (vD (led (some ns) θ).d) (vD (led none θ).d) o17 a19 a20 a21 a22 a23 a24 a25
  refine Al.st f0 ?_
  have e5 := k79_l5 T n n6 θ (vI j) (vI n) (vD φ.d) (vD ψ.d) (vD (.str (nodeS w))) (vD θ.d) (vD (.tup (φ.tab n))) (vD (.tup (ψ.tab n))) (vD (.lst (nL ns))) (vD (led (some ns) θ).d) (vD (led none θ).d) (.ow (.lst ((led (some ns) θ).tab n))) o17' a19 a20 a21 a22 a23 a24 a25
  refine Al.if0 (e1 := E62 (vI j) (vI n) (vD φ.d) (vD ψ.d) (vD (.str (nodeS w))) (vD θ.d) (vD (.tup (φ.tab n))) (vD (.tup (ψ.tab n))) (vD (.tup (θ.tab n))) (vD (.lst (nL ns))) (vD (led (some ns) θ).d) (vD (led none θ).d) (.ow (.lst ((led (some ns) θ).tab n))) o17' a19 a20 a21 a22 a23 a24 a25) (by simp [c54, c55, nt1, nt2, e5, -c_net]) ?_
  refine Al.if0 (e1 := E62 (vI j) (vI n) (vD φ.d) (vD ψ.d) (vD (.str (nodeS w))) (vD θ.d) (vD (.tup (φ.tab n))) (vD (.tup (ψ.tab n))) (vD (.tup (θ.tab n))) (vD (.lst (nL ns))) (vD (led (some ns) θ).d) (vD (led none θ).d) (.ow (.lst ((led (some ns) θ).tab n))) o17' a19 a20 a21 a22 a23 a24 a25) (by simp [c34, c35, c33]) ?_
  generalize (Sl.ow (.lst ((led (some ns) θ).tab n))) = a16
  generalize (vD (led (some ns) θ).d) = a14
  generalize (vD (led none θ).d) = a15
  have e4 := fun a19 a20 => k79_l4 T n n6 θ (vI j) (vD φ.d) (vD ψ.d) (vD (.str (nodeS w))) (vD θ.d) (vD (.tup (φ.tab n))) (vD (.tup (ψ.tab n))) (vD (.lst (nL ns))) a14 a15 a16 o17' a19 a20 a21 a22 a23 a24 a25
  have e3 := fun a19 a20 => k79_l3 T n n6 θ (vI j) (vD φ.d) (vD ψ.d) (vD (.str (nodeS w))) (vD θ.d) (vD (.tup (φ.tab n))) (vD (.tup (ψ.tab n))) (vD (.lst (nL ns))) a14 a15 a16 o17' a19 a20 a21 a22 a23 a24 a25
  refine Al.st (e1 := E62 (vI j) (vI n) (vD φ.d) (vD ψ.d) (vD (.str (nodeS w))) (vD θ.d) (vD (.tup (φ.tab n))) (vD (.tup (ψ.tab n))) (vD (.tup (θ.tab n))) (vD (.lst (nL ns))) a14 a15 a16 o17' (.ow (.lst (nL (onesF n θ.ev)))) a20 a21 a22 a23 a24 a25) (by simp [e4]) ?_
  refine Al.st (e1 := E62 (vI j) (vI n) (vD φ.d) (vD ψ.d) (vD (.str (nodeS w))) (vD θ.d) (vD (.tup (φ.tab n))) (vD (.tup (ψ.tab n))) (vD (.tup (θ.tab n))) (vD (.lst (nL ns))) a14 a15 a16 o17' (.ow (.lst (nL (onesF n θ.ev)))) (.ow (.lst (nL (nouF n θ.ev)))) a21 a22 a23 a24 a25) (by simp [e3]) ?_
  refine Al.ss (P := K79 (vI j)) ?_ fun e he => Al.ret ⟨rfl, he⟩
  rw [u_iff]
  have wa := nodeS_and w
  have fin : Al (M.ret (Fl.nx, E62 (vI j) (vI n) (vD φ.d) (vD ψ.d) (vD (.str (nodeS w))) (vD θ.d) (vD (.tup (φ.tab n))) (vD (.tup (ψ.tab n))) (vD (.tup (θ.tab n))) (vD (.lst (nL ns))) a14 a15 a16 o17' (.ow (.lst (nL (onesF n θ.ev)))) (.ow (.lst (nL (nouF n θ.ev)))) a21 a22 a23 a24 a25)) fun x => x.1 = .nx ∧ K79 (vI j) x.2 := Al.ret ⟨rfl, _, _, _, _, _, _, _, _, _, _, _, _, o17', _, _, _, _, _, _, _, rfl⟩
  cases w with
  | false => refine Al.eq (by simp [wa]) fin.h
  | true =>
    cases n1 : (onesF n θ.ev).isEmpty
    · cases n0 : (nouF n θ.ev).isEmpty
      · simp [wa, n1, n0, -u_s1]
        subst hθ
        exact k79_i0 T n n6 φ ψ v1 v2 L1 L2 (by simpa using n1) (by simpa using n0) (vI j) _ _ _ _ a14 a15 a16 o17' a21 a22 a23 a24 a25
      · refine Al.eq (by simp [wa, n1, n0]) fin.h
    · refine Al.eq (by simp [wa, n1]) fin.h
theorem k79_all : (lawM Φ 12 d62_law).all fun r => r.1 = .rt (.bl true) := by
  refine Al.law ?_
  show Al (evSs (run Φ 12) d62_law.body (E62 .u .u .u .u .u .u .u .u .u .u .u .u .u none .u .u .u .u .u .u .u)) (fun r => r.1 = .rt (.bl true))
  unfold d62_law
  refine Al.ss (P := fun e => ∃ a2, K79 a2 e) ?_ ?_
  · unfold d62_f1
    refine Al.frR (fun _ e => ∃ a2, K79 a2 e) 4 (by simp) ⟨.u, .u, .u, .u, .u, .u, .u, .u, .u, .u, .u, .u, .u, none, .u, .u, .u, .u, .u, .u, .u, rfl⟩ ?_
    rintro k env hk ⟨a2, a3, a4, a5, a6, a7, a8, a9, a10, a13, a14, a15, a16, o17, a19, a20, a21, a22, a23, a24, a25, rfl⟩
    exact ⟨_, rfl, (k79_b1 T k hk a3 a4 a5 a6 a7 a8 a9 a10 a13 a14 a15 a16 o17 a19 a20 a21 a22 a23 a24 a25).mono fun x hx => ⟨hx.1, _, hx.2⟩⟩
  · rintro e ⟨a2, a3, a4, a5, a6, a7, a8, a9, a10, a13, a14, a15, a16, o17, a19, a20, a21, a22, a23, a24, a25, rfl⟩
    have c3 : run Φ 12 3 [.d (.tup [.str "bit", .int 0])] = .ret (.int 1) := leaves_in_eq T.h3 11 (.leaf false 0) (by decide)
    exact Al.eq (by simp [c3]; rfl) rfl
end
end Bq

set_option Elab.async false
set_option autoImplicit false
set_option linter.all false
set_option maxRecDepth 100000
/-! k79: the defs in the mini syntax; the program matches them. Printed by mk.py. -/
namespace Lk79
open Bq PySem PySem.Spec PyProof.Rows L2 StX
def topS (i : Nat) : Stmt := PySem.Challenge.pw_bitsasked_k79_formulas_put_together.main.body.getD i (.Pass ⟨0, 0, 0, 0⟩)
def defs : List (Nat × Df) := [(9, d9_input_neighbours), (3, d3_leaves_in), (5, d5_answers_told), (4, d4_bit_in), (10, d10_across_pairs), (11, d11_does_part_lots), (49, d49_law_of), (60, d60_law_mixed), (13, d13_law_two), (14, d14_law_bit), (50, d50_law_formula), (15, d15_law_row), (52, d52_law_some), (61, d61_law_led)]
def names : List (Nat × Str) := [(9, "input_neighbours"), (3, "leaves_in"), (5, "answers_told"), (4, "bit_in"), (10, "across_pairs"), (11, "does_part_lots"), (49, "_law_of"), (60, "_law_mixed"), (13, "_law_two"), (14, "_law_bit"), (50, "_law_formula"), (15, "_law_row"), (52, "_law_some"), (61, "_law_led")]
def tab : Tab := fun g => defs.lookup g
def fnm (g : Nat) : Str := (names.lookup g).getD ""
def has (g : Nat) : Bool := (names.lookup g).isSome
theorem m_d9_input_neighbours : mSs ⟨["n", "x", "found", "power", "i"], fnm, has⟩ d9_input_neighbours.body (C8.fnScope (topS 1)) (C8.fnBody (topS 1)) = true := by decide +kernel
theorem s_d9_input_neighbours : FnScope ["n", "x", "found", "power", "i"] ["n", "x"] (C8.fnScope (topS 1)) := C8.fnScope_by (by decide +kernel)
theorem m_d3_leaves_in : mSs ⟨["formula", "left", "many", "here"], fnm, has⟩ d3_leaves_in.body (C8.fnScope (topS 3)) (C8.fnBody (topS 3)) = true := by decide +kernel
theorem s_d3_leaves_in : FnScope ["formula", "left", "many", "here"] ["formula"] (C8.fnScope (topS 3)) := C8.fnScope_by (by decide +kernel)
theorem m_d5_answers_told : mSs ⟨["n", "formula", "size", "lap", "line", "at", "lower", "told", "k", "here", "x", "one", "other", "less", "a", "b"], fnm, has⟩ d5_answers_told.body (C8.fnScope (topS 4)) (C8.fnBody (topS 4)) = true := by decide +kernel
theorem s_d5_answers_told : FnScope ["n", "formula", "size", "lap", "line", "at", "lower", "told", "k", "here", "x", "one", "other", "less", "a", "b"] ["n", "formula"] (C8.fnScope (topS 4)) := C8.fnScope_by (by decide +kernel)
theorem m_d4_bit_in : mSs ⟨["x", "i", "is_turned", "lap"], fnm, has⟩ d4_bit_in.body (C8.fnScope (topS 5)) (C8.fnBody (topS 5)) = true := by decide +kernel
theorem s_d4_bit_in : FnScope ["x", "i", "is_turned", "lap"] ["x", "i", "is_turned"] (C8.fnScope (topS 5)) := C8.fnScope_by (by decide +kernel)
theorem m_d10_across_pairs : mSs ⟨["n", "ones", "noughts", "y", "x"], fnm, has⟩ d10_across_pairs.body (C8.fnScope (topS 7)) (C8.fnBody (topS 7)) = true := by decide +kernel
theorem s_d10_across_pairs : FnScope ["n", "ones", "noughts", "y", "x"] ["n", "ones", "noughts"] (C8.fnScope (topS 7)) := C8.fnScope_by (by decide +kernel)
theorem m_d11_does_part_lots : mSs ⟨["n", "formula", "ones", "noughts", "told", "x"], fnm, has⟩ d11_does_part_lots.body (C8.fnScope (topS 8)) (C8.fnBody (topS 8)) = true := by decide +kernel
theorem s_d11_does_part_lots : FnScope ["n", "formula", "ones", "noughts", "told", "x"] ["n", "formula", "ones", "noughts"] (C8.fnScope (topS 8)) := C8.fnScope_by (by decide +kernel)
theorem m_d49_law_of : mSs ⟨["source", "some"], fnm, has⟩ d49_law_of.body (C8.fnScope (topS 12)) (C8.fnBody (topS 12)) = true := by decide +kernel
theorem s_d49_law_of : FnScope ["source", "some"] ["source", "some"] (C8.fnScope (topS 12)) := C8.fnScope_by (by decide +kernel)
theorem m_d60_law_mixed : mSs ⟨["source", "things", "others", "lap"], fnm, has⟩ d60_law_mixed.body (C8.fnScope (topS 13)) (C8.fnBody (topS 13)) = true := by decide +kernel
theorem s_d60_law_mixed : FnScope ["source", "things", "others", "lap"] ["source", "things"] (C8.fnScope (topS 13)) := C8.fnScope_by (by decide +kernel)
theorem m_d13_law_two : mSs ⟨["n", "found", "lap"], fnm, has⟩ d13_law_two.body (C8.fnScope (topS 14)) (C8.fnBody (topS 14)) = true := by decide +kernel
theorem s_d13_law_two : FnScope ["n", "found", "lap"] ["n"] (C8.fnScope (topS 14)) := C8.fnScope_by (by decide +kernel)
theorem m_d14_law_bit : mSs ⟨["x", "i"], fnm, has⟩ d14_law_bit.body (C8.fnScope (topS 15)) (C8.fnBody (topS 15)) = true := by decide +kernel
theorem s_d14_law_bit : FnScope ["x", "i"] ["x", "i"] (C8.fnScope (topS 15)) := C8.fnScope_by (by decide +kernel)
theorem m_d50_law_formula : mSs ⟨["source", "n", "most", "line", "lap", "one", "other"], fnm, has⟩ d50_law_formula.body (C8.fnScope (topS 16)) (C8.fnBody (topS 16)) = true := by decide +kernel
theorem s_d50_law_formula : FnScope ["source", "n", "most", "line", "lap", "one", "other"] ["source", "n", "most"] (C8.fnScope (topS 16)) := C8.fnScope_by (by decide +kernel)
theorem m_d15_law_row : mSs ⟨["formula", "line", "lower", "at"], fnm, has⟩ d15_law_row.body (C8.fnScope (topS 17)) (C8.fnBody (topS 17)) = true := by decide +kernel
theorem s_d15_law_row : FnScope ["formula", "line", "lower", "at"] ["formula"] (C8.fnScope (topS 17)) := C8.fnScope_by (by decide +kernel)
theorem m_d52_law_some : mSs ⟨["source", "xs", "found", "x"], fnm, has⟩ d52_law_some.body (C8.fnScope (topS 18)) (C8.fnBody (topS 18)) = true := by decide +kernel
theorem s_d52_law_some : FnScope ["source", "xs", "found", "x"] ["source", "xs"] (C8.fnScope (topS 18)) := C8.fnScope_by (by decide +kernel)
theorem m_d61_law_led : mSs ⟨["formula", "names", "line", "lower", "told", "other", "k", "here", "at", "word"], fnm, has⟩ d61_law_led.body (C8.fnScope (topS 19)) (C8.fnBody (topS 19)) = true := by decide +kernel
theorem s_d61_law_led : FnScope ["formula", "names", "line", "lower", "told", "other", "k", "here", "at", "word"] ["formula", "names"] (C8.fnScope (topS 19)) := C8.fnScope_by (by decide +kernel)
theorem m_law : mLaw ⟨["script", "source", "lap", "n", "one", "other", "word", "both", "first", "second", "due", "a", "b", "names", "late", "turned", "told", "x", "i", "ones", "noughts", "A", "B", "low", "high", "parts", "lot"], fnm, has⟩ "_law_source" d62_law.body (C8.fnScope (topS 20)) (C8.fnBody (topS 20)) = true := by decide +kernel
theorem s_law : FnScope ["script", "source", "lap", "n", "one", "other", "word", "both", "first", "second", "due", "a", "b", "names", "late", "turned", "told", "x", "i", "ones", "noughts", "A", "B", "low", "high", "parts", "lot"] ["script"] (C8.fnScope (topS 20)) := C8.fnScope_by (by decide +kernel)
theorem s_pick : FnScope ["source", "most", "cells", "others", "lap", "stirred"] ["source", "most"] (C8.fnScope (topS 11)) := C8.fnScope_by (by decide +kernel)
theorem s_src : FnScope ["script", "stirred", "cell", "cells"] ["script"] (C8.fnScope (topS 10)) := C8.fnScope_by (by decide +kernel)
theorem pss_pick {X : Cx} {k : Nat} (hm : ∀ x ∈ bnames, X.mg x = none) (C : CxOk ⟨["source", "most", "cells", "others", "lap", "stirred"], fun _ => "", fun _ => false⟩ k (C8.fnScope (topS 11)) X) : PSs X (C8.fnBody (topS 11)) (tPick X.K) :=
  (pss_cons (ps_if (pt_cmpR op_lt (pe_var (i := 1) (by rw [C.hN]; rfl) (C.vis (by decide +kernel))) pe_int rfl) (pss_cons (ps_ret pe_int) pss_nil) pss_nil) (pss_cons (ps_set C.nd (by rw [C.hN]; rfl : X.N[2]? = some _) (C.loc (by decide +kernel)).1 (pe_dget C.hu1 (pe_var (i := 0) (by rw [C.hN]; rfl) (C.vis (by decide +kernel))) pe_str (fun _ _ => rfl)) rfl (C.loc (by decide +kernel)).2) (pss_cons (ps_while (by rw [C.xe]; exact PassesOwn.never) (pw_and (pt_cmpR op_lt (pe_dget C.hu1 (pe_var (i := 0) (by rw [C.hN]; rfl) (C.vis (by decide +kernel))) pe_str (fun _ _ => rfl)) pe_int rfl) (pw_and1 (pt_cmpR op_gt (pe_callB call_len_seq (C.gl (by decide +kernel)) (hm "len" (by decide)) (by rfl) (pa_cons (pe_var (i := 2) (by rw [C.hN]; rfl) (C.vis (by decide +kernel))) pa_nil rfl) (by decide) (by decide) rfl rfl) pe_int rfl))).pt (pss_cons (ps_dput C.hu1 (pe_var (i := 0) (by rw [C.hN]; rfl) (C.vis (by decide +kernel))) pe_str (pe_bm0 (T := "list") (r := rPop) PySem.F.plainAttrs_list PySem.F.slot_list_pop PySem.F.type_list_pop mt_pop (pe_var (i := 2) (by rw [C.hN]; rfl) (C.vis (by decide +kernel))) rfl rfl) rfl) pss_nil)) (pss_cons (ps_set C.nd (by rw [C.hN]; rfl : X.N[3]? = some _) (C.loc (by decide +kernel)).1 (pe_dget C.hu1 (pe_var (i := 0) (by rw [C.hN]; rfl) (C.vis (by decide +kernel))) pe_str (fun _ _ => rfl)) rfl (C.loc (by decide +kernel)).2) (pss_cons (ps_if (pt_cmpR op_gt (pe_var (i := 3) (by rw [C.hN]; rfl) (C.vis (by decide +kernel))) pe_int rfl) (pss_cons (ps_dput C.hu1 (pe_var (i := 0) (by rw [C.hN]; rfl) (C.vis (by decide +kernel))) pe_str (pe_op op_fdiv (pe_var (i := 3) (by rw [C.hN]; rfl) (C.vis (by decide +kernel))) (pe_var (i := 1) (by rw [C.hN]; rfl) (C.vis (by decide +kernel)))) rfl) (pss_cons (ps_ret (pe_op op_mod (pe_callTy call_int1 (C.gl (by decide +kernel)) (hm "int" (by decide)) (by rfl) (pa_cons (pe_var (i := 3) (by rw [C.hN]; rfl) (C.vis (by decide +kernel))) pa_nil rfl) (by decide) (by decide) rfl rfl) (pe_var (i := 1) (by rw [C.hN]; rfl) (C.vis (by decide +kernel))))) pss_nil)) pss_nil) (pss_cons (ps_dput C.hu1 (pe_var (i := 0) (by rw [C.hN]; rfl) (C.vis (by decide +kernel))) pe_str (pe_op op_add (pe_dget C.hu1 (pe_var (i := 0) (by rw [C.hN]; rfl) (C.vis (by decide +kernel))) pe_str (fun _ _ => rfl)) pe_int) rfl) (pss_cons (ps_set C.nd (by rw [C.hN]; rfl : X.N[4]? = some _) (C.loc (by decide +kernel)).1 (pe_dget C.hu1 (pe_var (i := 0) (by rw [C.hN]; rfl) (C.vis (by decide +kernel))) pe_str (fun _ _ => rfl)) rfl (C.loc (by decide +kernel)).2) (pss_cons (ps_set C.nd (by rw [C.hN]; rfl : X.N[5]? = some _) (C.loc (by decide +kernel)).1 (pe_op op_mod (pe_callTy call_int1 (C.gl (by decide +kernel)) (hm "int" (by decide)) (by rfl) (pa_cons (pe_op op_add (pe_dget C.hu1 (pe_var (i := 0) (by rw [C.hN]; rfl) (C.vis (by decide +kernel))) pe_str (fun _ _ => rfl)) (pe_op op_mul (pe_var (i := 4) (by rw [C.hN]; rfl) (C.vis (by decide +kernel))) pe_int)) pa_nil rfl) (by decide) (by decide) rfl rfl) pe_int) rfl (C.loc (by decide +kernel)).2) (pss_cons (ps_set C.nd (by rw [C.hN]; rfl : X.N[5]? = some _) (C.loc (by decide +kernel)).1 (pe_op op_mod (pe_callTy call_int1 (C.gl (by decide +kernel)) (hm "int" (by decide)) (by rfl) (pa_cons (pe_op op_add (pe_op op_mul (pe_var (i := 5) (by rw [C.hN]; rfl) (C.vis (by decide +kernel))) (pe_var (i := 5) (by rw [C.hN]; rfl) (C.vis (by decide +kernel)))) (pe_op op_mul (pe_var (i := 4) (by rw [C.hN]; rfl) (C.vis (by decide +kernel))) pe_int)) pa_nil rfl) (by decide) (by decide) rfl rfl) pe_int) rfl (C.loc (by decide +kernel)).2) (pss_cons (ps_ret (pe_op op_mod (pe_callTy call_int1 (C.gl (by decide +kernel)) (hm "int" (by decide)) (by rfl) (pa_cons (pe_op op_fdiv (pe_var (i := 5) (by rw [C.hN]; rfl) (C.vis (by decide +kernel))) pe_int) pa_nil rfl) (by decide) (by decide) rfl rfl) (pe_var (i := 1) (by rw [C.hN]; rfl) (C.vis (by decide +kernel))))) pss_nil))))))))))
theorem src_lc {X : Cx} {k : Nat} (hm : ∀ x ∈ bnames, X.mg x = none) (C : CxOk ⟨["script", "stirred", "cell", "cells"], fun _ => "", fun _ => false⟩ k (C8.fnScope (topS 10)) X) : PS X ((C8.fnBody (topS 10)).getD 2 (.Pass ⟨0, 0, 0, 0⟩)) (tAsg (tLc (iList X.K (tVar 0)) (gName 2) tYes (tCB rAbs (tCons (tVar 2) tNil)) [2]) (gName 3)) :=
  ps_setLc C.calm C.nd (by rw [C.hN]; rfl : X.N[3]? = some _) (C.isLocal (by decide +kernel)) (by rw [sw_static C (by decide +kernel)]; exact congrArg pure (by decide +kernel)) (pi_list (pe_var (i := 0) (by rw [C.hN]; rfl) (C.vis (by decide +kernel)))) (blkC_lift C (own := [("cell", 2)]) (by decide +kernel))
    (fun s H Ca cells fp => have C2 := blk_cx C (by rfl) s H Ca cells fp; pg_name (i := 2) C2.nd (by rw [C2.hN]; rfl) (C2.loc (by decide +kernel)).1 (C2.loc (by decide +kernel)).2) (fun s H Ca cells fp => pts_nil) (fun s H Ca cells fp => have C2 := blk_cx C (by rfl) s H Ca cells fp; (pe_callB (r := rAbs) call_abs (C2.gl (by decide +kernel)) (hm "abs" (by decide)) (by rfl) (pa_cons (pe_var (i := 2) (by rw [C2.hN]; rfl) (C2.vis (by decide +kernel))) pa_nil rfl) (by decide) (by decide) rfl rfl)) (fun _ => rfl)
theorem pss_src {X : Cx} {k : Nat} (hm : ∀ x ∈ bnames, X.mg x = none) (C : CxOk ⟨["script", "stirred", "cell", "cells"], fun _ => "", fun _ => false⟩ k (C8.fnScope (topS 10)) X) : PSs X (C8.fnBody (topS 10)) (tSrc X.K) :=
  (pss_cons (ps_set C.nd (by rw [C.hN]; rfl : X.N[1]? = some _) (C.loc (by decide +kernel)).1 pe_int rfl (C.loc (by decide +kernel)).2) (pss_cons (ps_for (by rw [C.xe]; exact PassesOwn.never) C.calm (pi_list (pe_var (i := 0) (by rw [C.hN]; rfl) (C.vis (by decide +kernel)))) (pg_name (i := 2) C.nd (by rw [C.hN]; rfl) (C.loc (by decide +kernel)).1 (C.loc (by decide +kernel)).2) (pss_cons (ps_set C.nd (by rw [C.hN]; rfl : X.N[1]? = some _) (C.loc (by decide +kernel)).1 (pe_op op_mod (pe_callTy call_int1 (C.gl (by decide +kernel)) (hm "int" (by decide)) (by rfl) (pa_cons (pe_op op_add (pe_op op_add (pe_op op_mul (pe_var (i := 1) (by rw [C.hN]; rfl) (C.vis (by decide +kernel))) pe_int) (pe_op op_mul (pe_var (i := 2) (by rw [C.hN]; rfl) (C.vis (by decide +kernel))) pe_int)) pe_int) pa_nil rfl) (by decide) (by decide) rfl rfl) pe_int) rfl (C.loc (by decide +kernel)).2) pss_nil) (fun _ => rfl)) (pss_cons (src_lc hm C) (pss_cons (ps_ret (pe_disp (pps_cons pe_str (pe_revL (pe_var (i := 3) (by rw [C.hN]; rfl) (C.vis (by decide +kernel)))) (pps_cons pe_str pe_int (pps_cons pe_str (pe_var (i := 1) (by rw [C.hN]; rfl) (C.vis (by decide +kernel))) (pps_cons pe_str pe_int pps_nil)))) rfl rfl (by simp) (by decide))) pss_nil))))
set_option maxHeartbeats 4000000 in
theorem all_mk {l : PySem.W.OpenLaw} {w : World} {K : PySem.W.Frag} {h : Heap} {mg : Str → Option Value} {fa : Addr} (X : K.In h) (G : h.Ns mainGlobals mg) (hfa : mg "law" = some (.ref fa))
    {f1 : Addr} {od1 an1 : Option Addr} {sl1 : Array (Option Value)} {oc1 kV1 dc1 pm1 cd1 ct1 : Value}
    (a1 : PySem.W.nsIn K mainGlobals "input_neighbours" = some (some (.ref f1))) (l1 : K.lookup f1 = some ⟨oc1, od1, .func (PySem.W.fnOf "input_neighbours" "input_neighbours" (C8.fnArgs (topS 1)) (C8.fnBody (topS 1)) (C8.fnScope (topS 1)) .none kV1 dc1 pm1 an1 cd1 ct1), sl1⟩) (c1 : PySem.W.codeIn K cd1 "input_neighbours" = true) (k1 : PySem.W.keepIn K (.ref f1) = true)
    {f2 : Addr} {od2 an2 : Option Addr} {sl2 : Array (Option Value)} {oc2 kV2 dc2 pm2 cd2 ct2 : Value}
    (a2 : PySem.W.nsIn K mainGlobals "leaves_in" = some (some (.ref f2))) (l2 : K.lookup f2 = some ⟨oc2, od2, .func (PySem.W.fnOf "leaves_in" "leaves_in" (C8.fnArgs (topS 3)) (C8.fnBody (topS 3)) (C8.fnScope (topS 3)) .none kV2 dc2 pm2 an2 cd2 ct2), sl2⟩) (c2 : PySem.W.codeIn K cd2 "leaves_in" = true) (k2 : PySem.W.keepIn K (.ref f2) = true)
    {f3 : Addr} {od3 an3 : Option Addr} {sl3 : Array (Option Value)} {oc3 kV3 dc3 pm3 cd3 ct3 : Value}
    (a3 : PySem.W.nsIn K mainGlobals "answers_told" = some (some (.ref f3))) (l3 : K.lookup f3 = some ⟨oc3, od3, .func (PySem.W.fnOf "answers_told" "answers_told" (C8.fnArgs (topS 4)) (C8.fnBody (topS 4)) (C8.fnScope (topS 4)) .none kV3 dc3 pm3 an3 cd3 ct3), sl3⟩) (c3 : PySem.W.codeIn K cd3 "answers_told" = true) (k3 : PySem.W.keepIn K (.ref f3) = true)
    {f4 : Addr} {od4 an4 : Option Addr} {sl4 : Array (Option Value)} {oc4 kV4 dc4 pm4 cd4 ct4 : Value}
    (a4 : PySem.W.nsIn K mainGlobals "bit_in" = some (some (.ref f4))) (l4 : K.lookup f4 = some ⟨oc4, od4, .func (PySem.W.fnOf "bit_in" "bit_in" (C8.fnArgs (topS 5)) (C8.fnBody (topS 5)) (C8.fnScope (topS 5)) .none kV4 dc4 pm4 an4 cd4 ct4), sl4⟩) (c4 : PySem.W.codeIn K cd4 "bit_in" = true) (k4 : PySem.W.keepIn K (.ref f4) = true)
    {f5 : Addr} {od5 an5 : Option Addr} {sl5 : Array (Option Value)} {oc5 kV5 dc5 pm5 cd5 ct5 : Value}
    (a5 : PySem.W.nsIn K mainGlobals "across_pairs" = some (some (.ref f5))) (l5 : K.lookup f5 = some ⟨oc5, od5, .func (PySem.W.fnOf "across_pairs" "across_pairs" (C8.fnArgs (topS 7)) (C8.fnBody (topS 7)) (C8.fnScope (topS 7)) .none kV5 dc5 pm5 an5 cd5 ct5), sl5⟩) (c5 : PySem.W.codeIn K cd5 "across_pairs" = true) (k5 : PySem.W.keepIn K (.ref f5) = true)
    {f6 : Addr} {od6 an6 : Option Addr} {sl6 : Array (Option Value)} {oc6 kV6 dc6 pm6 cd6 ct6 : Value}
    (a6 : PySem.W.nsIn K mainGlobals "does_part_lots" = some (some (.ref f6))) (l6 : K.lookup f6 = some ⟨oc6, od6, .func (PySem.W.fnOf "does_part_lots" "does_part_lots" (C8.fnArgs (topS 8)) (C8.fnBody (topS 8)) (C8.fnScope (topS 8)) .none kV6 dc6 pm6 an6 cd6 ct6), sl6⟩) (c6 : PySem.W.codeIn K cd6 "does_part_lots" = true) (k6 : PySem.W.keepIn K (.ref f6) = true)
    {f7 : Addr} {od7 an7 : Option Addr} {sl7 : Array (Option Value)} {oc7 kV7 dc7 pm7 cd7 ct7 : Value}
    (a7 : PySem.W.nsIn K mainGlobals "_law_of" = some (some (.ref f7))) (l7 : K.lookup f7 = some ⟨oc7, od7, .func (PySem.W.fnOf "_law_of" "_law_of" (C8.fnArgs (topS 12)) (C8.fnBody (topS 12)) (C8.fnScope (topS 12)) .none kV7 dc7 pm7 an7 cd7 ct7), sl7⟩) (c7 : PySem.W.codeIn K cd7 "_law_of" = true) (k7 : PySem.W.keepIn K (.ref f7) = true)
    {f8 : Addr} {od8 an8 : Option Addr} {sl8 : Array (Option Value)} {oc8 kV8 dc8 pm8 cd8 ct8 : Value}
    (a8 : PySem.W.nsIn K mainGlobals "_law_mixed" = some (some (.ref f8))) (l8 : K.lookup f8 = some ⟨oc8, od8, .func (PySem.W.fnOf "_law_mixed" "_law_mixed" (C8.fnArgs (topS 13)) (C8.fnBody (topS 13)) (C8.fnScope (topS 13)) .none kV8 dc8 pm8 an8 cd8 ct8), sl8⟩) (c8 : PySem.W.codeIn K cd8 "_law_mixed" = true) (k8 : PySem.W.keepIn K (.ref f8) = true)
    {f9 : Addr} {od9 an9 : Option Addr} {sl9 : Array (Option Value)} {oc9 kV9 dc9 pm9 cd9 ct9 : Value}
    (a9 : PySem.W.nsIn K mainGlobals "_law_two" = some (some (.ref f9))) (l9 : K.lookup f9 = some ⟨oc9, od9, .func (PySem.W.fnOf "_law_two" "_law_two" (C8.fnArgs (topS 14)) (C8.fnBody (topS 14)) (C8.fnScope (topS 14)) .none kV9 dc9 pm9 an9 cd9 ct9), sl9⟩) (c9 : PySem.W.codeIn K cd9 "_law_two" = true) (k9 : PySem.W.keepIn K (.ref f9) = true)
    {f10 : Addr} {od10 an10 : Option Addr} {sl10 : Array (Option Value)} {oc10 kV10 dc10 pm10 cd10 ct10 : Value}
    (a10 : PySem.W.nsIn K mainGlobals "_law_bit" = some (some (.ref f10))) (l10 : K.lookup f10 = some ⟨oc10, od10, .func (PySem.W.fnOf "_law_bit" "_law_bit" (C8.fnArgs (topS 15)) (C8.fnBody (topS 15)) (C8.fnScope (topS 15)) .none kV10 dc10 pm10 an10 cd10 ct10), sl10⟩) (c10 : PySem.W.codeIn K cd10 "_law_bit" = true) (k10 : PySem.W.keepIn K (.ref f10) = true)
    {f11 : Addr} {od11 an11 : Option Addr} {sl11 : Array (Option Value)} {oc11 kV11 dc11 pm11 cd11 ct11 : Value}
    (a11 : PySem.W.nsIn K mainGlobals "_law_formula" = some (some (.ref f11))) (l11 : K.lookup f11 = some ⟨oc11, od11, .func (PySem.W.fnOf "_law_formula" "_law_formula" (C8.fnArgs (topS 16)) (C8.fnBody (topS 16)) (C8.fnScope (topS 16)) .none kV11 dc11 pm11 an11 cd11 ct11), sl11⟩) (c11 : PySem.W.codeIn K cd11 "_law_formula" = true) (k11 : PySem.W.keepIn K (.ref f11) = true)
    {f12 : Addr} {od12 an12 : Option Addr} {sl12 : Array (Option Value)} {oc12 kV12 dc12 pm12 cd12 ct12 : Value}
    (a12 : PySem.W.nsIn K mainGlobals "_law_row" = some (some (.ref f12))) (l12 : K.lookup f12 = some ⟨oc12, od12, .func (PySem.W.fnOf "_law_row" "_law_row" (C8.fnArgs (topS 17)) (C8.fnBody (topS 17)) (C8.fnScope (topS 17)) .none kV12 dc12 pm12 an12 cd12 ct12), sl12⟩) (c12 : PySem.W.codeIn K cd12 "_law_row" = true) (k12 : PySem.W.keepIn K (.ref f12) = true)
    {f13 : Addr} {od13 an13 : Option Addr} {sl13 : Array (Option Value)} {oc13 kV13 dc13 pm13 cd13 ct13 : Value}
    (a13 : PySem.W.nsIn K mainGlobals "_law_some" = some (some (.ref f13))) (l13 : K.lookup f13 = some ⟨oc13, od13, .func (PySem.W.fnOf "_law_some" "_law_some" (C8.fnArgs (topS 18)) (C8.fnBody (topS 18)) (C8.fnScope (topS 18)) .none kV13 dc13 pm13 an13 cd13 ct13), sl13⟩) (c13 : PySem.W.codeIn K cd13 "_law_some" = true) (k13 : PySem.W.keepIn K (.ref f13) = true)
    {f14 : Addr} {od14 an14 : Option Addr} {sl14 : Array (Option Value)} {oc14 kV14 dc14 pm14 cd14 ct14 : Value}
    (a14 : PySem.W.nsIn K mainGlobals "_law_led" = some (some (.ref f14))) (l14 : K.lookup f14 = some ⟨oc14, od14, .func (PySem.W.fnOf "_law_led" "_law_led" (C8.fnArgs (topS 19)) (C8.fnBody (topS 19)) (C8.fnScope (topS 19)) .none kV14 dc14 pm14 an14 cd14 ct14), sl14⟩) (c14 : PySem.W.codeIn K cd14 "_law_led" = true) (k14 : PySem.W.keepIn K (.ref f14) = true)
    {f15 : Addr} {od15 an15 : Option Addr} {sl15 : Array (Option Value)} {oc15 kV15 dc15 pm15 cd15 ct15 : Value}
    (a15 : PySem.W.nsIn K mainGlobals "law" = some (some (.ref f15))) (l15 : K.lookup f15 = some ⟨oc15, od15, .func (PySem.W.fnOf "law" "law" (C8.fnArgs (topS 20)) (C8.fnBody (topS 20)) (C8.fnScope (topS 20)) .none kV15 dc15 pm15 an15 cd15 ct15), sl15⟩) (c15 : PySem.W.codeIn K cd15 "law" = true) (k15 : PySem.W.keepIn K (.ref f15) = true)
    {f16 : Addr} {od16 an16 : Option Addr} {sl16 : Array (Option Value)} {oc16 kV16 dc16 pm16 cd16 ct16 : Value}
    (a16 : PySem.W.nsIn K mainGlobals "_law_pick" = some (some (.ref f16))) (l16 : K.lookup f16 = some ⟨oc16, od16, .func (PySem.W.fnOf "_law_pick" "_law_pick" (C8.fnArgs (topS 11)) (C8.fnBody (topS 11)) (C8.fnScope (topS 11)) .none kV16 dc16 pm16 an16 cd16 ct16), sl16⟩) (c16 : PySem.W.codeIn K cd16 "_law_pick" = true) (k16 : PySem.W.keepIn K (.ref f16) = true)
    {f17 : Addr} {od17 an17 : Option Addr} {sl17 : Array (Option Value)} {oc17 kV17 dc17 pm17 cd17 ct17 : Value}
    (a17 : PySem.W.nsIn K mainGlobals "_law_source" = some (some (.ref f17))) (l17 : K.lookup f17 = some ⟨oc17, od17, .func (PySem.W.fnOf "_law_source" "_law_source" (C8.fnArgs (topS 10)) (C8.fnBody (topS 10)) (C8.fnScope (topS 10)) .none kV17 dc17 pm17 an17 cd17 ct17), sl17⟩) (c17 : PySem.W.codeIn K cd17 "_law_source" = true) (k17 : PySem.W.keepIn K (.ref f17) = true)
    (z1 : PySem.W.nsIn K mainGlobals "len" = some none) (z2 : PySem.W.nsIn K mainGlobals "list" = some none) (z3 : PySem.W.nsIn K mainGlobals "tuple" = some none) (z4 : PySem.W.nsIn K mainGlobals "int" = some none) (z5 : PySem.W.nsIn K mainGlobals "abs" = some none) (z6 : PySem.W.nsIn K mainGlobals "sum" = some none) (z7 : PySem.W.nsIn K mainGlobals "min" = some none) (z8 : PySem.W.nsIn K mainGlobals "max" = some none) (z9 : PySem.W.nsIn K mainGlobals "all" = some none) (z10 : PySem.W.nsIn K mainGlobals "any" = some none) (z11 : PySem.W.nsIn K mainGlobals "repr" = some none) (z12 : PySem.W.nsIn K mainGlobals "isinstance" = some none) (z13 : PySem.W.nsIn K mainGlobals "sorted" = some none) (z14 : PySem.W.nsIn K mainGlobals "range" = some none) (z15 : PySem.W.nsIn K mainGlobals "enumerate" = some none) (z16 : PySem.W.nsIn K mainGlobals "zip" = some none) (z17 : PySem.W.nsIn K mainGlobals "dict" = some none) (z18 : PySem.W.nsIn K mainGlobals "set" = some none) (z19 : PySem.W.nsIn K mainGlobals "bool" = some none) (z20 : PySem.W.nsIn K mainGlobals "str" = some none) (z21 : PySem.W.nsIn K mainGlobals "reversed" = some none)
    (hall : (lawM tab 12 d62_law).all fun r => r.1 = .rt (.bl true)) : ∀ base : Heap, K.In base → base.Ns mainGlobals mg → FnG ⟨l.prog, w, K, mg, fun _ => 0⟩ base 21 fa (spLaw K) := by
  have e : f15 = fa := by
    have e := (PySem.W.mg_of X G a15).symm.trans hfa
    cases e; rfl
  subst e
  intro base hK hN
  have bl : ∀ x ∈ bnames, mg x = none := (fm (PySem.W.mg_none_of X G z1) (fm (PySem.W.mg_none_of X G z2) (fm (PySem.W.mg_none_of X G z3) (fm (PySem.W.mg_none_of X G z4) (fm (PySem.W.mg_none_of X G z5) (fm (PySem.W.mg_none_of X G z6) (fm (PySem.W.mg_none_of X G z7) (fm (PySem.W.mg_none_of X G z8) (fm (PySem.W.mg_none_of X G z9) (fm (PySem.W.mg_none_of X G z10) (fm (PySem.W.mg_none_of X G z11) (fm (PySem.W.mg_none_of X G z12) (fm (PySem.W.mg_none_of X G z13) (fm (PySem.W.mg_none_of X G z14) (fm (PySem.W.mg_none_of X G z15) (fm (PySem.W.mg_none_of X G z16) (fm (PySem.W.mg_none_of X G z17) (fm (PySem.W.mg_none_of X G z18) (fm (PySem.W.mg_none_of X G z19) (fm (PySem.W.mg_none_of X G z20) (fm (PySem.W.mg_none_of X G z21) fm0)))))))))))))))))))))
  have F1 : C8.Fun K "input_neighbours" "input_neighbours" (topS 1) f1 _ := ⟨_, _, _, _, _, _, _, _, _, _, rfl, l1, c1⟩
  have b1 := F1.binds rfl (ps := ["n", "x"]) fun _ _ _ _ _ _ us hl => match us, hl with | [_, _], _ => rfl
  have F2 : C8.Fun K "leaves_in" "leaves_in" (topS 3) f2 _ := ⟨_, _, _, _, _, _, _, _, _, _, rfl, l2, c2⟩
  have b2 := F2.binds rfl (ps := ["formula"]) fun _ _ _ _ _ _ us hl => match us, hl with | [_], _ => rfl
  have F3 : C8.Fun K "answers_told" "answers_told" (topS 4) f3 _ := ⟨_, _, _, _, _, _, _, _, _, _, rfl, l3, c3⟩
  have b3 := F3.binds rfl (ps := ["n", "formula"]) fun _ _ _ _ _ _ us hl => match us, hl with | [_, _], _ => rfl
  have F4 : C8.Fun K "bit_in" "bit_in" (topS 5) f4 _ := ⟨_, _, _, _, _, _, _, _, _, _, rfl, l4, c4⟩
  have b4 := F4.binds rfl (ps := ["x", "i", "is_turned"]) fun _ _ _ _ _ _ us hl => match us, hl with | [_, _, _], _ => rfl
  have F5 : C8.Fun K "across_pairs" "across_pairs" (topS 7) f5 _ := ⟨_, _, _, _, _, _, _, _, _, _, rfl, l5, c5⟩
  have b5 := F5.binds rfl (ps := ["n", "ones", "noughts"]) fun _ _ _ _ _ _ us hl => match us, hl with | [_, _, _], _ => rfl
  have F6 : C8.Fun K "does_part_lots" "does_part_lots" (topS 8) f6 _ := ⟨_, _, _, _, _, _, _, _, _, _, rfl, l6, c6⟩
  have b6 := F6.binds rfl (ps := ["n", "formula", "ones", "noughts"]) fun _ _ _ _ _ _ us hl => match us, hl with | [_, _, _, _], _ => rfl
  have F7 : C8.Fun K "_law_of" "_law_of" (topS 12) f7 _ := ⟨_, _, _, _, _, _, _, _, _, _, rfl, l7, c7⟩
  have b7 := F7.binds rfl (ps := ["source", "some"]) fun _ _ _ _ _ _ us hl => match us, hl with | [_, _], _ => rfl
  have F8 : C8.Fun K "_law_mixed" "_law_mixed" (topS 13) f8 _ := ⟨_, _, _, _, _, _, _, _, _, _, rfl, l8, c8⟩
  have b8 := F8.binds rfl (ps := ["source", "things"]) fun _ _ _ _ _ _ us hl => match us, hl with | [_, _], _ => rfl
  have F9 : C8.Fun K "_law_two" "_law_two" (topS 14) f9 _ := ⟨_, _, _, _, _, _, _, _, _, _, rfl, l9, c9⟩
  have b9 := F9.binds rfl (ps := ["n"]) fun _ _ _ _ _ _ us hl => match us, hl with | [_], _ => rfl
  have F10 : C8.Fun K "_law_bit" "_law_bit" (topS 15) f10 _ := ⟨_, _, _, _, _, _, _, _, _, _, rfl, l10, c10⟩
  have b10 := F10.binds rfl (ps := ["x", "i"]) fun _ _ _ _ _ _ us hl => match us, hl with | [_, _], _ => rfl
  have F11 : C8.Fun K "_law_formula" "_law_formula" (topS 16) f11 _ := ⟨_, _, _, _, _, _, _, _, _, _, rfl, l11, c11⟩
  have b11 := F11.binds rfl (ps := ["source", "n", "most"]) fun _ _ _ _ _ _ us hl => match us, hl with | [_, _, _], _ => rfl
  have F12 : C8.Fun K "_law_row" "_law_row" (topS 17) f12 _ := ⟨_, _, _, _, _, _, _, _, _, _, rfl, l12, c12⟩
  have b12 := F12.binds rfl (ps := ["formula"]) fun _ _ _ _ _ _ us hl => match us, hl with | [_], _ => rfl
  have F13 : C8.Fun K "_law_some" "_law_some" (topS 18) f13 _ := ⟨_, _, _, _, _, _, _, _, _, _, rfl, l13, c13⟩
  have b13 := F13.binds rfl (ps := ["source", "xs"]) fun _ _ _ _ _ _ us hl => match us, hl with | [_, _], _ => rfl
  have F14 : C8.Fun K "_law_led" "_law_led" (topS 19) f14 _ := ⟨_, _, _, _, _, _, _, _, _, _, rfl, l14, c14⟩
  have b14 := F14.binds rfl (ps := ["formula", "names"]) fun _ _ _ _ _ _ us hl => match us, hl with | [_, _], _ => rfl
  have F15 : C8.Fun K "law" "law" (topS 20) f15 _ := ⟨_, _, _, _, _, _, _, _, _, _, rfl, l15, c15⟩
  have b15 := F15.binds rfl (ps := ["script"]) fun _ _ _ _ _ _ us hl => match us, hl with | [_], _ => rfl
  have F16 : C8.Fun K "_law_pick" "_law_pick" (topS 11) f16 _ := ⟨_, _, _, _, _, _, _, _, _, _, rfl, l16, c16⟩
  have b16 := F16.binds rfl (ps := ["source", "most"]) fun _ _ _ _ _ _ us hl => match us, hl with | [_, _], _ => rfl
  have F17 : C8.Fun K "_law_source" "_law_source" (topS 10) f17 _ := ⟨_, _, _, _, _, _, _, _, _, _, rfl, l17, c17⟩
  have b17 := F17.binds rfl (ps := ["script"]) fun _ _ _ _ _ _ us hl => match us, hl with | [_], _ => rfl
  obtain ⟨Z, hZ⟩ : ∃ Z : Wd, Z = ⟨l.prog, w, K, mg, faOf [(9, f1), (3, f2), (5, f3), (4, f4), (10, f5), (11, f6), (49, f7), (60, f8), (13, f9), (14, f10), (50, f11), (15, f12), (52, f13), (61, f14)] f1⟩ := ⟨_, rfl⟩
  have hp : FnG Z base 8 f16 spPick := by subst hZ; exact pickG F16 b16 s_pick rfl rfl fun X k hm C => pss_pick (fun x hx => by rw [hm]; exact bl x hx) C
  have hs : FnG Z base 8 f17 (spSrc Z.K) := by subst hZ; exact srcG F17 b17 s_src rfl rfl fun X k hm C => pss_src (fun x hx => by rw [hm]; exact bl x hx) C
  have Tb : TabOk fnm has tab Z base := by
    subst hZ
    refine ⟨bl, mg_all ?_, kp_of k1 ?_, lookup_all ?_, f16, PySem.W.mg_of X G a16, k16, hp⟩
    · exact (fm (PySem.W.mg_of X G a1) (fm (PySem.W.mg_of X G a2) (fm (PySem.W.mg_of X G a3) (fm (PySem.W.mg_of X G a4) (fm (PySem.W.mg_of X G a5) (fm (PySem.W.mg_of X G a6) (fm (PySem.W.mg_of X G a7) (fm (PySem.W.mg_of X G a8) (fm (PySem.W.mg_of X G a9) (fm (PySem.W.mg_of X G a10) (fm (PySem.W.mg_of X G a11) (fm (PySem.W.mg_of X G a12) (fm (PySem.W.mg_of X G a13) (fm (PySem.W.mg_of X G a14) fm0))))))))))))))
    · exact (fm k1 (fm k2 (fm k3 (fm k4 (fm k5 (fm k6 (fm k7 (fm k8 (fm k9 (fm k10 (fm k11 (fm k12 (fm k13 (fm k14 fm0))))))))))))))
    · exact (fm ⟨_, _, _, _, _, F1, b1, s_d9_input_neighbours, rfl, rfl, m_d9_input_neighbours⟩ (fm ⟨_, _, _, _, _, F2, b2, s_d3_leaves_in, rfl, rfl, m_d3_leaves_in⟩ (fm ⟨_, _, _, _, _, F3, b3, s_d5_answers_told, rfl, rfl, m_d5_answers_told⟩ (fm ⟨_, _, _, _, _, F4, b4, s_d4_bit_in, rfl, rfl, m_d4_bit_in⟩ (fm ⟨_, _, _, _, _, F5, b5, s_d10_across_pairs, rfl, rfl, m_d10_across_pairs⟩ (fm ⟨_, _, _, _, _, F6, b6, s_d11_does_part_lots, rfl, rfl, m_d11_does_part_lots⟩ (fm ⟨_, _, _, _, _, F7, b7, s_d49_law_of, rfl, rfl, m_d49_law_of⟩ (fm ⟨_, _, _, _, _, F8, b8, s_d60_law_mixed, rfl, rfl, m_d60_law_mixed⟩ (fm ⟨_, _, _, _, _, F9, b9, s_d13_law_two, rfl, rfl, m_d13_law_two⟩ (fm ⟨_, _, _, _, _, F10, b10, s_d14_law_bit, rfl, rfl, m_d14_law_bit⟩ (fm ⟨_, _, _, _, _, F11, b11, s_d50_law_formula, rfl, rfl, m_d50_law_formula⟩ (fm ⟨_, _, _, _, _, F12, b12, s_d15_law_row, rfl, rfl, m_d15_law_row⟩ (fm ⟨_, _, _, _, _, F13, b13, s_d52_law_some, rfl, rfl, m_d52_law_some⟩ (fm ⟨_, _, _, _, _, F14, b14, s_d61_law_led, rfl, rfl, m_d61_law_led⟩ fm0))))))))))))))
  have hl := lawG (Z := Z) (base := base) (f := f15) (fs := f17) (src := "_law_source") (x := "law") (st := topS 20) (df := d62_law) Tb (by subst hZ; exact PySem.W.mg_of X G a17) (by subst hZ; exact k17) hs (by subst hZ; exact F15) (by subst hZ; exact b15) s_law rfl rfl m_law hall
  subst hZ
  exact hl
end Lk79

namespace Lk79
open Bq
theorem T : T79 tab := ⟨rfl, rfl, rfl, rfl, rfl, rfl, rfl, rfl, rfl, rfl, rfl, rfl, rfl, rfl⟩
theorem law_all : (lawM tab 12 d62_law).all fun r => r.1 = .rt (.bl true) := k79_all T
end Lk79

open PySem PySem.W PyProof.Rows
set_option maxHeartbeats 0 in
theorem PySem.Challenge.cw_bitsasked_k79_formulas_put_together_holds : PySem.Challenge.rw_bitsasked_k79_formulas_put_together.Holds := by
  w_on; o_law; k_head; (case hw => w_witness2)
  k_fill
  refine Bq.walk_ofG (l := PySem.Challenge.rw_bitsasked_k79_formulas_put_together) (n := 63) (k := 21) (fa' := fun _ _ => 0) rfl (by decide) rfl ⟨rfl, by decide, by decide⟩ (fun w h Y => PySem.W.kIn_of Y) ?F
  case F =>
    intro w mg fa h KX G hmg
    refine' Lk79.all_mk KX G hmg ?a1 ?l1 ?c1 ?k1 ?a2 ?l2 ?c2 ?k2 ?a3 ?l3 ?c3 ?k3 ?a4 ?l4 ?c4 ?k4 ?a5 ?l5 ?c5 ?k5 ?a6 ?l6 ?c6 ?k6 ?a7 ?l7 ?c7 ?k7 ?a8 ?l8 ?c8 ?k8 ?a9 ?l9 ?c9 ?k9 ?a10 ?l10 ?c10 ?k10 ?a11 ?l11 ?c11 ?k11 ?a12 ?l12 ?c12 ?k12 ?a13 ?l13 ?c13 ?k13 ?a14 ?l14 ?c14 ?k14 ?a15 ?l15 ?c15 ?k15 ?a16 ?l16 ?c16 ?k16 ?a17 ?l17 ?c17 ?k17 ?z1 ?z2 ?z3 ?z4 ?z5 ?z6 ?z7 ?z8 ?z9 ?z10 ?z11 ?z12 ?z13 ?z14 ?z15 ?z16 ?z17 ?z18 ?z19 ?z20 ?z21 Lk79.law_all
    (case a1 => k_is)
    (case l1 => k_is)
    (case c1 => k_is)
    (case k1 => k_is)
    (case a2 => k_is)
    (case l2 => k_is)
    (case c2 => k_is)
    (case k2 => k_is)
    (case a3 => k_is)
    (case l3 => k_is)
    (case c3 => k_is)
    (case k3 => k_is)
    (case a4 => k_is)
    (case l4 => k_is)
    (case c4 => k_is)
    (case k4 => k_is)
    (case a5 => k_is)
    (case l5 => k_is)
    (case c5 => k_is)
    (case k5 => k_is)
    (case a6 => k_is)
    (case l6 => k_is)
    (case c6 => k_is)
    (case k6 => k_is)
    (case a7 => k_is)
    (case l7 => k_is)
    (case c7 => k_is)
    (case k7 => k_is)
    (case a8 => k_is)
    (case l8 => k_is)
    (case c8 => k_is)
    (case k8 => k_is)
    (case a9 => k_is)
    (case l9 => k_is)
    (case c9 => k_is)
    (case k9 => k_is)
    (case a10 => k_is)
    (case l10 => k_is)
    (case c10 => k_is)
    (case k10 => k_is)
    (case a11 => k_is)
    (case l11 => k_is)
    (case c11 => k_is)
    (case k11 => k_is)
    (case a12 => k_is)
    (case l12 => k_is)
    (case c12 => k_is)
    (case k12 => k_is)
    (case a13 => k_is)
    (case l13 => k_is)
    (case c13 => k_is)
    (case k13 => k_is)
    (case a14 => k_is)
    (case l14 => k_is)
    (case c14 => k_is)
    (case k14 => k_is)
    (case a15 => k_is)
    (case l15 => k_is)
    (case c15 => k_is)
    (case k15 => k_is)
    (case a16 => k_is)
    (case l16 => k_is)
    (case c16 => k_is)
    (case k16 => k_is)
    (case a17 => k_is)
    (case l17 => k_is)
    (case c17 => k_is)
    (case k17 => k_is)
    (case z1 => k_is)
    (case z2 => k_is)
    (case z3 => k_is)
    (case z4 => k_is)
    (case z5 => k_is)
    (case z6 => k_is)
    (case z7 => k_is)
    (case z8 => k_is)
    (case z9 => k_is)
    (case z10 => k_is)
    (case z11 => k_is)
    (case z12 => k_is)
    (case z13 => k_is)
    (case z14 => k_is)
    (case z15 => k_is)
    (case z16 => k_is)
    (case z17 => k_is)
    (case z18 => k_is)
    (case z19 => k_is)
    (case z20 => k_is)
    (case z21 => k_is)
