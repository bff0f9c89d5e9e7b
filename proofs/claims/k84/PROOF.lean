import PyProof.Rows.All
import Wide.All
import OpenK.AllK
import Wide.FinOn
import PySem.Str
import HandS.ForMost
import HandS.Wide
import HandS.TupAny
import HandS.TupMul
import HandS.Flow
import HandS.Deep
import HandS.Style
import KE.KTupSum
import KE.DataMinMax
import HandS.ForExc
import HandS.Iter
import HandS.IsInst
import HandS.Walk
import HandS.Zip
import KE.GoesEnum
import HandS.NoneIn
import HandS.Comp
import HandS.TryMany
import HandS.ExcField
import HandS.ExcIs
import HandS.List
import HandS.HeadHook2
import HandS.HeadEnd
import HandS.Head2
import PySem.Challenge.RW_drawnfurther_k84_prices
section
set_option autoImplicit false
/-! The evaluator: a small language of our own (values as trees), total but for whiles. -/
namespace Py
abbrev Str := PySem.Str

/-- values: tuples and shared lists as trees; loc n: the n-th cell of the store (a list that several names may change) -/
inductive Val where
  | non | bl (b : Bool) | int (i : Int) | str (s : Str) | tup (xs : List Val) | lst (xs : List Val) | loc (n : Nat) | scr (xs : List Val)
  deriving Inhabited

/-- what an expression yields, what a slot holds: a value; a list that nobody else holds; a list looked at where it stands -/
inductive SV where
  | val (v : Val) | own (xs : List Val) | pk (xs : List Val)
  deriving Inhabited
abbrev Mem := List (List Val)
structure S where
  e : List (Option SV)
  m : Mem
structure Ex where
  cls : Nat
  arg : Option Str
inductive Res (α : Type) where
  | ok (a : α) (s : S) | ex (x : Ex) (s : S)
abbrev M (α : Type) := S → Option (Res α)
inductive CRes where
  | ok (v : SV) (m : Mem) | ex (x : Ex) (m : Mem)
abbrev Kn := Nat → List Val → Mem → Option CRes

def M.pure {α : Type} (a : α) : M α := fun s => some (.ok a s)
def M.bind {α β : Type} (x : M α) (f : α → M β) : M β := fun s =>
  match x s with
  | none => none
  | some (.ok a s') => f a s'
  | some (.ex x s') => some (.ex x s')
def M.of {α : Type} : Option α → M α
  | some a => M.pure a
  | none => fun _ => none
instance : Monad M where
  pure := M.pure
  bind := M.bind
def M.get : M S := fun s => some (.ok s s)
def M.mem : M Mem := fun s => some (.ok s.m s)
def M.fail {α : Type} : M α := fun _ => none

/-! ### the syntax -/
inductive BO where
  | add | sub | mul | fdiv | mod
  deriving DecidableEq
inductive CO where
  | lt | le | gt | ge | eq | ne | is | isnot | isin | notin
  deriving DecidableEq
inductive Ty where
  | int | bool | tuple | list | str
  deriving DecidableEq
inductive Pr where
  | abs | len | int | sum | max | min | all | any | sorted | tuple | list
  deriving DecidableEq
mutual
inductive Tg where
  | n (i : Nat) | t (ts : Tgs)
inductive Tgs where
  | nil | cons (t : Tg) (ts : Tgs)
end
mutual
inductive E where
  | s (i : Nat)
  | c (v : Val)
  | tup (es : Es)
  | lst (es : Es)
  | mk (e : E)
  | bin (o : BO) (a b : E)
  | neg (a : E)
  | not (a : E)
  | and (a b : E)
  | or (a b : E)
  | ite (c a b : E)
  | cmp (a : E) (cs : Cs)
  | call (f : Nat) (es : Es)
  | pr (p : Pr) (es : Es)
  | ix (a i : E)
  | sl (a : E) (lo hi : Oe)
  | rev (a : E)
  | revF (a : E) (i : Int)
  | isi (a : E) (ts : List Ty)
  | lc (own : List Nat) (tg : Tg) (it : It) (ifs : Es) (e : E)
  | lc2 (own own2 : List Nat) (tg : Tg) (it : It) (ifs : Es) (tg2 : Tg) (it2 : It) (ifs2 : Es) (e : E)
  | lit (it : It)
  | tit (it : It)
inductive Es where
  | nil | cons (e : E) (es : Es)
inductive Cs where
  | one (o : CO) (e : E) | cons (o : CO) (e : E) (cs : Cs)
inductive Oe where
  | no | of (e : E)
inductive It where
  | e (a : E) | range1 (a : E) | range2 (a b : E) | rangeD (a b c : E) | enum (a : It) (k : Oe) | zip (a b : It) | zip3 (a b c : It)
end
/-- what an except clause returns: a constant, the exception's reason; a list of two -/
inductive HP where
  | c (v : Val) | reason
inductive HR where
  | one (p : HP) | two (a b : HP)
/-- except clauses: the class, the slot that takes the exception -/
inductive Hs where
  | nil | cons (c : Nat) (i : Option Nat) (r : HR) (hs : Hs)
mutual
inductive St where
  | expr (e : E)
  | set (i : Nat) (e : E)
  | unp (ts : Tgs) (e : E)
  | par (is : List Nat) (es : Es)
  | put (i : Nat) (ix e : E)
  | putE (b ix e : E)
  | aug (i : Nat) (o : BO) (e : E)
  | augS (i : Nat) (ix : E) (o : BO) (e : E)
  | app (i : Nat) (e : E)
  | ext (i : Nat) (e : E)
  | pop (i : Nat)
  | ite (c : E) (a b : Sts)
  | wh (c : E) (b : Sts)
  | for (tg : Tg) (it : It) (b : Sts)
  | ret (e : E)
  | retN
  | raise (c : Nat) (a : Option Str)
  | tr (b : Sts) (hs : Hs)
  | pass
  | bad
inductive Sts where
  | nil | cons (a : St) (b : Sts)
end
structure Def where
  np : Nat
  ns : Nat
  body : Sts

/-! ### values -/
/-- a text that can be told by its signs -/
def sOk (s : Str) : Bool := s.cps.all fun c => decide (c < 128)
/-- data without cells, at most n deep -/
def Val.flat : Nat → Val → Bool
  | _, .loc _ => false
  | _, .scr _ => false
  | 0, .tup _ => false
  | 0, .lst _ => false
  | n + 1, .tup xs => xs.all fun x => x.flat n
  | n + 1, .lst xs => xs.all fun x => x.flat n
  | _, .str s => sOk s
  | _, _ => true
def Val.pure (v : Val) : Bool := v.flat 20
def pureL (xs : List Val) : Bool := xs.all fun x => x.flat 19
def SV.pure : SV → Bool
  | .val v => v.pure
  | .own xs => pureL xs
  | .pk _ => false
def b2i (b : Bool) : Int := if b then 1 else 0
mutual
/-- Python's == of trees -/
def eqv : Val → Val → Bool
  | .non, .non => true
  | .bl a, .bl b => a == b
  | .int a, .int b => a == b
  | .bl a, .int b => b2i a == b
  | .int a, .bl b => a == b2i b
  | .str a, .str b => a == b
  | .tup xs, .tup ys => eqvL xs ys
  | .lst xs, .lst ys => eqvL xs ys
  | _, _ => false
def eqvL : List Val → List Val → Bool
  | [], [] => true
  | x :: xs, y :: ys => eqv x y && eqvL xs ys
  | _, _ => false
end
def lim : Nat := 2 ^ 4000
def szl : Nat := 16777216
def rOk (i : Int) : Bool := decide (-(2 ^ 62) ≤ i ∧ i < 2 ^ 62)
def small (i : Int) : Bool := decide (i.natAbs < lim)
def fits {α : Type} (xs : List α) : Bool := decide (xs.length ≤ szl)
def items (m : Mem) : SV → Option (List Val)
  | .own xs => some xs
  | .pk xs => some xs
  | .val (.tup xs) => some xs
  | .val (.lst xs) => some xs
  | .val (.loc n) => m[n]?
  | _ => none
/-- what may be walked: no cell; in take mode nothing that a slot owns -/
def srcs (t : Bool) : SV → Option (List Val)
  | .own xs => some xs
  | .pk xs => if t then none else some xs
  | .val (.tup xs) => some xs
  | .val (.lst xs) => some xs
  | .val (.scr xs) => some xs
  | _ => none
def isTup : SV → Bool
  | .val (.tup _) => true
  | _ => false
/-- as a tree, locs at the top opened -/
def tree (m : Mem) : SV → Option Val
  | .own xs => some (.lst xs)
  | .pk xs => some (.lst xs)
  | .val (.loc n) => (m[n]?).map .lst
  | .val v => some v
def truth (m : Mem) : SV → Option Bool
  | .val .non => some false
  | .val (.bl b) => some b
  | .val (.int i) => some (i != 0)
  | v => (items m v).map fun xs => !xs.isEmpty
def ownl (xs : List Val) : Option SV := if fits xs then some (.own xs) else none
def tupl (xs : List Val) : Option SV := if fits xs then some (.val (.tup xs)) else none
def binAdd (m : Mem) : SV → SV → Option SV
  | .val (.int i), .val (.int j) => some (.val (.int (i + j)))
  | a, b => match items m a, items m b with
    | some xs, some ys => if isTup a then (if isTup b then tupl (xs ++ ys) else none) else (if isTup b then none else ownl (xs ++ ys))
    | _, _ => none
def binSub : SV → SV → Option SV
  | .val (.int i), .val (.int j) => some (.val (.int (i - j)))
  | _, _ => none
def binMul (m : Mem) : SV → SV → Option SV
  | .val (.int i), .val (.int j) => if small i && small j then some (.val (.int (i * j))) else none
  | a, .val (.int j) => match items m a with
    | some xs => if rOk j then (if isTup a then tupl (List.replicate j.toNat xs).flatten else ownl (List.replicate j.toNat xs).flatten) else none
    | none => none
  | _, _ => none
def binDiv : SV → SV → Option SV
  | .val (.int i), .val (.int j) => if j != 0 && small j then some (.val (.int (i.fdiv j))) else none
  | _, _ => none
def binMod : SV → SV → Option SV
  | .val (.int i), .val (.int j) => if j != 0 then some (.val (.int (i.fmod j))) else none
  | _, _ => none
def augop : BO → SV → SV → Option SV
  | .add, .val (.int i), .val (.int j) => some (.val (.int (i + j)))
  | .sub, .val (.int i), .val (.int j) => some (.val (.int (i - j)))
  | .mul, .val (.int i), .val (.int j) => if small i && small j then some (.val (.int (i * j))) else none
  | _, _, _ => none
def binop (m : Mem) : BO → SV → SV → Option SV
  | .add, a, b => binAdd m a b
  | .sub, a, b => binSub a b
  | .mul, a, b => binMul m a b
  | .fdiv, a, b => binDiv a b
  | .mod, a, b => binMod a b
def eqS (m : Mem) (a b : SV) : Option Bool :=
  match tree m a, tree m b with
  | some x, some y => if x.pure && y.pure then some (eqv x y) else none
  | _, _ => none
def inS (m : Mem) (a b : SV) : Option Bool :=
  match tree m a, items m b with
  | some x, some ys => if x.pure && pureL ys then some (ys.any fun y => eqv y x) else none
  | _, _ => none
def cmpInt (f : Int → Int → Bool) : SV → SV → Option Bool
  | .val (.int i), .val (.int j) => some (f i j)
  | _, _ => none
def isNon : SV → Bool
  | .val .non => true
  | _ => false
def cmpop (m : Mem) : CO → SV → SV → Option Bool
  | .lt, a, b => cmpInt (fun i j => decide (i < j)) a b
  | .le, a, b => cmpInt (fun i j => decide (i ≤ j)) a b
  | .gt, a, b => cmpInt (fun i j => decide (j < i)) a b
  | .ge, a, b => cmpInt (fun i j => decide (j ≤ i)) a b
  | .eq, a, b => eqS m a b
  | .ne, a, b => (eqS m a b).map not
  | .is, a, b => if isNon b then some (isNon a) else none
  | .isnot, a, b => if isNon b then some (!isNon a) else none
  | .isin, a, b => inS m a b
  | .notin, a, b => (inS m a b).map not
/-- an index among n -/
def place (n : Nat) (i : Int) : Option Nat :=
  if 0 ≤ i then (if i < n then some i.toNat else none) else (if -(n : Int) ≤ i then some (i + n).toNat else none)
/-- the item at an index, any sign -/
def getI (xs : List Val) (j : Int) : Option Val := (place xs.length j).bind fun k => xs[k]?
def imax (i j : Int) : Int := if j > i then j else i
def imin (i j : Int) : Int := if j < i then j else i
/-- a slice's bound (d where it is left out) -/
def bound (n d : Nat) : Option Int → Nat
  | none => d
  | some v => if v < 0 then (v + (n : Int)).toNat else min v.toNat n
def cut (xs : List Val) (lo hi : Option Int) : List Val := (xs.drop (bound xs.length 0 lo)).take (bound xs.length xs.length hi - bound xs.length 0 lo)
def intsV : List Val → Option (List Int)
  | [] => some []
  | .int i :: r => (intsV r).map (i :: ·)
  | _ :: _ => none
def boolsV : List Val → Option (List Bool)
  | [] => some []
  | .bl b :: r => (boolsV r).map (b :: ·)
  | _ :: _ => none
def maxI : List Int → Option Int
  | [] => none
  | x :: xs => some (xs.foldl (fun a b => if b > a then b else a) x)
def minI : List Int → Option Int
  | [] => none
  | x :: xs => some (xs.foldl (fun a b => if b < a then b else a) x)
/-- how two items are ordered: ints, tuples of ints -/
def leL : List Int → List Int → Bool
  | [], _ => true
  | _ :: _, [] => false
  | x :: xs, y :: ys => if x = y then leL xs ys else decide (x < y)
def insL (x : List Int) : List (List Int) → List (List Int)
  | [] => [x]
  | y :: ys => if leL x y then x :: y :: ys else y :: insL x ys
def sortL : List (List Int) → List (List Int)
  | [] => []
  | x :: xs => insL x (sortL xs)
def insI (x : Int) : List Int → List Int
  | [] => [x]
  | y :: ys => if x ≤ y then x :: y :: ys else y :: insI x ys
def sortI : List Int → List Int
  | [] => []
  | x :: xs => insI x (sortI xs)
def tints : List Val → Option (List (List Int))
  | [] => some []
  | .tup xs :: r => (intsV xs).bind fun is => (tints r).map (is :: ·)
  | _ :: _ => none
def vint (o : Option Int) : Option SV := o.map fun i => .val (.int i)
def prAbs : List SV → Option SV
  | [.val (.int i)] => some (.val (.int (if i < 0 then -i else i)))
  | _ => none
def prInt : List SV → Option SV
  | [.val (.int i)] => some (.val (.int i))
  | [.val (.bl b)] => some (.val (.int (b2i b)))
  | _ => none
def prLen (m : Mem) : List SV → Option SV
  | [a] => match items m a with
    | some xs => some (.val (.int xs.length))
    | none => none
  | _ => none
def prSum (m : Mem) : List SV → Option SV
  | [a] => (items m a).bind fun xs => (intsV xs).map fun is => .val (.int is.sum)
  | _ => none
def prMax (m : Mem) : List SV → Option SV
  | [a] => (items m a).bind fun xs => (intsV xs).bind fun is => vint (maxI is)
  | [.val (.int i), .val (.int j)] => some (.val (.int (imax i j)))
  | _ => none
def prMin (m : Mem) : List SV → Option SV
  | [a] => (items m a).bind fun xs => (intsV xs).bind fun is => vint (minI is)
  | [.val (.int i), .val (.int j)] => some (.val (.int (imin i j)))
  | _ => none
def prAll (m : Mem) : List SV → Option SV
  | [a] => if isTup a then none else (items m a).bind fun xs => (boolsV xs).map fun bs => .val (.bl (bs.all id))
  | _ => none
def prAny (m : Mem) : List SV → Option SV
  | [a] => if isTup a then none else (items m a).bind fun xs => (boolsV xs).map fun bs => .val (.bl (bs.any id))
  | _ => none
def prSorted (m : Mem) : List SV → Option SV
  | [a] => (items m a).bind fun xs => match intsV xs with
    | some is => some (.own ((sortI is).map .int))
    | none => (tints xs).map fun ts => .own ((sortL ts).map fun is => .tup (is.map .int))
  | _ => none
def prTuple (m : Mem) : List SV → Option SV
  | [a] => match items m a with
    | some xs => some (.val (.tup xs))
    | none => none
  | _ => none
def prList (m : Mem) : List SV → Option SV
  | [a] => match items m a with
    | some xs => some (.own xs)
    | none => none
  | _ => none
def prim (m : Mem) : Pr → List SV → Option SV
  | .abs, xs => prAbs xs
  | .int, xs => prInt xs
  | .len, xs => prLen m xs
  | .sum, xs => prSum m xs
  | .max, xs => prMax m xs
  | .min, xs => prMin m xs
  | .all, xs => prAll m xs
  | .any, xs => prAny m xs
  | .sorted, xs => prSorted m xs
  | .tuple, xs => prTuple m xs
  | .list, xs => prList m xs
def isTy : SV → Ty → Bool
  | .val (.bl _), .int => true
  | .val (.bl _), .bool => true
  | .val (.int _), .int => true
  | .val (.tup _), .tuple => true
  | .val (.str _), .str => true
  | .val (.lst _), .list => true
  | .val (.loc _), .list => true
  | .val (.scr _), .list => true
  | .own _, .list => true
  | .pk _, .list => true
  | _, _ => false

/-! ### the state -/
def toV : SV → Option Val
  | .val v => some v
  | .own xs => some (.lst xs)
  | .pk _ => none
def asV (v : SV) : M Val := M.of (toV v)
/-- a slot: looked at, or taken (then a list of its own is shared from now on) -/
def slot (i : Nat) (take : Bool) : M SV := fun s =>
  match s.e[i]? with
  | some (some (.val v)) => some (.ok (.val v) s)
  | some (some (.own xs)) => if take then some (.ok (.val (.lst xs)) { s with e := s.e.set i (some (.val (.lst xs))) }) else some (.ok (.pk xs) s)
  | _ => none
def store (i : Nat) (v : SV) : M Unit := fun s =>
  match v with
  | .pk _ => none
  | v => if i < s.e.length then some (.ok () { s with e := s.e.set i (some v) }) else none
def newLoc (v : SV) : M SV := fun s =>
  match v with
  | .own xs => some (.ok (.val (.loc s.m.length)) { s with m := s.m ++ [xs] })
  | _ => none
mutual
def Tg.slots : Tg → List Nat
  | .n i => [i]
  | .t ts => ts.slots
def Tgs.slots : Tgs → List Nat
  | .nil => []
  | .cons t ts => t.slots ++ ts.slots
end
mutual
def asg : Tg → Val → M Unit
  | .n i, v => store i (.val v)
  | .t ts, v => fun s => match items s.m (.val v) with
    | some xs => asgs ts xs s
    | none => none
def asgs : Tgs → List Val → M Unit
  | .nil, [] => M.pure ()
  | .cons t ts, x :: xs => M.bind (asg t x) fun _ => asgs ts xs
  | _, _ => M.fail
end
/-- the list at a slot is changed -/
def change (i : Nat) (f : List Val → Option (List Val)) (chk : Bool) : M Unit := fun s =>
  match s.e[i]? with
  | some (some (.own xs)) => (f xs).bind fun ys => some (.ok () { s with e := s.e.set i (some (.own ys)) })
  | some (some (.val (.loc n))) => (s.m[n]?).bind fun xs => (f xs).bind fun ys => if chk then some (.ok () { s with m := s.m.set n ys }) else none
  | _ => none
def wipe {α : Type} : List Nat → List (Option α) → List (Option α)
  | [], e => e
  | v :: vs, e => (wipe vs e).set v none
def back : List Nat → List (Option SV) → List (Option SV) → List (Option SV)
  | [], _, e => e
  | v :: vs, e0, e => (back vs e0 e).set v ((e0[v]?).getD none)
def wiped (own : List Nat) (s : S) : S := { s with e := wipe own s.e }
def compL (own : List Nat) (tg : Tg) (test : M Bool) (elt : M Val) : List Val → M (List Val)
  | [] => M.pure []
  | x :: xs => fun s => M.bind (asg tg x) (fun _ => M.bind test fun b => if b then M.bind elt fun v => M.bind (compL own tg test elt xs) fun r => M.pure (v :: r) else compL own tg test elt xs) (wiped own s)
def compF (own : List Nat) (tg : Tg) (test : M Bool) (inner : M (List Val)) : List Val → M (List Val)
  | [] => M.pure []
  | x :: xs => fun s => M.bind (asg tg x) (fun _ => M.bind test fun b => if b then M.bind inner fun v => M.bind (compF own tg test inner xs) fun r => M.pure (v ++ r) else compF own tg test inner xs) (wiped own s)
def within {α : Type} (own : List Nat) (x : M α) : M α := fun s =>
  match x s with
  | none => none
  | some (.ok a s') => some (.ok a { s' with e := back own s.e s'.e })
  | some (.ex x s') => some (.ex x { s' with e := back own s.e s'.e })
/-- how many places x[v::-1] has -/
def rvN (n : Nat) (v : Int) : Nat := ((if v < 0 then max (v + (n : Int)) (-1) else min v ((n : Int) - 1)) + 1).toNat
/-- comprehensions let no exception out -/
def noX {α : Type} (x : M α) : M α := fun s =>
  match x s with
  | some (.ok a s') => some (.ok a s')
  | _ => none
theorem noX_ok {α : Type} {x : M α} {s : S} {r : Res α} (h : x s = some r) (hr : ∀ e s', r ≠ .ex e s') : noX x s = some r := by
  unfold noX
  rw [h]
  cases r with
  | ok a s' => rfl
  | ex e s' => exact absurd rfl (hr e s')
def hpV (x : Ex) : HP → Option Val
  | .c v => some v
  | .reason => x.arg.map .str
def hrV (x : Ex) : HR → Option SV
  | .one p => (hpV x p).map .val
  | .two a b => (hpV x a).bind fun u => (hpV x b).map fun v => .own [u, v]
def gone : Option Nat → S → S
  | none, s => s
  | some i, s => { s with e := s.e.set i none }
inductive Fl where
  | nx | rt (v : SV)
def exh : Hs → Ex → S → Option (Res Fl)
  | .nil, x, s => some (.ex x s)
  | .cons c i r hs, x, s => if x.cls = c then (hrV x r).map fun v => .ok (.rt v) (gone i s) else exh hs x s
def rng (lo hi : Int) : List Val := (List.range (hi - lo).toNat).map fun (k : Nat) => .int (lo + k)
def rngD (lo hi _st : Int) : List Val := (List.range ((lo - hi).toNat)).map fun (k : Nat) => .int (lo - k)
def enumL (k : Int) : List Val → List Val
  | [] => []
  | x :: xs => .tup [.int k, x] :: enumL (k + 1) xs
def zipL : List Val → List Val → List Val
  | x :: xs, y :: ys => .tup [x, y] :: zipL xs ys
  | _, _ => []
def zipL3 : List Val → List Val → List Val → List Val
  | x :: xs, y :: ys, z :: zs => .tup [x, y, z] :: zipL3 xs ys zs
  | _, _, _ => []
def oOk : Option Int → Bool
  | none => true
  | some i => rOk i
def asInt : SV → M Int
  | .val (.int i) => M.pure i
  | _ => M.fail

/-! ### expressions -/
section
variable (K : Kn)
def callM (f : Nat) (vs : List Val) : M SV := fun s =>
  match K f vs s.m with
  | none => none
  | some (.ok v m) => some (.ok v { s with m := m })
  | some (.ex x m) => some (.ex x { s with m := m })
mutual
def ev : E → Bool → M SV
  | .s i, t => slot i t
  | .c v, _ => M.pure (.val v)
  | .tup es, _ => M.bind (evs es) fun vs => M.of (tupl vs)
  | .lst es, _ => M.bind (evs es) fun vs => M.of (ownl vs)
  | .mk e, _ => M.bind (ev e true) newLoc
  | .bin o a b, _ => M.bind (ev a false) fun x => M.bind (ev b false) fun y => fun s => M.of (binop s.m o x y) s
  | .neg a, _ => M.bind (ev a false) fun x => match x with
    | .val (.int i) => M.pure (.val (.int (-i)))
    | _ => M.fail
  | .not a, _ => M.bind (ev a false) fun x => fun s => M.of ((truth s.m x).map fun b => .val (.bl (!b))) s
  | .and a b, t => M.bind (ev a false) fun x => match x with
    | .val (.bl true) => ev b t
    | .val (.bl false) => M.pure (.val (.bl false))
    | _ => M.fail
  | .or a b, t => M.bind (ev a false) fun x => match x with
    | .val (.bl true) => M.pure (.val (.bl true))
    | .val (.bl false) => ev b t
    | _ => M.fail
  | .ite c a b, t => M.bind (ev c false) fun x => fun s => match truth s.m x with
    | some true => ev a t s
    | some false => ev b t s
    | none => none
  | .cmp a cs, _ => M.bind (ev a false) fun x => M.bind (evc cs x) fun b => M.pure (.val (.bl b))
  | .call f es, _ => M.bind (evs es) fun vs => callM K f vs
  | .pr p es, _ => M.bind (evp es) fun vs => fun s => M.of (prim s.m p vs) s
  | .ix a i, _ => M.bind (ev a false) fun x => M.bind (ev i false) fun y => M.bind (asInt y) fun j => fun s => match items s.m x with
    | some xs => M.of ((getI xs j).map .val) s
    | none => none
  | .sl a lo hi, _ => M.bind (ev a false) fun x => M.bind (evo lo) fun l => M.bind (evo hi) fun h => fun s => match items s.m x with
    | some xs => M.pure (if isTup x then .val (.tup (cut xs l h)) else .own (cut xs l h)) s
    | none => none
  | .rev a, _ => M.bind (ev a false) fun x => fun s => match items s.m x with
    | some xs => M.pure (if isTup x then .val (.tup xs.reverse) else .own xs.reverse) s
    | none => none
  | .revF a i, _ => M.bind (ev a false) fun x => fun s => match items s.m x with
    | some xs => if isTup x then M.pure (.val (.tup (xs.take (rvN xs.length i)).reverse)) s else none
    | none => none
  | .isi a ts, _ => M.bind (ev a false) fun x => M.pure (.val (.bl (ts.any (isTy x))))
  | .lc own tg it ifs e, _ => noX (M.bind (evi it false) fun xs => M.bind (within own (compL own tg (evt ifs) (M.bind (ev e true) asV) xs)) fun ys => M.of (ownl ys))
  | .lc2 own own2 tg it ifs tg2 it2 ifs2 e, _ => noX (M.bind (evi it false) fun xs => M.bind (within own (compF own tg (evt ifs) (M.bind (evi it2 true) fun ys => compL own2 tg2 (evt ifs2) (M.bind (ev e true) asV) ys) xs)) fun ys => M.of (ownl ys))
  | .lit it, _ => M.bind (evi it false) fun xs => M.of (ownl xs)
  | .tit it, _ => M.bind (evi it false) fun xs => M.of (tupl xs)
def evs : Es → M (List Val)
  | .nil => M.pure []
  | .cons e es => M.bind (M.bind (ev e true) asV) fun v => M.bind (evs es) fun vs => M.pure (v :: vs)
/-- the same, lists that nobody else holds as they are -/
def evw : Es → M (List SV)
  | .nil => M.pure []
  | .cons e es => M.bind (ev e true) fun v => M.bind (evw es) fun vs => M.pure (v :: vs)
/-- a built-in's arguments: looked at -/
def evp : Es → M (List SV)
  | .nil => M.pure []
  | .cons e es => M.bind (ev e false) fun v => M.bind (evp es) fun vs => M.pure (v :: vs)
def evt : Es → M Bool
  | .nil => M.pure true
  | .cons e es => M.bind (ev e false) fun x => fun s => match truth s.m x with
    | some true => evt es s
    | some false => some (.ok false s)
    | none => none
def evc : Cs → SV → M Bool
  | .one o e, x => M.bind (ev e false) fun y => fun s => M.of (cmpop s.m o x y) s
  | .cons o e cs, x => M.bind (ev e false) fun y => fun s => match cmpop s.m o x y with
    | some true => evc cs y s
    | some false => some (.ok false s)
    | none => none
def evo : Oe → M (Option Int)
  | .no => M.pure none
  | .of e => M.bind (ev e false) fun x => M.bind (asInt x) fun i => M.pure (some i)
def evi : It → Bool → M (List Val)
  | .e a, t => M.bind (ev a t) fun x => M.of (srcs t x)
  | .range1 a, _ => M.bind (ev a false) fun x => M.bind (asInt x) fun i => if rOk i then M.pure (rng 0 i) else M.fail
  | .range2 a b, _ => M.bind (ev a false) fun x => M.bind (asInt x) fun i => M.bind (ev b false) fun y => M.bind (asInt y) fun j => if rOk i && rOk j then M.pure (rng i j) else M.fail
  | .rangeD a b c, _ => M.bind (ev a false) fun x => M.bind (asInt x) fun i => M.bind (ev b false) fun y => M.bind (asInt y) fun j => M.bind (ev c false) fun z => M.bind (asInt z) fun k => if rOk i && rOk j && k == -1 then M.pure (rngD i j k) else M.fail
  | .enum a k, t => M.bind (evi a t) fun xs => M.bind (evo k) fun o => if oOk o then M.pure (enumL (o.getD 0) xs) else M.fail
  | .zip a b, t => M.bind (evi a t) fun xs => M.bind (evi b t) fun ys => M.pure (zipL xs ys)
  | .zip3 a b c, t => M.bind (evi a t) fun xs => M.bind (evi b t) fun ys => M.bind (evi c t) fun zs => M.pure (zipL3 xs ys zs)
end

/-! ### statements -/
def whileM (c : M Bool) (b : M Fl) (s : S) : Option (Res Fl) :=
  match c s with
  | none => none
  | some (.ex x s') => some (.ex x s')
  | some (.ok false s') => some (.ok .nx s')
  | some (.ok true s') => match b s' with
    | none => none
    | some (.ex x s'') => some (.ex x s'')
    | some (.ok (.rt v) s'') => some (.ok (.rt v) s'')
    | some (.ok .nx s'') => whileM c b s''
partial_fixpoint
def forM (tg : Tg) (b : M Fl) : List Val → M Fl
  | [] => M.pure .nx
  | x :: xs => M.bind (asg tg x) fun _ => M.bind b fun f => match f with
    | .nx => forM tg b xs
    | .rt v => M.pure (.rt v)
def nxt (x : M Unit) : M Fl := M.bind x fun _ => M.pure .nx
def stores : List Nat → List SV → M Unit
  | [], [] => M.pure ()
  | i :: is, v :: vs => M.bind (store i v) fun _ => stores is vs
  | _, _ => M.fail
/-- a list that may be changed stands there -/
def lslot (i : Nat) : M Unit := fun s => match s.e[i]? with
  | some (some (.own _)) => some (.ok () s)
  | some (some (.val (.loc n))) => if n < s.m.length then some (.ok () s) else none
  | _ => none
def lists (m : Mem) (x : SV) : Option (List Val) := if isTup x then none else items m x
def testM (c : E) : M Bool := M.bind (ev K c false) fun x => fun s => M.of (truth s.m x) s
def putL (j : Int) (v : Val) (xs : List Val) : Option (List Val) := (place xs.length j).map fun k => xs.set k v
mutual
def ex : St → M Fl
  | .expr e => M.bind (ev K e false) fun _ => M.pure .nx
  | .set i e => M.bind (ev K e true) fun v => nxt (store i v)
  | .unp ts e => M.bind (ev K e false) fun x => fun s => match items s.m x with
    | some xs => nxt (asgs ts xs) s
    | none => none
  | .par is es => M.bind (evw K es) fun vs => nxt (stores is vs)
  | .put i ix e => M.bind (M.bind (ev K e true) asV) fun v => M.bind (lslot i) fun _ => M.bind (M.bind (ev K ix false) asInt) fun j => nxt (change i (putL j v) v.pure)
  | .putE b ix e => M.bind (M.bind (ev K e true) asV) fun v => M.bind (ev K b false) fun o => M.bind (M.bind (ev K ix false) asInt) fun j => fun s => match o with
    | .val (.loc n) => (s.m[n]?).bind fun xs => (putL j v xs).bind fun ys => if v.pure then some (.ok .nx { s with m := s.m.set n ys }) else none
    | _ => none
  | .aug i o e => M.bind (slot i false) fun x => M.bind (ev K e false) fun y => M.bind (M.of (augop o x y)) fun z => nxt (store i z)
  | .augS i ix o e => M.bind (slot i false) fun x => M.bind (M.bind (ev K ix false) asInt) fun j => M.bind (fun s => match lists s.m x with
      | some xs => M.of (getI xs j) s
      | none => none) fun old => M.bind (ev K e false) fun y => M.bind (M.of (augop o (.val old) y)) fun z => M.bind (asV z) fun v => nxt (change i (putL j v) v.pure)
  | .app i e => M.bind (lslot i) fun _ => M.bind (M.bind (ev K e true) asV) fun v => nxt (change i (fun xs => if decide (xs.length < szl) then some (xs ++ [v]) else none) v.pure)
  | .ext i e => M.bind (lslot i) fun _ => M.bind (M.bind (ev K e false) fun x => fun s => M.of (lists s.m x) s) fun vs => nxt (change i (fun xs => if fits (xs ++ vs) then some (xs ++ vs) else none) (pureL vs))
  | .pop i => M.bind (lslot i) fun _ => nxt (change i (fun xs => if xs.isEmpty then none else some xs.dropLast) true)
  | .ite c a b => M.bind (testM K c) fun t => if t then exs a else exs b
  | .wh c b => whileM (testM K c) (exs b)
  | .for tg it b => M.bind (evi K it true) fun xs => forM tg (exs b) xs
  | .ret (.s i) => fun s => match s.e[i]? with
    | some (some v) => some (.ok (.rt v) s)
    | _ => none
  | .ret e => M.bind (ev K e true) fun v => match v with
    | .pk _ => M.fail
    | v => M.pure (.rt v)
  | .retN => M.pure (.rt (.val .non))
  | .raise c a => fun s => some (.ex ⟨c, a⟩ s)
  | .tr b hs => fun s => match exs b s with
    | some (.ex x s') => exh hs x s'
    | r => r
  | .pass => M.pure .nx
  | .bad => fun _ => none
def exs : Sts → M Fl
  | .nil => M.pure .nx
  | .cons a b => M.bind (ex a) fun f => match f with
    | .nx => exs b
    | .rt v => M.pure (.rt v)
end
end

/-! ### calls -/
def frame (d : Def) (vs : List Val) : List (Option SV) := vs.map (fun v => some (.val v)) ++ List.replicate (d.ns - vs.length) none
def trim (m0 : Mem) (v : SV) (m : Mem) : Mem := if v.pure then m.take m0.length else m
def leave (m0 : Mem) : Option (Res Fl) → Option CRes
  | none => none
  | some (.ok .nx s) => some (.ok (.val .non) (s.m.take m0.length))
  | some (.ok (.rt (.pk _)) _) => none
  | some (.ok (.rt v) s) => some (.ok v (trim m0 v s.m))
  | some (.ex x s) => some (.ex x (s.m.take m0.length))
def callK (P : Nat → Option Def) : Nat → Kn
  | 0 => fun _ _ _ => none
  | k + 1 => fun f vs m => match P f with
    | none => none
    | some d => if vs.length = d.np then leave m (exs (callK P k) d.body ⟨frame d vs, m⟩) else none
end Py
end

section
set_option autoImplicit false
set_option linter.all false
set_option Elab.async false
set_option maxRecDepth 100000
set_option maxHeartbeats 4000000
/-! How the evaluator's values and states lie in the layer's abstract heap. -/
namespace Py
open L2 (V Hp HO SqL SqT Rd upd upd_same upd_ne ne_of ne_of_none)
abbrev Ad := PySem.Addr
abbrev Kf := PySem.W.Frag
abbrev Sg := L2.St

/-- a list that never changes -/
def SqZ (H : Hp) (a : Ad) (vs : List V) : Prop := ∃ o, H a = some (.frz o (.lst vs))
/-- the script: locked, or written ahead of the top -/
def SqF (K : Kf) (H : Hp) (a : Ad) (vs : List V) : Prop := (∃ o, H a = some (.frz o (.lst vs))) ∨
    ∃ (o : PySem.Obj) (its : Array PySem.Value) (n : Nat), K.lookup a = some o ∧ o.cls = .type "list" ∧ o.dict = none ∧ o.data = .seq its n ∧ its.size ≤ PySem.sizeLine ∧ L2.Vals vs its.toList
theorem SqF.sq {K : Kf} {H : Hp} {a : Ad} {vs : List V} (h : SqF K H a vs) : SqL K H a vs := h.imp (fun z => .inr z) id
theorem SqZ.rd {H : Hp} {a : Ad} {vs : List V} (h : SqZ H a vs) : Rd H a (.lst vs) := .inr h
mutual
def RV (K : Kf) (θ : List Ad) (H : Hp) : Val → V → Prop
  | .non, v => v = .non
  | .bl b, v => v = .bl b
  | .int i, v => v = .int i
  | .str s, v => v = .str s
  | .tup xs, v => ∃ a vs, v = .ref a ∧ SqT K H a vs ∧ RVs K θ H xs vs
  | .lst xs, v => ∃ a vs, v = .ref a ∧ SqZ H a vs ∧ RVs K θ H xs vs
  | .loc n, v => ∃ a, v = .ref a ∧ θ[n]? = some a
  | .scr xs, v => ∃ a vs, v = .ref a ∧ SqF K H a vs ∧ RVs K θ H xs vs
def RVs (K : Kf) (θ : List Ad) (H : Hp) : List Val → List V → Prop
  | [], vs => vs = []
  | x :: xs, vs => ∃ v r, vs = v :: r ∧ RV K θ H x v ∧ RVs K θ H xs r
end
/-- what of H stays in H': tuples, locked things; what is tracked stays tracked; lists outside θ, but those of F may be locked -/
structure Keep (θ : List Ad) (F : Ad → Prop) (H H' : Hp) : Prop where
  tup : ∀ a xs, H a = some (.tup xs) → H' a = some (.tup xs)
  frz : ∀ a o u, H a = some (.frz o u) → H' a = some (.frz o u)
  dom : ∀ a, H' a = none → H a = none
  lst : ∀ a xs, a ∉ θ → H a = some (.lst xs) → H' a = some (.lst xs) ∨ (F a ∧ ∃ o, H' a = some (.frz o (.lst xs)))
/-- less: lists of F may change in any way -/
structure Keep1 (θ : List Ad) (F : Ad → Prop) (H H' : Hp) : Prop where
  tup : ∀ a xs, H a = some (.tup xs) → H' a = some (.tup xs)
  frz : ∀ a o u, H a = some (.frz o u) → H' a = some (.frz o u)
  dom : ∀ a, H' a = none → H a = none
  lst : ∀ a xs, a ∉ θ → ¬ F a → H a = some (.lst xs) → H' a = some (.lst xs)
section
variable {K : Kf} {θ θ' : List Ad} {F : Ad → Prop} {H H' H1 H2 : Hp} {a : Ad} {vs : List V} {xs ys : List Val}
theorem Keep.refl : Keep θ F H H := ⟨fun _ _ h => h, fun _ _ _ h => h, fun _ h => h, fun _ _ _ h => .inl h⟩
theorem Keep.to1 (k : Keep θ F H H') : Keep1 θ F H H' := ⟨k.tup, k.frz, k.dom, fun a xs h1 h2 h3 => (k.lst a xs h1 h3).resolve_right fun z => h2 z.1⟩
theorem Keep1.refl : Keep1 θ F H H := ⟨fun _ _ h => h, fun _ _ _ h => h, fun _ h => h, fun _ _ _ _ h => h⟩
theorem Keep1.sqT (k : Keep1 θ F H H') (h : SqT K H a vs) : SqT K H' a vs := by
  rcases h with (h | ⟨o, h⟩) | h
  · exact .inl (.inl (k.tup _ _ h))
  · exact .inl (.inr ⟨o, k.frz _ _ _ h⟩)
  · exact .inr h
theorem Keep1.sqZ (k : Keep1 θ F H H') (h : SqZ H a vs) : SqZ H' a vs := by
  obtain ⟨o, h⟩ := h
  exact ⟨o, k.frz _ _ _ h⟩
mutual
theorem RV.mono (k : Keep1 θ F H H') : ∀ (x : Val) (v : V), RV K θ H x v → RV K θ H' x v
  | .non, v, h => h
  | .bl b, v, h => h
  | .int i, v, h => h
  | .str s, v, h => h
  | .tup xs, v, ⟨a, vs, e, s, r⟩ => ⟨a, vs, e, k.sqT s, RVs.mono k xs vs r⟩
  | .lst xs, v, ⟨a, vs, e, s, r⟩ => ⟨a, vs, e, k.sqZ s, RVs.mono k xs vs r⟩
  | .loc n, v, h => h
  | .scr xs, v, ⟨a, vs, e, s, r⟩ => ⟨a, vs, e, s.imp (fun ⟨o, z⟩ => ⟨o, k.frz _ _ _ z⟩) id, RVs.mono k xs vs r⟩
theorem RVs.mono (k : Keep1 θ F H H') : ∀ (xs : List Val) (vs : List V), RVs K θ H xs vs → RVs K θ H' xs vs
  | [], vs, h => h
  | x :: xs, vs, ⟨v, r, e, h1, h2⟩ => ⟨v, r, e, RV.mono k x v h1, RVs.mono k xs r h2⟩
end
/-- more cells -/
def Pre (θ θ' : List Ad) : Prop := ∀ (n : Nat) (a : Ad), θ[n]? = some a → θ'[n]? = some a
theorem Pre.refl : Pre θ θ := fun _ _ h => h
theorem Pre.app {n : List Ad} : Pre θ (θ ++ n) := fun i a h => by rw [List.getElem?_append_left (List.getElem?_eq_some_iff.mp h).1]; exact h
theorem Pre.take {n : Nat} : Pre (θ.take n) θ := fun i a h => by
  rw [List.getElem?_take] at h
  split at h
  · exact h
  · cases h
mutual
theorem RV.pre (p : Pre θ θ') : ∀ (x : Val) (v : V), RV K θ H x v → RV K θ' H x v
  | .non, v, h => h
  | .bl b, v, h => h
  | .int i, v, h => h
  | .str s, v, h => h
  | .tup xs, v, ⟨a, vs, e, s, r⟩ => ⟨a, vs, e, s, RVs.pre p xs vs r⟩
  | .lst xs, v, ⟨a, vs, e, s, r⟩ => ⟨a, vs, e, s, RVs.pre p xs vs r⟩
  | .loc n, v, ⟨a, e, h⟩ => ⟨a, e, p n a h⟩
  | .scr xs, v, ⟨a, vs, e, s, r⟩ => ⟨a, vs, e, s, RVs.pre p xs vs r⟩
theorem RVs.pre (p : Pre θ θ') : ∀ (xs : List Val) (vs : List V), RVs K θ H xs vs → RVs K θ' H xs vs
  | [], vs, h => h
  | x :: xs, vs, ⟨v, r, e, h1, h2⟩ => ⟨v, r, e, RV.pre p x v h1, RVs.pre p xs r h2⟩
end
theorem RVs.map {θ θ' : List Ad} {H H' : Hp} : ∀ {xs : List Val} {vs : List V}, (∀ x ∈ xs, ∀ v, RV K θ H x v → RV K θ' H' x v) → RVs K θ H xs vs → RVs K θ' H' xs vs
  | [], vs, _, h => h
  | x :: xs, vs, f, h => by
    unfold RVs at h ⊢
    obtain ⟨v, r, e, h1, h2⟩ := h
    exact ⟨v, r, e, f x List.mem_cons_self v h1, RVs.map (fun y hy => f y (List.mem_cons_of_mem _ hy)) h2⟩
/-- without cells in it: whatever the cells are -/
theorem RV.flat : ∀ (n : Nat) (x : Val) (v : V), x.flat n = true → RV K θ H x v → RV K θ' H x v
  | 0, x, v, p, h => by cases x <;> first | exact h | (unfold Val.flat at p; cases p)
  | n + 1, x, v, p, h => by
    cases x with
    | tup xs =>
      unfold RV at h ⊢
      obtain ⟨a, vs, e, s, r⟩ := h
      unfold Val.flat at p
      exact ⟨a, vs, e, s, RVs.map (fun x hx v q => RV.flat n x v (List.all_eq_true.mp p x hx) q) r⟩
    | lst xs =>
      unfold RV at h ⊢
      obtain ⟨a, vs, e, s, r⟩ := h
      unfold Val.flat at p
      exact ⟨a, vs, e, s, RVs.map (fun x hx v q => RV.flat n x v (List.all_eq_true.mp p x hx) q) r⟩
    | loc i => unfold Val.flat at p; cases p
    | scr i => unfold Val.flat at p; cases p
    | _ => exact h
theorem RV.pure (x : Val) (v : V) (p : x.pure = true) (h : RV K θ H x v) : RV K θ' H x v := RV.flat 20 x v p h
theorem RVs.pure {xs : List Val} {vs : List V} (p : pureL xs = true) (h : RVs K θ H xs vs) : RVs K θ' H xs vs :=
  RVs.map (fun x hx v q => RV.flat 19 x v (List.all_eq_true.mp p x hx) q) h
theorem RVs.nil : RVs K θ H [] [] := by unfold RVs; rfl
theorem RVs.cons {x : Val} {v : V} (h : RV K θ H x v) (r : RVs K θ H xs vs) : RVs K θ H (x :: xs) (v :: vs) := by unfold RVs; exact ⟨v, vs, rfl, h, r⟩
theorem RVs.length : ∀ {xs : List Val} {vs : List V}, RVs K θ H xs vs → vs.length = xs.length
  | [], vs, h => by unfold RVs at h; rw [h]; rfl
  | x :: xs, vs, h => by
    unfold RVs at h
    obtain ⟨v, r, rfl, _, h2⟩ := h
    rw [List.length_cons, List.length_cons, RVs.length h2]
theorem RVs.append : ∀ {xs ys : List Val} {vs us : List V}, RVs K θ H xs vs → RVs K θ H ys us → RVs K θ H (xs ++ ys) (vs ++ us)
  | [], ys, vs, us, h, h2 => by unfold RVs at h; rw [h]; exact h2
  | x :: xs, ys, vs, us, h, h2 => by
    unfold RVs at h
    obtain ⟨v, r, rfl, h1, h3⟩ := h
    exact RVs.cons h1 (RVs.append h3 h2)
theorem RVs.get : ∀ {xs : List Val} {vs : List V} {i : Nat} {x : Val}, RVs K θ H xs vs → xs[i]? = some x → ∃ v, vs[i]? = some v ∧ RV K θ H x v
  | [], vs, i, x, h, e => by simp at e
  | y :: xs, vs, 0, x, h, e => by
    unfold RVs at h
    obtain ⟨v, r, rfl, h1, h3⟩ := h
    simp at e; subst e
    exact ⟨v, rfl, h1⟩
  | y :: xs, vs, i + 1, x, h, e => by
    unfold RVs at h
    obtain ⟨v, r, rfl, h1, h3⟩ := h
    have e' : xs[i]? = some x := by simpa using e
    obtain ⟨u, q1, q2⟩ := RVs.get h3 e'
    exact ⟨u, by simpa using q1, q2⟩
theorem RVs.take : ∀ {xs : List Val} {vs : List V} (n : Nat), RVs K θ H xs vs → RVs K θ H (xs.take n) (vs.take n)
  | xs, vs, 0, h => by simp only [List.take_zero]; exact RVs.nil
  | [], vs, n + 1, h => by unfold RVs at h; rw [h]; exact RVs.nil
  | x :: xs, vs, n + 1, h => by
    unfold RVs at h
    obtain ⟨v, r, rfl, h1, h3⟩ := h
    exact RVs.cons h1 (RVs.take n h3)
theorem RVs.drop : ∀ {xs : List Val} {vs : List V} (n : Nat), RVs K θ H xs vs → RVs K θ H (xs.drop n) (vs.drop n)
  | xs, vs, 0, h => h
  | [], vs, n + 1, h => by unfold RVs at h; rw [h]; exact RVs.nil
  | x :: xs, vs, n + 1, h => by
    unfold RVs at h
    obtain ⟨v, r, rfl, h1, h3⟩ := h
    exact RVs.drop n h3
theorem RVs.set : ∀ {xs : List Val} {vs : List V} {x : Val} {v : V} (n : Nat), RVs K θ H xs vs → RV K θ H x v → RVs K θ H (xs.set n x) (vs.set n v)
  | [], vs, x, v, n, h, hx => by unfold RVs at h; rw [h]; exact RVs.nil
  | y :: xs, vs, x, v, 0, h, hx => by
    unfold RVs at h
    obtain ⟨u, r, rfl, h1, h3⟩ := h
    exact RVs.cons hx h3
  | y :: xs, vs, x, v, n + 1, h, hx => by
    unfold RVs at h
    obtain ⟨u, r, rfl, h1, h3⟩ := h
    exact RVs.cons h1 (RVs.set n h3 hx)
theorem RVs.reverse : ∀ {xs : List Val} {vs : List V}, RVs K θ H xs vs → RVs K θ H xs.reverse vs.reverse
  | [], vs, h => by unfold RVs at h; rw [h]; exact RVs.nil
  | x :: xs, vs, h => by
    unfold RVs at h
    obtain ⟨v, r, rfl, h1, h3⟩ := h
    rw [List.reverse_cons, List.reverse_cons]
    exact (RVs.reverse h3).append (RVs.cons h1 RVs.nil)
theorem RVs.ints : ∀ {is : List Int} {vs : List V}, RVs K θ H (is.map .int) vs → vs = is.map .int
  | [], vs, h => by unfold RVs at h; exact h
  | i :: is, vs, h => by
    rw [List.map_cons] at h
    unfold RVs at h
    obtain ⟨v, r, rfl, h1, h3⟩ := h
    rw [RVs.ints h3, List.map_cons]
    unfold RV at h1
    rw [h1]
theorem RVs.of_ints : ∀ (is : List Int), RVs K θ H (is.map .int) (is.map .int)
  | [] => RVs.nil
  | i :: is => RVs.cons (by unfold RV; rfl) (RVs.of_ints is)
end

/-! ### slots, cells -/
/-- what stands in a slot -/
def RS (K : Kf) (θ : List Ad) (H : Hp) : SV → V → Prop
  | .val x, v => RV K θ H x v
  | .own xs, v => ∃ a vs, v = .ref a ∧ H a = some (.lst vs) ∧ RVs K θ H xs vs ∧ a ∉ θ
  | .pk _, _ => False
/-- slot i owns the list at a -/
def OwnAt (st : S) (σ : Sg) (i : Nat) (a : Ad) : Prop := ∃ xs, st.e[i]? = some (some (.own xs)) ∧ σ[i]? = some (some (.ref a))
def Own (st : S) (σ : Sg) (a : Ad) : Prop := ∃ i, OwnAt st σ i a
structure RelE (K : Kf) (θ : List Ad) (st : S) (σ : Sg) (H : Hp) : Prop where
  len : st.e.length = σ.length
  at_ : ∀ (i : Nat) (sv : SV), st.e[i]? = some (some sv) → ∃ v, σ[i]? = some (some v) ∧ RS K θ H sv v
  one : ∀ (i j : Nat) (a : Ad), OwnAt st σ i a → OwnAt st σ j a → i = j
structure RelM (K : Kf) (θ : List Ad) (m : Mem) (H : Hp) : Prop where
  len : m.length = θ.length
  nd : θ.Nodup
  at_ : ∀ (n : Nat) (xs : List Val), m[n]? = some xs → ∃ a vs, θ[n]? = some a ∧ H a = some (.lst vs) ∧ RVs K (θ.take n) H xs vs
structure Rel (K : Kf) (θ : List Ad) (st : S) (σ : Sg) (H : Hp) : Prop where
  e : RelE K θ st σ H
  m : RelM K θ st.m H
/-- more cells, new ones -/
def Grow (θ : List Ad) (H : Hp) (θ' : List Ad) : Prop := ∃ new, θ' = θ ++ new ∧ ∀ a ∈ new, H a = none
/-- behind an expression -/
structure Post (K : Kf) (σ : Sg) (θ : List Ad) (st : S) (H : Hp) (θ' : List Ad) (st' : S) (H' : Hp) : Prop where
  keep : Keep θ (Own st σ) H H'
  grow : Grow θ H θ'
  own : ∀ (i : Nat) (xs : List Val), st'.e[i]? = some (some (.own xs)) → st.e[i]? = some (some (.own xs))
  rel : Rel K θ' st' σ H'
/-- behind a statement -/
structure PostS (K : Kf) (σ : Sg) (θ : List Ad) (st : S) (H : Hp) (σ' : Sg) (θ' : List Ad) (st' : S) (H' : Hp) : Prop where
  keep : Keep1 θ (Own st σ) H H'
  grow : Grow θ H θ'
  own : ∀ a, Own st' σ' a → Own st σ a ∨ H a = none
  rel : Rel K θ' st' σ' H'
/-- what an expression yields: H the heap ahead of it, H' behind it -/
def RX (K : Kf) (θ' : List Ad) (H H' : Hp) : SV → V → Prop
  | .val x, v => RV K θ' H' x v
  | .own xs, v => ∃ a vs, v = .ref a ∧ H' a = some (.lst vs) ∧ RVs K θ' H' xs vs ∧ a ∉ θ' ∧ H a = none
  | .pk xs, v => ∃ a vs, v = .ref a ∧ Rd H' a (.lst vs) ∧ RVs K θ' H' xs vs ∧ a ∉ θ'
section
variable {K : Kf} {θ θ1 θ2 θ' : List Ad} {F : Ad → Prop} {H H' H1 H2 : Hp} {a : Ad} {vs : List V} {xs ys : List Val} {σ σ1 σ2 : Sg} {st st1 st2 st' : S} {m : Mem}
theorem Grow.refl : Grow θ H θ := ⟨[], (List.append_nil θ).symm, fun _ h => absurd h (by simp)⟩
theorem Grow.pre (g : Grow θ H θ') : Pre θ θ' := by
  obtain ⟨n, rfl, _⟩ := g
  exact Pre.app
theorem Grow.trans (k : ∀ a, H1 a = none → H a = none) (g : Grow θ H θ1) (g2 : Grow θ1 H1 θ2) : Grow θ H θ2 := by
  obtain ⟨n, rfl, h⟩ := g
  obtain ⟨n2, rfl, h2⟩ := g2
  refine ⟨n ++ n2, List.append_assoc _ _ _, fun a ha => ?_⟩
  rcases List.mem_append.mp ha with q | q
  · exact h a q
  · exact k a (h2 a q)
theorem Grow.out (g : Grow θ H θ') {u : HO} (h : a ∉ θ) (e : H a = some u) : a ∉ θ' := by
  obtain ⟨n, rfl, q⟩ := g
  intro z
  rcases List.mem_append.mp z with z | z
  · exact h z
  · rw [q a z] at e; cases e
theorem Post.refl (r : Rel K θ st σ H) : Post K σ θ st H θ st H := ⟨.refl, .refl, fun _ _ h => h, r⟩
theorem Post.ownM (p : Post K σ θ st H θ' st' H') {i : Nat} (h : OwnAt st' σ i a) : OwnAt st σ i a := by
  obtain ⟨xs, h1, h2⟩ := h
  exact ⟨xs, p.own i xs h1, h2⟩
theorem Post.trans (p : Post K σ θ st H θ1 st1 H1) (q : Post K σ θ1 st1 H1 θ2 st2 H2) : Post K σ θ st H θ2 st2 H2 := by
  refine ⟨⟨fun a xs h => q.keep.tup a xs (p.keep.tup a xs h), fun a o u h => q.keep.frz a o u (p.keep.frz a o u h), fun a h => p.keep.dom a (q.keep.dom a h), fun a xs ha h => ?_⟩,
    p.grow.trans p.keep.dom q.grow, fun i xs h => p.own i xs (q.own i xs h), q.rel⟩
  rcases p.keep.lst a xs ha h with h1 | ⟨f, o, h1⟩
  · rcases q.keep.lst a xs (p.grow.out ha h) h1 with h2 | ⟨⟨i, f⟩, h2⟩
    · exact .inl h2
    · exact .inr ⟨⟨i, p.ownM f⟩, h2⟩
  · exact .inr ⟨f, o, q.keep.frz a o _ h1⟩
theorem Post.toS (p : Post K σ θ st H θ' st' H') : PostS K σ θ st H σ θ' st' H' :=
  ⟨p.keep.to1, p.grow, fun a ⟨i, h⟩ => .inl ⟨i, p.ownM h⟩, p.rel⟩
theorem PostS.trans (p : PostS K σ θ st H σ1 θ1 st1 H1) (q : PostS K σ1 θ1 st1 H1 σ2 θ2 st2 H2) : PostS K σ θ st H σ2 θ2 st2 H2 := by
  refine ⟨⟨fun a xs h => q.keep.tup a xs (p.keep.tup a xs h), fun a o u h => q.keep.frz a o u (p.keep.frz a o u h), fun a h => p.keep.dom a (q.keep.dom a h), fun a xs ha hf h => ?_⟩,
    p.grow.trans p.keep.dom q.grow, fun a h => ?_, q.rel⟩
  · refine q.keep.lst a xs (p.grow.out ha h) (fun z => ?_) (p.keep.lst a xs ha hf h)
    rcases p.own a z with z | z
    · exact hf z
    · rw [h] at z; cases z
  · rcases q.own a h with z | z
    · exact p.own a z
    · exact .inr (p.keep.dom a z)
theorem Own.tracked (r : Rel K θ st σ H) (h : Own st σ a) : ∃ vs, H a = some (.lst vs) ∧ a ∉ θ := by
  obtain ⟨i, xs, h1, h2⟩ := h
  obtain ⟨v, h3, h4⟩ := r.e.at_ i _ h1
  rw [h2] at h3
  cases h3
  obtain ⟨b, vs, e, h5, _, h6⟩ := h4
  cases e
  exact ⟨vs, h5, h6⟩
theorem RX.later {sv : SV} {v : V} (r : Rel K θ st σ H) (p0 : Post K σ θ st H θ1 st1 H1) (x : RX K θ1 H H1 sv v) (p : Post K σ θ1 st1 H1 θ2 st2 H2) : RX K θ2 H H2 sv v := by
  have mv : ∀ (xs : List Val) (vs : List V), RVs K θ1 H1 xs vs → RVs K θ2 H2 xs vs := fun xs vs h => RVs.pre p.grow.pre _ _ (RVs.mono p.keep.to1 _ _ h)
  cases sv with
  | val y => exact RV.pre p.grow.pre _ _ (RV.mono p.keep.to1 _ _ x)
  | own ys =>
    obtain ⟨a, vs, rfl, h, q, ha, hn⟩ := x
    refine ⟨a, vs, rfl, ?_, mv _ _ q, p.grow.out ha h, hn⟩
    rcases p.keep.lst a vs ha h with z | ⟨z, _⟩
    · exact z
    · obtain ⟨i, z⟩ := z
      obtain ⟨us, e, _⟩ := Own.tracked r ⟨i, p0.ownM z⟩
      rw [hn] at e; cases e
  | pk ys =>
    obtain ⟨a, vs, rfl, h, q, ha⟩ := x
    rcases h with h | ⟨o, h⟩
    · refine ⟨a, vs, rfl, ?_, mv _ _ q, p.grow.out ha h⟩
      rcases p.keep.lst a vs ha h with z | ⟨_, o, z⟩
      · exact .inl z
      · exact .inr ⟨o, z⟩
    · exact ⟨a, vs, rfl, .inr ⟨o, p.keep.frz _ _ _ h⟩, mv _ _ q, p.grow.out ha h⟩
/-- a new object, tracked -/
theorem Post.new {p : Ad} {o : HO} (r : Rel K θ st σ H) (n : H p = none) : Post K σ θ st H θ st (upd H p o) := by
  have k : Keep θ (Own st σ) H (upd H p o) := ⟨fun a xs h => by rw [upd_ne (ne_of_none h n)]; exact h, fun a o u h => by rw [upd_ne (ne_of_none h n)]; exact h, fun a h => by
    by_cases e : a = p
    · rw [e, upd_same] at h; cases h
    · rw [upd_ne e] at h; exact h, fun a xs _ h => .inl (by rw [upd_ne (ne_of_none h n)]; exact h)⟩
  refine ⟨k, .refl, fun _ _ h => h, ⟨⟨r.e.len, fun i sv h => ?_, r.e.one⟩, ⟨r.m.len, r.m.nd, fun i xs h => ?_⟩⟩⟩
  · obtain ⟨v, h1, h2⟩ := r.e.at_ i sv h
    refine ⟨v, h1, ?_⟩
    cases sv with
    | val x => exact RV.mono k.to1 _ _ h2
    | own xs =>
      obtain ⟨a, vs, e, h3, h4, h5⟩ := h2
      exact ⟨a, vs, e, by rw [upd_ne (ne_of_none h3 n)]; exact h3, RVs.mono k.to1 _ _ h4, h5⟩
    | pk xs => exact h2.elim
  · obtain ⟨a, vs, h1, h2, h3⟩ := r.m.at_ i xs h
    exact ⟨a, vs, h1, by rw [upd_ne (ne_of_none h2 n)]; exact h2, RVs.mono (θ := θ.take i) (F := Own st σ) ⟨k.tup, k.frz, k.dom, fun a xs _ _ h => by rw [upd_ne (ne_of_none h n)]; exact h⟩ _ _ h3⟩
theorem notin_of_none {p : Ad} (r : RelM K θ m H) (n : H p = none) : p ∉ θ := fun z => by
  obtain ⟨i, hi, e⟩ := List.mem_iff_getElem.mp z
  have h1 : i < m.length := by rw [r.len]; exact hi
  obtain ⟨a, vs, h2, h3, _⟩ := r.at_ i m[i] (List.getElem?_eq_getElem h1)
  rw [List.getElem?_eq_getElem hi, e] at h2
  cases h2
  rw [n] at h3; cases h3
end
end Py
end

section
set_option autoImplicit false
set_option linter.all false
set_option Elab.async false
set_option maxRecDepth 100000
set_option maxHeartbeats 4000000
/-! More rules over the layer: lists that may be locked, tuples of any length. -/
namespace Py2
open L2 PySem PySem.Spec PyProof.Rows
section
variable {X : Cx} {pins : List (Addr × Obj)} {σ : L2.St} {H : Hp} {s : Shared} {l b : Addr} {xs ys zs : List V}
theorem lstR (I : Inv X pins σ H s) (hH : Rd H l (.lst xs)) : xs.length ≤ sizeLine ∧ ∃ (its : List Value) (n : Nat), Vals xs its ∧ xs.length = its.length ∧ s.heap.get? l = some { cls := .type "list", data := .seq its.toArray n } := by
  obtain ⟨z, its, n, r, e⟩ := hH.ok I.hok
  exact ⟨z, its, n, r, r.length, e⟩
def rCatR : R2 := fun x y H Q => ∃ l b xs zs, x = .ref l ∧ y = .ref b ∧ Rd H l (.lst xs) ∧ Rd H b (.lst zs) ∧ xs.length + zs.length ≤ sizeLine ∧ ∀ p, H p = none → Q (.ref p) (upd H p (.lst (xs ++ zs)))
theorem op_catR : OpR X (binaryOp .Add) rCatR := by
  intro pins s σ H x y v u Q I rx ry h
  obtain ⟨l, b, xs, zs, rfl, rfl, hH, hB, hz, q⟩ := h
  cases rx
  cases ry
  obtain ⟨z, its, n, r, hl, e⟩ := lstR I hH
  obtain ⟨z2, its2, n2, r2, hl2, e2⟩ := lstR I hB
  refine PySem.P.add_list e e2 ?_ (by rw [List.size_toArray, List.size_toArray]; omega)
  have ea : its.toArray ++ its2.toArray = (its ++ its2).toArray := by simp
  rw [ea]
  exact ⟨.ref _, _, I.lnew (t' := s.toks) (r.append r2) (by rw [List.length_append]; omega), rfl, q _ I.fresh⟩
def rRepR : R2 := fun x y H Q => ∃ l k xs, x = .ref l ∧ y = .int k ∧ Rd H l (.lst xs) ∧ -(2 ^ 63) ≤ k ∧ k < 2 ^ 63 ∧ xs.length * k.toNat ≤ sizeLine ∧
  ∀ p, H p = none → Q (.ref p) (upd H p (.lst (List.replicate k.toNat xs).flatten))
theorem op_repR : OpR X (binaryOp .Mult) rRepR := by
  intro pins s σ H x y v u Q I rx ry h
  obtain ⟨l, k, xs, rfl, rfl, hH, h1, h2, hz, q⟩ := h
  cases rx
  obtain ⟨t, rfl⟩ := ry
  obtain ⟨z, its, n, r, hl, e⟩ := lstR I hH
  have hlen : its.toArray.size * k.toNat ≤ sizeLine := by rw [List.size_toArray, ← hl]; exact hz
  have hcap : ¬ its.toArray.size * k.toNat > (2 ^ 63 - 1) / 8 := by
    have : (sizeLine : Nat) ≤ (2 ^ 63 - 1) / 8 := by decide
    omega
  have hfit : ¬ (!Builtin.List.listFitsIndex k) = true := by
    rw [fitsIndex_both h1 h2]
    exact Bool.false_ne_true
  have hlong : ¬ Builtin.List.listTooLong (its.toArray.size * k.toNat) = true := by
    rw [notLongL hlen]
    exact Bool.false_ne_true
  have hnew : List.foldl (fun x1 x2 => x1 ++ x2) #[] (List.replicate (if its.toArray.isEmpty = true then 0 else k.toNat) its.toArray) = (List.replicate k.toNat its).flatten.toArray := by
    rw [size_rep]
    cases its with
    | nil => simp
    | cons a r' => rw [if_neg (by simp)]
  refine wpAny_binaryOp_repeat_ref (T := "list") (U := "int") (by decide) ⟨_, e, rfl⟩ (fun s' => typeIs_int s' k t) noFill_list_mul F.fills_int_mul F.slot_int_rmul repeat_list F.slot_int_index.lookup
    (call_meets F.slot_int_rmul (typeIs_int s k t) F.entry_int_rmul (F.args_int_rmul_2 _ _) (int___rmul___int_list k t l its.toArray n)
      ⟨e, rfl, ⟨_, e, rfl⟩, call_meets F.slot_list_mul ⟨_, e, rfl⟩ F.entry_list_mul (F.args_list_mul_2 _ _) (AutoListH.list___mul___list_int_3 l its.toArray n k t hfit hcap hlong) ⟨e, ?_⟩⟩)
  rw [hnew]
  exact ⟨.ref _, _, I.lnew (t' := s.toks) (r.rep k.toNat) (by rw [PyProof.Rows.lm_len_rep_flat, Nat.mul_comm]; exact hz), rfl, q _ I.fresh⟩
end
section
theorem tuple_mul1 (l : Addr) (items : Array Value) (n : Nat) (dd : Option Addr) (sl : Array (Option Value)) (x : Int) (u : Tok) (c0 : (decide (x < -(2 ^ 63)) || decide (x ≥ 2 ^ 63)) = false) (c1 : (items.isEmpty || x == 1) = true) :
    Meets (Builtin.«tuple.__mul__» ⟨[.ref l, .int x u], []⟩) (fun _ R s => s.heap.get? l = some { cls := .type "tuple", dict := dd, data := .seq items n, slots := sl } ∧
      R (.ok (.ret (Value.ref l))) s) :=
  .of_wp fun prog w A R s h => by
    obtain ⟨hp, g, d, tk, os⟩ := s
    obtain ⟨hl, h⟩ := h
    have f1 := AutoSeq1.idx_int
    wp_walk using wpAny_loadPart' hl
    repeat (first
      | (refine wpAny_ite_false (decide_eq_false (by rw [c0]; exact Bool.false_ne_true)) ?_; wp_walk using wpAny_loadPart' hl)
      | (refine wpAny_ite_true (decide_eq_true c1) ?_; wp_walk using wpAny_loadPart' hl))
    exact ⟨_, rfl, h⟩
theorem tuple_mul0 (l : Addr) (items : Array Value) (n : Nat) (dd : Option Addr) (sl : Array (Option Value)) (x : Int) (u : Tok) (c0 : (decide (x < -(2 ^ 63)) || decide (x ≥ 2 ^ 63)) = false) (c1 : (items.isEmpty || x == 1) = false) (c2 : (decide (x ≤ 0) || items.isEmpty) = true) :
    Meets (Builtin.«tuple.__mul__» ⟨[.ref l, .int x u], []⟩) (fun _ R s => s.heap.get? l = some { cls := .type "tuple", dict := dd, data := .seq items n, slots := sl } ∧
      R (.ok (.ret (Value.ref s.heap.objs.size))) { s with heap := s.heap.push { cls := Value.type "tuple", data := Data.seq #[] }, toks := s.toks }) :=
  .of_wp fun prog w A R s h => by
    obtain ⟨hp, g, d, tk, os⟩ := s
    obtain ⟨hl, h⟩ := h
    have f1 := AutoSeq1.idx_int
    wp_walk using wpAny_loadPart' hl
    repeat (first
      | (refine wpAny_ite_false (decide_eq_false (by rw [c0]; exact Bool.false_ne_true)) ?_; wp_walk using wpAny_loadPart' hl)
      | (refine wpAny_ite_false (decide_eq_false (by rw [c1]; exact Bool.false_ne_true)) ?_; wp_walk using wpAny_loadPart' hl)
      | (refine wpAny_ite_true (decide_eq_true c2) ?_; wp_walk using wpAny_loadPart' hl))
    exact ⟨_, rfl, h⟩
end

section
variable {X : Cx}
theorem flat0 {α : Type} (n : Nat) : (List.replicate n ([] : List α)).flatten = [] := by
  induction n with
  | zero => rfl
  | succ n ih => rw [List.replicate_succ, List.flatten_cons, ih]; rfl
/-- a tuple times an int, any -/
def rRepA (K : PySem.W.Frag) : R2 := fun x y H Q => ∃ l k xs, x = .ref l ∧ y = .int k ∧ SqT K H l xs ∧ -(2 ^ 62) ≤ k ∧ k < 2 ^ 62 ∧ xs.length * k.toNat ≤ sizeLine ∧
  ((xs = [] ∨ k = 1) → Q (.ref l) H) ∧ (xs ≠ [] → k ≠ 1 → ∀ p, H p = none → Q (.ref p) (upd H p (.tup (List.replicate k.toNat xs).flatten)))
theorem op_repA : OpR X (binaryOp .Mult) (rRepA X.K) := by
  intro pins s σ H x y v u Q I rx ry h
  obtain ⟨l, k, xs, rfl, rfl, hT, h1, h2, hz, q1, q2⟩ := h
  cases rx
  obtain ⟨t, rfl⟩ := ry
  obtain ⟨its, r, ⟨⟨cls, dd, data, sl⟩, ho, hc, n, hd⟩, hs⟩ := I.tuple hT
  simp only at hc hd
  subst hc hd
  have hle : its.length = xs.length := r.length.symm
  have c0 : (decide (k < -(2 ^ 63)) || decide (k ≥ 2 ^ 63)) = false := by
    rw [decide_eq_false (by omega), decide_eq_false (by omega)] <;> rfl
  have hemp : its.toArray.isEmpty = true ↔ xs = [] := by
    constructor
    · intro z
      have : its = [] := by simpa using z
      rw [this] at hle
      exact List.eq_nil_of_length_eq_zero hle.symm
    · intro z
      rw [z] at hle
      have : its = [] := List.eq_nil_of_length_eq_zero hle
      rw [this]; rfl
  have go : ∀ {R : Result → Shared → Prop} {pre : (Result → Shared → Prop) → Shared → Prop}, True := fun {_ _} => trivial
  by_cases hc1 : xs = [] ∨ k = 1
  · have c1 : (its.toArray.isEmpty || k == 1) = true := by
      rcases hc1 with z | z
      · rw [hemp.mpr z, Bool.true_or]
      · rw [beq_iff_eq.mpr z, Bool.or_true]
    refine wpAny_binaryOp_repeat_ref (T := "tuple") (U := "int") (by decide) ⟨_, ho, rfl⟩ (fun s' => typeIs_int s' k t) noFill_tuple_mul F.fills_int_mul F.slot_int_rmul repeat_tuple F.slot_int_index.lookup
      (call_meets F.slot_int_rmul (typeIs_int s k t) F.entry_int_rmul (F.args_int_rmul_2 _ _) (int_rmul_tuple k t l its.toArray n dd sl)
        ⟨ho, rfl, ⟨_, ho, rfl⟩, call_meets F.slot_tuple_mul ⟨_, ho, rfl⟩ F.entry_tuple_mul (F.args_tuple_mul_2 _ _) (tuple_mul1 l its.toArray n dd sl k t c0 c1) ⟨ho, ?_⟩⟩)
    exact ⟨.ref l, H, I, rfl, q1 hc1⟩
  · have hne : xs ≠ [] := fun z => hc1 (.inl z)
    have hk1 : k ≠ 1 := fun z => hc1 (.inr z)
    have hi : its.toArray.isEmpty = false := by
      cases e : its.toArray.isEmpty with
      | false => rfl
      | true => exact absurd (hemp.mp e) hne
    have c1 : (its.toArray.isEmpty || k == 1) = false := by
      rw [hi, Bool.false_or]
      exact beq_eq_false_iff_ne.mpr hk1
    have hsz0 : its.toArray.size = xs.length := by rw [List.size_toArray, hle]
    have hs24 : (sizeLine : Nat) = 16777216 := sizeLine_eq
    have fin : ∀ its' : List Value, its' = (List.replicate k.toNat its).flatten → EP X pins σ Q (.ref s.heap.objs.size) { s with heap := s.heap.push { cls := .type "tuple", data := .seq its'.toArray } } := by
      rintro its' rfl
      refine ⟨.ref s.heap.objs.size, _, I.laid (t' := s.toks) (o := .tup (List.replicate k.toNat xs).flatten) (fun b ob q => Heap.get?_push_of_some _ q) (Nat.le_refl _) ?_, rfl, q2 hne hk1 _ (I.hok.fresh (Nat.le_refl _))⟩
      exact ⟨by rw [PyProof.Rows.lm_len_rep_flat, Nat.mul_comm]; exact hz, _, r.rep k.toNat, IsTup.new _ _⟩
    by_cases h0 : k ≤ 0
    · have c2 : (decide (k ≤ 0) || its.toArray.isEmpty) = true := by rw [decide_eq_true h0, Bool.true_or]
      refine wpAny_binaryOp_repeat_ref (T := "tuple") (U := "int") (by decide) ⟨_, ho, rfl⟩ (fun s' => typeIs_int s' k t) noFill_tuple_mul F.fills_int_mul F.slot_int_rmul repeat_tuple F.slot_int_index.lookup
        (call_meets F.slot_int_rmul (typeIs_int s k t) F.entry_int_rmul (F.args_int_rmul_2 _ _) (int_rmul_tuple k t l its.toArray n dd sl)
          ⟨ho, rfl, ⟨_, ho, rfl⟩, call_meets F.slot_tuple_mul ⟨_, ho, rfl⟩ F.entry_tuple_mul (F.args_tuple_mul_2 _ _) (tuple_mul0 l its.toArray n dd sl k t c0 c1 c2) ⟨ho, ?_⟩⟩)
      exact fin [] (by rw [show k.toNat = 0 by omega]; rfl)
    · have c2 : (decide (k ≤ 0) || its.toArray.isEmpty) = false := by
        rw [hi, Bool.or_false]
        exact decide_eq_false h0
      have hm : ((its.toArray.size : Nat) : Int) * k = ((xs.length * k.toNat : Nat) : Int) := by
        rw [hsz0, Int.natCast_mul, Int.toNat_of_nonneg (by omega)]
      have c4 : Builtin.Tuple.tupleTooMany (((its.toArray.size : Nat) : Int) * k) = false := by
        unfold Builtin.Tuple.tupleTooMany
        rw [sizeLine_eq, hm]
        exact decide_eq_false (by omega)
      refine wpAny_binaryOp_repeat_ref (T := "tuple") (U := "int") (by decide) ⟨_, ho, rfl⟩ (fun s' => typeIs_int s' k t) noFill_tuple_mul F.fills_int_mul F.slot_int_rmul repeat_tuple F.slot_int_index.lookup
        (call_meets F.slot_int_rmul (typeIs_int s k t) F.entry_int_rmul (F.args_int_rmul_2 _ _) (int_rmul_tuple k t l its.toArray n dd sl)
          ⟨ho, rfl, ⟨_, ho, rfl⟩, call_meets F.slot_tuple_mul ⟨_, ho, rfl⟩ F.entry_tuple_mul (F.args_tuple_mul_2 _ _) (tuple_mulW l its.toArray n dd sl k t c0 c1 c2 (by rw [hm]; omega) c4 (by rw [size_rep, List.size_toArray, PyProof.Rows.lm_len_rep_flat, hle, Nat.mul_comm]; exact hz)) ⟨ho, ?_⟩⟩)
      rw [size_rep]
      exact fin _ rfl

/-- sum of a list or a tuple of ints -/
def rSumA (K : PySem.W.Frag) : List V → Hp → VK → Prop := fun vs H Q => ∃ (a : Addr) (ns : List Int), vs = [V.ref a] ∧ (SqL K H a (ns.map V.int) ∨ SqT K H a (ns.map V.int)) ∧ Q (.int ns.sum) H
theorem cr_sumA (hc : X.calm = true) : CallR X (.builtin "sum") (rSumA X.K) := by
  intro pins s σ H vs us Q I r h
  obtain ⟨a, ns, rfl, hs, q⟩ := h
  rcases hs with hs | hs
  · exact cr_sum hc pins s σ H _ us Q I r ⟨a, ns, rfl, hs, q⟩
  · obtain ⟨its, rv, hl, _⟩ := I.tuple hs
    rw [Vals.ref1 r]
    have hi := rv.ints
    obtain ⟨xs, e⟩ := hi.allInts.items
    have hn : numsOf (intItems xs).toList = ns := by rw [← e]; exact hi.numsOf
    rw [nums_intItems] at hn
    rw [e] at hl
    refine PySem.W.ktm_sumG (I.ok.hd hc) hl fun h' tk t' hk => ?_
    rw [preSum_eq, List.take_of_length_le (by simp), hn]
    exact ⟨.int _, H, I.kept hk, ⟨_, rfl⟩, q⟩
end

section
variable {prog : Program} {w : World} {A : Around} {E : Value → Shared → Prop} {s : Shared} {l : Addr} {its : List Value} {ns : List Int} {Q : Value → Shared → Prop}
theorem max_tupI {xs : Array (Int × Tok)} (hh : A.handled = none) (hl : s.heap.IsTuple l (intItems xs)) (hne : 0 < xs.size)
    (h : ∀ v h' tk, (intItems xs)[argBest (fun i j => decide (numAt xs i > numAt xs j)) (xs.size - 1)]? = some v → (∀ b o, s.heap.get? b = some o → h'.get? b = some o) → Q v { s with heap := h', toks := tk }) :
    wpAny (model prog w) A (call (.builtin "max") [.ref l]) Q E s := by
  have hlt : l < s.heap.objs.size := by obtain ⟨_, e, _⟩ := hl; exact Heap.lt_size e
  have hx : l ≠ s.heap.objs.size := Nat.ne_of_lt hlt
  refine call_max_walk (wpAny_pyIter_tuple hl ?_)
  refine ⟨_, _, _, _, _, _, _, rfl, Walks.tuple (A := A.in1) hh s.heap.objs.size l hx (intItems xs), ⟨⟨_, Heap.get?_push_size _ rfl, rfl, rfl⟩, hl.push _⟩, fun b hb => ?_, by simpa [intItems] using hne, CmpOf.ints_gt (numAt xs) (fun _ _ => intItems_at), fun v h' tk hP hk => ?_⟩
  · show b < (s.heap.push _).objs.size
    rw [Heap.size_push]
    rcases List.mem_cons.mp hb with rfl | hb
    · exact Nat.lt_succ_self _
    · rcases List.mem_cons.mp hb with rfl | hb
      · exact Nat.lt_succ_of_lt hlt
      · cases hb
  · refine h v h' tk (by simpa [intItems] using hP) fun b o e => hk b o (fun hb => ?_) (Heap.get?_push_of_some _ e)
    rcases List.mem_cons.mp hb with rfl | hb
    · exact absurd (Heap.lt_size e) (Nat.lt_irrefl _)
    · cases hb
theorem min_tupI {xs : Array (Int × Tok)} (hh : A.handled = none) (hl : s.heap.IsTuple l (intItems xs)) (hne : 0 < xs.size)
    (h : ∀ v h' tk, (intItems xs)[argBest (fun i j => decide (numAt xs i < numAt xs j)) (xs.size - 1)]? = some v → (∀ b o, s.heap.get? b = some o → h'.get? b = some o) → Q v { s with heap := h', toks := tk }) :
    wpAny (model prog w) A (call (.builtin "min") [.ref l]) Q E s := by
  have hlt : l < s.heap.objs.size := by obtain ⟨_, e, _⟩ := hl; exact Heap.lt_size e
  have hx : l ≠ s.heap.objs.size := Nat.ne_of_lt hlt
  refine call_min_walk (wpAny_pyIter_tuple hl ?_)
  refine ⟨_, _, _, _, _, _, _, rfl, Walks.tuple (A := A.in1) hh s.heap.objs.size l hx (intItems xs), ⟨⟨_, Heap.get?_push_size _ rfl, rfl, rfl⟩, hl.push _⟩, fun b hb => ?_, by simpa [intItems] using hne, CmpOf.ints_lt (numAt xs) (fun _ _ => intItems_at), fun v h' tk hP hk => ?_⟩
  · show b < (s.heap.push _).objs.size
    rw [Heap.size_push]
    rcases List.mem_cons.mp hb with rfl | hb
    · exact Nat.lt_succ_self _
    · rcases List.mem_cons.mp hb with rfl | hb
      · exact Nat.lt_succ_of_lt hlt
      · cases hb
  · refine h v h' tk (by simpa [intItems] using hP) fun b o e => hk b o (fun hb => ?_) (Heap.get?_push_of_some _ e)
    rcases List.mem_cons.mp hb with rfl | hb
    · exact absurd (Heap.lt_size e) (Nat.lt_irrefl _)
    · cases hb
theorem maxT_raw (hh : A.handled = none) (hl : s.heap.IsTuple l its.toArray) (hi : IntsAre its ns) (hne : 0 < ns.length)
    (h : ∀ h' tk M t', (∀ b o, s.heap.get? b = some o → h'.get? b = some o) → M ∈ ns → (∀ a, a ∈ ns → a ≤ M) → Q (.int M t') { s with heap := h', toks := tk }) : wpAny (model prog w) A (call (.builtin "max") [.ref l]) Q E s := by
  obtain ⟨xs, e⟩ := hi.allInts.items
  have hn : numsOf (intItems xs).toList = ns := by rw [← e]; exact hi.numsOf
  rw [nums_intItems] at hn
  subst hn
  rw [e] at hl
  have hsz : 0 < xs.size := by simpa using hne
  refine max_tupI hh hl hsz fun v h' tk hv hk => ?_
  obtain ⟨t, rfl⟩ := intItems_at hv
  obtain ⟨h1, h2⟩ := argBest_gt (numAt xs) (xs.size - 1)
  refine h h' tk _ t hk ?_ fun a ha => ?_
  · rw [numAt_eq]; exact PySem.getD_mem (by rw [List.length_map, Array.length_toList]; omega)
  · obtain ⟨j, hj, rfl⟩ := mem_getD ha
    rw [List.length_map, Array.length_toList] at hj
    rw [← numAt_eq]; exact h2 j (by omega)
theorem minT_raw (hh : A.handled = none) (hl : s.heap.IsTuple l its.toArray) (hi : IntsAre its ns) (hne : 0 < ns.length)
    (h : ∀ h' tk M t', (∀ b o, s.heap.get? b = some o → h'.get? b = some o) → M ∈ ns → (∀ a, a ∈ ns → M ≤ a) → Q (.int M t') { s with heap := h', toks := tk }) : wpAny (model prog w) A (call (.builtin "min") [.ref l]) Q E s := by
  obtain ⟨xs, e⟩ := hi.allInts.items
  have hn : numsOf (intItems xs).toList = ns := by rw [← e]; exact hi.numsOf
  rw [nums_intItems] at hn
  subst hn
  rw [e] at hl
  have hsz : 0 < xs.size := by simpa using hne
  refine min_tupI hh hl hsz fun v h' tk hv hk => ?_
  obtain ⟨t, rfl⟩ := intItems_at hv
  obtain ⟨h1, h2⟩ := argBest_lt (numAt xs) (xs.size - 1)
  refine h h' tk _ t hk ?_ fun a ha => ?_
  · rw [numAt_eq]; exact PySem.getD_mem (by rw [List.length_map, Array.length_toList]; omega)
  · obtain ⟨j, hj, rfl⟩ := mem_getD ha
    rw [List.length_map, Array.length_toList] at hj
    rw [← numAt_eq]; exact h2 j (by omega)
end
section
variable {X : Cx}
def rMaxA (K : PySem.W.Frag) : List V → Hp → VK → Prop := fun vs H Q => ∃ (a : Addr) (ns : List Int), vs = [V.ref a] ∧ (SqL K H a (ns.map V.int) ∨ SqT K H a (ns.map V.int)) ∧ 0 < ns.length ∧ ∀ m, m ∈ ns → (∀ y, y ∈ ns → y ≤ m) → Q (.int m) H
def rMinA (K : PySem.W.Frag) : List V → Hp → VK → Prop := fun vs H Q => ∃ (a : Addr) (ns : List Int), vs = [V.ref a] ∧ (SqL K H a (ns.map V.int) ∨ SqT K H a (ns.map V.int)) ∧ 0 < ns.length ∧ ∀ m, m ∈ ns → (∀ y, y ∈ ns → m ≤ y) → Q (.int m) H
theorem cr_maxA (hc : X.calm = true) : CallR X (.builtin "max") (rMaxA X.K) := by
  intro pins s σ H vs us Q I r h
  obtain ⟨a, ns, rfl, hs, hn, q⟩ := h
  rcases hs with hs | hs
  · exact cr_max hc pins s σ H _ us Q I r ⟨a, ns, rfl, hs, hn, q⟩
  · obtain ⟨its, rv, hl, _⟩ := I.tuple hs
    rw [Vals.ref1 r]
    exact maxT_raw (I.ok.hd hc) hl rv.ints hn fun h' tk M t' hk h1 h2 => ⟨.int _, H, I.kept hk, ⟨_, rfl⟩, q M h1 h2⟩
theorem cr_minA (hc : X.calm = true) : CallR X (.builtin "min") (rMinA X.K) := by
  intro pins s σ H vs us Q I r h
  obtain ⟨a, ns, rfl, hs, hn, q⟩ := h
  rcases hs with hs | hs
  · exact cr_min hc pins s σ H _ us Q I r ⟨a, ns, rfl, hs, hn, q⟩
  · obtain ⟨its, rv, hl, _⟩ := I.tuple hs
    rw [Vals.ref1 r]
    exact minT_raw (I.ok.hd hc) hl rv.ints hn fun h' tk M t' hk h1 h2 => ⟨.int _, H, I.kept hk, ⟨_, rfl⟩, q M h1 h2⟩
/-- extend by a list that may be locked -/
def rExtR : V → List V → Hp → VK → Prop := fun x vs H Q => ∃ l b xs zs, x = .ref l ∧ vs = [.ref b] ∧ H l = some (.lst xs) ∧ Rd H b (.lst zs) ∧ xs.length + zs.length ≤ sizeLine ∧ Q .non (upd H l (.lst (xs ++ zs)))
theorem mt_extR : MtM X "list.extend" rExtR := by
  intro pins s σ H x vs v us Q I rx rv h
  obtain ⟨l, b, xs, zs, rfl, rfl, hH, hB, hz, q⟩ := h
  cases rx
  obtain ⟨u, rfl, ru⟩ := rv.one
  cases ru
  obtain ⟨z, its, n, r, hl, e⟩ := I.lstM hH
  obtain ⟨z2, its2, n2, r2, hl2, e2⟩ := lstR I hB
  have hsz : its.toArray.size + its2.toArray.size ≤ sizeLine := by rw [List.size_toArray, List.size_toArray]; omega
  have hlong : ¬ (!its.toArray.isEmpty && Builtin.List.listTooLong (its.toArray.size + its2.toArray.size)) = true := by
    rw [notLongL hsz, Bool.and_false]
    exact Bool.false_ne_true
  refine call_meets F.slot_list_extend ⟨_, e, rfl⟩ F.entry_list_extend (F.args_list_extend_2 _ _)
    (AutoSeq1.list_extend_list_list_0 l its.toArray n b its2.toArray n2 hlong (by rw [List.size_toArray]; omega) (by omega)) ⟨e, e2, ?_⟩
  refine ⟨.non, _, I.lset (its' := its ++ its2) hH e (by simp) (r.append r2) ?_, rfl, q⟩
  rw [List.length_append]
  omega
end
end Py2
end

section
set_option autoImplicit false
set_option linter.all false
set_option Elab.async false
set_option maxRecDepth 100000
set_option maxHeartbeats 4000000
set_option exponentiation.threshold 5000
/-! Expressions: what the evaluator says holds of the model. -/
namespace Py
open L2 (V Hp HO SqL SqT Rd upd upd_same upd_ne ne_of ne_of_none Cx PE PT PA TE TT TA VK R2 OpR tOp)
open PySem (Expr Pos Operator)

/-- the classes of exceptions, by number -/
def exN : Nat → Str
  | 0 => "Malformed"
  | _ => "Refused"
/-- .. and where they stand -/
def exC (K : Kf) (n : Nat) : Option Ad := if n < 2 then (match PySem.W.nsIn K PySem.mainGlobals (exN n) with
  | some (some (.ref C)) => some C
  | _ => none) else none
/-- an exception, as the layer tells it: class, dict -/
def EXc (K : Kf) (e : Ex) (cls : PySem.Value) (d : Option Ad) (H : Hp) : Prop := ∃ C, exC K e.cls = some C ∧ cls = .ref C ∧ match e.arg with
  | none => d = none
  | some s => ∃ dx fs, d = some dx ∧ H dx = some (.xd fs) ∧ fs.lookup ("reason" : Str) = some (V.str s)
/-- the wish for an exception; none: nothing is raised -/
abbrev WE := Option L2.WX
def wpO {α : Type} (o : Option (Res α)) (we : Ex → S → Prop) (k : α → S → Prop) : Prop :=
  match o with
  | none => False
  | some (.ok a s) => k a s
  | some (.ex e s) => we e s
theorem wpO.mono {α : Type} {o : Option (Res α)} {we we' : Ex → S → Prop} {k k' : α → S → Prop} (h : wpO o we k) (h1 : ∀ e s, we e s → we' e s) (h2 : ∀ a s, k a s → k' a s) : wpO o we' k' := by
  unfold wpO at h ⊢
  split at h
  · exact h
  · exact h2 _ _ h
  · exact h1 _ _ h
theorem wpO.bind {α β : Type} {x : M α} {f : α → M β} {s : S} {we : Ex → S → Prop} {k : β → S → Prop} (h : wpO (M.bind x f s) we k) : wpO (x s) we fun a s1 => wpO (f a s1) we k := by
  unfold M.bind at h
  unfold wpO at h ⊢
  revert h
  cases e : x s with
  | none => exact id
  | some r =>
    cases r with
    | ok a s1 => exact id
    | ex e s1 => exact id
theorem wpO.unbind {α β : Type} {x : M α} {f : α → M β} {s : S} {we : Ex → S → Prop} {k : β → S → Prop} (h : wpO (x s) we fun a s1 => wpO (f a s1) we k) : wpO (M.bind x f s) we k := by
  unfold M.bind
  unfold wpO at h ⊢
  revert h
  cases e : x s with
  | none => exact id
  | some r =>
    cases r with
    | ok a s1 => exact id
    | ex e s1 => exact id
theorem wpO.of {α : Type} {o : Option α} {s : S} {we : Ex → S → Prop} {k : α → S → Prop} (h : wpO (M.of o s) we k) : ∃ a, o = some a ∧ k a s := by
  cases o with
  | none => exact h.elim
  | some a => exact ⟨a, rfl, h⟩
theorem wpO.pure {α : Type} {a : α} {s : S} {we : Ex → S → Prop} {k : α → S → Prop} (h : wpO (M.pure a s) we k) : k a s := h

def we (K : Kf) (W : WE) (σ : Sg) (θ : List Ad) (st : S) (H : Hp) : Ex → S → Prop := fun e st' => match W with
  | none => False
  | some w => ∀ cls d θ' H', Post K σ θ st H θ' st' H' → EXc K e cls d H' → w cls d σ H'
theorem we.later {K : Kf} {W : WE} {σ : Sg} {θ θ1 : List Ad} {st st1 : S} {H H1 : Hp} (p : Post K σ θ st H θ1 st1 H1) {e : Ex} {s : S} (h : we K W σ θ st H e s) : we K W σ θ1 st1 H1 e s := by
  cases W with
  | none => exact h
  | some w => exact fun cls d θ' H' q x => h cls d θ' H' (p.trans q) x
def tE (K : Kf) (W : WE) (f : M SV) : TE := fun σ H Q => ∃ θ st, Rel K θ st σ H ∧ wpO (f st) (we K W σ θ st H) fun sv st' => ∀ v θ' H', Post K σ θ st H θ' st' H' → RX K θ' H H' sv v → Q v H'
def tT (K : Kf) (W : WE) (f : M Bool) : TT := fun σ H Q => ∃ θ st, Rel K θ st σ H ∧ wpO (f st) (we K W σ θ st H) fun b st' => ∀ θ' H', Post K σ θ st H θ' st' H' → Q b H'
def tA (K : Kf) (W : WE) (f : M (List Val)) : TA := fun σ H Q => ∃ θ st, Rel K θ st σ H ∧ wpO (f st) (we K W σ θ st H) fun xs st' => ∀ vs θ' H', Post K σ θ st H θ' st' H' → RVs K θ' H' xs vs → Q vs H'
theorem pe_imp {X : Cx} {e : Expr} {t t' : TE} (h : PE X e t) (i : ∀ σ H Q, t' σ H Q → t σ H Q) : PE X e t' := ⟨fun pins s σ H Q I q => h.run pins s σ H Q I (i σ H Q q)⟩
theorem pt_imp {X : Cx} {e : Expr} {t t' : TT} (h : PT X e t) (i : ∀ σ H Q, t' σ H Q → t σ H Q) : PT X e t' := ⟨fun pins s σ H Q I q => h.run pins s σ H Q I (i σ H Q q)⟩
theorem pa_imp {X : Cx} {e : List Expr} {t t' : TA} (h : PA X e t) (i : ∀ σ H Q, t' σ H Q → t σ H Q) : PA X e t' := ⟨fun pos pins s σ H Q I q => h.run pos pins s σ H Q I (i σ H Q q)⟩

/-! ### what stands at a value -/
section
variable {K : Kf} {θ θ' : List Ad} {st st' : S} {σ : Sg} {H H0 H' : Hp}
/-- a list (false) or a tuple (true) -/
def Sq (K : Kf) (t : Bool) (H : Hp) (a : Ad) (vs : List V) : Prop := if t = true then SqT K H a vs else Rd H a (.lst vs)
theorem items_rel (r : RelM K θ st.m H) {x : SV} {xs : List Val} {u : V} (h : items st.m x = some xs) (q : RX K θ H0 H x u) : ∃ a vs, u = .ref a ∧ Sq K (isTup x) H a vs ∧ RVs K θ H xs vs := by
  cases x with
  | own ys =>
    cases h
    obtain ⟨a, vs, e, h1, h2, _⟩ := q
    exact ⟨a, vs, e, .inl h1, h2⟩
  | pk ys =>
    cases h
    obtain ⟨a, vs, e, h1, h2, _⟩ := q
    exact ⟨a, vs, e, h1, h2⟩
  | val v =>
    cases v with
    | tup ys =>
      cases h
      unfold RX at q
      unfold RV at q
      exact q
    | lst ys =>
      cases h
      unfold RX at q
      unfold RV at q
      obtain ⟨a, vs, e, h1, h2⟩ := q
      exact ⟨a, vs, e, h1.rd, h2⟩
    | loc n =>
      have h : st.m[n]? = some xs := h
      unfold RX at q
      unfold RV at q
      obtain ⟨a, e, h1⟩ := q
      obtain ⟨b, vs, h2, h3, h4⟩ := r.at_ n xs h
      rw [h1] at h2
      cases h2
      exact ⟨a, vs, e, .inl h3, RVs.pre Pre.take _ _ h4⟩
    | scr _ => cases h
    | non => cases h
    | bl _ => cases h
    | int _ => cases h
    | str _ => cases h
theorem rx_int {i : Int} {u : V} (h : RX K θ H0 H (.val (.int i)) u) : u = .int i := by unfold RX at h; unfold RV at h; exact h
theorem rx_bl {i : Bool} {u : V} (h : RX K θ H0 H (.val (.bl i)) u) : u = .bl i := by unfold RX at h; unfold RV at h; exact h
theorem rx_non {u : V} (h : RX K θ H0 H (.val .non) u) : u = .non := by unfold RX at h; unfold RV at h; exact h
theorem rx_str {i : Str} {u : V} (h : RX K θ H0 H (.val (.str i)) u) : u = .str i := by unfold RX at h; unfold RV at h; exact h
theorem rx_mkint {i : Int} : RX K θ H0 H (.val (.int i)) (.int i) := by unfold RX; unfold RV; rfl
theorem rx_mkbl {i : Bool} : RX K θ H0 H (.val (.bl i)) (.bl i) := by unfold RX; unfold RV; rfl
theorem rx_mknon : RX K θ H0 H (.val .non) .non := by unfold RX; unfold RV; rfl
/-- a new list, a new tuple as an expression's value -/
theorem new_own (r : Rel K θ st σ H) (d : ∀ a, H a = none → H0 a = none) {p : Ad} (n : H p = none) {xs : List Val} {vs : List V} (h : RVs K θ H xs vs) : RX K θ H0 (upd H p (.lst vs)) (.own xs) (.ref p) :=
  ⟨p, vs, rfl, upd_same, RVs.mono (Post.new r n).keep.to1 _ _ h, notin_of_none r.m n, d p n⟩
theorem new_tup (r : Rel K θ st σ H) {p : Ad} (n : H p = none) {xs : List Val} {vs : List V} (h : RVs K θ H xs vs) : RX K θ H0 (upd H p (.tup vs)) (.val (.tup xs)) (.ref p) := by
  unfold RX
  unfold RV
  exact ⟨p, vs, rfl, SqT.of upd_same, RVs.mono (Post.new r n).keep.to1 _ _ h⟩
theorem fits_of {α : Type} {xs : List α} (h : fits xs = true) : xs.length ≤ PySem.sizeLine := by
  have := of_decide_eq_true h
  rw [PySem.sizeLine_eq]
  exact this
end

/-- an operation on values: f the evaluator's, r the layer's reading -/
def OpOk (K : Kf) (f : Mem → SV → SV → Option SV) (r : R2) : Prop := ∀ (σ : Sg) (θ : List Ad) (st : S) (H0 H : Hp) (x y z : SV) (u v : V) (Q : VK), Rel K θ st σ H → (∀ a, H a = none → H0 a = none) → f st.m x y = some z → RX K θ H0 H x u → RX K θ H0 H y v →
  (∀ w H', Post K σ θ st H θ st H' → RX K θ H0 H' z w → Q w H') → r u v H Q
section
variable {X : Cx} {W : WE} {fa fb : M SV} {a b : Expr} {pos : Pos}
theorem bin_imp {K : Kf} {f : Mem → SV → SV → Option SV} {r : R2} (ok : OpOk K f r) {σ : Sg} {H : Hp} {Q : VK} (h : tE K W (M.bind fa fun x => M.bind fb fun y => fun s => M.of (f s.m x y) s) σ H Q) : tOp r (tE K W fa) (tE K W fb) σ H Q := by
  obtain ⟨θ, st, R, h⟩ := h
  refine ⟨θ, st, R, h.bind.mono (fun _ _ z => z) fun x s1 h1 u θ1 H1 p1 x1 => ?_⟩
  refine ⟨θ1, s1, p1.rel, h1.bind.mono (fun _ _ z => z.later p1) fun y s2 h2 v θ2 H2 p2 y2 => ?_⟩
  obtain ⟨z, e, h3⟩ := h2.of
  have p := p1.trans p2
  have x2 := RX.later R p1 x1 p2
  refine ok σ θ2 s2 H H2 x y z u v Q p.rel p.keep.dom e x2 ?_ fun w H' q rw => h3 w θ2 H' (p.trans q) rw
  -- the second one's freshness is seen from the start
  cases y with
  | val y => exact y2
  | own y =>
    obtain ⟨a, vs, e1, e2, e3, e4, e5⟩ := y2
    exact ⟨a, vs, e1, e2, e3, e4, p1.keep.dom a e5⟩
  | pk y => exact y2
theorem e_bin {op : Operator} {f : Mem → SV → SV → Option SV} {r : R2} (ho : OpR X (PySem.binaryOp op) r) (ok : OpOk X.K f r) (ha : PE X a (tE X.K W fa)) (hb : PE X b (tE X.K W fb)) : PE X (.BinOp a op b pos) (tE X.K W (M.bind fa fun x => M.bind fb fun y => fun s => M.of (f s.m x y) s)) :=
  pe_imp (L2.pe_op ho ha hb) fun σ H Q h => bin_imp ok h
end

/-! ### the operators -/
theorem OpOk.or1 {K : Kf} {f : Mem → SV → SV → Option SV} {r r' : R2} (h : OpOk K f r) : OpOk K f (fun x y H Q => r x y H Q ∨ r' x y H Q) :=
  fun σ θ st H0 H x y z u v Q R d e a b q => .inl (h σ θ st H0 H x y z u v Q R d e a b q)
def rAdd (K : Kf) : R2 := fun x y H Q => L2.rI0 (fun i j => .int (i + j)) x y H Q ∨ L2.rCatA K x y H Q ∨ Py2.rCatR x y H Q
def rMul (K : Kf) : R2 := fun x y H Q => L2.rI L2.CMulW (fun i j => .int (i * j)) x y H Q ∨ Py2.rRepA K x y H Q ∨ Py2.rRepR x y H Q
section
variable {X : Cx}
theorem opr_add : OpR X (PySem.binaryOp .Add) (rAdd X.K) := L2.op_add.or (L2.op_catA.or Py2.op_catR)
theorem opr_mul : OpR X (PySem.binaryOp .Mult) (rMul X.K) := L2.op_mulW.or (Py2.op_repA.or Py2.op_repR)
def CDivA (_ j : Int) : Prop := j ≠ 0 ∧ j.natAbs.log2 < 9000
theorem opr_fdiv : OpR X (PySem.binaryOp .FloorDiv) (L2.rI CDivA fun i j => .int (i.fdiv j)) := L2.opI fun i j _ _ _ _ _ hc q => PyProof.Rows.floordiv_int hc.1 q (.inl (PyProof.noPylong_of_log2 hc.2))
end
theorem small_log {i : Int} (h : small i = true) : i.natAbs.log2 < 4000 := PySem.Flt.log2_lt_of (by decide) (of_decide_eq_true h)
theorem items_list {K : Kf} {θ : List Ad} {st : S} {H H0 : Hp} (r : RelM K θ st.m H) {x : SV} {xs : List Val} {u : V} (h : items st.m x = some xs) (hb : isTup x = false) (q : RX K θ H0 H x u) : ∃ a vs, u = .ref a ∧ Rd H a (.lst vs) ∧ RVs K θ H xs vs := by
  obtain ⟨a, vs, e, s, t⟩ := items_rel r h q
  rw [hb] at s
  exact ⟨a, vs, e, s, t⟩
theorem ok_ints {K : Kf} {f : Mem → SV → SV → Option SV} {C : Int → Int → Prop} {g : Int → Int → Int} {i j : Int} {σ : Sg} {θ : List Ad} {st : S} {H0 H : Hp} {u v : V} {Q : VK} (R : Rel K θ st σ H) (hc : C i j)
    (a : RX K θ H0 H (.val (.int i)) u) (b : RX K θ H0 H (.val (.int j)) v) (q : ∀ w H', Post K σ θ st H θ st H' → RX K θ H0 H' (.val (.int (g i j))) w → Q w H') : L2.rI C (fun i j => .int (g i j)) u v H Q :=
  ⟨i, j, rx_int a, rx_int b, hc, q _ _ (.refl R) rx_mkint⟩
theorem isTup_of {x : SV} (h : isTup x = true) : ∃ xs, x = .val (.tup xs) := by
  unfold isTup at h
  split at h
  · exact ⟨_, rfl⟩
  · cases h
theorem tupl_of {xs : List Val} {z : SV} (h : tupl xs = some z) : xs.length ≤ PySem.sizeLine ∧ z = .val (.tup xs) := by
  unfold tupl at h
  split at h
  · rename_i hf
    cases h
    exact ⟨fits_of hf, rfl⟩
  · cases h
theorem ownl_of {xs : List Val} {z : SV} (h : ownl xs = some z) : xs.length ≤ PySem.sizeLine ∧ z = .own xs := by
  unfold ownl at h
  split at h
  · rename_i hf
    cases h
    exact ⟨fits_of hf, rfl⟩
  · cases h
theorem RVs.emp {K : Kf} {θ : List Ad} {H : Hp} {xs : List Val} {vs : List V} (r : RVs K θ H xs vs) : vs = [] ↔ xs = [] := by
  have := r.length
  constructor
  · intro h; rw [h] at this; exact List.eq_nil_of_length_eq_zero this.symm
  · intro h; rw [h] at this; exact List.eq_nil_of_length_eq_zero this
theorem RVs.rep {K : Kf} {θ : List Ad} {H : Hp} {xs : List Val} {vs : List V} (r : RVs K θ H xs vs) : ∀ n : Nat, RVs K θ H (List.replicate n xs).flatten (List.replicate n vs).flatten
  | 0 => RVs.nil
  | n + 1 => by
    rw [List.replicate_succ, List.replicate_succ, List.flatten_cons, List.flatten_cons]
    exact r.append (RVs.rep r n)
/-- two tuples of the same items are told alike -/
theorem rx_tup {K : Kf} {θ : List Ad} {H H0 : Hp} {xs : List Val} {vs : List V} {a : Ad} (h : SqT K H a vs) (r : RVs K θ H xs vs) : RX K θ H0 H (.val (.tup xs)) (.ref a) := by
  unfold RX
  unfold RV
  exact ⟨a, vs, rfl, h, r⟩
theorem ok_add {K : Kf} : OpOk K (fun m a b => binAdd m a b) (rAdd K) := by
  intro σ θ st H0 H x y z u v Q R d e a b q
  replace e : binAdd st.m x y = some z := e
  unfold binAdd at e
  split at e
  · cases e
    exact .inl ⟨_, _, rx_int a, rx_int b, q _ _ (.refl R) rx_mkint⟩
  · split at e
    · rename_i xs ys e1 e2
      obtain ⟨p1, us, rfl, s1, r1⟩ := items_rel R.m e1 a
      obtain ⟨p2, ws, rfl, s2, r2⟩ := items_rel R.m e2 b
      by_cases t1 : isTup x = true
      · rw [if_pos t1] at e
        by_cases t2 : isTup y = true
        · rw [if_pos t2] at e
          obtain ⟨hz, rfl⟩ := tupl_of e
          unfold Sq at s1 s2
          rw [if_pos t1] at s1
          rw [if_pos t2] at s2
          refine .inr (.inl ⟨p1, p2, us, ws, rfl, rfl, s1, s2, ?_, fun h => ?_, fun h h2 => ?_, fun _ _ p n => ?_⟩)
          · rw [r1.length, r2.length, ← List.length_append]; exact hz
          · have e1 := r1.emp.mp h
            subst e1
            exact q _ _ (.refl R) (rx_tup s2 r2)
          · have e1 := r2.emp.mp h2
            subst e1
            rw [List.append_nil] at q
            exact q _ _ (.refl R) (rx_tup s1 r1)
          · exact q _ _ (.new R n) (new_tup R n (r1.append r2))
        · rw [if_neg t2] at e; cases e
      · rw [if_neg t1] at e
        by_cases t2 : isTup y = true
        · rw [if_pos t2] at e; cases e
        · rw [if_neg t2] at e
          obtain ⟨hz, rfl⟩ := ownl_of e
          unfold Sq at s1 s2
          rw [if_neg t1] at s1
          rw [if_neg t2] at s2
          refine .inr (.inr ⟨p1, p2, us, ws, rfl, rfl, s1, s2, ?_, fun p n => ?_⟩)
          · rw [r1.length, r2.length, ← List.length_append]; exact hz
          · exact q _ _ (.new R n) (new_own R d n (r1.append r2))
    · cases e
theorem ok_sub {K : Kf} : OpOk K (fun _ a b => binSub a b) (L2.rI0 fun i j => .int (i - j)) := by
  intro σ θ st H0 H x y z u v Q R d e a b q
  replace e : binSub x y = some z := e
  unfold binSub at e
  split at e
  · cases e
    exact ⟨_, _, rx_int a, rx_int b, q _ _ (.refl R) rx_mkint⟩
  · cases e
theorem ok_div {K : Kf} : OpOk K (fun _ a b => binDiv a b) (L2.rI CDivA fun i j => .int (i.fdiv j)) := by
  intro σ θ st H0 H x y z u v Q R d e a b q
  replace e : binDiv x y = some z := e
  unfold binDiv at e
  split at e
  · split at e
    · rename_i hc
      rw [Bool.and_eq_true] at hc
      cases e
      exact ⟨_, _, rx_int a, rx_int b, ⟨by simpa using hc.1, Nat.lt_of_lt_of_le (small_log hc.2) (by decide)⟩, q _ _ (.refl R) rx_mkint⟩
    · cases e
  · cases e
theorem ok_mod {K : Kf} : OpOk K (fun _ a b => binMod a b) (L2.rI (fun _ j => j ≠ 0) fun i j => .int (i.fmod j)) := by
  intro σ θ st H0 H x y z u v Q R d e a b q
  replace e : binMod x y = some z := e
  unfold binMod at e
  split at e
  · split at e
    · rename_i hc
      cases e
      exact ⟨_, _, rx_int a, rx_int b, by simpa using hc, q _ _ (.refl R) rx_mkint⟩
    · cases e
  · cases e
theorem rOk_of {j : Int} (h : rOk j = true) : -(2 ^ 62) ≤ j ∧ j < 2 ^ 62 := of_decide_eq_true h
theorem len_rep {α : Type} (n : Nat) (xs : List α) : (List.replicate n xs).flatten.length = xs.length * n := by
  rw [PyProof.Rows.lm_len_rep_flat, Nat.mul_comm]
theorem ok_mul {K : Kf} : OpOk K (fun m a b => binMul m a b) (rMul K) := by
  intro σ θ st H0 H x y z u v Q R d e a b q
  replace e : binMul st.m x y = some z := e
  unfold binMul at e
  split at e
  · split at e
    · rename_i hc
      rw [Bool.and_eq_true] at hc
      cases e
      refine .inl ⟨_, _, rx_int a, rx_int b, ?_, q _ _ (.refl R) rx_mkint⟩
      have h1 := small_log hc.1
      have h2 := small_log hc.2
      unfold L2.CMulW
      omega
    · cases e
  · split at e
    · rename_i j _ _ xs e1
      split at e
      · rename_i hr
        obtain ⟨h1, h2⟩ := rOk_of hr
        obtain ⟨p1, us, rfl, s1, r1⟩ := items_rel R.m e1 a
        obtain rfl := rx_int b
        split at e
        · rename_i t1
          obtain ⟨hz, rfl⟩ := tupl_of e
          unfold Sq at s1
          rw [if_pos t1] at s1
          rw [len_rep] at hz
          refine .inr (.inl ⟨p1, _, us, rfl, rfl, s1, h1, h2, by rw [r1.length]; exact hz, fun h => ?_, fun _ _ p n => q _ _ (.new R n) (new_tup R n (r1.rep _))⟩)
          have e2 : (List.replicate j.toNat xs).flatten = xs := by
            rcases h with h | h
            · rw [r1.emp.mp h, Py2.flat0]
            · rw [h]
              show xs ++ [] = xs
              exact List.append_nil xs
          rw [e2] at q
          exact q _ _ (.refl R) (rx_tup s1 r1)
        · rename_i t1
          obtain ⟨hz, rfl⟩ := ownl_of e
          unfold Sq at s1
          rw [if_neg t1] at s1
          rw [len_rep] at hz
          exact .inr (.inr ⟨p1, _, us, rfl, rfl, s1, by omega, by omega, by rw [r1.length]; exact hz, fun p n => q _ _ (.new R n) (new_own R d n (r1.rep _))⟩)
      · cases e
    · cases e
  · cases e
section
variable {X : Cx} {W : WE} {fa fb : M SV} {a b : Expr} {pos : Pos} {bo : BO}
/-- how an operator's name is written -/
def boOp : BO → Operator
  | .add => .Add
  | .sub => .Sub
  | .mul => .Mult
  | .fdiv => .FloorDiv
  | .mod => .Mod
theorem e_bo (o : BO) (ha : PE X a (tE X.K W fa)) (hb : PE X b (tE X.K W fb)) : PE X (.BinOp a (boOp o) b pos) (tE X.K W (M.bind fa fun x => M.bind fb fun y => fun s => M.of (binop s.m o x y) s)) := by
  cases o with
  | add => exact e_bin opr_add ok_add ha hb
  | sub => exact e_bin L2.op_sub ok_sub ha hb
  | mul => exact e_bin opr_mul ok_mul ha hb
  | fdiv => exact e_bin opr_fdiv ok_div ha hb
  | mod => exact e_bin L2.op_modN ok_mod ha hb
end
end Py
end

section
set_option autoImplicit false
set_option linter.all false
set_option Elab.async false
set_option maxRecDepth 100000
set_option maxHeartbeats 4000000
/-! Expressions, on: names, displays, locking. -/
namespace Py
open L2 (V Hp HO SqL SqT Rd upd upd_same upd_ne ne_of ne_of_none Cx PE PT PA TE TT TA VK R2 OpR tOp)
open PySem (Expr Pos Operator)
section
variable {K : Kf} {θ θ0 θ' : List Ad} {st st0 st' : S} {σ : Sg} {H H0 H' : Hp} {a : Ad} {vs : List V} {xs : List Val} {o : PySem.Obj}
/-- a list is locked -/
theorem lock_keep (h : H a = some (.lst vs)) : Keep1 θ (fun b => b = a) H (upd H a (.frz o (.lst vs))) :=
  ⟨fun b ys q => by rw [upd_ne (ne_of q h (by intro z; cases z))]; exact q, fun b p u q => by rw [upd_ne (ne_of q h (by intro z; cases z))]; exact q, fun b q => by
    by_cases e : b = a
    · rw [e, upd_same] at q; cases q
    · rw [upd_ne e] at q; exact q, fun b ys _ hb q => by rw [upd_ne hb]; exact q⟩
theorem lock_relM {m : Mem} (r : RelM K θ m H) (h : H a = some (.lst vs)) (ha : a ∉ θ) : RelM K θ m (upd H a (.frz o (.lst vs))) := by
  refine ⟨r.len, r.nd, fun n ys q => ?_⟩
  obtain ⟨b, us, h1, h2, h3⟩ := r.at_ n ys q
  have hb : b ≠ a := fun z => ha (z ▸ List.mem_of_getElem? h1)
  exact ⟨b, us, h1, by rw [upd_ne hb]; exact h2, RVs.mono (lock_keep h) _ _ h3⟩
theorem Post.lockNew (R0 : Rel K θ0 st0 σ H0) (p : Post K σ θ0 st0 H0 θ st H) (h : H a = some (.lst vs)) (hn : H0 a = none) (ha : a ∉ θ) : Post K σ θ0 st0 H0 θ st (upd H a (.frz o (.lst vs))) := by
  have k := lock_keep (θ := θ) (o := o) h
  have nown : ∀ b, Own st σ b → b ≠ a := fun b ⟨i, z⟩ e => by
    obtain ⟨us, q, _⟩ := Own.tracked R0 ⟨i, p.ownM z⟩
    rw [e, hn] at q; cases q
  refine ⟨⟨fun b ys q => k.tup b ys (p.keep.tup b ys q), fun b o u q => k.frz b o u (p.keep.frz b o u q), fun b q => p.keep.dom b (k.dom b q), fun b ys hb q => ?_⟩, p.grow, p.own, ⟨⟨p.rel.e.len, fun i sv q => ?_, p.rel.e.one⟩, lock_relM p.rel.m h ha⟩⟩
  · have ne : b ≠ a := fun e => by rw [e, hn] at q; cases q
    rw [upd_ne ne]
    exact p.keep.lst b ys hb q
  · obtain ⟨v, h1, h2⟩ := p.rel.e.at_ i sv q
    refine ⟨v, h1, ?_⟩
    cases sv with
    | val x => exact RV.mono k _ _ h2
    | own ys =>
      obtain ⟨b, us, e, h3, h4, h5⟩ := h2
      refine ⟨b, us, e, ?_, RVs.mono k _ _ h4, h5⟩
      rw [upd_ne (nown b ⟨i, ys, q, by rw [h1, e]⟩)]
      exact h3
    | pk ys => exact h2.elim
/-- a slot's own list is locked: the slot shares it from now on -/
theorem Post.lockSlot {i : Nat} (R : Rel K θ st σ H) (hi : st.e[i]? = some (some (.own xs))) (hs : σ[i]? = some (some (.ref a))) (h : H a = some (.lst vs)) (hr : RVs K θ H xs vs) (ha : a ∉ θ) :
    Post K σ θ st H θ { st with e := st.e.set i (some (.val (.lst xs))) } (upd H a (.frz o (.lst vs))) := by
  have k := lock_keep (θ := θ) (o := o) h
  have hil : i < st.e.length := (List.getElem?_eq_some_iff.mp hi).1
  have look : ∀ j sv, (st.e.set i (some (.val (.lst xs))))[j]? = some (some sv) → (j = i ∧ sv = .val (.lst xs)) ∨ (j ≠ i ∧ st.e[j]? = some (some sv)) := fun j sv q => by
    by_cases e : j = i
    · subst e
      rw [List.getElem?_set_self hil] at q
      cases q
      exact .inl ⟨rfl, rfl⟩
    · rw [List.getElem?_set_ne (Ne.symm e)] at q
      exact .inr ⟨e, q⟩
  have own' : ∀ j ys, (st.e.set i (some (.val (.lst xs))))[j]? = some (some (.own ys)) → j ≠ i ∧ st.e[j]? = some (some (.own ys)) := fun j ys q => by
    rcases look j _ q with ⟨_, z⟩ | z
    · cases z
    · exact z
  refine ⟨⟨k.tup, k.frz, k.dom, fun b ys hb q => ?_⟩, .refl, fun j ys q => (own' j ys q).2, ⟨⟨by simpa using R.e.len, fun j sv q => ?_, fun j1 j2 b q1 q2 => ?_⟩, lock_relM R.m h ha⟩⟩
  · by_cases e : b = a
    · subst e
      rw [h] at q
      cases q
      exact .inr ⟨⟨i, xs, hi, hs⟩, o, upd_same⟩
    · exact .inl (by rw [upd_ne e]; exact q)
  · rcases look j sv q with ⟨rfl, rfl⟩ | ⟨hj, q⟩
    · refine ⟨.ref a, hs, ?_⟩
      show RV K θ (upd H a (.frz o (.lst vs))) (.lst xs) (.ref a)
      unfold RV
      exact ⟨a, vs, rfl, ⟨o, upd_same⟩, RVs.mono k _ _ hr⟩
    · obtain ⟨v, h1, h2⟩ := R.e.at_ j sv q
      refine ⟨v, h1, ?_⟩
      cases sv with
      | val x => exact RV.mono k _ _ h2
      | own ys =>
        obtain ⟨b, us, e, h3, h4, h5⟩ := h2
        refine ⟨b, us, e, ?_, RVs.mono k _ _ h4, h5⟩
        have hb : b ≠ a := fun z => hj (R.e.one j i a ⟨ys, q, by rw [h1, e, z]⟩ ⟨xs, hi, hs⟩)
        rw [upd_ne hb]
        exact h3
      | pk ys => exact h2.elim
  · obtain ⟨ys, q1, s1⟩ := q1
    obtain ⟨zs, q2, s2⟩ := q2
    exact R.e.one j1 j2 b ⟨ys, (own' _ _ q1).2, s1⟩ ⟨zs, (own' _ _ q2).2, s2⟩
end

def tFrz (t : TE) : TE := fun σ H Q => t σ H fun v H1 => Q v H1 ∨ ∃ a vs, v = .ref a ∧ H1 a = some (.lst vs) ∧ ∀ o, Q v (upd H1 a (.frz o (.lst vs)))
/-- what is yielded may be locked at once -/
theorem pe_frz {X : Cx} {e : Expr} {t : TE} (h : PE X e t) : PE X e (tFrz t) := by
  refine ⟨fun pins s σ H Q I hw => ?_⟩
  refine L2.thn (h.run pins s σ H _ I hw) fun v s1 ⟨x, H1, I1, r, q⟩ => ?_
  rcases q with q | ⟨a, vs, e, h1, q⟩
  · exact ⟨x, H1, I1, r, q⟩
  · obtain ⟨od, I2⟩ := I1.lock h1 trivial
    exact ⟨x, _, I2, r, q od⟩
/-- a value -/
def tV (K : Kf) (W : WE) (f : M Val) : TE := fun σ H Q => ∃ θ st, Rel K θ st σ H ∧ wpO (f st) (we K W σ θ st H) fun x st' => ∀ v θ' H', Post K σ θ st H θ' st' H' → RV K θ' H' x v → Q v H'
section
variable {X : Cx} {W : WE} {f : M SV} {e : Expr} {pos : Pos}
theorem e_asV (h : PE X e (tE X.K W f)) : PE X e (tV X.K W (M.bind f asV)) := by
  refine pe_imp (pe_frz h) fun σ H Q hq => ?_
  obtain ⟨θ, st, R, h⟩ := hq
  refine ⟨θ, st, R, h.bind.mono (fun _ _ z => z) fun sv s1 h1 v θ1 H1 p1 x1 => ?_⟩
  obtain ⟨y, e1, h2⟩ := h1.of
  cases sv with
  | val x =>
    cases e1
    exact .inl (h2 v θ1 H1 p1 x1)
  | own xs =>
    cases e1
    obtain ⟨a, vs, rfl, h3, h4, h5, h6⟩ := x1
    refine .inr ⟨a, vs, rfl, h3, fun o => h2 _ θ1 _ (p1.lockNew R h3 h6 h5) ?_⟩
    unfold RV
    exact ⟨a, vs, rfl, ⟨o, upd_same⟩, RVs.mono (lock_keep h3) _ _ h4⟩
  | pk xs => cases e1
theorem e_slot {i : Nat} {x : PySem.Str} (t : Bool) (hN : X.N[i]? = some x) (hv : L2.Vis X.env.scope x) (hd : (x == ("__debug__" : PySem.Str)) = false) (hcd : (x == ("__classdict__" : PySem.Str)) = false) : PE X (.Name x pos) (tE X.K W (slot i t)) := by
  refine pe_imp (pe_frz (L2.pe_var hN hv hd hcd)) fun σ H Q hq => ?_
  obtain ⟨θ, st, R, h⟩ := hq
  unfold slot at h
  unfold wpO at h
  cases e : st.e[i]? with
  | none => rw [e] at h; exact h.elim
  | some o =>
    rw [e] at h
    cases o with
    | none => exact h.elim
    | some sv =>
      obtain ⟨v, h1, h2⟩ := R.e.at_ i sv e
      refine ⟨v, h1, ?_⟩
      cases sv with
      | val y => exact .inl (h v θ H (.refl R) h2)
      | own xs =>
        obtain ⟨a, vs, rfl, h3, h4, h5⟩ := h2
        cases t with
        | false => exact .inl (h _ θ H (.refl R) ⟨a, vs, rfl, .inl h3, h4, h5⟩)
        | true =>
          refine .inr ⟨a, vs, rfl, h3, fun o => h _ θ _ (Post.lockSlot R e h1 h3 h4 h5) ?_⟩
          show RV _ _ _ (.lst xs) (.ref a)
          unfold RV
          exact ⟨a, vs, rfl, ⟨o, upd_same⟩, RVs.mono (lock_keep h3) _ _ h4⟩
      | pk xs => exact h2.elim
/-- a value that stands still: a constant -/
theorem e_c {x : Val} {v : V} (h : PE X e (L2.tC v)) (hr : ∀ θ H, RV X.K θ H x v) : PE X e (tE X.K W (M.pure (.val x))) := by
  refine pe_imp h fun σ H Q hq => ?_
  obtain ⟨θ, st, R, h⟩ := hq
  exact h.pure v θ H (.refl R) (hr θ H)
/-- arguments, from the left -/
theorem a_nil : PA X [] (tA X.K W (M.pure [])) := pa_imp L2.pa_nil fun σ H Q hq => by
  obtain ⟨θ, st, R, h⟩ := hq
  exact h.pure [] θ H (.refl R) RVs.nil
theorem a_cons {es : List Expr} {g : M Val} {r : M (List Val)} (h1 : PE X e (tV X.K W g)) (h2 : PA X es (tA X.K W r)) (hs : PySem.starEach (e :: es) X.env = (false, PySem.eval e X.env) :: PySem.starEach es X.env) :
    PA X (e :: es) (tA X.K W (M.bind g fun v => M.bind r fun vs => M.pure (v :: vs))) := by
  refine pa_imp (L2.pa_cons h1 h2 hs) fun σ H Q hq => ?_
  obtain ⟨θ, st, R, h⟩ := hq
  refine ⟨θ, st, R, h.bind.mono (fun _ _ z => z) fun x s1 h1 v θ1 H1 p1 x1 => ?_⟩
  refine ⟨θ1, s1, p1.rel, h1.bind.mono (fun _ _ z => z.later p1) fun xs s2 h2 vs θ2 H2 p2 x2 => ?_⟩
  exact h2.pure _ θ2 H2 (p1.trans p2) (RVs.cons (RV.pre p2.grow.pre _ _ (RV.mono p2.keep.to1 _ _ x1)) x2)
theorem e_tup {es : List Expr} {g : M (List Val)} {k : Nat} (h : PA X es (tA X.K W g)) : PE X (.Tuple es k pos) (tE X.K W (M.bind g fun vs => M.of (tupl vs))) := by
  refine pe_imp (L2.pe_tup h) fun σ H Q hq => ?_
  obtain ⟨θ, st, R, h⟩ := hq
  refine ⟨θ, st, R, h.bind.mono (fun _ _ z => z) fun xs s1 h1 vs θ1 H1 p1 x1 => ?_⟩
  obtain ⟨z, e, h2⟩ := h1.of
  obtain ⟨hz, rfl⟩ := tupl_of e
  exact ⟨by rw [x1.length]; exact hz, fun p n => h2 _ θ1 _ (p1.trans (.new p1.rel n)) (new_tup p1.rel n x1)⟩
theorem e_lst {es : List Expr} {g : M (List Val)} (h : PA X es (tA X.K W g)) : PE X (.List es pos) (tE X.K W (M.bind g fun vs => M.of (ownl vs))) := by
  refine pe_imp (L2.pe_lst h) fun σ H Q hq => ?_
  obtain ⟨θ, st, R, h⟩ := hq
  refine ⟨θ, st, R, h.bind.mono (fun _ _ z => z) fun xs s1 h1 vs θ1 H1 p1 x1 => ?_⟩
  obtain ⟨z, e, h2⟩ := h1.of
  obtain ⟨hz, rfl⟩ := ownl_of e
  exact ⟨by rw [x1.length]; exact hz, fun p n => h2 _ θ1 _ (p1.trans (.new p1.rel n)) (new_own p1.rel p1.keep.dom n x1)⟩
end
end Py
end

section
set_option autoImplicit false
set_option linter.all false
set_option Elab.async false
set_option maxRecDepth 100000
set_option maxHeartbeats 4000000
/-! Comparisons, tests. -/
namespace Py
open L2 (V Hp HO SqL SqT Rd upd upd_same upd_ne ne_of ne_of_none Cx PE PT PA TE TT TA VK R2 OpR tOp Dp DpAll)
open PySem (Expr Pos Operator PyData CmpOp)
mutual
/-- as the library's data -/
def toD : Val → PyData
  | .non => .none
  | .bl b => .bool b
  | .int i => .int i
  | .str s => .str s
  | .tup xs => .tuple (toDs xs)
  | .lst xs => .list (toDs xs)
  | .loc _ => .dict []
  | .scr _ => .dict []
def toDs : List Val → List PyData
  | [] => []
  | x :: xs => toD x :: toDs xs
end
mutual
theorem eqv_toD : ∀ x y : Val, PyData.eqv (toD x) (toD y) = eqv x y
  | .non, y => by cases y <;> rfl
  | .bl b, y => by cases y <;> rfl
  | .int i, y => by cases y <;> rfl
  | .str s, y => by cases y <;> rfl
  | .loc n, y => by cases y <;> rfl
  | .scr n, y => by cases y <;> rfl
  | .tup xs, y => by
    cases y with
    | tup ys => exact eqvL_toD xs ys
    | _ => rfl
  | .lst xs, y => by
    cases y with
    | lst ys => exact eqvL_toD xs ys
    | _ => rfl
theorem eqvL_toD : ∀ xs ys : List Val, PyData.eqvAll (toDs xs) (toDs ys) = eqvL xs ys
  | [], [] => rfl
  | [], _ :: _ => rfl
  | _ :: _, [] => rfl
  | x :: xs, y :: ys => by
    show (PyData.eqv (toD x) (toD y) && PyData.eqvAll (toDs xs) (toDs ys)) = (eqv x y && eqvL xs ys)
    rw [eqv_toD x y, eqvL_toD xs ys]
end
theorem sOk_strOk {s : Str} (h : sOk s = true) : PySem.PyData.strOk s = true := by
  unfold sOk at h
  unfold PySem.PyData.strOk
  rw [Array.all_eq_true] at h ⊢
  intro i hi
  have := of_decide_eq_true (h i hi)
  exact decide_eq_true (by omega)
theorem canLay_all {n : Nat} (f : ∀ x : Val, x.flat n = true → (toD x).canLay0 = true ∧ (toD x).depth ≤ n) : ∀ xs : List Val, (xs.all fun x => x.flat n) = true → PyData.canLayAll0 (toDs xs) = true ∧ PyData.depthAll (toDs xs) ≤ n
  | [], _ => ⟨rfl, Nat.zero_le _⟩
  | x :: xs, h => by
    rw [List.all_cons, Bool.and_eq_true] at h
    obtain ⟨h1, h2⟩ := f x h.1
    obtain ⟨h3, h4⟩ := canLay_all f xs h.2
    refine ⟨?_, ?_⟩
    · show (PyData.canLay0 (toD x) && PyData.canLayAll0 (toDs xs)) = true
      rw [h1, h3]; rfl
    · show max (PyData.depth (toD x)) (PyData.depthAll (toDs xs)) ≤ n
      omega
theorem canLay_flat : ∀ (n : Nat) (x : Val), x.flat n = true → (toD x).canLay0 = true ∧ (toD x).depth ≤ n
  | 0, x, h => by
    cases x with
    | str s => exact ⟨sOk_strOk (by unfold Val.flat at h; exact h), Nat.zero_le _⟩
    | tup xs => unfold Val.flat at h; cases h
    | lst xs => unfold Val.flat at h; cases h
    | loc i => unfold Val.flat at h; cases h
    | scr i => unfold Val.flat at h; cases h
    | _ => exact ⟨rfl, Nat.zero_le _⟩
  | n + 1, x, h => by
    cases x with
    | str s => exact ⟨sOk_strOk (by unfold Val.flat at h; exact h), Nat.zero_le _⟩
    | tup xs =>
      unfold Val.flat at h
      obtain ⟨h1, h2⟩ := canLay_all (canLay_flat n) xs h
      exact ⟨h1, by show PyData.depthAll (toDs xs) + 1 ≤ n + 1; omega⟩
    | lst xs =>
      unfold Val.flat at h
      obtain ⟨h1, h2⟩ := canLay_all (canLay_flat n) xs h
      exact ⟨h1, by show PyData.depthAll (toDs xs) + 1 ≤ n + 1; omega⟩
    | loc i => unfold Val.flat at h; cases h
    | scr i => unfold Val.flat at h; cases h
    | _ => exact ⟨rfl, Nat.zero_le _⟩
theorem shaped_pure {x : Val} (h : x.pure = true) : PySem.SeqAt.shaped (toD x) = true := by
  obtain ⟨h1, h2⟩ := canLay_flat 20 x h
  unfold PySem.SeqAt.shaped
  rw [h1, decide_eq_true (by omega)]; rfl
theorem pure_lst {xs : List Val} (h : pureL xs = true) : (Val.lst xs).pure = true := by unfold Val.pure Val.flat; exact h
theorem pure_tup {xs : List Val} (h : pureL xs = true) : (Val.tup xs).pure = true := by unfold Val.pure Val.flat; exact h
section
variable {K : Kf} {θ : List Ad} {H H0 : Hp}
theorem dps {n : Nat} (f : ∀ (x : Val) (u : V), x.flat n = true → RV K θ H x u → Dp K H u (toD x)) : ∀ (xs : List Val) (us : List V), (xs.all fun x => x.flat n) = true → RVs K θ H xs us → DpAll K H us (toDs xs)
  | [], us, _, h => by unfold RVs at h; subst h; exact .nil
  | x :: xs, us, p, h => by
    rw [List.all_cons, Bool.and_eq_true] at p
    unfold RVs at h
    obtain ⟨v, r, rfl, h1, h2⟩ := h
    exact .cons (f x v p.1 h1) (dps f xs r p.2 h2)
theorem dp_flat : ∀ (n : Nat) (x : Val) (u : V), x.flat n = true → RV K θ H x u → Dp K H u (toD x)
  | 0, x, u, p, h => by
    unfold RV at h
    cases x with
    | tup xs => unfold Val.flat at p; cases p
    | lst xs => unfold Val.flat at p; cases p
    | loc i => unfold Val.flat at p; cases p
    | scr i => unfold Val.flat at p; cases p
    | non => subst h; exact .non
    | bl b => subst h; exact .bl b
    | int b => subst h; exact .int b
    | str b => subst h; exact .str b
  | n + 1, x, u, p, h => by
    unfold RV at h
    cases x with
    | tup xs =>
      unfold Val.flat at p
      obtain ⟨a, vs, rfl, h1, h2⟩ := h
      exact .tup h1 (dps (dp_flat n) xs vs p h2)
    | lst xs =>
      unfold Val.flat at p
      obtain ⟨a, vs, rfl, h1, h2⟩ := h
      exact .lst (.inl h1.rd) (dps (dp_flat n) xs vs p h2)
    | loc i => unfold Val.flat at p; cases p
    | scr i => unfold Val.flat at p; cases p
    | non => subst h; exact .non
    | bl b => subst h; exact .bl b
    | int b => subst h; exact .int b
    | str b => subst h; exact .str b
theorem tree_dp {st : S} (r : RelM K θ st.m H) {x : SV} {y : Val} {u : V} (h : tree st.m x = some y) (p : y.pure = true) (q : RX K θ H0 H x u) : Dp K H u (toD y) := by
  have ls : ∀ xs : List Val, y = .lst xs → items st.m x = some xs → isTup x = false → Dp K H u (toD y) := fun xs e hi ht => by
    subst e
    obtain ⟨a, vs, rfl, s, t⟩ := items_rel r hi q
    rw [ht] at s
    unfold Val.pure Val.flat at p
    exact .lst (.inl s) (dps (dp_flat 19) xs vs p t)
  cases x with
  | own xs => cases h; exact ls xs rfl rfl rfl
  | pk xs => cases h; exact ls xs rfl rfl rfl
  | val v =>
    cases v with
    | loc n =>
      have h : (st.m[n]?).map Val.lst = some y := h
      cases e : st.m[n]? with
      | none => rw [e] at h; cases h
      | some xs => rw [e] at h; cases h; exact ls xs rfl e rfl
    | _ => cases h; exact dp_flat (θ := θ) 20 _ u p q
theorem items_dp {st : S} (r : RelM K θ st.m H) {x : SV} {xs : List Val} {u : V} (h : items st.m x = some xs) (p : pureL xs = true) (q : RX K θ H0 H x u) : Dp K H u (if isTup x = true then .tuple (toDs xs) else .list (toDs xs)) := by
  obtain ⟨a, vs, rfl, s, t⟩ := items_rel r h q
  have d := dps (dp_flat 19) xs vs p t
  unfold Sq at s
  by_cases ht : isTup x = true
  · rw [if_pos ht] at s ⊢
    exact .tup s d
  · rw [if_neg ht] at s ⊢
    exact .lst (.inl s) d
end
/-- in, not in: of a list or of a tuple of data -/
def rInA (K : Kf) (neg : Bool) : R2 := fun x y H Q => ∃ (d : PyData) (ds : List PyData), Dp K H x d ∧ (Dp K H y (.list ds) ∨ Dp K H y (.tuple ds)) ∧ PySem.SeqAt.shaped d = true ∧ PySem.SeqAt.shaped (.list ds) = true ∧ Q (.bl (if neg then !(ds.any fun z => PyData.eqv z d) else ds.any fun z => PyData.eqv z d)) H
theorem op_inA {X : Cx} (hu : X.A.units + 65 < PySem.cLine) : OpR X (PySem.compareOp .In) (rInA X.K false) := by
  intro pins s σ H x y v u Q I rx ry h
  obtain ⟨d, ds, hd, he, sd, se, q⟩ := h
  obtain ⟨as, r1⟩ := Dp.reads I d x v hd rx
  rcases he with he | he
  · obtain ⟨bs, r2⟩ := Dp.reads I (.list ds) y u he ry
    exact PySem.SeqAt.in_list_reads r2 r1 (PySem.SeqAt.canLay_of_shaped se) (PySem.SeqAt.canLay_of_shaped sd) (PyProof.Rows.room_in_shaped sd hu) ⟨.bl _, H, I, rfl, q⟩
  · obtain ⟨bs, r2⟩ := Dp.reads I (.tuple ds) y u he ry
    exact PySem.SeqAt.in_tuple_reads r2 r1 (PySem.SeqAt.canLay_of_shaped se) (PySem.SeqAt.canLay_of_shaped sd) (PyProof.Rows.room_in_shaped sd hu) ⟨.bl _, H, I, rfl, q⟩
theorem op_ninA {X : Cx} (hu : X.A.units + 65 < PySem.cLine) : OpR X (PySem.compareOp .NotIn) (rInA X.K true) := by
  intro pins s σ H x y v u Q I rx ry h
  obtain ⟨d, ds, hd, he, sd, se, q⟩ := h
  obtain ⟨as, r1⟩ := Dp.reads I d x v hd rx
  rcases he with he | he
  · obtain ⟨bs, r2⟩ := Dp.reads I (.list ds) y u he ry
    exact PySem.SeqAt.notIn_list_reads r2 r1 (PySem.SeqAt.canLay_of_shaped se) (PySem.SeqAt.canLay_of_shaped sd) (PyProof.Rows.room_in_shaped sd hu) ⟨.bl _, H, I, rfl, q⟩
  · obtain ⟨bs, r2⟩ := Dp.reads I (.tuple ds) y u he ry
    exact PySem.SeqAt.notIn_tuple_reads r2 r1 (PySem.SeqAt.canLay_of_shaped se) (PySem.SeqAt.canLay_of_shaped sd) (PyProof.Rows.room_in_shaped sd hu) ⟨.bl _, H, I, rfl, q⟩
def coOp : CO → CmpOp
  | .lt => .Lt | .le => .LtE | .gt => .Gt | .ge => .GtE | .eq => .Eq | .ne => .NotEq | .is => .Is | .isnot => .IsNot | .isin => .In | .notin => .NotIn
def rCo (K : Kf) : CO → R2
  | .lt => L2.rI0 fun i j => .bl (decide (i < j))
  | .le => L2.rI0 fun i j => .bl (decide (i ≤ j))
  | .gt => L2.rI0 fun i j => .bl (decide (j < i))
  | .ge => L2.rI0 fun i j => .bl (decide (j ≤ i))
  | .eq => L2.rEqD K
  | .ne => L2.rNeD K
  | .is => fun x y H Q => y = .non ∧ Q (.bl (decide (x = .non))) H
  | .isnot => fun x y H Q => y = .non ∧ Q (.bl (!decide (x = .non))) H
  | .isin => rInA K false
  | .notin => rInA K true
theorem opr_co {X : Cx} (hu : X.A.units + 65 < PySem.cLine) : ∀ o : CO, OpR X (PySem.compareOp (coOp o)) (rCo X.K o)
  | .lt => L2.op_lt
  | .le => L2.op_le
  | .gt => L2.op_gt
  | .ge => L2.op_ge
  | .eq => L2.op_eqD (by omega)
  | .ne => L2.op_neD (by omega)
  | .is => L2.op_isN
  | .isnot => L2.op_notN
  | .isin => op_inA hu
  | .notin => op_ninA hu
theorem any_toDs (x : Val) : ∀ ys : List Val, ((toDs ys).any fun z => PyData.eqv z (toD x)) = ys.any fun y => eqv y x
  | [] => rfl
  | y :: ys => by
    show (PyData.eqv (toD y) (toD x) || (toDs ys).any fun z => PyData.eqv z (toD x)) = (eqv y x || ys.any fun y => eqv y x)
    rw [eqv_toD, any_toDs x ys]
section
variable {K : Kf} {σ : Sg} {θ : List Ad} {st : S} {H0 H : Hp} {x y : SV} {b : Bool} {u v : V} {Q : VK}
theorem rx_none_iff (a : RX K θ H0 H x u) : decide (u = .non) = isNon x := by
  cases x with
  | own xs => obtain ⟨p, vs, rfl, _⟩ := a; rfl
  | pk xs => obtain ⟨p, vs, rfl, _⟩ := a; rfl
  | val z =>
    unfold RX at a
    unfold RV at a
    cases z with
    | non => subst a; rfl
    | bl _ => subst a; rfl
    | int _ => subst a; rfl
    | str _ => subst a; rfl
    | tup _ => obtain ⟨p, vs, rfl, _⟩ := a; rfl
    | lst _ => obtain ⟨p, vs, rfl, _⟩ := a; rfl
    | loc _ => obtain ⟨p, rfl, _⟩ := a; rfl
    | scr _ => obtain ⟨p, vs, rfl, _⟩ := a; rfl
theorem isNon_of (h : isNon y = true) : y = .val .non := by
  unfold isNon at h
  split at h
  · rfl
  · cases h
theorem cmpInt_of {f : Int → Int → Bool} (h : cmpInt f x y = some b) : ∃ i j, x = .val (.int i) ∧ y = .val (.int j) ∧ f i j = b := by
  unfold cmpInt at h
  split at h
  · cases h; exact ⟨_, _, rfl, rfl, rfl⟩
  · cases h
theorem eqS_rel (R : Rel K θ st σ H) (e : eqS st.m x y = some b) (a : RX K θ H0 H x u) (c : RX K θ H0 H y v) : ∃ d f, Dp K H u d ∧ Dp K H v f ∧ PySem.SeqAt.shaped d = true ∧ PySem.SeqAt.shaped f = true ∧ PyData.eqv d f = b := by
  unfold eqS at e
  split at e
  · rename_i p q e1 e2
    split at e
    · rename_i hp
      rw [Bool.and_eq_true] at hp
      cases e
      exact ⟨toD p, toD q, tree_dp R.m e1 hp.1 a, tree_dp R.m e2 hp.2 c, shaped_pure hp.1, shaped_pure hp.2, eqv_toD p q⟩
    · cases e
  · cases e
theorem inS_rel (R : Rel K θ st σ H) (e : inS st.m x y = some b) (a : RX K θ H0 H x u) (c : RX K θ H0 H y v) : ∃ (d : PyData) (ds : List PyData), Dp K H u d ∧ (Dp K H v (.list ds) ∨ Dp K H v (.tuple ds)) ∧ PySem.SeqAt.shaped d = true ∧ PySem.SeqAt.shaped (.list ds) = true ∧ (ds.any fun z => PyData.eqv z d) = b := by
  unfold inS at e
  split at e
  · rename_i p q e1 e2
    split at e
    · rename_i hp
      rw [Bool.and_eq_true] at hp
      cases e
      refine ⟨toD p, toDs q, tree_dp R.m e1 hp.1 a, ?_, shaped_pure hp.1, shaped_pure (pure_lst hp.2), any_toDs p q⟩
      have z := items_dp R.m e2 hp.2 c
      split at z
      · exact .inr z
      · exact .inl z
    · cases e
  · cases e
/-- a comparison: the evaluator's answer serves the rule's reading -/
theorem ok_co (R : Rel K θ st σ H) (o : CO) (e : cmpop st.m o x y = some b) (a : RX K θ H0 H x u) (c : RX K θ H0 H y v) (q : Q (.bl b) H) : rCo K o u v H Q := by
  cases o with
  | lt => obtain ⟨i, j, rfl, rfl, rfl⟩ := cmpInt_of (show cmpInt _ x y = some b from e); exact ⟨_, _, rx_int a, rx_int c, q⟩
  | le => obtain ⟨i, j, rfl, rfl, rfl⟩ := cmpInt_of (show cmpInt _ x y = some b from e); exact ⟨_, _, rx_int a, rx_int c, q⟩
  | gt => obtain ⟨i, j, rfl, rfl, rfl⟩ := cmpInt_of (show cmpInt _ x y = some b from e); exact ⟨_, _, rx_int a, rx_int c, q⟩
  | ge => obtain ⟨i, j, rfl, rfl, rfl⟩ := cmpInt_of (show cmpInt _ x y = some b from e); exact ⟨_, _, rx_int a, rx_int c, q⟩
  | eq =>
    have e : eqS st.m x y = some b := e
    obtain ⟨d, f, h1, h2, h3, h4, rfl⟩ := eqS_rel R e a c
    exact ⟨d, f, h1, h2, h3, h4, q⟩
  | ne =>
    have e : (eqS st.m x y).map not = some b := e
    obtain ⟨b', e1, rfl⟩ := Option.map_eq_some_iff.mp e
    obtain ⟨d, f, h1, h2, h3, h4, rfl⟩ := eqS_rel R e1 a c
    exact ⟨d, f, h1, h2, h3, h4, q⟩
  | isin =>
    have e : inS st.m x y = some b := e
    obtain ⟨d, f, h1, h2, h3, h4, rfl⟩ := inS_rel R e a c
    exact ⟨d, f, h1, h2, h3, h4, q⟩
  | notin =>
    have e : (inS st.m x y).map not = some b := e
    obtain ⟨b', e1, rfl⟩ := Option.map_eq_some_iff.mp e
    obtain ⟨d, f, h1, h2, h3, h4, rfl⟩ := inS_rel R e1 a c
    exact ⟨d, f, h1, h2, h3, h4, q⟩
  | is =>
    replace e : (if isNon y = true then some (isNon x) else none) = some b := e
    split at e
    · rename_i h
      cases e
      rw [isNon_of h] at c
      exact ⟨rx_non c, by rw [rx_none_iff a]; exact q⟩
    · cases e
  | isnot =>
    replace e : (if isNon y = true then some (!isNon x) else none) = some b := e
    split at e
    · rename_i h
      cases e
      rw [isNon_of h] at c
      exact ⟨rx_non c, by rw [rx_none_iff a]; exact q⟩
    · cases e
end
end Py
end

section
set_option autoImplicit false
set_option linter.all false
set_option Elab.async false
set_option maxRecDepth 100000
set_option maxHeartbeats 4000000
/-! Tests: truth, not, and, or, conditional expressions, chains. -/
namespace Py
open L2 (V Hp HO SqL SqT Rd upd upd_same upd_ne ne_of ne_of_none Cx PE PT PW PA TE TT TA VK R2 OpR tOp thn EP TP Inv RelV)
open PySem (Expr Pos Operator CmpOp Value Shared Sem)
open PySem.Spec PyProof.Rows
section
variable {K : Kf} {σ : Sg} {θ : List Ad} {st : S} {H0 H : Hp} {x : SV} {b : Bool} {u : V}
theorem truth_rel (R : Rel K θ st σ H) (e : truth st.m x = some b) (a : RX K θ H0 H x u) : L2.TruV K u H b := by
  have ls : ∀ xs : List Val, items st.m x = some xs → b = !xs.isEmpty → L2.TruV K u H b := fun xs hi hb => by
    obtain ⟨p, vs, rfl, s, t⟩ := items_rel R.m hi a
    have hb' : b = !vs.isEmpty := by
      rw [hb]
      cases xs with
      | nil => unfold RVs at t; rw [t]; rfl
      | cons z zs => unfold RVs at t; obtain ⟨_, _, rfl, _⟩ := t; rfl
    unfold Sq at s
    by_cases ht : isTup x = true
    · rw [if_pos ht] at s; exact .inr (.inl ⟨vs, s, hb'⟩)
    · rw [if_neg ht] at s; exact .inl ⟨vs, .inl s, hb'⟩
  cases x with
  | own xs => exact ls xs rfl (by cases e; rfl)
  | pk xs => exact ls xs rfl (by cases e; rfl)
  | val z =>
    cases z with
    | non => cases e; rw [rx_non a]; exact rfl
    | bl c => cases e; rw [rx_bl a]; exact rfl
    | int c => cases e; rw [rx_int a]; exact rfl
    | str c => cases e
    | scr c => cases e
    | tup xs => exact ls xs rfl (by cases e; rfl)
    | lst xs => exact ls xs rfl (by cases e; rfl)
    | loc n =>
      have e : (st.m[n]?).map (fun xs => !xs.isEmpty) = some b := e
      obtain ⟨xs, e1, e2⟩ := Option.map_eq_some_iff.mp e
      exact ls xs e1 e2.symm
end
def tst (f : M SV) : M Bool := M.bind f fun x => fun s => M.of (truth s.m x) s
section
variable {X : Cx} {W : WE} {f fa fb fc : M SV} {e a b c : Expr} {pos : Pos}
theorem t_plain (h : PE X e (tE X.K W f)) (he : ∀ whole, PySem.isTrue e X.env whole = (do let v ← whole; PySem.standAt e.pos; PySem.holding [v] (PySem.truthy v))) : PT X e (tT X.K W (tst f)) := by
  refine pt_imp (L2.pt_truth h he) fun σ H Q hq => ?_
  obtain ⟨θ, st, R, h⟩ := hq
  refine ⟨θ, st, R, h.bind.mono (fun _ _ z => z) fun x s1 h1 v θ1 H1 p1 x1 => ?_⟩
  obtain ⟨b, e1, h2⟩ := h1.of
  exact ⟨b, truth_rel p1.rel e1 x1, h2 θ1 H1 p1⟩
theorem tst_bl {g : M Bool} {s : S} {w : Ex → S → Prop} {k : Bool → S → Prop} (h : wpO (tst (M.bind g fun b => M.pure (.val (.bl b))) s) w k) : wpO (g s) w k :=
  h.bind.bind.mono (fun _ _ z => z) fun b s1 h1 => h1
/-- not -/
theorem t_not (h : PT X e (tT X.K W (tst f))) : PT X (.UnaryOp .Not e pos) (tT X.K W (tst (M.bind f fun x => fun s => M.of ((truth s.m x).map fun b => SV.val (.bl (!b))) s))) := by
  refine pt_imp (L2.pt_not h) fun σ H Q hq => ?_
  obtain ⟨θ, st, R, h⟩ := hq
  refine ⟨θ, st, R, (h.bind.bind.mono (fun _ _ z => z) fun x s h1 => ?_).unbind⟩
  obtain ⟨y, e1, h2⟩ := h1.of
  obtain ⟨b, e2, rfl⟩ := Option.map_eq_some_iff.mp e1
  rw [e2]
  exact h2
theorem e_not (h : PE X e (tE X.K W f)) : PE X (.UnaryOp .Not e pos) (tE X.K W (M.bind f fun x => fun s => M.of ((truth s.m x).map fun b => SV.val (.bl (!b))) s)) := by
  refine pe_imp (L2.pe_notT h) fun σ H Q hq => ?_
  obtain ⟨θ, st, R, h⟩ := hq
  refine ⟨θ, st, R, h.bind.mono (fun _ _ z => z) fun x s1 h1 v θ1 H1 p1 x1 => ?_⟩
  obtain ⟨y, e1, h2⟩ := h1.of
  obtain ⟨b, e2, rfl⟩ := Option.map_eq_some_iff.mp e1
  exact ⟨b, truth_rel p1.rel e2 x1, h2 _ θ1 H1 p1 rx_mkbl⟩
theorem e_neg (h : PE X e (tE X.K W f)) : PE X (.UnaryOp .USub e pos) (tE X.K W (M.bind f fun x => match x with
    | .val (.int i) => M.pure (.val (.int (-i)))
    | _ => M.fail)) := by
  refine pe_imp (L2.pe_un L2.un_neg h) fun σ H Q hq => ?_
  obtain ⟨θ, st, R, h⟩ := hq
  refine ⟨θ, st, R, h.bind.mono (fun _ _ z => z) fun x s1 h1 v θ1 H1 p1 x1 => ?_⟩
  split at h1
  · exact ⟨_, rx_int x1, h1.pure _ θ1 H1 p1 rx_mkint⟩
  · exact h1.elim
def andM (fa fb : M SV) : M SV := M.bind fa fun x => match x with
    | .val (.bl true) => fb
    | .val (.bl false) => M.pure (.val (.bl false))
    | _ => M.fail
def orM (fa fb : M SV) : M SV := M.bind fa fun x => match x with
    | .val (.bl true) => M.pure (.val (.bl true))
    | .val (.bl false) => fb
    | _ => M.fail
theorem e_and {rest : List Expr} (ha : PE X a (tE X.K W fa)) (hb : PE X (.BoolOp .And (b :: rest) pos) (tE X.K W fb)) : PE X (.BoolOp .And (a :: b :: rest) pos) (tE X.K W (andM fa fb)) := by
  refine pe_imp (L2.pe_and ha hb) fun σ H Q hq => ?_
  obtain ⟨θ, st, R, h⟩ := hq
  refine ⟨θ, st, R, h.bind.mono (fun _ _ z => z) fun x s1 h1 v θ1 H1 p1 x1 => ?_⟩
  split at h1
  · refine ⟨true, rx_bl x1, ?_⟩
    rw [if_pos rfl]
    refine ⟨θ1, s1, p1.rel, h1.mono (fun _ _ z => z.later p1) fun y s2 h2 v2 θ2 H2 p2 x2 => h2 v2 θ2 H2 (p1.trans p2) ?_⟩
    cases y with
    | val y => exact x2
    | own y => obtain ⟨a, vs, e1, e2, e3, e4, e5⟩ := x2; exact ⟨a, vs, e1, e2, e3, e4, p1.keep.dom a e5⟩
    | pk y => exact x2
  · refine ⟨false, rx_bl x1, ?_⟩
    rw [if_neg Bool.false_ne_true]
    exact h1.pure _ θ1 H1 p1 rx_mkbl
  · exact h1.elim
theorem e_or {rest : List Expr} (ha : PE X a (tE X.K W fa)) (hb : PE X (.BoolOp .Or (b :: rest) pos) (tE X.K W fb)) : PE X (.BoolOp .Or (a :: b :: rest) pos) (tE X.K W (orM fa fb)) := by
  refine pe_imp (L2.pe_or ha hb) fun σ H Q hq => ?_
  obtain ⟨θ, st, R, h⟩ := hq
  refine ⟨θ, st, R, h.bind.mono (fun _ _ z => z) fun x s1 h1 v θ1 H1 p1 x1 => ?_⟩
  split at h1
  · refine ⟨true, rx_bl x1, ?_⟩
    rw [if_pos rfl]
    exact h1.pure _ θ1 H1 p1 rx_mkbl
  · refine ⟨false, rx_bl x1, ?_⟩
    rw [if_neg Bool.false_ne_true]
    refine ⟨θ1, s1, p1.rel, h1.mono (fun _ _ z => z.later p1) fun y s2 h2 v2 θ2 H2 p2 x2 => h2 v2 θ2 H2 (p1.trans p2) ?_⟩
    cases y with
    | val y => exact x2
    | own y => obtain ⟨a, vs, e1, e2, e3, e4, e5⟩ := x2; exact ⟨a, vs, e1, e2, e3, e4, p1.keep.dom a e5⟩
    | pk y => exact x2
  · exact h1.elim
theorem pw_imp {X : Cx} {e : Expr} {t t' : TT} (h : PW X e t) (i : ∀ σ H Q, t' σ H Q → t σ H Q) : PW X e t' := ⟨fun wh pins s σ H Q I q => h.run wh pins s σ H Q I (i σ H Q q)⟩
theorem tT_later {g : M SV} {σ : Sg} {θ θ1 : List Ad} {st s : S} {H H1 : Hp} {Q : Bool → Hp → Prop} (h : wpO (g s) (we X.K W σ θ st H) fun x s => wpO (M.of (truth s.m x) s) (we X.K W σ θ st H) fun b st' => ∀ θ' H', Post X.K σ θ st H θ' st' H' → Q b H')
    (p1 : Post X.K σ θ st H θ1 s H1) : tT X.K W (tst g) σ H1 Q :=
  ⟨θ1, s, p1.rel, h.unbind.mono (fun _ _ z => z.later p1) fun b s2 h3 θ2 H2 p2 => h3 θ2 H2 (p1.trans p2)⟩
theorem tE_later {g : M SV} {σ : Sg} {θ θ1 : List Ad} {st s : S} {H H1 : Hp} {Q : VK} (h : wpO (g s) (we X.K W σ θ st H) fun sv st' => ∀ v θ' H', Post X.K σ θ st H θ' st' H' → RX X.K θ' H H' sv v → Q v H')
    (p1 : Post X.K σ θ st H θ1 s H1) : tE X.K W g σ H1 Q :=
  ⟨θ1, s, p1.rel, h.mono (fun _ _ z => z.later p1) fun y s2 h2 v2 θ2 H2 p2 x2 => h2 v2 θ2 H2 (p1.trans p2) (by
    cases y with
    | val y => exact x2
    | own y => obtain ⟨a, vs, e1, e2, e3, e4, e5⟩ := x2; exact ⟨a, vs, e1, e2, e3, e4, p1.keep.dom a e5⟩
    | pk y => exact x2)⟩
theorem t_and {rest : List Expr} (ha : PT X a (tT X.K W (tst fa))) (hb : PW X (.BoolOp .And (b :: rest) pos) (tT X.K W (tst fb))) : PW X (.BoolOp .And (a :: b :: rest) pos) (tT X.K W (tst (andM fa fb))) := by
  refine pw_imp (L2.pw_and ha hb) fun σ H Q hq => ?_
  obtain ⟨θ, st, R, h⟩ := hq
  refine ⟨θ, st, R, (h.bind.bind.mono (fun _ _ z => z) fun x s h1 => ?_).unbind⟩
  split at h1
  · intro θ1 H1 p1
    rw [if_pos rfl]
    exact tT_later h1 p1
  · intro θ1 H1 p1
    rw [if_neg Bool.false_ne_true]
    exact h1 θ1 H1 p1
  · exact h1.elim
theorem t_or {rest : List Expr} (ha : PT X a (tT X.K W (tst fa))) (hb : PW X (.BoolOp .Or (b :: rest) pos) (tT X.K W (tst fb))) : PW X (.BoolOp .Or (a :: b :: rest) pos) (tT X.K W (tst (orM fa fb))) := by
  refine pw_imp (L2.pw_or ha hb) fun σ H Q hq => ?_
  obtain ⟨θ, st, R, h⟩ := hq
  refine ⟨θ, st, R, (h.bind.bind.mono (fun _ _ z => z) fun x s h1 => ?_).unbind⟩
  split at h1
  · intro θ1 H1 p1
    rw [if_pos rfl]
    exact h1 θ1 H1 p1
  · intro θ1 H1 p1
    rw [if_neg Bool.false_ne_true]
    exact tT_later h1 p1
  · exact h1.elim
def iteM (fc fa fb : M SV) : M SV := M.bind fc fun x => fun s => match truth s.m x with
    | some true => fa s
    | some false => fb s
    | none => none
theorem e_ite (hc : PT X c (tT X.K W (tst fc))) (ha : PE X a (tE X.K W fa)) (hb : PE X b (tE X.K W fb)) : PE X (.IfExp c a b pos) (tE X.K W (iteM fc fa fb)) := by
  refine pe_imp (L2.pe_ifExp hc ha hb) fun σ H Q hq => ?_
  obtain ⟨θ, st, R, h⟩ := hq
  refine ⟨θ, st, R, (h.bind.mono (fun _ _ z => z) fun x s h1 => ?_).unbind⟩
  cases ht : truth s.m x with
  | none => rw [ht] at h1; exact h1.elim
  | some d =>
    rw [ht] at h1
    intro θ1 H1 p1
    cases d with
    | true => rw [if_pos rfl]; exact tE_later h1 p1
    | false => rw [if_neg Bool.false_ne_true]; exact tE_later h1 p1
theorem pt_ifExp {tc ta tb : TT} (hc : PT X c tc) (ha : PT X a ta) (hb : PT X b tb) : PT X (.IfExp c a b pos) (fun σ H Q => tc σ H fun d H1 => if d = true then ta σ H1 Q else tb σ H1 Q) := by
  refine ⟨fun pins s σ H Q I h => ?_⟩
  show PySem.wpAny _ _ (do if ← PySem.isTrue c X.env (PySem.eval c X.env) then PySem.isTrue a X.env (PySem.eval a X.env) else PySem.isTrue b X.env (PySem.eval b X.env)) _ _ _
  refine PySem.wpAny_bind (thn (hc.run pins s σ H _ I h) fun d s1 ⟨H1, I1, q1⟩ => ?_)
  cases d with
  | true => exact ha.run pins s1 σ H1 Q I1 q1
  | false => exact hb.run pins s1 σ H1 Q I1 q1
theorem t_ite (hc : PT X c (tT X.K W (tst fc))) (ha : PT X a (tT X.K W (tst fa))) (hb : PT X b (tT X.K W (tst fb))) : PT X (.IfExp c a b pos) (tT X.K W (tst (iteM fc fa fb))) := by
  refine pt_imp (pt_ifExp hc ha hb) fun σ H Q hq => ?_
  obtain ⟨θ, st, R, h⟩ := hq
  refine ⟨θ, st, R, (h.bind.bind.mono (fun _ _ z => z) fun x s h1 => ?_).unbind⟩
  cases ht : truth s.m x with
  | none => rw [ht] at h1; exact h1.elim
  | some d =>
    rw [ht] at h1
    intro θ1 H1 p1
    cases d with
    | true => rw [if_pos rfl]; exact tT_later h1 p1
    | false => rw [if_neg Bool.false_ne_true]; exact tT_later h1 p1
end
end Py
end

section
set_option autoImplicit false
set_option linter.all false
set_option Elab.async false
set_option maxRecDepth 100000
set_option maxHeartbeats 4000000
/-! Comparisons of any length. -/
namespace Py
open L2 (V Hp HO SqL SqT Rd upd upd_same upd_ne ne_of ne_of_none Cx PE PT PW PA TE TT TA VK R2 OpR tOp thn EP TP Inv RelV)
open PySem (Expr Pos Operator CmpOp Value Shared Sem wpAny)
open PySem.Spec PyProof.Rows
structure CH (X : Cx) (W : WE) (ops : List CmpOp) (es : List Expr) (g : SV → M Bool) : Prop where
  val : ∀ (pos : Pos) (pins : List (PySem.Addr × PySem.Obj)) (s : Shared) (σ : Sg) (H H0 : Hp) (Q : VK) (x : SV) (u : V) (v : Value) (θ0 θ : List Ad) (st0 st : S), Inv X pins σ H s → RelV u v → Rel X.K θ0 st0 σ H0 → Post X.K σ θ0 st0 H0 θ st H → RX X.K θ H0 H x u →
    wpO (g x st) (we X.K W σ θ st H) (fun b st' => ∀ θ' H', Post X.K σ θ st H θ' st' H' → Q (.bl b) H') → wpAny (PySem.model X.prog X.w) X.A (PySem.compareChain pos v ops (PySem.evalEach es X.env)) (EP X pins σ Q) X.xe s
  tst : ∀ (pos : Pos) (pins : List (PySem.Addr × PySem.Obj)) (s : Shared) (σ : Sg) (H H0 : Hp) (Q : Bool → Hp → Prop) (x : SV) (u : V) (v : Value) (θ0 θ : List Ad) (st0 st : S), Inv X pins σ H s → RelV u v → Rel X.K θ0 st0 σ H0 → Post X.K σ θ0 st0 H0 θ st H → RX X.K θ H0 H x u →
    wpO (g x st) (we X.K W σ θ st H) (fun b st' => ∀ θ' H', Post X.K σ θ st H θ' st' H' → Q b H') → wpAny (PySem.model X.prog X.w) X.A (PySem.testChain pos v ops (PySem.evalEach es X.env)) (TP X pins σ Q) X.xe s
def oneM (f : M SV) (o : CO) (x : SV) : M Bool := M.bind f fun y => fun s => M.of (cmpop s.m o x y) s
def consM (f : M SV) (o : CO) (g : SV → M Bool) (x : SV) : M Bool := M.bind f fun y => fun s => match cmpop s.m o x y with
    | some true => g y s
    | some false => some (.ok false s)
    | none => none
section
variable {X : Cx} {W : WE} {f : M SV} {e : Expr} {o : CO}
theorem ch_one (hu : X.A.units + 65 < PySem.cLine) (h : PE X e (tE X.K W f)) : CH X W [coOp o] [e] (oneM f o) where
  val := by
    intro pos pins s σ H H0 Q x u v θ0 θ st0 st I ru R0 p0 rx hw
    refine chain_last (thn (h.run pins s σ H (fun u2 H2 => rCo X.K o u u2 H2 Q) I ⟨θ, st, p0.rel, hw.bind.mono (fun _ _ z => z) fun y s2 h2 u2 θ2 H2 p2 y2 => ?_⟩) fun w s1 ⟨u2, H2, I2, r2, q2⟩ => opr_co hu o pins s1 σ H2 u u2 v w Q I2 ru r2 q2)
    obtain ⟨b, e1, h3⟩ := h2.of
    exact ok_co (H0 := H0) p2.rel o e1 (RX.later R0 p0 rx p2) (by
      cases y with
      | val y => exact y2
      | own y => obtain ⟨a, vs, e1, e2, e3, e4, e5⟩ := y2; exact ⟨a, vs, e1, e2, e3, e4, p0.keep.dom a e5⟩
      | pk y => exact y2) (h3 θ2 H2 p2)
  tst := by
    intro pos pins s σ H H0 Q x u v θ0 θ st0 st I ru R0 p0 rx hw
    refine test_last (thn (h.run pins s σ H (fun u2 H2 => rCo X.K o u u2 H2 fun c H3 => ∃ k, c = .bl k ∧ Q k H3) I ⟨θ, st, p0.rel, hw.bind.mono (fun _ _ z => z) fun y s2 h2 u2 θ2 H2 p2 y2 => ?_⟩) fun w s1 ⟨u2, H2, I2, r2, q2⟩ =>
      thn (opr_co hu o pins s1 σ H2 u u2 v w _ I2 ru r2 q2) fun c s3 ⟨z, H3, I3, r3, k, e, q3⟩ => ?_)
    · obtain ⟨b, e1, h3⟩ := h2.of
      exact ok_co (H0 := H0) p2.rel o e1 (RX.later R0 p0 rx p2) (by
        cases y with
        | val y => exact y2
        | own y => obtain ⟨a, vs, e1, e2, e3, e4, e5⟩ := y2; exact ⟨a, vs, e1, e2, e3, e4, p0.keep.dom a e5⟩
        | pk y => exact y2) ⟨b, rfl, h3 θ2 H2 p2⟩
    · subst e
      cases r3
      exact PySem.wpAny_truthy_bool ⟨H3, I3, q3⟩
theorem ch_cons (hu : X.A.units + 65 < PySem.cLine) {op : CmpOp} {ops : List CmpOp} {e2 : Expr} {es : List Expr} {g : SV → M Bool} (h : PE X e (tE X.K W f)) (hg : CH X W (op :: ops) (e2 :: es) g) : CH X W (coOp o :: op :: ops) (e :: e2 :: es) (consM f o g) where
  val := by
    intro pos pins s σ H H0 Q x u v θ0 θ st0 st I ru R0 p0 rx hw
    refine chain_link (thn (h.run pins s σ H (fun u2 H2 => rCo X.K o u u2 H2 fun c H3 => ∃ k, c = .bl k ∧ ((k = false ∧ Q (.bl false) H3) ∨ (k = true ∧ ∃ y θ2 s2, Post X.K σ θ0 st0 H0 θ2 s2 H3 ∧ Post X.K σ θ st H θ2 s2 H3 ∧ RX X.K θ2 H0 H3 y u2 ∧
      wpO (g y s2) (we X.K W σ θ st H) fun b st' => ∀ θ' H', Post X.K σ θ st H θ' st' H' → Q (.bl b) H'))) I ⟨θ, st, p0.rel, hw.bind.mono (fun _ _ z => z) fun y s2 h2 u2 θ2 H2 p2 y2 => ?_⟩) fun w s1 ⟨u2, H2, I2, r2, q2⟩ =>
      thn (opr_co hu o pins s1 σ H2 u u2 v w _ I2 ru r2 q2) fun c s3 ⟨z, H3, I3, r3, k, e, q3⟩ => ?_)
    · have y3 : RX X.K θ2 H0 H2 y u2 := by
        cases y with
        | val y => exact y2
        | own y => obtain ⟨a, vs, e1, e2, e3, e4, e5⟩ := y2; exact ⟨a, vs, e1, e2, e3, e4, p0.keep.dom a e5⟩
        | pk y => exact y2
      cases ec : cmpop s2.m o x y with
      | none => rw [ec] at h2; exact h2.elim
      | some k =>
        rw [ec] at h2
        refine ok_co (H0 := H0) p2.rel o ec (RX.later R0 p0 rx p2) y3 ⟨k, rfl, ?_⟩
        cases k with
        | true => exact .inr ⟨rfl, y, θ2, s2, p0.trans p2, p2, y3, h2⟩
        | false => exact .inl ⟨rfl, h2 θ2 H2 p2⟩
    · subst e
      cases r3
      refine PySem.wpAny_truthy_bool ?_
      rcases q3 with ⟨rfl, q⟩ | ⟨rfl, y, θ2, s2, pp, p2, y3, h2⟩
      · exact ite_ff ⟨.bl false, H3, I3, rfl, q⟩
      · exact ite_tt (hg.val pos pins s3 σ H3 H0 Q y u2 w θ0 θ2 st0 s2 I3 r2 R0 pp y3 (h2.mono (fun _ _ z => z.later p2) fun b s4 h4 θ4 H4 p4 => h4 θ4 H4 (p2.trans p4)))
  tst := by
    intro pos pins s σ H H0 Q x u v θ0 θ st0 st I ru R0 p0 rx hw
    refine test_link (thn (h.run pins s σ H (fun u2 H2 => rCo X.K o u u2 H2 fun c H3 => ∃ k, c = .bl k ∧ ((k = false ∧ Q false H3) ∨ (k = true ∧ ∃ y θ2 s2, Post X.K σ θ0 st0 H0 θ2 s2 H3 ∧ Post X.K σ θ st H θ2 s2 H3 ∧ RX X.K θ2 H0 H3 y u2 ∧
      wpO (g y s2) (we X.K W σ θ st H) fun b st' => ∀ θ' H', Post X.K σ θ st H θ' st' H' → Q b H'))) I ⟨θ, st, p0.rel, hw.bind.mono (fun _ _ z => z) fun y s2 h2 u2 θ2 H2 p2 y2 => ?_⟩) fun w s1 ⟨u2, H2, I2, r2, q2⟩ =>
      thn (opr_co hu o pins s1 σ H2 u u2 v w _ I2 ru r2 q2) fun c s3 ⟨z, H3, I3, r3, k, e, q3⟩ => ?_)
    · have y3 : RX X.K θ2 H0 H2 y u2 := by
        cases y with
        | val y => exact y2
        | own y => obtain ⟨a, vs, e1, e2, e3, e4, e5⟩ := y2; exact ⟨a, vs, e1, e2, e3, e4, p0.keep.dom a e5⟩
        | pk y => exact y2
      cases ec : cmpop s2.m o x y with
      | none => rw [ec] at h2; exact h2.elim
      | some k =>
        rw [ec] at h2
        refine ok_co (H0 := H0) p2.rel o ec (RX.later R0 p0 rx p2) y3 ⟨k, rfl, ?_⟩
        cases k with
        | true => exact .inr ⟨rfl, y, θ2, s2, p0.trans p2, p2, y3, h2⟩
        | false => exact .inl ⟨rfl, h2 θ2 H2 p2⟩
    · subst e
      cases r3
      refine PySem.wpAny_truthy_bool ?_
      rcases q3 with ⟨rfl, q⟩ | ⟨rfl, y, θ2, s2, pp, p2, y3, h2⟩
      · exact ite_ff ⟨H3, I3, q⟩
      · exact ite_tt (hg.tst pos pins s3 σ H3 H0 Q y u2 w θ0 θ2 st0 s2 I3 r2 R0 pp y3 (h2.mono (fun _ _ z => z.later p2) fun b s4 h4 θ4 H4 p4 => h4 θ4 H4 (p2.trans p4)))
theorem e_cmp {a : Expr} {pos : Pos} {fa : M SV} {ops : List CmpOp} {es : List Expr} {g : SV → M Bool} (ha : PE X a (tE X.K W fa)) (hg : CH X W ops es g) (hm : PySem.lastMarks ops es = false) :
    PE X (.Compare a ops es pos) (tE X.K W (M.bind fa fun x => M.bind (g x) fun b => M.pure (.val (.bl b)))) := by
  refine ⟨fun pins s σ H Q I hq => ?_⟩
  obtain ⟨θ, st, R, h⟩ := hq
  show wpAny _ _ (do PySem.compareChain pos (← PySem.eval a X.env) ops (PySem.markedEach ops es (PySem.evalEach es X.env))) _ _ _
  rw [markedEach_of_false _ _ _ hm]
  refine PySem.wpAny_bind (thn (ha.run pins s σ H (fun u H1 => ∃ x θ1 s1, Post X.K σ θ st H θ1 s1 H1 ∧ RX X.K θ1 H H1 x u ∧ wpO (g x s1) (we X.K W σ θ st H) fun b st' => ∀ θ' H', Post X.K σ θ st H θ' st' H' → Q (.bl b) H') I
    ⟨θ, st, R, h.bind.mono (fun _ _ z => z) fun x s1 h1 u θ1 H1 p1 x1 => ⟨x, θ1, s1, p1, x1, h1.bind.mono (fun _ _ z => z) fun b s2 h2 θ2 H2 p2 => h2.pure _ θ2 H2 p2 rx_mkbl⟩⟩) fun v s1 ⟨u, H1, I1, r1, x, θ1, s1', p1, x1, h1⟩ => ?_)
  exact hg.val pos pins s1 σ H1 H Q x u v θ θ1 st s1' I1 r1 R p1 x1 (h1.mono (fun _ _ z => z.later p1) fun b s4 h4 θ4 H4 p4 => h4 θ4 H4 (p1.trans p4))
theorem t_cmp {a : Expr} {pos : Pos} {fa : M SV} {ops : List CmpOp} {es : List Expr} {g : SV → M Bool} (ha : PE X a (tE X.K W fa)) (hg : CH X W ops es g) (hm : PySem.lastMarks ops es = false) :
    PT X (.Compare a ops es pos) (tT X.K W (tst (M.bind fa fun x => M.bind (g x) fun b => M.pure (.val (.bl b))))) := by
  refine ⟨fun pins s σ H Q I hq => ?_⟩
  obtain ⟨θ, st, R, h⟩ := hq
  show wpAny _ _ (do PySem.testChain pos (← PySem.eval a X.env) ops (PySem.markedEach ops es (PySem.evalEach es X.env))) _ _ _
  rw [markedEach_of_false _ _ _ hm]
  refine PySem.wpAny_bind (thn (ha.run pins s σ H (fun u H1 => ∃ x θ1 s1, Post X.K σ θ st H θ1 s1 H1 ∧ RX X.K θ1 H H1 x u ∧ wpO (g x s1) (we X.K W σ θ st H) fun b st' => ∀ θ' H', Post X.K σ θ st H θ' st' H' → Q b H') I
    ⟨θ, st, R, h.bind.bind.mono (fun _ _ z => z) fun x s1 h1 u θ1 H1 p1 x1 => ⟨x, θ1, s1, p1, x1, h1.bind.mono (fun _ _ z => z) fun b s2 h2 θ2 H2 p2 => h2 θ2 H2 p2⟩⟩) fun v s1 ⟨u, H1, I1, r1, x, θ1, s1', p1, x1, h1⟩ => ?_)
  exact hg.tst pos pins s1 σ H1 H Q x u v θ θ1 st s1' I1 r1 R p1 x1 (h1.mono (fun _ _ z => z.later p1) fun b s4 h4 θ4 H4 p4 => h4 θ4 H4 (p1.trans p4))
end
end Py
end

section
set_option autoImplicit false
set_option linter.all false
set_option Elab.async false
set_option maxRecDepth 100000
set_option maxHeartbeats 4000000
/-! Calls of own defs and of built-ins. -/
namespace Py
open L2 (V Hp HO SqL SqT Rd upd upd_same upd_ne ne_of ne_of_none Cx PE PT PW PA TE TT TA VK R2 OpR tOp thn EP TP Inv RelV CallR Sp)
open PySem (Expr Pos Operator CmpOp Value Shared Sem wpAny)
/-- behind a call -/
structure PostC (K : Kf) (θ : List Ad) (H : Hp) (θ' : List Ad) (m' : Mem) (H' : Hp) : Prop where
  keep : Keep θ (fun _ => False) H H'
  grow : Grow θ H θ'
  rel : RelM K θ' m' H'
theorem Post.ofC {K : Kf} {σ : Sg} {θ θ' : List Ad} {st : S} {H H' : Hp} {m' : Mem} (R : Rel K θ st σ H) (p : PostC K θ H θ' m' H') : Post K σ θ st H θ' { st with m := m' } H' := by
  refine ⟨⟨p.keep.tup, p.keep.frz, p.keep.dom, fun a xs h1 h2 => (p.keep.lst a xs h1 h2).elim .inl fun z => z.1.elim⟩, p.grow, fun _ _ h => h, ⟨⟨R.e.len, fun i sv h => ?_, R.e.one⟩, p.rel⟩⟩
  obtain ⟨v, h1, h2⟩ := R.e.at_ i sv h
  refine ⟨v, h1, ?_⟩
  have mv : ∀ (xs : List Val) (vs : List V), RVs K θ H xs vs → RVs K θ' H' xs vs := fun xs vs h => RVs.pre p.grow.pre _ _ (RVs.mono p.keep.to1 _ _ h)
  cases sv with
  | val x => exact RV.pre p.grow.pre _ _ (RV.mono p.keep.to1 _ _ h2)
  | own xs =>
    obtain ⟨a, vs, e, h3, h4, h5⟩ := h2
    exact ⟨a, vs, e, (p.keep.lst a vs h5 h3).resolve_right (fun z => z.1), mv _ _ h4, p.grow.out h5 h3⟩
  | pk xs => exact h2.elim
/-- a def's promise: what the evaluator says of it -/
def spK (K : Kf) (kn : Kn) (f : Nat) : Sp := fun vs H Q E => ∃ θ m xs, RelM K θ m H ∧ RVs K θ H xs vs ∧ match kn f xs m with
  | none => False
  | some (.ok sv m') => ∀ v θ' H', PostC K θ H θ' m' H' → RX K θ' H H' sv v → Q v H'
  | some (.ex x m') => ∀ cls d θ' H', PostC K θ H θ' m' H' → EXc K x cls d H' → E cls d H'
/-- the wish as the layer has it -/
def wE : WE → L2.WX
  | none => fun _ _ _ _ => False
  | some w => w
section
variable {X : Cx} {W : WE} {Kn' : Kn} {g : M (List Val)} {k f : Nat} {fa : Ad} {fd : PySem.FuncData} {ps : List PySem.Str} {x : PySem.Str} {p pos : Pos} {e : Expr} {es : List Expr}
theorem call_imp {K : Kf} {σ : Sg} {H : Hp} {Q : VK} (h : tE K W (M.bind g fun vs => callM Kn' f vs) σ H Q) : L2.tCallS (spK K Kn' f) (L2.WE (wE W)) (tA K W g) σ H Q := by
  obtain ⟨θ, st, R, h⟩ := h
  refine ⟨θ, st, R, h.bind.mono (fun _ _ z => z) fun xs s1 h1 vs θ1 H1 p1 x1 => ?_⟩
  unfold callM at h1
  unfold wpO at h1
  refine ⟨θ1, s1.m, xs, p1.rel.m, x1, ?_⟩
  cases ek : Kn' f xs s1.m with
  | none => rw [ek] at h1; exact h1.elim
  | some r =>
    rw [ek] at h1
    cases r with
    | ex x m =>
      intro cls d θ' H' q xc
      cases W with
      | none => exact h1.elim
      | some w => exact h1 cls d θ' H' (p1.trans (Post.ofC p1.rel q)) xc
    | ok sv m' =>
      intro v θ' H' q rx
      have p2 := Post.ofC p1.rel q
      refine h1 v θ' H' (p1.trans p2) ?_
      cases sv with
      | val y => exact rx
      | own y => obtain ⟨a, vs, e1, e2, e3, e4, e5⟩ := rx; exact ⟨a, vs, e1, e2, e3, e4, p1.keep.dom a e5⟩
      | pk y => exact rx
theorem e_call (tk : L2.Takes X (wE W)) (F : L2.FnOk X.prog X.w X.K X.mg X.base (L2.CX X.prog X.w) k fa fd ps (spK X.K Kn' f)) (hr : L2.Room k X.A) (hg : L2.Gl X x) (hm : X.mg x = some (.ref fa)) (hk : PySem.W.keepIn X.K (.ref fa) = true) (hb : L2.Binds X.K fd ps [])
    (ha : PA X (e :: es) (tA X.K W g)) (hdb : (x == ("__debug__" : PySem.Str)) = false) (he : PySem.starEach (e :: es) X.env = (false, PySem.eval e X.env) :: PySem.starEach es X.env) (hpl : (PySem.backTo pos (PySem.starEach es X.env)).any (·.1) = false) :
    PE X (.Call (.Name x p) (e :: es) [] pos) (tE X.K W (M.bind g fun vs => callM Kn' f vs)) :=
  pe_imp (L2.pe_callS F hr hg hm hk hb (fun σ => L2.passAt tk σ) ha hdb he hpl) fun σ H Q h => call_imp h
theorem pe_callS0 {E : Sg → L2.XK} {sp : Sp} (F : L2.FnOk X.prog X.w X.K X.mg X.base (L2.CX X.prog X.w) k fa fd ps sp) (hr : L2.Room k X.A) (hg : L2.Gl X x) (hm : X.mg x = some (.ref fa)) (hk : PySem.W.keepIn X.K (.ref fa) = true) (hb : L2.Binds X.K fd ps [])
    (hx : ∀ σ, L2.PassesAt (L2.CX X.prog X.w) X σ (E σ)) (hdb : (x == ("__debug__" : PySem.Str)) = false) : PE X (.Call (.Name x p) [] [] pos) (L2.tCallS sp E L2.tNil) := by
  refine ⟨fun pins s σ H Q I h => ?_⟩
  refine PySem.wpAny_Call_Name_kw (L2.ld_glob I hg hm ?_ hdb)
  exact PySem.W.callWith_K0 I.kIn hk (L2.run_fnS (us := []) F hr hb (hx σ) I .nil h)
theorem e_call0 (tk : L2.Takes X (wE W)) (F : L2.FnOk X.prog X.w X.K X.mg X.base (L2.CX X.prog X.w) k fa fd ps (spK X.K Kn' f)) (hr : L2.Room k X.A) (hg : L2.Gl X x) (hm : X.mg x = some (.ref fa)) (hk : PySem.W.keepIn X.K (.ref fa) = true) (hb : L2.Binds X.K fd ps [])
    (hdb : (x == ("__debug__" : PySem.Str)) = false) : PE X (.Call (.Name x p) [] [] pos) (tE X.K W (M.bind (M.pure []) fun vs => callM Kn' f vs)) :=
  pe_imp (pe_callS0 F hr hg hm hk hb (fun σ => L2.passAt tk σ) hdb) fun σ H Q h => by
    have q := call_imp h
    obtain ⟨θ, st, R, q⟩ := q
    exact q.pure [] θ H (.refl R) RVs.nil
end

/-! ### arguments of built-ins -/
inductive RXs (K : Kf) (θ : List Ad) (H0 H : Hp) : List SV → List V → Prop
  | nil : RXs K θ H0 H [] []
  | cons {x : SV} {v : V} {xs : List SV} {vs : List V} : RX K θ H0 H x v → RXs K θ H0 H xs vs → RXs K θ H0 H (x :: xs) (v :: vs)
def tP (K : Kf) (W : WE) (f : M (List SV)) : TA := fun σ H Q => ∃ θ st, Rel K θ st σ H ∧ wpO (f st) (we K W σ θ st H) fun xs st' => ∀ vs θ' H', Post K σ θ st H θ' st' H' → RXs K θ' H H' xs vs → Q vs H'
theorem RX.from {K : Kf} {θ : List Ad} {H0 H1 H : Hp} {x : SV} {v : V} (d : ∀ a, H1 a = none → H0 a = none) (h : RX K θ H1 H x v) : RX K θ H0 H x v := by
  cases x with
  | val y => exact h
  | own y => obtain ⟨a, vs, e1, e2, e3, e4, e5⟩ := h; exact ⟨a, vs, e1, e2, e3, e4, d a e5⟩
  | pk y => exact h
theorem RXs.from {K : Kf} {θ : List Ad} {H0 H1 H : Hp} (d : ∀ a, H1 a = none → H0 a = none) {xs : List SV} {vs : List V} (h : RXs K θ H1 H xs vs) : RXs K θ H0 H xs vs := by
  induction h with
  | nil => exact .nil
  | cons h _ ih => exact .cons (h.from d) ih
section
variable {X : Cx} {W : WE} {f : M SV} {e : Expr} {es : List Expr} {pos p : Pos}
theorem p_nil : PA X [] (tP X.K W (M.pure [])) := pa_imp L2.pa_nil fun σ H Q hq => by
  obtain ⟨θ, st, R, h⟩ := hq
  exact h.pure [] θ H (.refl R) .nil
theorem p_cons {r : M (List SV)} (h1 : PE X e (tE X.K W f)) (h2 : PA X es (tP X.K W r)) (hs : PySem.starEach (e :: es) X.env = (false, PySem.eval e X.env) :: PySem.starEach es X.env) :
    PA X (e :: es) (tP X.K W (M.bind f fun v => M.bind r fun vs => M.pure (v :: vs))) := by
  refine pa_imp (L2.pa_cons h1 h2 hs) fun σ H Q hq => ?_
  obtain ⟨θ, st, R, h⟩ := hq
  refine ⟨θ, st, R, h.bind.mono (fun _ _ z => z) fun x s1 h1 v θ1 H1 p1 x1 => ?_⟩
  refine ⟨θ1, s1, p1.rel, h1.bind.mono (fun _ _ z => z.later p1) fun xs s2 h2 vs θ2 H2 p2 x2 => ?_⟩
  exact h2.pure _ θ2 H2 (p1.trans p2) (.cons (RX.later R p1 x1 p2) (x2.from p1.keep.dom))
/-- a built-in: the evaluator's prim serves the rule's reading -/
def PrOk (K : Kf) (pr : Pr) (n : Nat) (r : List V → Hp → VK → Prop) : Prop := ∀ (σ : Sg) (θ : List Ad) (st : S) (H0 H : Hp) (xs : List SV) (vs : List V) (z : SV) (Q : VK), xs.length = n → Rel K θ st σ H → (∀ a, H a = none → H0 a = none) → prim st.m pr xs = some z → RXs K θ H0 H xs vs →
  (∀ w H', Post K σ θ st H θ st H' → RX K θ H0 H' z w → Q w H') → r vs H Q
end
theorem ints_of : ∀ {xs : List Val} {is : List Int}, intsV xs = some is → xs = is.map .int
  | [], is, h => by cases h; rfl
  | x :: xs, is, h => by
    cases x with
    | int i =>
      have h : (intsV xs).map (i :: ·) = some is := h
      obtain ⟨js, e1, rfl⟩ := Option.map_eq_some_iff.mp h
      rw [ints_of e1]; rfl
    | _ => cases h
theorem bools_of : ∀ {xs : List Val} {is : List Bool}, boolsV xs = some is → xs = is.map .bl
  | [], is, h => by cases h; rfl
  | x :: xs, is, h => by
    cases x with
    | bl i =>
      have h : (boolsV xs).map (i :: ·) = some is := h
      obtain ⟨js, e1, rfl⟩ := Option.map_eq_some_iff.mp h
      rw [bools_of e1]; rfl
    | _ => cases h
theorem RVs.bls {K : Kf} {θ : List Ad} {H : Hp} : ∀ {is : List Bool} {vs : List V}, RVs K θ H (is.map .bl) vs → vs = is.map .bl
  | [], vs, h => by unfold RVs at h; exact h
  | i :: is, vs, h => by
    rw [List.map_cons] at h
    unfold RVs at h
    obtain ⟨v, r, rfl, h1, h3⟩ := h
    rw [RVs.bls h3, List.map_cons]
    unfold RV at h1
    rw [h1]
theorem maxI_mem : ∀ (xs : List Int) (x : Int), xs.foldl (fun a b => if b > a then b else a) x ∈ x :: xs ∧ ∀ y ∈ x :: xs, y ≤ xs.foldl (fun a b => if b > a then b else a) x
  | [], x => ⟨by simp, fun y hy => by simp at hy; subst hy; exact Int.le_refl _⟩
  | z :: xs, x => by
    have ih := maxI_mem xs (if z > x then z else x)
    rw [List.foldl_cons]
    have h1 := ih.1
    have h2 := ih.2
    refine ⟨?_, fun y hy => ?_⟩
    · rcases List.mem_cons.mp h1 with e | e
      · rw [e]; split <;> simp
      · simp [e]
    · have hb := h2 _ List.mem_cons_self
      rcases List.mem_cons.mp hy with rfl | hy
      · refine Int.le_trans ?_ hb; split <;> omega
      · rcases List.mem_cons.mp hy with rfl | hy
        · refine Int.le_trans ?_ hb; split <;> omega
        · exact h2 y (List.mem_cons_of_mem _ hy)
theorem minI_mem : ∀ (xs : List Int) (x : Int), xs.foldl (fun a b => if b < a then b else a) x ∈ x :: xs ∧ ∀ y ∈ x :: xs, xs.foldl (fun a b => if b < a then b else a) x ≤ y
  | [], x => ⟨by simp, fun y hy => by simp at hy; subst hy; exact Int.le_refl _⟩
  | z :: xs, x => by
    have ih := minI_mem xs (if z < x then z else x)
    rw [List.foldl_cons]
    have h1 := ih.1
    have h2 := ih.2
    refine ⟨?_, fun y hy => ?_⟩
    · rcases List.mem_cons.mp h1 with e | e
      · rw [e]; split <;> simp
      · simp [e]
    · have hb := h2 _ List.mem_cons_self
      rcases List.mem_cons.mp hy with rfl | hy
      · refine Int.le_trans hb ?_; split <;> omega
      · rcases List.mem_cons.mp hy with rfl | hy
        · refine Int.le_trans hb ?_; split <;> omega
        · exact h2 y (List.mem_cons_of_mem _ hy)
theorem maxI_spec {is : List Int} {m : Int} (h : maxI is = some m) : 0 < is.length ∧ m ∈ is ∧ ∀ y ∈ is, y ≤ m := by
  cases is with
  | nil => cases h
  | cons x xs => cases h; exact ⟨Nat.succ_pos _, maxI_mem xs x⟩
theorem minI_spec {is : List Int} {m : Int} (h : minI is = some m) : 0 < is.length ∧ m ∈ is ∧ ∀ y ∈ is, m ≤ y := by
  cases is with
  | nil => cases h
  | cons x xs => cases h; exact ⟨Nat.succ_pos _, minI_mem xs x⟩
end Py
end

section
set_option autoImplicit false
set_option linter.all false
set_option Elab.async false
set_option maxRecDepth 100000
set_option maxHeartbeats 4000000
/-! Built-ins. -/
namespace Py
open L2 (V Hp HO SqL SqT Rd upd upd_same upd_ne ne_of ne_of_none Cx PE PT PW PA TE TT TA VK R2 OpR tOp thn EP TP Inv RelV CallR Sp)
open PySem (Expr Pos Operator CmpOp Value Shared Sem wpAny)
theorem callR_or {X : Cx} {f : Value} {r r' : List V → Hp → VK → Prop} (h : CallR X f r) (h' : CallR X f r') : CallR X f (fun xs H Q => r xs H Q ∨ r' xs H Q) := by
  intro pins s σ H xs us Q I rv q
  rcases q with q | q
  · exact h pins s σ H xs us Q I rv q
  · exact h' pins s σ H xs us Q I rv q
section
variable {K : Kf} {θ : List Ad} {H0 H : Hp}
theorem rxs1 {x : SV} {vs : List V} (h : RXs K θ H0 H [x] vs) : ∃ v, vs = [v] ∧ RX K θ H0 H x v := by
  cases h with
  | cons h r => cases r; exact ⟨_, rfl, h⟩
theorem rxs2 {x y : SV} {vs : List V} (h : RXs K θ H0 H [x, y] vs) : ∃ v w, vs = [v, w] ∧ RX K θ H0 H x v ∧ RX K θ H0 H y w := by
  cases h with
  | cons h r => cases r with
    | cons h2 r => cases r; exact ⟨_, _, rfl, h, h2⟩
theorem sq_or {t : Bool} {a : Ad} {vs : List V} (s : Sq K t H a vs) : SqL K H a vs ∨ SqT K H a vs := by
  unfold Sq at s
  split at s
  · exact .inr s
  · exact .inl (.inl s)
end
def rAbs : List V → Hp → VK → Prop := fun xs H Q => ∃ i, xs = [.int i] ∧ Q (.int (if i < 0 then -i else i)) H
def rInt1 : List V → Hp → VK → Prop := fun xs H Q => (∃ i, xs = [.int i] ∧ Q (.int i) H) ∨ ∃ k, xs = [.bl k] ∧ Q (.int (if k then 1 else 0)) H
def rLen (K : Kf) : List V → Hp → VK → Prop := fun xs H Q => ∃ x n, xs = [x] ∧ L2.LenV K x H n ∧ Q (.int n) H
def rMx2 : List V → Hp → VK → Prop := fun xs H Q => ∃ i j, xs = [.int i, .int j] ∧ Q (.int (if j > i then j else i)) H
def rMn2 : List V → Hp → VK → Prop := fun xs H Q => ∃ i j, xs = [.int i, .int j] ∧ Q (.int (if j < i then j else i)) H
def rLst1 (K : Kf) : List V → Hp → VK → Prop := fun xs H Q => ∃ p ys, xs = [.ref p] ∧ (SqL K H p ys ∨ SqT K H p ys) ∧ ∀ l, H l = none → Q (.ref l) (upd H l (.lst ys))
def rTup1 (K : Kf) : List V → Hp → VK → Prop := fun xs H Q => ∃ p ys, xs = [.ref p] ∧ ((SqL K H p ys ∧ ∀ l, H l = none → Q (.ref l) (upd H l (.tup ys))) ∨ (SqT K H p ys ∧ Q (.ref p) H))
/-- each built-in's reading, for one and for two arguments -/
def rPr (K : Kf) : Pr → Nat → List V → Hp → VK → Prop
  | .abs, _ => rAbs
  | .int, _ => rInt1
  | .len, _ => rLen K
  | .sum, _ => Py2.rSumA K
  | .max, 1 => Py2.rMaxA K
  | .max, _ => rMx2
  | .min, 1 => Py2.rMinA K
  | .min, _ => rMn2
  | .all, _ => L2.rAll K
  | .any, _ => L2.rAny K
  | .sorted, _ => fun _ _ _ => False
  | .tuple, _ => rTup1 K
  | .list, _ => rLst1 K
def prVal : Pr → Value
  | .abs => .builtin "abs" | .int => .type "int" | .len => .builtin "len" | .sum => .builtin "sum" | .max => .builtin "max" | .min => .builtin "min" | .all => .builtin "all" | .any => .builtin "any"
  | .sorted => .builtin "sorted" | .tuple => .type "tuple" | .list => .type "list"
theorem cr_pr {X : Cx} (hc : X.calm = true) : ∀ (p : Pr) (n : Nat), CallR X (prVal p) (rPr X.K p n)
  | .abs, _ => L2.call_abs
  | .int, _ => L2.call_int1
  | .len, _ => L2.call_len
  | .sum, _ => Py2.cr_sumA hc
  | .max, 0 => L2.call_max2 hc
  | .max, 1 => Py2.cr_maxA hc
  | .max, _ + 2 => L2.call_max2 hc
  | .min, 0 => L2.call_min2 hc
  | .min, 1 => Py2.cr_minA hc
  | .min, _ + 2 => L2.call_min2 hc
  | .all, _ => L2.cr_all hc
  | .any, _ => L2.cr_any hc
  | .sorted, _ => fun _ _ _ _ _ _ _ _ _ h => h.elim
  | .tuple, _ => L2.call_tuple_of
  | .list, _ => L2.call_list_of
theorem ok_pr {K : Kf} (p : Pr) (n : Nat) (hp : p ≠ .sorted) : PrOk K p n (rPr K p n) := by
  intro σ θ st H0 H xs vs z Q hn R d e r q
  have K0 : ∀ {w}, RX K θ H0 H z w → Q w H := fun x => q _ _ (.refl R) x
  cases p with
  | abs =>
    replace e : prAbs xs = some z := e
    unfold prAbs at e
    split at e
    · cases e
      obtain ⟨v, rfl, a⟩ := rxs1 r
      exact ⟨_, by rw [rx_int a], K0 rx_mkint⟩
    · cases e
  | int =>
    replace e : prInt xs = some z := e
    unfold prInt at e
    split at e
    · cases e
      obtain ⟨v, rfl, a⟩ := rxs1 r
      exact .inl ⟨_, by rw [rx_int a], K0 rx_mkint⟩
    · cases e
      obtain ⟨v, rfl, a⟩ := rxs1 r
      exact .inr ⟨_, by rw [rx_bl a], K0 rx_mkint⟩
    · cases e
  | len =>
    replace e : prLen st.m xs = some z := e
    unfold prLen at e
    split at e
    · split at e
      · rename_i ys ei
        cases e
        obtain ⟨v, rfl, a⟩ := rxs1 r
        obtain ⟨p, us, rfl, s, t⟩ := items_rel R.m ei a
        refine ⟨_, us.length, rfl, ?_, by rw [t.length]; exact K0 rx_mkint⟩
        rcases sq_or s with s | s
        · exact .inl ⟨us, s, rfl⟩
        · exact .inr ⟨us, s, rfl⟩
      · cases e
    · cases e
  | sum =>
    replace e : prSum st.m xs = some z := e
    unfold prSum at e
    split at e
    · obtain ⟨ys, ei, e⟩ := Option.bind_eq_some_iff.mp e
      obtain ⟨is, e2, rfl⟩ := Option.map_eq_some_iff.mp e
      obtain ⟨v, rfl, a⟩ := rxs1 r
      obtain ⟨p, us, rfl, s, t⟩ := items_rel R.m ei a
      rw [ints_of e2] at t
      have ht := t.ints
      subst ht
      exact ⟨p, is, rfl, sq_or s, K0 rx_mkint⟩
    · cases e
  | max =>
    replace e : prMax st.m xs = some z := e
    unfold prMax at e
    split at e
    · obtain ⟨ys, ei, e⟩ := Option.bind_eq_some_iff.mp e
      obtain ⟨is, e2, e⟩ := Option.bind_eq_some_iff.mp e
      obtain ⟨i, e3, rfl⟩ := Option.map_eq_some_iff.mp e
      obtain ⟨v, rfl, a⟩ := rxs1 r
      obtain ⟨p, us, rfl, s, t⟩ := items_rel R.m ei a
      rw [ints_of e2] at t
      have ht := t.ints
      subst ht
      subst hn
      obtain ⟨h0, h1, h2⟩ := maxI_spec e3
      refine ⟨p, is, rfl, sq_or s, h0, fun m hm hb => ?_⟩
      have e4 : m = i := Int.le_antisymm (h2 m hm) (hb i h1)
      rw [e4]
      exact K0 rx_mkint
    · cases e
      subst hn
      obtain ⟨v, w, rfl, a, b⟩ := rxs2 r
      exact ⟨_, _, by rw [rx_int a, rx_int b], K0 rx_mkint⟩
    · cases e
  | min =>
    replace e : prMin st.m xs = some z := e
    unfold prMin at e
    split at e
    · obtain ⟨ys, ei, e⟩ := Option.bind_eq_some_iff.mp e
      obtain ⟨is, e2, e⟩ := Option.bind_eq_some_iff.mp e
      obtain ⟨i, e3, rfl⟩ := Option.map_eq_some_iff.mp e
      obtain ⟨v, rfl, a⟩ := rxs1 r
      obtain ⟨p, us, rfl, s, t⟩ := items_rel R.m ei a
      rw [ints_of e2] at t
      have ht := t.ints
      subst ht
      subst hn
      obtain ⟨h0, h1, h2⟩ := minI_spec e3
      refine ⟨p, is, rfl, sq_or s, h0, fun m hm hb => ?_⟩
      have e4 : m = i := Int.le_antisymm (hb i h1) (h2 m hm)
      rw [e4]
      exact K0 rx_mkint
    · cases e
      subst hn
      obtain ⟨v, w, rfl, a, b⟩ := rxs2 r
      exact ⟨_, _, by rw [rx_int a, rx_int b], K0 rx_mkint⟩
    · cases e
  | all =>
    replace e : prAll st.m xs = some z := e
    unfold prAll at e
    split at e
    · split at e
      · cases e
      · rename_i ht
        obtain ⟨ys, ei, e⟩ := Option.bind_eq_some_iff.mp e
        obtain ⟨is, e2, rfl⟩ := Option.map_eq_some_iff.mp e
        obtain ⟨v, rfl, a⟩ := rxs1 r
        obtain ⟨p, us, rfl, s, t⟩ := items_rel R.m ei a
        rw [bools_of e2] at t
        have h2 := t.bls
        subst h2
        unfold Sq at s
        rw [if_neg ht] at s
        exact ⟨p, is, rfl, .inl s, K0 rx_mkbl⟩
    · cases e
  | any =>
    replace e : prAny st.m xs = some z := e
    unfold prAny at e
    split at e
    · split at e
      · cases e
      · rename_i ht
        obtain ⟨ys, ei, e⟩ := Option.bind_eq_some_iff.mp e
        obtain ⟨is, e2, rfl⟩ := Option.map_eq_some_iff.mp e
        obtain ⟨v, rfl, a⟩ := rxs1 r
        obtain ⟨p, us, rfl, s, t⟩ := items_rel R.m ei a
        rw [bools_of e2] at t
        have h2 := t.bls
        subst h2
        unfold Sq at s
        rw [if_neg ht] at s
        exact ⟨p, is, rfl, .inl s, K0 rx_mkbl⟩
    · cases e
  | sorted => exact absurd rfl hp
  | tuple =>
    replace e : prTuple st.m xs = some z := e
    unfold prTuple at e
    split at e
    · split at e
      · rename_i ys ei
        cases e
        obtain ⟨v, rfl, a⟩ := rxs1 r
        obtain ⟨p, us, rfl, s, t⟩ := items_rel R.m ei a
        refine ⟨p, us, rfl, ?_⟩
        unfold Sq at s
        split at s
        · exact .inr ⟨s, K0 (rx_tup s t)⟩
        · exact .inl ⟨.inl s, fun l n => q _ _ (.new R n) (new_tup R n t)⟩
      · cases e
    · cases e
  | list =>
    replace e : prList st.m xs = some z := e
    unfold prList at e
    split at e
    · split at e
      · rename_i ys ei
        cases e
        obtain ⟨v, rfl, a⟩ := rxs1 r
        obtain ⟨p, us, rfl, s, t⟩ := items_rel R.m ei a
        exact ⟨p, us, rfl, sq_or s, fun l n => q _ _ (.new R n) (new_own R d n t)⟩
      · cases e
    · cases e

theorem RXs.length {K : Kf} {θ : List Ad} {H0 H : Hp} {xs : List SV} {vs : List V} (h : RXs K θ H0 H xs vs) : xs.length = vs.length := by
  induction h with
  | nil => rfl
  | cons _ _ ih => rw [List.length_cons, List.length_cons, ih]
section
variable {X : Cx} {W : WE} {g : M (List SV)} {x : PySem.Str} {p pos : Pos} {e : Expr} {es : List Expr}
theorem cr_prA (hc : X.calm = true) (p : Pr) : CallR X (prVal p) (fun vs H Q => rPr X.K p vs.length vs H Q) := fun pins s σ H xs us Q I r h => cr_pr hc p xs.length pins s σ H xs us Q I r h
theorem pr_imp {K : Kf} {pr : Pr} (hp : pr ≠ .sorted) {σ : Sg} {H : Hp} {Q : VK} (h : tE K W (M.bind g fun vs => fun s => M.of (prim s.m pr vs) s) σ H Q) : L2.tCB (fun vs H Q => rPr K pr vs.length vs H Q) (tP K W g) σ H Q := by
  obtain ⟨θ, st, R, h⟩ := h
  refine ⟨θ, st, R, h.bind.mono (fun _ _ z => z) fun xs s1 h1 vs θ1 H1 p1 x1 => ?_⟩
  obtain ⟨z, e, h2⟩ := h1.of
  exact ok_pr pr vs.length hp σ θ1 s1 H H1 xs vs z Q x1.length p1.rel p1.keep.dom e x1 fun w H' q rw => h2 w θ1 H' (p1.trans q) rw
theorem e_pr (pr : Pr) (hp : pr ≠ .sorted) (hc : X.calm = true) (hg : L2.Gl X x) (hm : X.mg x = none) (hv : PySem.bootBuiltins x = some (prVal pr)) (ha : PA X (e :: es) (tP X.K W g)) (hn : x ≠ "__name__") (hdb : (x == ("__debug__" : PySem.Str)) = false)
    (he : PySem.starEach (e :: es) X.env = (false, PySem.eval e X.env) :: PySem.starEach es X.env) (hpl : (PySem.backTo pos (PySem.starEach es X.env)).any (·.1) = false) :
    PE X (.Call (.Name x p) (e :: es) [] pos) (tE X.K W (M.bind g fun vs => fun s => M.of (prim s.m pr vs) s)) := by
  have hcr := cr_prA (X := X) hc pr
  cases hk : prVal pr with
  | builtin id =>
    rw [hk] at hcr hv
    exact pe_imp (L2.pe_callB hcr hg hm hv ha hn hdb he hpl) fun σ H Q h => pr_imp hp h
  | type T =>
    rw [hk] at hcr hv
    exact pe_imp (L2.pe_callTy hcr hg hm hv ha hn hdb he hpl) fun σ H Q h => pr_imp hp h
  | _ => cases pr <;> cases hk
end
end Py
end

section
set_option autoImplicit false
set_option linter.all false
set_option Elab.async false
set_option maxRecDepth 100000
set_option maxHeartbeats 4000000
/-! Items, slices, isinstance. -/
namespace Py
open L2 (V Hp HO SqL SqT Rd upd upd_same upd_ne ne_of ne_of_none Cx PE PT PW PA TE TT TA VK R2 OpR tOp thn EP TP Inv RelV CallR Sp)
open PySem (Expr Pos Operator CmpOp Value Shared Sem wpAny)
def asIx (f : M SV) : M Int := M.bind f asInt
def ixM (fa fi : M SV) : M SV := M.bind fa fun x => M.bind fi fun y => M.bind (asInt y) fun j => fun s => match items s.m x with
    | some xs => M.of ((getI xs j).map .val) s
    | none => none
theorem asInt_of {y : SV} {s : S} {w : Ex → S → Prop} {k : Int → S → Prop} (h : wpO (asInt y s) w k) : ∃ j, y = .val (.int j) ∧ k j s := by
  unfold asInt at h
  split at h
  · exact ⟨_, rfl, h⟩
  · exact h.elim
section
variable {X : Cx} {W : WE} {fa fb fc : M SV} {a b : Expr} {pos p2 : Pos}
theorem e_ix (ha : PE X a (tE X.K W fa)) (hb : PE X b (tE X.K W fb)) (hs : L2.PlainIx b) : PE X (.Subscript a b pos) (tE X.K W (ixM fa fb)) := by
  refine pe_imp (L2.pe_ix L2.ix_seq ha hb hs) fun σ H Q hq => ?_
  obtain ⟨θ, st, R, h⟩ := hq
  refine ⟨θ, st, R, h.bind.mono (fun _ _ z => z) fun x s1 h1 u θ1 H1 p1 x1 => ?_⟩
  refine ⟨θ1, s1, p1.rel, h1.bind.mono (fun _ _ z => z.later p1) fun y s2 h2 v θ2 H2 p2 y2 => ?_⟩
  obtain ⟨j, rfl, h3⟩ := asInt_of h2.bind
  have p := p1.trans p2
  have x2 := RX.later R p1 x1 p2
  obtain rfl := rx_int y2
  cases ei : items s2.m x with
  | none => rw [ei] at h3; exact h3.elim
  | some xs =>
    rw [ei] at h3
    obtain ⟨z, e, h4⟩ := h3.of
    obtain ⟨w, e1, rfl⟩ := Option.map_eq_some_iff.mp e
    unfold getI at e1
    obtain ⟨k, e2, e3⟩ := Option.bind_eq_some_iff.mp e1
    obtain ⟨q, us, rfl, s, t⟩ := items_rel p.rel.m ei x2
    obtain ⟨w', g1, g2⟩ := t.get e3
    have at_ : L2.atI us j = some w' := by
      unfold L2.atI
      have : L2.ixN us.length j = some k := by rw [t.length]; exact e2
      rw [this]
      exact g1
    unfold Sq at s
    split at s
    · exact .inr (.inl ⟨q, us, j, w', rfl, rfl, s, at_, h4 w' θ2 H2 p g2⟩)
    · exact .inl ⟨q, us, j, w', rfl, rfl, .inl s, at_, h4 w' θ2 H2 p g2⟩
/-- a slice's bound -/
def tO (K : Kf) (W : WE) (f : M (Option Int)) : L2.TO := fun σ H Q => ∃ θ st, Rel K θ st σ H ∧ wpO (f st) (we K W σ θ st H) fun o st' => ∀ θ' H', Post K σ θ st H θ' st' H' → Q o H'
theorem po_imp {X : Cx} {e : Option Expr} {t t' : L2.TO} (h : L2.PO X e t) (i : ∀ σ H Q, t' σ H Q → t σ H Q) : L2.PO X e t' := ⟨fun pins s σ H Q I q => h.run pins s σ H Q I (i σ H Q q)⟩
theorem o_no : L2.PO X none (tO X.K W (M.pure none)) := po_imp L2.po_none fun σ H Q hq => by
  obtain ⟨θ, st, R, h⟩ := hq
  exact h.pure θ H (.refl R)
theorem o_of (ha : PE X a (tE X.K W fa)) : L2.PO X (some a) (tO X.K W (M.bind fa fun x => M.bind (asInt x) fun i => M.pure (some i))) := po_imp (L2.po_some ha) fun σ H Q hq => by
  obtain ⟨θ, st, R, h⟩ := hq
  refine ⟨θ, st, R, h.bind.mono (fun _ _ z => z) fun x s1 h1 u θ1 H1 p1 x1 => ?_⟩
  obtain ⟨j, rfl, h3⟩ := asInt_of h1.bind
  exact ⟨j, rx_int x1, h3.pure θ1 H1 p1⟩
theorem bound_sIx (n d : Nat) (o : Option Int) : bound n d o = HT.sIx n d o := by
  cases o <;> rfl
theorem RVs.cut {K : Kf} {θ : List Ad} {H : Hp} {xs : List Val} {vs : List V} (r : RVs K θ H xs vs) (lo hi : Option Int) : RVs K θ H (cut xs lo hi) (L2.cutV vs lo hi) := by
  unfold Py.cut L2.cutV
  rw [bound_sIx, bound_sIx, r.length]
  exact (r.drop _).take _
theorem cut_whole {xs : List Val} {lo hi : Option Int} {n : Nat} (hn : n = xs.length) (h : HT.sIx n 0 lo = 0 ∧ HT.sIx n n hi = n) : cut xs lo hi = xs := by
  subst hn
  unfold Py.cut
  rw [bound_sIx, bound_sIx, h.1, h.2]
  simp
def slM (fa : M SV) (fl fh : M (Option Int)) : M SV := M.bind fa fun x => M.bind fl fun l => M.bind fh fun h => fun s => match items s.m x with
    | some xs => M.pure (if isTup x then .val (.tup (cut xs l h)) else .own (cut xs l h)) s
    | none => none
theorem e_sl {lo hi : Option Expr} {fl fh : M (Option Int)} (ha : PE X a (tE X.K W fa)) (hl : L2.PO X lo (tO X.K W fl)) (hh : L2.PO X hi (tO X.K W fh)) : PE X (.Subscript a (.Slice lo hi none p2) pos) (tE X.K W (slM fa fl fh)) := by
  refine pe_imp (L2.pe_slice (L2.sl_list.or L2.sl_tupA) ha hl hh) fun σ H Q hq => ?_
  obtain ⟨θ, st, R, h⟩ := hq
  refine ⟨θ, st, R, h.bind.mono (fun _ _ z => z) fun x s1 h1 u θ1 H1 p1 x1 => ?_⟩
  refine ⟨θ1, s1, p1.rel, h1.bind.mono (fun _ _ z => z.later p1) fun l s2 h2 θ2 H2 p2 => ?_⟩
  refine ⟨θ2, s2, p2.rel, h2.bind.mono (fun _ _ z => (z.later p1).later p2) fun l' s3 h3 θ3 H3 p3 => ?_⟩
  have p := p1.trans (p2.trans p3)
  have x3 := RX.later R p1 x1 (p2.trans p3)
  cases ei : items s3.m x with
  | none => rw [ei] at h3; exact h3.elim
  | some xs =>
    rw [ei] at h3
    dsimp only at h3
    obtain ⟨q, us, rfl, s, t⟩ := items_rel p.rel.m ei x3
    by_cases ht : isTup x = true
    · rw [if_pos ht] at h3
      unfold Sq at s
      rw [if_pos ht] at s
      refine .inr ⟨q, us, rfl, s, fun hw => ?_, fun hw d n => h3.pure _ θ3 _ (p.trans (.new p.rel n)) (new_tup p.rel n (t.cut l l'))⟩
      have h4 := h3.pure
      rw [cut_whole t.length hw] at h4
      exact h4 _ θ3 H3 p (rx_tup s t)
    · rw [if_neg ht] at h3
      unfold Sq at s
      rw [if_neg ht] at s
      exact .inl ⟨q, us, rfl, .inl s, fun d n => h3.pure _ θ3 _ (p.trans (.new p.rel n)) (new_own p.rel p.keep.dom n (t.cut l l'))⟩
end
/-! ### isinstance -/
def tyN : Ty → String
  | .int => "int" | .bool => "bool" | .tuple => "tuple" | .list => "list" | .str => "str"
inductive Kd where
  | non | bl | int | str | tup | lst
def kdN : Kd → String
  | .non => "NoneType" | .bl => "bool" | .int => "int" | .str => "str" | .tup => "tuple" | .lst => "list"
/-- a value's own type -/
def kdV : SV → Kd
  | .val .non => .non
  | .val (.bl _) => .bl
  | .val (.int _) => .int
  | .val (.str _) => .str
  | .val (.tup _) => .tup
  | _ => .lst
def tyV (x : SV) : String := kdN (kdV x)
def tyB : Kd → Ty → Bool
  | .bl, .int => true
  | .bl, .bool => true
  | .int, .int => true
  | .str, .str => true
  | .tup, .tuple => true
  | .lst, .list => true
  | _, _ => false
theorem isTy_tyB (x : SV) (t : Ty) : isTy x t = tyB (kdV x) t := by
  cases x with
  | own xs => cases t <;> rfl
  | pk xs => cases t <;> rfl
  | val v => cases v <;> cases t <;> rfl
theorem kit_tab (k : Kd) (t : Ty) : L2.kitB (kdN k) (tyN t) = some (tyB k t) := by
  cases k <;> cases t <;> decide +kernel
theorem kit_all (x : SV) (t : Ty) (K : Kf) : PySem.W.kitOne K (.type (tyV x)) (.type (tyN t)) = some (isTy x t) := by
  rw [isTy_tyB]
  exact L2.kit_ty (kit_tab _ _)
section
variable {K : Kf} {θ : List Ad} {st : S} {σ : Sg} {H H0 : Hp}
theorem ty_rel (r : RelM K θ st.m H) {x : SV} {u : V} (q : RX K θ H0 H x u) : L2.TyX K H u (.type (tyV x)) := by
  cases x with
  | own xs =>
    obtain ⟨a, vs, rfl, h, _⟩ := q
    exact .base (.lst h)
  | pk xs =>
    obtain ⟨a, vs, rfl, h, _⟩ := q
    rcases h with h | ⟨o, h⟩
    · exact .base (.lst h)
    · exact .base (.frz h)
  | val v =>
    unfold RX at q
    unfold RV at q
    cases v with
    | non => subst q; exact .base .non
    | bl b => subst q; exact .base (.bl b)
    | int b => subst q; exact .base (.int b)
    | str b => subst q; exact .base (.str b)
    | tup xs =>
      obtain ⟨a, vs, rfl, h, _⟩ := q
      rcases h with (h | ⟨o, h⟩) | ⟨o, its, n, h, hc, _⟩
      · exact .base (.tup h)
      · exact .fTuple h
      · exact .kTuple h hc
    | lst xs =>
      obtain ⟨a, vs, rfl, ⟨o, h⟩, _⟩ := q
      exact .base (.frz h)
    | scr xs =>
      obtain ⟨a, vs, rfl, ⟨o, h⟩ | ⟨o, its, n, h, hc, _⟩, _⟩ := q
      · exact .base (.frz h)
      · exact .kList h hc
    | loc n =>
      obtain ⟨a, rfl, h⟩ := q
      have hl : n < st.m.length := by rw [r.len]; exact (List.getElem?_eq_some_iff.mp h).1
      obtain ⟨b, vs, h1, h2, _⟩ := r.at_ n st.m[n] (List.getElem?_eq_getElem hl)
      rw [h] at h1
      cases h1
      exact .base (.lst h2)
theorem kitAny_all (K : Kf) (x : SV) : ∀ ts : List Ty, PySem.W.kitAny K (.type (tyV x)) (ts.map fun t => .type (tyN t)) = some (ts.any (isTy x))
  | [] => rfl
  | t :: ts => by
    refine L2.kitAny_cons (kit_all x t K) (fun h => ?_) (fun h => ?_)
    · rw [List.any_cons, h, Bool.false_or]; exact kitAny_all K x ts
    · rw [List.any_cons, h, Bool.true_or]
end
section
variable {X : Cx} {W : WE} {fa : M SV} {a c : Expr} {x : PySem.Str} {pos p : Pos}
def isiM (fa : M SV) (ts : List Ty) : M SV := M.bind fa fun x => M.pure (.val (.bl (ts.any (isTy x))))
theorem e_isi {t : Ty} (hg : L2.Gl X "isinstance") (hm : X.mg "isinstance" = none) (ha : PE X a (tE X.K W fa)) (hc : PE X c (L2.tC (.ty (tyN t))))
    (h1 : PySem.starEach [a, c] X.env = (false, PySem.eval a X.env) :: PySem.starEach [c] X.env) (h2 : PySem.starEach [c] X.env = (false, PySem.eval c X.env) :: PySem.starEach [] X.env) :
    PE X (.Call (.Name "isinstance" p) [a, c] [] pos) (tE X.K W (isiM fa [t])) := by
  refine pe_imp (L2.pe_callB L2.call_isi hg hm (by decide +kernel) (L2.pa_cons ha (L2.pa_cons hc L2.pa_nil h2) h1) (by decide) (by decide) h1 (by rw [h2]; rfl)) fun σ H Q hq => ?_
  obtain ⟨θ, st, R, h⟩ := hq
  refine ⟨θ, st, R, h.bind.mono (fun _ _ z => z) fun y s1 h1 u θ1 H1 p1 x1 => ?_⟩
  refine ⟨u, .ty (tyN t), .type (tyV y), .type (tyN t), isTy y t, rfl, .ty _, ty_rel p1.rel.m x1, kit_all y t X.K, ?_⟩
  have h4 := h1.pure
  rw [List.any_cons, List.any_nil, Bool.or_false] at h4
  exact h4 _ θ1 H1 p1 rx_mkbl
end
end Py
end

section
set_option autoImplicit false
set_option linter.all false
set_option Elab.async false
set_option maxRecDepth 100000
set_option maxHeartbeats 4000000
/-! enumerate and zip of lists and tuples, in any mix. -/
namespace Py2
open L2 PySem PySem.Spec PyProof.Rows
/-- a list (false) or a tuple (true) -/
def SqS (K : PySem.W.Frag) : Bool → Hp → Addr → List V → Prop
  | true, H, a, vs => SqT K H a vs
  | false, H, a, vs => SqL K H a vs
def IsS : Bool → Heap → Addr → Array Value → Prop
  | true, h, a, vs => h.IsTuple a vs
  | false, h, a, vs => h.IsList a vs
def IterS : Bool → Heap → Addr → Addr → Nat → Prop
  | true, h, it, a, i => h.IsTupleIter it a i
  | false, h, it, a, i => h.IsListIter it a i
theorem seqI {X : Cx} {pins : List (Addr × Obj)} {σ : L2.St} {H : Hp} {s : Shared} {a : Addr} {xs : List V} (I : Inv X pins σ H s) : ∀ {t : Bool}, SqS X.K t H a xs → ∃ its : List Value, Vals xs its ∧ IsS t s.heap a its.toArray
  | true, h => by obtain ⟨its, r, p, _⟩ := I.tuple h; exact ⟨its, r, p⟩
  | false, h => by obtain ⟨its, r, p, _⟩ := I.list h; exact ⟨its, r, p.isList⟩
theorem seq_inj {X : Cx} {pins : List (Addr × Obj)} {σ : L2.St} {H : Hp} {s : Shared} {a : Addr} {xs ys : List V} (I : Inv X pins σ H s) : ∀ {t : Bool}, SqS X.K t H a xs → SqS X.K t H a ys → xs = ys
  | true, h, h' => I.tuple_inj h h'
  | false, h, h' => I.list_inj h h'
theorem IterS.at {h h' : Heap} {it a : Addr} {i : Nat} : ∀ {t : Bool}, IterS t h it a i → (∀ o, h.get? it = some o → h'.get? it = some o) → IterS t h' it a i
  | true, ⟨o, e, r⟩, k => ⟨o, k o e, r⟩
  | false, ⟨o, e, r⟩, k => ⟨o, k o e, r⟩
theorem IterS.obj {h : Heap} {it a : Addr} {i : Nat} : ∀ {t : Bool}, IterS t h it a i → ∃ o, h.get? it = some o ∧ ∀ v, o.data ≠ .cell v
  | true, ⟨o, e, _, d⟩ => ⟨o, e, fun v q => by rw [d] at q; cases q⟩
  | false, ⟨o, e, _, d⟩ => ⟨o, e, fun v q => by rw [d] at q; cases q⟩
theorem IsS.lt {h : Heap} {a : Addr} {vs : Array Value} : ∀ {t : Bool}, IsS t h a vs → a < h.objs.size
  | true, ⟨_, e, _⟩ => Heap.lt_size e
  | false, ⟨_, e, _⟩ => Heap.lt_size e
theorem draws_seq {prog : Program} {w : World} {A : Around} (hh : A.handled = none) (it l : Addr) (hne : l ≠ it) (items : Array Value) : ∀ t : Bool,
    Draws prog w A it [it, l] items.size (fun i v => items[i]? = some v) (fun i h => IterS t h it l i ∧ IsS t h l items)
  | true => Draws.tuple hh it l hne items
  | false => Draws.list hh it l hne items
def seqO (t : Bool) (a : Addr) : Obj := if t then { cls := .type "tuple_iterator", data := .fields #[.ref a, .int 0 0] } else { cls := .type "list_iterator", data := .fields #[.ref a, .int 0 0] }
theorem begins_seq (a : Addr) (items : Array Value) : ∀ t : Bool, Begins (.ref a) (seqO t a) (fun h => IsS t h a items)
  | true => begins_tuple a items
  | false => begins_list a items
theorem iterS_new {h : Heap} {it a : Addr} : ∀ {t : Bool}, h.get? it = some (seqO t a) → IterS t h it a 0
  | true, e => ⟨_, e, rfl, rfl⟩
  | false, e => ⟨_, e, rfl, rfl⟩
/-! ### enumerate -/
def Itn (K : PySem.W.Frag) (t : Bool) (a : Addr) (k : Int) : It :=
  ⟨fun i H => ∃ (xs : List V) (x : V), SqS K t H a xs ∧ xs[i]? = some x, fun i H v H' => ∃ T x, v = .ref T ∧ H T = none ∧ H' = upd H T (.tup [.int (k + (i : Nat)), x]) ∧ ∀ xs, SqS K t H a xs → xs[i]? = some x, fun i H => ∃ xs : List V, SqS K t H a xs ∧ xs.length = i⟩
theorem turn_enumS {P : Program} {w : World} {K : PySem.W.Frag} {elts : List Expr} {kk : Nat} {tpos : Pos} (t : Bool) (k : Int) (a e it : Addr) :
    Turn P w K (.Tuple elts kk tpos) (Itn K t a k) [e, it] e (fun i h => (∃ old, IsEnum h e it (k + (i : Nat)) old) ∧ IterS t h it a i ∧ e ≠ it ∧ a ≠ it ∧ e ≠ a) where
  mem := by simp
  obj := fun i h st b hb => by
    obtain ⟨⟨old, he⟩, hi, _⟩ := st
    have e' : b = e ∨ b = it := by simpa using hb
    rcases e' with z | z
    · rw [z]; exact ⟨_, he, fun v q => nomatch q⟩
    · rw [z]; exact hi.obj
  keep := fun i h h' st k => let ⟨⟨old, he⟩, hi, hne⟩ := st; ⟨⟨old, k e (by simp) _ he⟩, hi.at fun o q => k it (by simp) o q, hne⟩
  item := by
    intro X hP hw hK hc i pins s σ H E I hf st hg
    subst hP hw hK
    obtain ⟨⟨old, he⟩, hit, hne, hai, hea⟩ := st
    obtain ⟨xs, x, hq, hx⟩ := hg
    obtain ⟨its, rv, p⟩ := seqI I hq
    obtain ⟨u, hu, ru⟩ := rv.get hx
    have hel : e < s.heap.objs.size := Heap.lt_size he
    have hil : it < s.heap.objs.size := by obtain ⟨_, q, _⟩ := hit.obj; exact Heap.lt_size q
    have hlt : i < its.toArray.size := by have := (List.getElem?_eq_some_iff.mp hu).1; simpa using this
    refine wpAny_pyNext_enum_itemC (draws_seq (prog := X.prog) (w := X.w) (A := X.A.in1) (show X.A.in1.handled = none from I.ok.hd hc) it a hai its.toArray t) he ⟨hit, p⟩ hlt hne (by simp [hne, hea]) fun u' h' tk hP ho hs' hT hsz hk => ?_
    have eu : u' = u := by
      have q : its.toArray[i]? = some u' := hP
      rw [List.getElem?_toArray, hu] at q
      cases q; rfl
    subst eu
    refine ⟨_, rfl, wpAny_letOwnedTupleGo_enum (s := { s with heap := h', toks := tk + 1 }) ho fun h'' he' sb => ?_⟩
    have hT2 : h''.get? s.heap.objs.size = some { cls := .type "tuple", data := .seq #[.int (k + (i : Nat)) tk, u'] } := (sb.2 _ (Nat.ne_of_gt hel)).trans hT
    have new : ObjOk X.prog X.w (upd H s.heap.objs.size (.tup [.int (k + (i : Nat)), x])) h'' s.heap.objs.size (.tup [.int (k + (i : Nat)), x]) :=
      ⟨by show 2 ≤ sizeLine; decide, [.int (k + (i : Nat)) tk, u'], .cons ⟨_, rfl⟩ (.cons ru .nil), ⟨_, hT2, rfl, _, rfl⟩⟩
    have I1 : Inv X pins σ (upd H s.heap.objs.size (.tup [.int (k + (i : Nat)), x])) { s with heap := h'', toks := tk + 1 } :=
      I.turnedNew (ch := [e, it]) (fun b ob hb q => (sb.2 b (fun z => hb (by simp [z]))).trans (hk b ob (fun z => hb (by simp [z])) (fun z => hb (by simp [z])) q)) hf (Nat.le_refl _) new
    refine ⟨.ref s.heap.objs.size, _, I1, rfl, ⟨_, x, rfl, I.hok.fresh (Nat.le_refl _), rfl, fun ys hy => by rw [seq_inj I hy hq]; exact hx⟩, ⟨⟨u', ?_⟩, hs'.1.at fun o q => (sb.2 it (Ne.symm hne)).trans q, hne, hai, hea⟩, fun b hb => ?_⟩
    · have e1 : k + ((i + 1 : Nat) : Int) = k + (i : Int) + 1 := by omega
      rw [e1]; exact he'
    · have hb' : b < s.heap.objs.size := by
        have e' : b = e ∨ b = it := by simpa using hb
        rcases e' with z | z
        · rw [z]; exact hel
        · rw [z]; exact hil
      rw [upd_ne (Nat.ne_of_lt hb')]
      exact (hf b hb).1
  done := by
    intro X hP hw hK hc i pins s σ H E I hf st hg
    subst hP hw hK
    obtain ⟨⟨old, he⟩, hit, hne, hai, hea⟩ := st
    obtain ⟨xs, hq, hx⟩ := hg
    obtain ⟨its, rv, p⟩ := seqI I hq
    obtain ⟨f0, f1, f2, f3, f4, f5⟩ := hf it (by simp)
    have hl : its.toArray.size = i := by have := rv.length; simp; omega
    exact wpAny_pyNext_enum_endD (draws_seq (prog := X.prog) (w := X.w) (A := X.A.in1) (show X.A.in1.handled = none from I.ok.hd hc) it a hai its.toArray t) he (by rw [hl]; exact ⟨hit, p⟩) fun h' eb => ⟨rfl, I.turned (t' := s.toks) (fun b o hb q => eb b o hb q) f0 f1 f3 f4 f5⟩
  self := fun A i s Q E st h => let ⟨⟨_, he⟩, _⟩ := st; wpAny_pyIter_enum he h
/-! ### zip -/
def ItzS (K : PySem.W.Frag) (t1 t2 : Bool) (a b : Addr) : It :=
  ⟨fun i H => ∃ (xs ys : List V) (x y : V), SqS K t1 H a xs ∧ SqS K t2 H b ys ∧ xs[i]? = some x ∧ ys[i]? = some y,
    fun i H v H' => ∃ T x y, v = .ref T ∧ H T = none ∧ H' = upd H T (.tup [x, y]) ∧ (∀ xs, SqS K t1 H a xs → xs[i]? = some x) ∧ ∀ ys, SqS K t2 H b ys → ys[i]? = some y,
    fun i H => ∃ xs ys : List V, SqS K t1 H a xs ∧ SqS K t2 H b ys ∧ i = min xs.length ys.length⟩
theorem turn_zipS {P : Program} {w : World} {K : PySem.W.Frag} {elts : List Expr} {kk : Nat} {tpos : Pos} {t1 t2 : Bool} {a b z TI TO i1 i2 : Addr} (D : ZipSep2 z TI TO i1 i2 [i1, a] [i2, b]) (hai : a ≠ i1) (hbi : b ≠ i2) :
    Turn P w K (.Tuple elts kk tpos) (ItzS K t1 t2 a b) [z, TI, TO, i1, i2] z (fun i h => IsZip h z TI TO .none ∧ IsTupOf2 h TI (.ref i1) (.ref i2) ∧ (∃ x y, IsTupOf2 h TO x y) ∧ IterS t1 h i1 a i ∧ IterS t2 h i2 b i) where
  mem := by simp
  obj := fun i h st c hc => by
    obtain ⟨hz, hTI, ⟨x, y, hTO⟩, h1, h2⟩ := st
    have e' : c = z ∨ c = TI ∨ c = TO ∨ c = i1 ∨ c = i2 := by simpa using hc
    rcases e' with q | q | q | q | q
    · rw [q]; exact ⟨_, hz, fun v q => nomatch q⟩
    · rw [q]; exact ⟨_, hTI, fun v q => nomatch q⟩
    · rw [q]; exact ⟨_, hTO, fun v q => nomatch q⟩
    · rw [q]; exact h1.obj
    · rw [q]; exact h2.obj
  keep := fun i h h' st k => by
    obtain ⟨hz, hTI, ⟨x, y, hTO⟩, h1, h2⟩ := st
    exact ⟨k z (by simp) _ hz, k TI (by simp) _ hTI, ⟨x, y, k TO (by simp) _ hTO⟩, h1.at fun o q => k i1 (by simp) o q, h2.at fun o q => k i2 (by simp) o q⟩
  item := by
    intro X hP hw hK hc i pins s σ H E I hf st hg
    subst hP hw hK
    obtain ⟨hz, hTI, ⟨x0, y0, hTO⟩, h1, h2⟩ := st
    obtain ⟨xs, ys, x, y, hqx, hqy, hx, hy⟩ := hg
    obtain ⟨its, rv, p⟩ := seqI I hqx
    obtain ⟨its2, rv2, p2⟩ := seqI I hqy
    obtain ⟨u, hu, ru⟩ := rv.get hx
    obtain ⟨u2, hu2, ru2⟩ := rv2.get hy
    have hzl : z < s.heap.objs.size := Heap.lt_size hz
    have hlt : i < its.toArray.size := by have := (List.getElem?_eq_some_iff.mp hu).1; simpa using this
    have hlt2 : i < its2.toArray.size := by have := (List.getElem?_eq_some_iff.mp hu2).1; simpa using this
    refine wpAny_pyNext_zipD2_item D (draws_seq (prog := X.prog) (w := X.w) (A := X.A.in1) (show X.A.in1.handled = none from I.ok.hd hc) i1 a hai its.toArray t1) (draws_seq (prog := X.prog) (w := X.w) (A := X.A.in1) (show X.A.in1.handled = none from I.ok.hd hc) i2 b hbi its2.toArray t2) hz hTI hTO ⟨h1, p⟩ ⟨h2, p2⟩ hlt hlt2 fun u' u2' h' tk e1 e2 z' TO' h1' h2' hT hsz hk => ?_
    have eu : u' = u := by
      have q : its.toArray[i]? = some u' := e1
      rw [List.getElem?_toArray, hu] at q
      cases q; rfl
    have eu2 : u2' = u2 := by
      have q : its2.toArray[i]? = some u2' := e2
      rw [List.getElem?_toArray, hu2] at q
      cases q; rfl
    subst eu eu2
    refine ⟨_, rfl, wpAny_letOwnedTupleGo_zip (s := { s with heap := h', toks := tk }) z' fun h'' z'' sb => ?_⟩
    have hT2 : h''.get? s.heap.objs.size = some { cls := .type "tuple", data := .seq #[u', u2'] } := (sb.2 _ (Nat.ne_of_gt hzl)).trans hT
    have new : ObjOk X.prog X.w (upd H s.heap.objs.size (.tup [x, y])) h'' s.heap.objs.size (.tup [x, y]) :=
      ⟨by show 2 ≤ sizeLine; decide, [u', u2'], .cons ru (.cons ru2 .nil), ⟨_, hT2, rfl, _, rfl⟩⟩
    have I1 : Inv X pins σ (upd H s.heap.objs.size (.tup [x, y])) { s with heap := h'', toks := tk } := by
      refine I.turnedNew (t' := tk) (ch := [z, TI, TO, i1, i2]) (fun c o hb q => ?_) hf (Nat.le_refl _) new
      refine (sb.2 c (fun q' => hb (by simp [q']))).trans ?_
      exact hk c o (fun q' => hb (by simp [q'])) (fun q' => hb (by simp [q'])) (fun q' => hb (by simp [q'])) (fun q' => hb (by simp [q'])) q
    have hz_ : ∀ {c : Addr}, c ≠ z → ∀ o, h'.get? c = some o → h''.get? c = some o := fun hc o e => (sb.2 _ hc).trans e
    refine ⟨.ref s.heap.objs.size, _, I1, rfl, ⟨_, x, y, rfl, I.hok.fresh (Nat.le_refl _), rfl, fun l hl => by rw [seq_inj I hl hqx]; exact hx, fun l hl => by rw [seq_inj I hl hqy]; exact hy⟩, ⟨z'', ?_, ⟨u', u2', ?_⟩, ?_, ?_⟩, fun c hcm => ?_⟩
    · exact hz_ D.TIz _ (hk _ _ D.TIz D.TITO D.TIi1 D.TIi2 hTI)
    · exact hz_ D.TOz _ TO'
    · exact h1'.1.at fun o q => hz_ (fun e => D.zi1 e.symm) o q
    · exact h2'.1.at fun o q => hz_ (fun e => D.zi2 e.symm) o q
    · have hlt : c < s.heap.objs.size := by
        have e' : c = z ∨ c = TI ∨ c = TO ∨ c = i1 ∨ c = i2 := by simpa using hcm
        rcases e' with q | q | q | q | q
        · rw [q]; exact hzl
        · rw [q]; exact Heap.lt_size hTI
        · rw [q]; exact Heap.lt_size hTO
        · rw [q]; obtain ⟨_, e1, _⟩ := h1.obj; exact Heap.lt_size e1
        · rw [q]; obtain ⟨_, e2, _⟩ := h2.obj; exact Heap.lt_size e2
      rw [upd_ne (Nat.ne_of_lt hlt)]
      exact (hf c hcm).1
  done := by
    intro X hP hw hK hc i pins s σ H E I hf st hg
    subst hP hw hK
    obtain ⟨hz, hTI, ⟨x0, y0, hTO⟩, h1, h2⟩ := st
    obtain ⟨xs, ys, hqx, hqy, hend⟩ := hg
    obtain ⟨its, rv, p⟩ := seqI I hqx
    obtain ⟨its2, rv2, p2⟩ := seqI I hqy
    have l1 : its.toArray.size = xs.length := by have := rv.length; simp; omega
    have l2 : its2.toArray.size = ys.length := by have := rv2.length; simp; omega
    exact wpAny_pyNext_zipD2_end D (draws_seq (prog := X.prog) (w := X.w) (A := X.A.in1) (show X.A.in1.handled = none from I.ok.hd hc) i1 a hai its.toArray t1) (draws_seq (prog := X.prog) (w := X.w) (A := X.A.in1) (show X.A.in1.handled = none from I.ok.hd hc) i2 b hbi its2.toArray t2) hz hTI hTO ⟨h1, p⟩ ⟨h2, p2⟩ (by omega) (by omega) (by omega) fun h' tk hk => ⟨rfl, I.turnedL (t' := tk) (ch := [z, TI, TO, i1, i2]) (fun c o hb q =>
      hk c o (fun q' => hb (by simp [q'])) (fun q' => hb (by simp [q'])) (fun q' => hb (by simp [q'])) (fun q' => hb (by simp [q'])) q) hf⟩
  self := fun A i s Q E st h => wpAny_pyIter_zip st.1 h
open PySem.Sem (wp) in
set_option maxHeartbeats 1000000 in
theorem meets_enumerate_new1 {v : Value} {o : Obj} {H : Heap → Prop} (B : Begins v o H) :
    Meets (Builtin.«enumerate.__new__» ⟨[.type "enumerate", v], []⟩) (fun _ R s => H s.heap ∧
      R (.ok (.ret (.ref (s.heap.push o).objs.size))) { s with heap := (s.heap.push o).push { cls := .type "enumerate", data := .fields #[.none, .bool false, .ref s.heap.objs.size, rawInt 0, .none, .none] } }) :=
  .of_wp fun prog w A R s h => by
    obtain ⟨hp, g, d, tk, os⟩ := s; obtain ⟨h1, h⟩ := h
    have hsub := sub_enumerate
    have q1 : ∀ {A' : Around} {E : Value → Shared → Prop} {Q : Value → Shared → Prop}, Q (.ref hp.objs.size) ⟨hp.push o, g, d, tk, os⟩ → wpAny (model prog w) A' (pyIter v) Q E ⟨hp, g, d, tk, os⟩ :=
      fun q => B.iter prog w _ _ ⟨hp, g, d, tk, os⟩ _ h1 q
    wp_walk using q1
    refine wpAny_stack_any fun st => wpAny_pure ?_
    split
    · rename_i c _ _ _ _ _
      cases (c == Value.type "enumerate")
      · wp_walk using q1
        exact ⟨_, rfl, h⟩
      · wp_walk using q1
        exact ⟨_, rfl, h⟩
    · wp_walk using q1
      exact ⟨_, rfl, h⟩
section
variable {prog : Program} {w : World} {A : Around} {E : Value → Shared → Prop} {s : Shared}
theorem enum_begins1 {v : Value} {o : Obj} {H : Heap → Prop} {Q : Value → Shared → Prop} (B : Begins v o H) (h1 : H s.heap)
    (h : ∀ h', IsEnum h' (s.heap.objs.size + 1) s.heap.objs.size 0 .none → h'.get? s.heap.objs.size = some o → h'.objs.size = s.heap.objs.size + 2 →
      (∀ b o, s.heap.get? b = some o → h'.get? b = some o) → Q (.ref (s.heap.objs.size + 1)) { s with heap := h' }) :
    wpAny (model prog w) A (call (.type "enumerate") [v]) Q E s := by
  refine callType_new F.called_enumerate (by decide) (F.typeCall_enumerate_1 _) (F.newCall_enumerate_1 _) (fun obj => F.args_object_init_2 obj _) F.entry_enumerate_new
    (meets_enumerate_new1 B) ⟨h1, ?_⟩
  have hz : (s.heap.push o).objs.size = s.heap.objs.size + 1 := Heap.size_push ..
  show _ ∧ _
  rw [hz]
  have he : IsEnum ((s.heap.push o).push { cls := .type "enumerate", data := .fields #[.none, .bool false, .ref s.heap.objs.size, rawInt 0, .none, .none] }) (s.heap.objs.size + 1) s.heap.objs.size 0 .none := by
    have := Heap.get?_push_size (s.heap.push o) (o := { cls := .type "enumerate", data := .fields #[.none, .bool false, .ref s.heap.objs.size, rawInt 0, .none, .none] }) rfl
    rw [hz] at this; exact this
  refine ⟨⟨_, he, rfl⟩, h _ he (Heap.get?_push_of_some _ (Heap.get?_push_size _ B.free)) (by rw [Heap.size_push, hz]) fun b o x => Heap.get?_push_of_some _ (Heap.get?_push_of_some _ x)⟩
end
section
variable {X : Cx} {e e2 : Expr} {ta : TA} {p pos tpos : Pos} {elts : List Expr} {kk : Nat}
def iEnumS (K : PySem.W.Frag) (ta : TA) : TI := fun σ H R => ta σ H fun vs H1 => ∃ t a xs, vs = [.ref a] ∧ SqS K t H1 a xs ∧ R (Itn K t a 0) H1
def iEnumK (K : PySem.W.Frag) (ta : TA) : TI := fun σ H R => ta σ H fun vs H1 => ∃ t a xs k, vs = [.ref a, .int k] ∧ -(2 ^ 63) ≤ k ∧ k < 2 ^ 63 ∧ SqS K t H1 a xs ∧ R (Itn K t a k) H1
theorem enumS_fin {pins : List (Addr × Obj)} {σ : L2.St} {H1 : Hp} {s1 : Shared} {R : It → Hp → Prop} {t : Bool} {a : Addr} {k : Int} {h' : Heap} (I1 : Inv X pins σ H1 s1) (hl : a < s1.heap.objs.size) (he : IsEnum h' (s1.heap.objs.size + 1) s1.heap.objs.size k .none) (hit : IterS t h' s1.heap.objs.size a 0) (hk : ∀ b o, s1.heap.get? b = some o → h'.get? b = some o) (q : R (Itn X.K t a k) H1) :
    PIE X pins σ (.Tuple elts kk tpos) R (.ref (s1.heap.objs.size + 1)) { s1 with heap := h' } := by
  have I2 : Inv X pins σ H1 { s1 with heap := h' } := I1.kept (t' := s1.toks) hk
  refine ⟨s1.heap.objs.size + 1, [s1.heap.objs.size + 1, s1.heap.objs.size], _, _, H1, rfl, I2, turn_enumS t k a (s1.heap.objs.size + 1) s1.heap.objs.size, ⟨⟨.none, ?_⟩, hit, Nat.succ_ne_self _, Nat.ne_of_lt hl, Nat.ne_of_gt (Nat.lt_succ_of_lt hl)⟩, fun b hb => ?_, q⟩
  · have : k + ((0 : Nat) : Int) = k := by simp
    rw [this]; exact he
  · have e' : b = s1.heap.objs.size + 1 ∨ b = s1.heap.objs.size := by simpa using hb
    have hle : s1.heap.objs.size ≤ b := by
      rcases e' with z | z
      · rw [z]; exact Nat.le_add_right _ _
      · rw [z]; exact Nat.le_refl _
    exact I1.fpOk hle (I1.hok.fresh hle)
theorem pi_enumS (hg : Gl X "enumerate") (hm : X.mg "enumerate" = none) (ha : PA X [e] ta) (hs : starEach [e] X.env = [(false, eval e X.env)] := by rfl) :
    PI X (.Tuple elts kk tpos) (.Call (.Name "enumerate" p) [e] [] pos) (iEnumS X.K ta) := by
  refine ⟨fun pins s σ H R I h => ?_⟩
  refine Call_ (ld_blt I hg hm boot_enumerate (PyProof.Rows.callWith_type1 (thn (ha.run pos pins s σ H _ I h) fun us s1 ⟨vs, H1, I1, r1, q1⟩ => ?_) hs rfl))
  obtain ⟨t, a, xs, ex, hq, q⟩ := q1
  subst ex
  cases r1 with
  | cons r rr =>
    cases rr
    cases r
    obtain ⟨its, rv, p'⟩ := seqI I1 hq
    exact enum_begins1 (begins_seq a its.toArray t) p' fun h' he ho hsz hk => wpAny_pyIter_enum he (enumS_fin I1 p'.lt he (iterS_new ho) hk q)
theorem pi_enumK (hg : Gl X "enumerate") (hm : X.mg "enumerate" = none) (ha : PA X [e, e2] ta)
    (hs : starEach [e, e2] X.env = (false, eval e X.env) :: starEach [e2] X.env := by rfl) (hpl : (backTo pos (starEach [e2] X.env)).any (·.1) = false := by rfl) :
    PI X (.Tuple elts kk tpos) (.Call (.Name "enumerate" p) [e, e2] [] pos) (iEnumK X.K ta) := by
  refine ⟨fun pins s σ H R I h => ?_⟩
  refine Call_ (ld_blt I hg hm boot_enumerate (PyProof.Rows.callWith_type1 (thn (ha.run pos pins s σ H _ I h) fun us s1 ⟨vs, H1, I1, r1, q1⟩ => ?_) hs hpl))
  obtain ⟨t, a, xs, k, ex, k0, k1, hq, q⟩ := q1
  subst ex
  cases r1 with
  | cons r rr =>
    cases rr with
    | cons r' rr =>
      cases rr
      cases r
      obtain ⟨tk, rfl⟩ := r'
      obtain ⟨its, rv, p'⟩ := seqI I1 hq
      exact enum_begins (begins_seq a its.toArray t) p' k0 k1 fun h' he ho hsz hk => wpAny_pyIter_enum he (enumS_fin I1 p'.lt he (iterS_new ho) hk q)
def iZipS (K : PySem.W.Frag) (ta : TA) : TI := fun σ H R => ta σ H fun vs H1 => ∃ t1 t2 a b xs ys, vs = [.ref a, .ref b] ∧ SqS K t1 H1 a xs ∧ SqS K t2 H1 b ys ∧ R (ItzS K t1 t2 a b) H1
theorem sep2_new (n a b : Nat) (ha : a < n) (hb : b < n) : ZipSep2 (n + 4) (n + 2) (n + 3) n (n + 1) [n, a] [n + 1, b] where
  TIz := by simp
  TOz := by simp
  TITO := by simp
  TIi1 := by simp
  mem1 := by simp
  zf1 := by
    intro h
    simp only [List.mem_cons, List.not_mem_nil, or_false] at h
    rcases h with h | h <;> (have h : (_ : Nat) = _ := h; omega)
  Tf1 := by
    intro h
    simp only [List.mem_cons, List.not_mem_nil, or_false] at h
    rcases h with h | h <;> (have h : (_ : Nat) = _ := h; omega)
  TIi2 := by simp
  mem2 := by simp
  zf2 := by
    intro h
    simp only [List.mem_cons, List.not_mem_nil, or_false] at h
    rcases h with h | h <;> (have h : (_ : Nat) = _ := h; omega)
  Tf2 := by
    intro h
    simp only [List.mem_cons, List.not_mem_nil, or_false] at h
    rcases h with h | h <;> (have h : (_ : Nat) = _ := h; omega)
  sep1_2 := by
    intro h
    simp only [List.mem_cons, List.not_mem_nil, or_false] at h
    rcases h with h | h <;> (have h : (_ : Nat) = _ := h; omega)
  sep2_1 := by
    intro h
    simp only [List.mem_cons, List.not_mem_nil, or_false] at h
    rcases h with h | h <;> (have h : (_ : Nat) = _ := h; omega)
theorem pi_zipS (hg : Gl X "zip") (hm : X.mg "zip" = none) (ha : PA X [e, e2] ta)
    (hs : starEach [e, e2] X.env = (false, eval e X.env) :: starEach [e2] X.env := by rfl) (hpl : (backTo pos (starEach [e2] X.env)).any (·.1) = false := by rfl) :
    PI X (.Tuple elts kk tpos) (.Call (.Name "zip" p) [e, e2] [] pos) (iZipS X.K ta) := by
  refine ⟨fun pins s σ H R I h => ?_⟩
  refine Call_ (ld_blt I hg hm PyProof.Rows.boot_zip (PyProof.Rows.callWith_type1 (thn (ha.run pos pins s σ H _ I h) fun us s1 ⟨vs, H1, I1, r1, q1⟩ => ?_) hs hpl))
  obtain ⟨t1, t2, a, b, xs, ys, ex, hqx, hqy, q⟩ := q1
  subst ex
  cases r1 with
  | cons r rr =>
    cases rr with
    | cons r' rr =>
      cases rr
      cases r
      cases r'
      obtain ⟨its, rv, p1⟩ := seqI I1 hqx
      obtain ⟨its2, rv2, p2⟩ := seqI I1 hqy
      refine zip_begins2 (begins_seq a its.toArray t1) (begins_seq b its2.toArray t2) p1 p2 fun h' hz hTI hTO h1 h2 hsz hk => wpAny_pyIter_zip hz ?_
      have I2 : Inv X pins σ H1 { s1 with heap := h' } := I1.kept (t' := s1.toks) hk
      refine ⟨s1.heap.objs.size + 4, [s1.heap.objs.size + 4, s1.heap.objs.size + 2, s1.heap.objs.size + 3, s1.heap.objs.size, s1.heap.objs.size + 1], _, _, H1, rfl, I2, turn_zipS (sep2_new s1.heap.objs.size a b p1.lt p2.lt) (Nat.ne_of_lt p1.lt) (Nat.ne_of_lt (Nat.lt_succ_of_lt p2.lt)), ⟨hz, hTI, ⟨_, _, hTO⟩, iterS_new h1, iterS_new h2⟩, fun c hcm => ?_, q⟩
      have e' : c = s1.heap.objs.size + 4 ∨ c = s1.heap.objs.size + 2 ∨ c = s1.heap.objs.size + 3 ∨ c = s1.heap.objs.size ∨ c = s1.heap.objs.size + 1 := by simpa using hcm
      have hle : s1.heap.objs.size ≤ c := by
        rcases e' with z | z | z | z | z
        · rw [z]; exact Nat.le_add_right _ _
        · rw [z]; exact Nat.le_add_right _ _
        · rw [z]; exact Nat.le_add_right _ _
        · rw [z]; exact Nat.le_refl _
        · rw [z]; exact Nat.le_add_right _ _
      exact I1.fpOk hle (I1.hok.fresh hle)
end
section
variable {K : PySem.W.Frag} {t t1 t2 : Bool} {a b : Addr} {xs ys : List V} {k : Int}
theorem walk_enumS : Walk (Itn K t a k) xs.length (fun H => SqS K t H a xs) (YPair (fun i => some (.int (k + (i : Nat)))) (fun i => xs[i]?)) := by
  refine ⟨fun i _ hi q => ⟨xs, xs[i], q, by simp [hi]⟩, fun _ q => ⟨xs, q, rfl⟩, fun i H v H' _ q y => ?_⟩
  obtain ⟨T, x, h1, h2, h3, h4⟩ := y
  exact ⟨T, .int (k + (i : Nat)), x, h1, h2, h3, rfl, h4 xs q⟩
theorem walk_zipS {n : Nat} (hn : n = min xs.length ys.length) : Walk (ItzS K t1 t2 a b) n (fun H => SqS K t1 H a xs ∧ SqS K t2 H b ys) (YPair (fun i => xs[i]?) (fun i => ys[i]?)) := by
  refine ⟨fun i _ hi q => ?_, fun _ q => ⟨xs, ys, q.1, q.2, hn⟩, fun i H v H' _ q y => ?_⟩
  · have h1 : i < xs.length := by omega
    have h2 : i < ys.length := by omega
    exact ⟨xs, ys, xs[i], ys[i], q.1, q.2, by simp [h1], by simp [h2]⟩
  · obtain ⟨T, x, z, h1, h2, h3, h4, h5⟩ := y
    exact ⟨T, x, z, h1, h2, h3, h4 xs q.1, h5 ys q.2⟩
end
end Py2
end

section
set_option autoImplicit false
set_option linter.all false
set_option Elab.async false
set_option maxRecDepth 100000
set_option maxHeartbeats 4000000
/-! What is walked: lists, tuples, ranges, enumerate, zip. -/
namespace Py2
open L2 PySem PySem.Spec PyProof.Rows
def iAny (K : PySem.W.Frag) (tl : TE) : TI := fun σ H R => tl σ H fun x H1 => ∃ t a xs, x = .ref a ∧ SqS K t H1 a xs ∧ R (if t then Itt K a else Itl K a) H1
theorem pi_any {X : Cx} {tg l : Expr} {tl : TE} (hl : PE X l tl) : PI X tg l (iAny X.K tl) := by
  refine ⟨fun pins s σ H R I h => ?_⟩
  refine thn (hl.run pins s σ H _ I h) fun v s1 ⟨x, H1, I1, r1, q1⟩ => ?_
  obtain ⟨t, a, xs, e, hq, q⟩ := q1
  subst e
  cases r1
  have fin : ∀ b ∈ [s1.heap.objs.size], FpOk X pins H1 b := fun b hb => by
    have e : b = s1.heap.objs.size := by simpa using hb
    subst e
    exact I1.fpOk (Nat.le_refl _) (I1.hok.fresh (Nat.le_refl _))
  cases t with
  | false =>
    obtain ⟨its, rv, p, hz⟩ := I1.list hq
    exact wpAny_pyIter_list p.isList ⟨s1.heap.objs.size, [s1.heap.objs.size], _, _, H1, rfl, I1.kept (t' := s1.toks) fun b o e => Heap.get?_push_of_some _ e, turn_list a _, ⟨_, Heap.get?_push_size _ rfl, rfl, rfl⟩, fin, q⟩
  | true =>
    obtain ⟨its, rv, p, hz⟩ := I1.tuple hq
    exact wpAny_pyIter_tuple (show s1.heap.IsTuple a its.toArray from p) ⟨s1.heap.objs.size, [s1.heap.objs.size], _, _, H1, rfl, I1.kept (t' := s1.toks) fun b o e => Heap.get?_push_of_some _ e, turn_tuple a _, ⟨_, Heap.get?_push_size _ rfl, rfl, rfl⟩, fin, q⟩
theorem walk_any {K : PySem.W.Frag} {a : Addr} {xs : List V} {t : Bool} : Walk (if t then Itt K a else Itl K a) xs.length (fun H => SqS K t H a xs) (YAt xs) := by
  cases t with
  | false => exact walk_list
  | true => exact walk_tup
end Py2
namespace Py
open L2 (V Hp HO SqL SqT Rd upd upd_same upd_ne ne_of ne_of_none Cx PE PT PW PA TE TT TA VK R2 OpR tOp thn EP TP Inv RelV CallR Sp PI TI Walk YAt YFn YPair)
open PySem (Expr Pos Operator CmpOp Value Shared Sem wpAny)
open Py2 (SqS)
/-- what stays while the walk goes on: in a for (true), in a comprehension (false) -/
def KeepB (b : Bool) (θ : List Ad) (F : Ad → Prop) (H H' : Hp) : Prop := if b = true then Keep1 θ F H H' else Keep θ F H H'
theorem KeepB.to1 {b : Bool} {θ : List Ad} {F : Ad → Prop} {H H' : Hp} (k : KeepB b θ F H H') : Keep1 θ F H H' := by
  unfold KeepB at k
  split at k
  · exact k
  · exact k.to1
theorem KeepB.refl {b : Bool} {θ : List Ad} {F : Ad → Prop} {H : Hp} : KeepB b θ F H H := by
  unfold KeepB
  split
  · exact .refl
  · exact .refl
/-- a walk yields: the thing as it stands, or a new tuple -/
def YV (K : Kf) (θ : List Ad) (H : Hp) (x : Val) (v : V) (H' : Hp) : Prop :=
  (H' = H ∧ RV K θ H x v) ∨ ∃ T ys vs, x = .tup ys ∧ v = .ref T ∧ H T = none ∧ H' = upd H T (.tup vs) ∧ RVs K θ H ys vs
def ItR (K : Kf) (θ : List Ad) (F : Ad → Prop) (b : Bool) (H : Hp) (xs : List Val) (J : L2.It) : Prop :=
  ∃ (G : Hp → Prop) (Y : Nat → Hp → V → Hp → Prop), Walk J xs.length G Y ∧ (∀ H2, KeepB b θ F H H2 → G H2) ∧
    ∀ (i : Nat) (x : Val) (H1 : Hp) (v : V) (H2 : Hp), xs[i]? = some x → KeepB b θ F H H1 → Y i H1 v H2 → YV K θ H1 x v H2
/-- what may change under a walk: what slots own; in take mode any list that was there ahead of it -/
def FreeB (b : Bool) (st : S) (σ : Sg) (H0 : Hp) (a : Ad) : Prop := Own st σ a ∨ (b = true ∧ ∃ xs, H0 a = some (.lst xs))
def tI (K : Kf) (W : WE) (b : Bool) (f : M (List Val)) : TI := fun σ H R => ∃ θ st, Rel K θ st σ H ∧ wpO (f st) (we K W σ θ st H) fun xs st' => ∀ J θ' H', Post K σ θ st H θ' st' H' → ItR K θ' (FreeB b st' σ H) b H' xs J → R J H'
theorem pi_imp {X : Cx} {tg e : Expr} {t t' : TI} (h : PI X tg e t) (i : ∀ σ H Q, t' σ H Q → t σ H Q) : PI X tg e t' := ⟨fun pins s σ H Q I q => h.run pins s σ H Q I (i σ H Q q)⟩
section
variable {K : Kf} {θ θ0 : List Ad} {st st0 : S} {σ : Sg} {H H0 : Hp}
theorem src_rel {b : Bool} (R0 : Rel K θ0 st0 σ H0) (p : Post K σ θ0 st0 H0 θ st H) {x : SV} {xs : List Val} {u : V} (h : srcs b x = some xs) (q : RX K θ H0 H x u) :
    ∃ t a vs, u = .ref a ∧ RVs K θ H xs vs ∧ ∀ H2, KeepB b θ (FreeB b st σ H0) H H2 → SqS K t H2 a vs := by
  cases x with
  | own ys =>
    cases h
    obtain ⟨a, vs, e, h1, h2, h3, h4⟩ := q
    refine ⟨false, a, vs, e, h2, fun H2 k => ?_⟩
    have nown : ¬ FreeB b st σ H0 a := fun z => by
      rcases z with ⟨i, z⟩ | ⟨_, xs, z⟩
      · obtain ⟨us, q, _⟩ := Own.tracked R0 ⟨i, p.ownM z⟩
        rw [h4] at q; cases q
      · rw [h4] at z; cases z
    unfold KeepB at k
    split at k
    · exact .inl (.inl (k.lst a vs h3 nown h1))
    · rcases k.lst a vs h3 h1 with z | ⟨z, _⟩
      · exact .inl (.inl z)
      · exact (nown z).elim
  | pk ys =>
    cases b with
    | true => cases h
    | false =>
      cases h
      obtain ⟨a, vs, e, h1, h2, h3⟩ := q
      refine ⟨false, a, vs, e, h2, fun H2 k => ?_⟩
      replace k : Keep θ (FreeB false st σ H0) H H2 := k
      rcases h1 with h1 | ⟨o, h1⟩
      · rcases k.lst a vs h3 h1 with z | ⟨_, o, z⟩
        · exact .inl (.inl z)
        · exact .inl (.inr ⟨o, z⟩)
      · exact .inl (.inr ⟨o, k.frz _ _ _ h1⟩)
  | val v =>
    cases v with
    | tup ys =>
      cases h
      unfold RX at q
      unfold RV at q
      obtain ⟨a, vs, e, h1, h2⟩ := q
      exact ⟨true, a, vs, e, h2, fun H2 k => k.to1.sqT h1⟩
    | lst ys =>
      cases h
      unfold RX at q
      unfold RV at q
      obtain ⟨a, vs, e, h1, h2⟩ := q
      exact ⟨false, a, vs, e, h2, fun H2 k => .inl (k.to1.sqZ h1).rd⟩
    | loc n => cases h
    | scr ys =>
      cases h
      unfold RX at q
      unfold RV at q
      obtain ⟨a, vs, e, h1, h2⟩ := q
      exact ⟨false, a, vs, e, h2, fun H2 k => (SqF.sq (h1.imp (fun ⟨o, z⟩ => ⟨o, k.to1.frz _ _ _ z⟩) id))⟩
    | non => cases h
    | bl _ => cases h
    | int _ => cases h
    | str _ => cases h
theorem RVs.nth {xs : List Val} {vs : List V} {i : Nat} {x : Val} {v : V} (h : RVs K θ H xs vs) (e : xs[i]? = some x) (e' : vs[i]? = some v) : RV K θ H x v := by
  obtain ⟨w, h1, h2⟩ := h.get e
  rw [h1] at e'
  cases e'
  exact h2
theorem it_seq {b t : Bool} {F : Ad → Prop} {a : Ad} {xs : List Val} {vs : List V} (hr : RVs K θ H xs vs) (hs : ∀ H2, KeepB b θ F H H2 → SqS K t H2 a vs) : ItR K θ F b H xs (if t then L2.Itt K a else L2.Itl K a) := by
  refine ⟨_, _, by rw [← hr.length]; exact Py2.walk_any, hs, fun i x H1 v H2 hx k y => ?_⟩
  obtain ⟨e, y⟩ := y
  exact .inl ⟨e, RV.mono k.to1 _ _ (hr.nth hx y)⟩
theorem enumL_get : ∀ (k : Int) (xs : List Val) (i : Nat), (enumL k xs)[i]? = (xs[i]?).map fun x => .tup [.int (k + i), x]
  | k, [], i => by simp [enumL]
  | k, x :: xs, 0 => by simp [enumL]
  | k, x :: xs, i + 1 => by
    have := enumL_get (k + 1) xs i
    simp only [enumL, List.getElem?_cons_succ, this]
    have e : k + 1 + (i : Int) = k + ((i + 1 : Nat) : Int) := by omega
    rw [e]
theorem enumL_length : ∀ (k : Int) (xs : List Val), (enumL k xs).length = xs.length
  | k, [] => rfl
  | k, x :: xs => by simp only [enumL, List.length_cons, enumL_length (k + 1) xs]
theorem zipL_length : ∀ (xs ys : List Val), (zipL xs ys).length = min xs.length ys.length
  | [], ys => by simp [zipL]
  | x :: xs, [] => by simp [zipL]
  | x :: xs, y :: ys => by simp only [zipL, List.length_cons, zipL_length xs ys]; omega
theorem zipL_get : ∀ (xs ys : List Val) (i : Nat) (z : Val), (zipL xs ys)[i]? = some z → ∃ x y, xs[i]? = some x ∧ ys[i]? = some y ∧ z = .tup [x, y]
  | [], ys, i, z, h => by simp [zipL] at h
  | x :: xs, [], i, z, h => by simp [zipL] at h
  | x :: xs, y :: ys, 0, z, h => by
    simp [zipL] at h
    exact ⟨x, y, rfl, rfl, h.symm⟩
  | x :: xs, y :: ys, i + 1, z, h => by
    simp only [zipL, List.getElem?_cons_succ] at h
    obtain ⟨a, b, h1, h2, h3⟩ := zipL_get xs ys i z h
    exact ⟨a, b, by simpa using h1, by simpa using h2, h3⟩
theorem rv_int {i : Int} : RV K θ H (.int i) (.int i) := by unfold RV; rfl
theorem it_enum {b t : Bool} {F : Ad → Prop} {a : Ad} {xs : List Val} {vs : List V} {k : Int} (hr : RVs K θ H xs vs) (hs : ∀ H2, KeepB b θ F H H2 → SqS K t H2 a vs) : ItR K θ F b H (enumL k xs) (Py2.Itn K t a k) := by
  refine ⟨_, _, by rw [enumL_length, ← hr.length]; exact Py2.walk_enumS, hs, fun i x H1 v H2 hx kk y => ?_⟩
  rw [enumL_get] at hx
  obtain ⟨z, hz, rfl⟩ := Option.map_eq_some_iff.mp hx
  obtain ⟨T, x1, x2, e1, e2, e3, e4, e5⟩ := y
  cases e4
  exact .inr ⟨T, _, _, rfl, e1, e2, e3, .cons rv_int (.cons (RV.mono kk.to1 _ _ (hr.nth hz e5)) .nil)⟩
theorem it_zip {b t1 t2 : Bool} {F : Ad → Prop} {a1 a2 : Ad} {xs ys : List Val} {vs us : List V} (hr : RVs K θ H xs vs) (hr2 : RVs K θ H ys us) (hs : ∀ H2, KeepB b θ F H H2 → SqS K t1 H2 a1 vs) (hs2 : ∀ H2, KeepB b θ F H H2 → SqS K t2 H2 a2 us) :
    ItR K θ F b H (zipL xs ys) (Py2.ItzS K t1 t2 a1 a2) := by
  refine ⟨_, _, Py2.walk_zipS (by rw [zipL_length, hr.length, hr2.length]), fun H2 k => ⟨hs H2 k, hs2 H2 k⟩, fun i x H1 v H2 hx k y => ?_⟩
  obtain ⟨x1, x2, h1, h2, rfl⟩ := zipL_get _ _ _ _ hx
  obtain ⟨T, v1, v2, e1, e2, e3, e4, e5⟩ := y
  exact .inr ⟨T, _, _, rfl, e1, e2, e3, .cons (RV.mono k.to1 _ _ (hr.nth h1 e4)) (.cons (RV.mono k.to1 _ _ (hr2.nth h2 e5)) .nil)⟩
theorem rng_length (i j : Int) : (rng i j).length = (j - i).toNat := by simp [rng]
theorem rng_get {i j : Int} {k : Nat} {x : Val} (h : (rng i j)[k]? = some x) : x = .int (i + k) := by
  unfold rng at h
  rw [List.getElem?_map] at h
  obtain ⟨n, h1, rfl⟩ := Option.map_eq_some_iff.mp h
  obtain ⟨h2, h3⟩ := List.getElem?_eq_some_iff.mp h1
  rw [List.getElem_range] at h3
  rw [h3]
theorem it_rng {b : Bool} {F : Ad → Prop} {i j : Int} : ItR K θ F b H (rng i j) (L2.Itr i (j - i).toNat) := by
  refine ⟨_, _, by rw [rng_length]; exact L2.walk_range, fun _ _ => trivial, fun k x H1 v H2 hx kk y => ?_⟩
  obtain ⟨e, rfl⟩ := y
  rw [rng_get hx]
  exact .inl ⟨e, rv_int⟩
theorem rngD_get {i j c : Int} {k : Nat} {x : Val} (h : (rngD i j c)[k]? = some x) : x = .int (i - k) := by
  unfold rngD at h
  rw [List.getElem?_map] at h
  obtain ⟨n, h1, rfl⟩ := Option.map_eq_some_iff.mp h
  obtain ⟨h2, h3⟩ := List.getElem?_eq_some_iff.mp h1
  rw [List.getElem_range] at h3
  rw [h3]
theorem it_rngD {b : Bool} {F : Ad → Prop} {i j c : Int} : ItR K θ F b H (rngD i j c) (L2.Itc i (-1) (i - j).toNat) := by
  refine ⟨_, _, by rw [show (rngD i j c).length = (i - j).toNat by simp [rngD]]; exact L2.walk_rangeC, fun _ _ => trivial, fun k x H1 v H2 hx kk y => ?_⟩
  obtain ⟨e, rfl⟩ := y
  rw [rngD_get hx]
  refine .inl ⟨e, ?_⟩
  have : i + (k : Nat) * (-1 : Int) = i - k := by omega
  show RV _ _ _ _ (.int (i + (k : Nat) * (-1 : Int)))
  rw [this]
  exact rv_int
end
section
variable {X : Cx} {W : WE} {f fa fb fc : M SV} {tg e a b c : Expr} {p pos tpos : Pos} {elts : List Expr} {kk : Nat} {tk : Bool}
theorem i_e (he : PE X e (tE X.K W f)) : PI X tg e (tI X.K W tk (M.bind f fun x => M.of (srcs tk x))) := by
  refine pi_imp (Py2.pi_any he) fun σ H R hq => ?_
  obtain ⟨θ, st, R0, h⟩ := hq
  refine ⟨θ, st, R0, h.bind.mono (fun _ _ z => z) fun x s1 h1 u θ1 H1 p1 x1 => ?_⟩
  obtain ⟨xs, e1, h2⟩ := h1.of
  obtain ⟨t, a, vs, rfl, h3, h4⟩ := src_rel R0 p1 e1 x1
  exact ⟨t, a, vs, rfl, h4 _ .refl, h2 _ θ1 H1 p1 (it_seq h3 h4)⟩
theorem i_range1 (hg : L2.Gl X "range") (hm : X.mg "range" = none) (ha : PE X a (tE X.K W fa)) (hs : PySem.starEach [a] X.env = (false, PySem.eval a X.env) :: PySem.starEach [] X.env) :
    PI X tg (.Call (.Name "range" p) [a] [] pos) (tI X.K W tk (M.bind fa fun x => M.bind (asInt x) fun i => if rOk i then M.pure (rng 0 i) else M.fail)) := by
  refine pi_imp (L2.pi_range1 hg hm (L2.pa_cons ha L2.pa_nil hs) hs) fun σ H R hq => ?_
  obtain ⟨θ, st, R0, h⟩ := hq
  refine ⟨θ, st, R0, h.bind.mono (fun _ _ z => z) fun x s1 h1 u θ1 H1 p1 x1 => ?_⟩
  obtain ⟨j, rfl, h2⟩ := asInt_of h1.bind
  split at h2
  · rename_i hr
    obtain ⟨r1, r2⟩ := rOk_of hr
    refine ⟨j, by rw [rx_int x1], r1, r2, h2.pure _ θ1 H1 p1 ?_⟩
    have := it_rng (K := X.K) (θ := θ1) (H := H1) (b := tk) (F := FreeB tk s1 σ H) (i := 0) (j := j)
    rw [Int.sub_zero] at this
    exact this
  · exact h2.elim
theorem i_range2 (hg : L2.Gl X "range") (hm : X.mg "range" = none) (ha : PE X a (tE X.K W fa)) (hb : PE X b (tE X.K W fb))
    (hs : PySem.starEach [a, b] X.env = (false, PySem.eval a X.env) :: PySem.starEach [b] X.env) (hs2 : PySem.starEach [b] X.env = (false, PySem.eval b X.env) :: PySem.starEach [] X.env) :
    PI X tg (.Call (.Name "range" p) [a, b] [] pos) (tI X.K W tk (M.bind fa fun x => M.bind (asInt x) fun i => M.bind fb fun y => M.bind (asInt y) fun j => if rOk i && rOk j then M.pure (rng i j) else M.fail)) := by
  refine pi_imp (L2.pi_range2 hg hm (L2.pa_cons ha (L2.pa_cons hb L2.pa_nil hs2) hs) (by rw [hs, hs2]; rfl) (by rw [hs2]; rfl)) fun σ H R hq => ?_
  obtain ⟨θ, st, R0, h⟩ := hq
  refine ⟨θ, st, R0, h.bind.mono (fun _ _ z => z) fun x s1 h1 u θ1 H1 p1 x1 => ?_⟩
  obtain ⟨i, rfl, h2⟩ := asInt_of h1.bind
  refine ⟨θ1, s1, p1.rel, h2.bind.mono (fun _ _ z => z.later p1) fun y s2 h3 v θ2 H2 p2 y2 => ?_⟩
  obtain ⟨j, rfl, h4⟩ := asInt_of h3.bind
  split at h4
  · rename_i hr
    rw [Bool.and_eq_true] at hr
    obtain ⟨r1, r2⟩ := rOk_of hr.1
    obtain ⟨r3, r4⟩ := rOk_of hr.2
    exact ⟨i, j, by rw [rx_int x1, rx_int y2], ⟨r1, r2, r3, r4⟩, h4.pure _ θ2 H2 (p1.trans p2) it_rng⟩
  · exact h4.elim
theorem i_rangeD (hg : L2.Gl X "range") (hm : X.mg "range" = none) (ha : PE X a (tE X.K W fa)) (hb : PE X b (tE X.K W fb)) (hc : PE X c (tE X.K W fc))
    (hs : PySem.starEach [a, b, c] X.env = (false, PySem.eval a X.env) :: PySem.starEach [b, c] X.env) (hs2 : PySem.starEach [b, c] X.env = (false, PySem.eval b X.env) :: PySem.starEach [c] X.env) (hs3 : PySem.starEach [c] X.env = (false, PySem.eval c X.env) :: PySem.starEach [] X.env) :
    PI X tg (.Call (.Name "range" p) [a, b, c] [] pos) (tI X.K W tk (M.bind fa fun x => M.bind (asInt x) fun i => M.bind fb fun y => M.bind (asInt y) fun j => M.bind fc fun z => M.bind (asInt z) fun k => if rOk i && rOk j && k == -1 then M.pure (rngD i j k) else M.fail)) := by
  refine pi_imp (L2.pi_range3 hg hm (L2.pa_cons ha (L2.pa_cons hb (L2.pa_cons hc L2.pa_nil hs3) hs2) hs) hs (by rw [hs2, hs3]; rfl)) fun σ H R hq => ?_
  obtain ⟨θ, st, R0, h⟩ := hq
  refine ⟨θ, st, R0, h.bind.mono (fun _ _ z => z) fun x s1 h1 u θ1 H1 p1 x1 => ?_⟩
  obtain ⟨i, rfl, h2⟩ := asInt_of h1.bind
  refine ⟨θ1, s1, p1.rel, h2.bind.mono (fun _ _ z => z.later p1) fun y s2 h3 v θ2 H2 p2 y2 => ?_⟩
  obtain ⟨j, rfl, h4⟩ := asInt_of h3.bind
  refine ⟨θ2, s2, p2.rel, h4.bind.mono (fun _ _ z => (z.later p1).later p2) fun z s3 h5 w θ3 H3 p3 z3 => ?_⟩
  obtain ⟨k, rfl, h6⟩ := asInt_of h5.bind
  split at h6
  · rename_i hr
    rw [Bool.and_eq_true, Bool.and_eq_true] at hr
    obtain ⟨r1, r2⟩ := rOk_of hr.1.1
    obtain ⟨r3, r4⟩ := rOk_of hr.1.2
    have hk : k = -1 := by simpa using hr.2
    subst hk
    exact ⟨i, j, -1, (i - j).toNat, by rw [rx_int x1, rx_int y2, rx_int z3], L2.RgC.neg r1 r2 r3 r4, h6.pure _ θ3 H3 (p1.trans (p2.trans p3)) it_rngD⟩
  · exact h6.elim
theorem i_enum (hg : L2.Gl X "enumerate") (hm : X.mg "enumerate" = none) (ha : PE X a (tE X.K W fa)) (hs : PySem.starEach [a] X.env = (false, PySem.eval a X.env) :: PySem.starEach [] X.env) :
    PI X (.Tuple elts kk tpos) (.Call (.Name "enumerate" p) [a] [] pos) (tI X.K W tk (M.bind (M.bind fa fun x => M.of (srcs tk x)) fun xs => M.bind (M.pure none) fun (o : Option Int) => if oOk o then M.pure (enumL (o.getD 0) xs) else M.fail)) := by
  refine pi_imp (Py2.pi_enumS hg hm (L2.pa_cons ha L2.pa_nil hs) hs) fun σ H R hq => ?_
  obtain ⟨θ, st, R0, h⟩ := hq
  refine ⟨θ, st, R0, h.bind.bind.mono (fun _ _ z => z) fun x s1 h1 u θ1 H1 p1 x1 => ?_⟩
  obtain ⟨xs, e1, h2⟩ := h1.of
  obtain ⟨t, a, vs, rfl, h3, h4⟩ := src_rel R0 p1 e1 x1
  exact ⟨t, a, vs, rfl, h4 _ .refl, h2.bind.pure.pure _ θ1 H1 p1 (it_enum h3 h4)⟩
theorem i_enumK (hg : L2.Gl X "enumerate") (hm : X.mg "enumerate" = none) (ha : PE X a (tE X.K W fa)) (hb : PE X b (tE X.K W fb))
    (hs : PySem.starEach [a, b] X.env = (false, PySem.eval a X.env) :: PySem.starEach [b] X.env) (hs2 : PySem.starEach [b] X.env = (false, PySem.eval b X.env) :: PySem.starEach [] X.env) :
    PI X (.Tuple elts kk tpos) (.Call (.Name "enumerate" p) [a, b] [] pos) (tI X.K W tk (M.bind (M.bind fa fun x => M.of (srcs tk x)) fun xs => M.bind (M.bind fb fun y => M.bind (asInt y) fun i => M.pure (some i)) fun (o : Option Int) => if oOk o then M.pure (enumL (o.getD 0) xs) else M.fail)) := by
  refine pi_imp (Py2.pi_enumK hg hm (L2.pa_cons ha (L2.pa_cons hb L2.pa_nil hs2) hs) hs (by rw [hs2]; rfl)) fun σ H R hq => ?_
  obtain ⟨θ, st, R0, h⟩ := hq
  refine ⟨θ, st, R0, h.bind.bind.mono (fun _ _ z => z) fun x s1 h1 u θ1 H1 p1 x1 => ?_⟩
  obtain ⟨xs, e1, h2⟩ := h1.of
  refine ⟨θ1, s1, p1.rel, h2.bind.bind.mono (fun _ _ z => z.later p1) fun y s2 h3 v θ2 H2 p2 y2 => ?_⟩
  obtain ⟨i, rfl, h4⟩ := asInt_of h3.bind
  replace h4 := h4.pure
  split at h4
  · rename_i hr
    obtain ⟨r1, r2⟩ := rOk_of hr
    obtain ⟨t, a, vs, rfl, h5, h6⟩ := src_rel R0 (p1.trans p2) e1 (RX.later R0 p1 x1 p2)
    exact ⟨t, a, vs, i, by rw [rx_int y2], by omega, by omega, h6 _ .refl, h4.pure _ θ2 H2 (p1.trans p2) (it_enum h5 h6)⟩
  · exact h4.elim
theorem i_zip (hg : L2.Gl X "zip") (hm : X.mg "zip" = none) (ha : PE X a (tE X.K W fa)) (hb : PE X b (tE X.K W fb))
    (hs : PySem.starEach [a, b] X.env = (false, PySem.eval a X.env) :: PySem.starEach [b] X.env) (hs2 : PySem.starEach [b] X.env = (false, PySem.eval b X.env) :: PySem.starEach [] X.env) :
    PI X (.Tuple elts kk tpos) (.Call (.Name "zip" p) [a, b] [] pos) (tI X.K W tk (M.bind (M.bind fa fun x => M.of (srcs tk x)) fun xs => M.bind (M.bind fb fun x => M.of (srcs tk x)) fun ys => M.pure (zipL xs ys))) := by
  refine pi_imp (Py2.pi_zipS hg hm (L2.pa_cons ha (L2.pa_cons hb L2.pa_nil hs2) hs) hs (by rw [hs2]; rfl)) fun σ H R hq => ?_
  obtain ⟨θ, st, R0, h⟩ := hq
  refine ⟨θ, st, R0, h.bind.bind.mono (fun _ _ z => z) fun x s1 h1 u θ1 H1 p1 x1 => ?_⟩
  obtain ⟨xs, e1, h2⟩ := h1.of
  refine ⟨θ1, s1, p1.rel, h2.bind.bind.mono (fun _ _ z => z.later p1) fun y s2 h3 v θ2 H2 p2 y2 => ?_⟩
  obtain ⟨ys, e2, h4⟩ := h3.of
  obtain ⟨t, a, vs, rfl, h5, h6⟩ := src_rel R0 (p1.trans p2) e1 (RX.later R0 p1 x1 p2)
  obtain ⟨t2, a2, us, rfl, h7, h8⟩ := src_rel R0 (p1.trans p2) e2 (y2.from p1.keep.dom)
  exact ⟨t, t2, a, a2, vs, us, rfl, h6 _ .refl, h8 _ .refl, h4.pure _ θ2 H2 (p1.trans p2) (it_zip h5 h7 h6 h8)⟩
end
end Py
end

section
set_option autoImplicit false
set_option linter.all false
set_option Elab.async false
set_option maxRecDepth 100000
set_option maxHeartbeats 4000000
/-! Targets: names, tuples of targets. -/
namespace Py
open L2 (V Hp HO SqL SqT Rd upd upd_same upd_ne ne_of ne_of_none Cx PE PT PW PA TE TT TA VK R2 OpR tOp thn EP TP Inv RelV CallR Sp PI TI Walk YAt YFn YPair PG PGs TG TGs)
open PySem (Expr Pos Operator CmpOp Value Shared Sem wpAny)
open Py2 (SqS)
section
variable {K : Kf} {θ θ0 θ' : List Ad} {st st0 st' : S} {σ : Sg} {H H0 H' : Hp}
theorem set_look {α : Type} {l : List α} {i j : Nat} {x y : α} (h : (l.set i x)[j]? = some y) : (j = i ∧ i < l.length ∧ y = x) ∨ (j ≠ i ∧ l[j]? = some y) := by
  by_cases e : j = i
  · subst e
    by_cases hl : j < l.length
    · rw [List.getElem?_set_self hl] at h
      cases h
      exact .inl ⟨rfl, hl, rfl⟩
    · rw [List.getElem?_eq_none (by simpa using hl)] at h
      cases h
  · rw [List.getElem?_set_ne (Ne.symm e)] at h
    exact .inr ⟨e, h⟩
/-- what an expression yields is stored in a slot -/
theorem PostS.store {i : Nat} {sv : SV} {v : V} (R : Rel K θ st σ H) (p : Post K σ θ st H θ' st' H') (x : RX K θ' H H' sv v) (hp : ∀ xs, sv ≠ .pk xs) (hi : i < st'.e.length) :
    PostS K σ θ st H (σ.set i (some v)) θ' { st' with e := st'.e.set i (some sv) } H' := by
  have hs : i < σ.length := by rw [← p.rel.e.len]; exact hi
  have ownN : ∀ j a, OwnAt { st' with e := st'.e.set i (some sv) } (σ.set i (some v)) j a → (j = i ∧ (∃ xs, sv = .own xs) ∧ v = .ref a) ∨ (j ≠ i ∧ OwnAt st' σ j a) := fun j a ⟨xs, h1, h2⟩ => by
    rcases set_look h1 with ⟨rfl, _, e⟩ | ⟨hj, h1⟩
    · cases e
      rw [List.getElem?_set_self hs] at h2
      cases h2
      exact .inl ⟨rfl, ⟨_, rfl⟩, rfl⟩
    · rw [List.getElem?_set_ne (Ne.symm hj)] at h2
      exact .inr ⟨hj, xs, h1, h2⟩
  have newN : ∀ xs, sv = .own xs → ∀ a, v = .ref a → H a = none := fun xs e a e2 => by
    subst e
    obtain ⟨b, vs, q1, q2, q3, q4, q5⟩ := x
    rw [q1] at e2
    cases e2
    exact q5
  refine ⟨p.keep.to1, p.grow, fun a ⟨j, h⟩ => ?_, ⟨⟨by simpa using p.rel.e.len, fun j sv' h => ?_, fun j k a h1 h2 => ?_⟩, p.rel.m⟩⟩
  · rcases ownN j a h with ⟨_, ⟨xs, e⟩, e2⟩ | ⟨_, h⟩
    · exact .inr (newN xs e a e2)
    · exact .inl ⟨j, p.ownM h⟩
  · rcases set_look h with ⟨rfl, _, e⟩ | ⟨hj, h⟩
    · cases e
      refine ⟨v, List.getElem?_set_self hs, ?_⟩
      cases sv with
      | val y => exact x
      | own xs =>
        obtain ⟨b, vs, q1, q2, q3, q4, q5⟩ := x
        exact ⟨b, vs, q1, q2, q3, q4⟩
      | pk xs => exact (hp xs rfl).elim
    · obtain ⟨w, h1, h2⟩ := p.rel.e.at_ j _ h
      exact ⟨w, by rw [List.getElem?_set_ne (Ne.symm hj)]; exact h1, h2⟩
  · have no : ∀ j, OwnAt st' σ j a → ∀ xs, sv = .own xs → v = .ref a → False := fun j z xs e e2 => by
      obtain ⟨us, q, _⟩ := Own.tracked R ⟨j, p.ownM z⟩
      rw [newN xs e a e2] at q
      cases q
    rcases ownN j a h1 with ⟨e1, ⟨xs, o1⟩, v1⟩ | ⟨_, z1⟩
    · rcases ownN k a h2 with ⟨e2, _⟩ | ⟨_, z2⟩
      · rw [e1, e2]
      · exact (no k z2 xs o1 v1).elim
    · rcases ownN k a h2 with ⟨_, ⟨xs, o2⟩, v2⟩ | ⟨_, z2⟩
      · exact (no j z1 xs o2 v2).elim
      · exact p.rel.e.one j k a z1 z2
theorem PostS.refl (r : Rel K θ st σ H) : PostS K σ θ st H σ θ st H := (Post.refl r).toS
theorem wpO.fin {α : Type} {o : Option (Res α)} {k : α → S → Prop} (h : wpO o (fun _ _ => False) k) : ∃ a s, o = some (.ok a s) ∧ k a s := by
  cases o with
  | none => exact h.elim
  | some r =>
    cases r with
    | ok a s => exact ⟨a, s, rfl, h⟩
    | ex e s => exact h.elim
end
/-- a target's reading: slots outside F stay -/
def Off (F : List Nat) (st : S) (σ : Sg) (st' : S) (σ' : Sg) : Prop := σ'.length = σ.length ∧ ∀ j : Nat, j ∉ F → σ'[j]? = σ[j]? ∧ st'.e[j]? = st.e[j]?
theorem Off.trans {F G : List Nat} {st st1 st2 : S} {σ σ1 σ2 : Sg} (h : Off F st σ st1 σ1) (h2 : Off G st1 σ1 st2 σ2) : Off (F ++ G) st σ st2 σ2 := ⟨h2.1.trans h.1, fun j hj => by
  obtain ⟨a, b⟩ := h.2 j fun z => hj (List.mem_append_left _ z)
  obtain ⟨c, d⟩ := h2.2 j fun z => hj (List.mem_append_right _ z)
  exact ⟨c.trans a, d.trans b⟩⟩
theorem Off.mono {F G : List Nat} {st st1 : S} {σ σ1 : Sg} (h : Off F st σ st1 σ1) (m : ∀ i ∈ F, i ∈ G) : Off G st σ st1 σ1 := ⟨h.1, fun j hj => h.2 j fun z => hj (m j z)⟩
def tG (K : Kf) (F : List Nat) (g : Val → M Unit) : TG := fun v σ H Q => ∃ θ st x, Rel K θ st σ H ∧ RV K θ H x v ∧ wpO (g x st) (fun _ _ => False) fun _ st' => ∀ σ', PostS K σ θ st H σ' θ st' H → Off F st σ st' σ' → Q σ' H
def tGs (K : Kf) (F : List Nat) (g : List Val → M Unit) : TGs := fun vs σ H Q => ∃ θ st xs, Rel K θ st σ H ∧ RVs K θ H xs vs ∧ wpO (g xs st) (fun _ _ => False) fun _ st' => ∀ σ', PostS K σ θ st H σ' θ st' H → Off F st σ st' σ' → Q σ' H
section
variable {X : Cx} {pos : Pos}
theorem pg_imp {X : Cx} {e : Expr} {t t' : TG} (h : PG X e t) (i : ∀ v σ H Q, t' v σ H Q → t v σ H Q) : PG X e t' := ⟨fun pins s σ H v u Q I r q => h.run pins s σ H v u Q I r (i v σ H Q q)⟩
theorem pgs_imp {X : Cx} {e : List Expr} {t t' : TGs} (h : PGs X e t) (i : ∀ v σ H Q, t' v σ H Q → t v σ H Q) : PGs X e t' := ⟨fun pins s σ H v u Q I r q => h.run pins s σ H v u Q I r (i v σ H Q q)⟩
theorem PG.or {X : Cx} {e : Expr} {t t' : TG} (h : PG X e t) (h' : PG X e t') : PG X e (fun v σ H Q => t v σ H Q ∨ t' v σ H Q) :=
  ⟨fun pins s σ H v u Q I r q => q.elim (h.run pins s σ H v u Q I r) (h'.run pins s σ H v u Q I r)⟩
theorem g_n {i : Nat} {x : PySem.Str} (hN : X.N.Nodup) (hi : X.N[i]? = some x) (hx : L2.Loc X.env.scope x) (hf : X.fn x = true ∨ X.env.scope.names.lookup x = some .local) : PG X (.Name x pos) (tG X.K [i] fun v => store i (.val v)) := by
  refine pg_imp (L2.pg_name hN hi hx hf) fun v σ H Q hq => ?_
  obtain ⟨θ, st, x, R, hr, h⟩ := hq
  have h : wpO (if i < st.e.length then some (.ok () { st with e := st.e.set i (some (.val x)) }) else none) _ _ := h
  split at h
  · rename_i hl
    exact h _ (PostS.store (sv := .val x) R (.refl R) hr (fun xs e => by cases e) hl) ⟨List.length_set, fun j hj => by
      have hj : j ≠ i := fun e => hj (by simp [e])
      exact ⟨List.getElem?_set_ne (Ne.symm hj), List.getElem?_set_ne (Ne.symm hj)⟩⟩
  · exact h.elim
theorem gs_nil : PGs X [] (tGs X.K [] (asgs .nil)) := by
  refine pgs_imp L2.pgs_nil fun vs σ H Q hq => ?_
  obtain ⟨θ, st, xs, R, hr, h⟩ := hq
  cases xs with
  | nil =>
    unfold RVs at hr
    exact ⟨hr, h _ (.refl R) ⟨rfl, fun _ _ => ⟨rfl, rfl⟩⟩⟩
  | cons => exact h.elim
theorem asgs_cons (t : Tg) (ts : Tgs) (x : Val) (xs : List Val) : asgs (.cons t ts) (x :: xs) = M.bind (asg t x) fun _ => asgs ts xs := by rw [asgs]
theorem gs_cons {t : Tg} {ts : Tgs} {e : Expr} {es : List Expr} {F G : List Nat} (h1 : PG X e (tG X.K F (asg t))) (h2 : PGs X es (tGs X.K G (asgs ts)))
    (hs : (PySem.assignEach (e :: es) X.env).map (·.2) = PySem.assign e X.env :: (PySem.assignEach es X.env).map (·.2)) : PGs X (e :: es) (tGs X.K (F ++ G) (asgs (.cons t ts))) := by
  refine pgs_imp (L2.pgs_cons h1 h2 hs) fun vs σ H Q hq => ?_
  obtain ⟨θ, st, xs, R, hr, h⟩ := hq
  cases xs with
  | nil =>
    rw [asgs] at h
    · exact h.elim
    · intro q; cases q
    · intro _ _ _ _ _ q; cases q
  | cons x xs =>
    unfold RVs at hr
    obtain ⟨v, r, rfl, r1, r2⟩ := hr
    rw [asgs_cons] at h
    refine ⟨v, r, rfl, θ, st, x, R, r1, h.bind.mono (fun _ _ z => z) fun _ s1 h1 σ1 p1 o1 => ?_⟩
    exact ⟨θ, s1, xs, p1.rel, r2, h1.mono (fun _ _ z => z) fun _ s2 h2 σ2 p2 o2 => h2 σ2 (p1.trans p2) (o1.trans o2)⟩
def Tgs.len : Tgs → Nat
  | .nil => 0
  | .cons _ ts => ts.len + 1
theorem asgs_len : ∀ (ts : Tgs) (xs : List Val) (s : S) (w : Ex → S → Prop) (k : Unit → S → Prop), wpO (asgs ts xs s) w k → (∀ e s, ¬ w e s) → xs.length = ts.len
  | .nil, [], s, w, k, h, _ => rfl
  | .nil, x :: xs, s, w, k, h, _ => by
    rw [asgs] at h
    · exact h.elim
    · intro _ q; cases q
    · intro _ _ _ _ q; cases q
  | .cons t ts, [], s, w, k, h, _ => by
    rw [asgs] at h
    · exact h.elim
    · intro q; cases q
    · intro _ _ _ _ _ q; cases q
  | .cons t ts, x :: xs, s, w, k, h, n => by
    rw [asgs_cons] at h
    have h := h.bind
    unfold wpO at h
    cases e : asg t x s with
    | none => rw [e] at h; exact h.elim
    | some r =>
      rw [e] at h
      cases r with
      | ok a s1 => rw [List.length_cons, asgs_len ts xs s1 w k h n]; rfl
      | ex e s1 => exact (n _ _ h).elim
theorem g_t {ts : Tgs} {es : List Expr} {k n : Nat} {F : List Nat} (hc : X.calm = true) (h : PGs X es (tGs X.K F (asgs ts))) (hn : (PySem.assignEach es X.env).length = ts.len) (hst : (PySem.assignEach es X.env).findIdx? (·.1) = none) :
    PG X (.Tuple es k pos) (tG X.K F (asg (.t ts))) := by
  refine pg_imp (PG.or (L2.pg_tup hc h hn hst) (L2.pg_unl hc h hn hst)) fun v σ H Q hq => ?_
  obtain ⟨θ, st, x, R, hr, h⟩ := hq
  rw [asg] at h
  change wpO (match items st.m (SV.val x) with | some xs => asgs ts xs st | none => none) _ _ at h
  cases ei : items st.m (.val x) with
  | none => rw [ei] at h; exact h.elim
  | some xs =>
    rw [ei] at h
    obtain ⟨a, vs, rfl, s, t⟩ := items_rel (H0 := H) R.m ei hr
    have hl : vs.length = ts.len := by rw [t.length]; exact asgs_len ts xs st _ _ h fun _ _ z => z
    unfold Sq at s
    split at s
    · exact .inl ⟨a, vs, rfl, s, hl, θ, st, xs, R, t, h⟩
    · exact .inr ⟨a, vs, rfl, .inl s, hl, θ, st, xs, R, t, h⟩
end
end Py
end

section
set_option autoImplicit false
set_option linter.all false
set_option Elab.async false
set_option maxRecDepth 100000
set_option maxHeartbeats 4000000
/-! Comprehensions. -/
namespace Py
open L2 (V Hp HO SqL SqT Rd upd upd_same upd_ne ne_of ne_of_none Cx PE PT PW PA TE TT TA VK R2 OpR tOp thn EP TP Inv RelV CallR Sp PI TI Walk YAt YFn YPair PG PGs TG TGs PTs)
open PySem (Expr Pos Operator CmpOp Value Shared Sem wpAny)
open Py2 (SqS)
theorem wipe_l2 (σ : Sg) : ∀ vs : List Nat, L2.wipe σ vs = wipe vs σ
  | [] => rfl
  | v :: vs => by unfold L2.wipe wipe; rw [wipe_l2 σ vs]
section
variable {α : Type}
theorem wipe_len : ∀ (own : List Nat) (e : List (Option α)), (wipe own e).length = e.length
  | [], e => rfl
  | v :: vs, e => by unfold wipe; rw [List.length_set, wipe_len vs e]
theorem wipe_off {i : Nat} : ∀ {own : List Nat} {e : List (Option α)}, i ∉ own → (wipe own e)[i]? = e[i]?
  | [], e, _ => rfl
  | v :: vs, e, h => by
    unfold wipe
    rw [List.getElem?_set_ne (fun z => h (by simp [z])), wipe_off fun z => h (List.mem_cons_of_mem _ z)]
theorem wipe_some {i : Nat} {x : α} : ∀ {own : List Nat} {e : List (Option α)}, (wipe own e)[i]? = some (some x) → i ∉ own ∧ e[i]? = some (some x)
  | [], e, h => ⟨by simp, h⟩
  | v :: vs, e, h => by
    unfold wipe at h
    rcases set_look h with ⟨_, _, q⟩ | ⟨hne, h⟩
    · cases q
    · obtain ⟨a, b⟩ := wipe_some h
      exact ⟨by simp [hne, a], b⟩
theorem wipe_on {i : Nat} : ∀ {own : List Nat} {e : List (Option α)}, i ∈ own → i < e.length → (wipe own e)[i]? = some none
  | [], e, h, _ => absurd h (by simp)
  | v :: vs, e, h, hl => by
    unfold wipe
    by_cases hv : v = i
    · subst hv
      rw [List.getElem?_set_self (by rw [wipe_len]; exact hl)]
    · rw [List.getElem?_set_ne hv]
      exact wipe_on ((List.mem_cons.mp h).resolve_left (Ne.symm hv)) hl
theorem wipe_ext {own : List Nat} {e e' : List (Option α)} (hl : e.length = e'.length) (h : ∀ j : Nat, j ∉ own → e[j]? = e'[j]?) : wipe own e = wipe own e' := by
  refine List.ext_getElem? fun i => ?_
  by_cases hi : i ∈ own
  · by_cases hb : i < e.length
    · rw [wipe_on hi hb, wipe_on hi (by rw [← hl]; exact hb)]
    · rw [List.getElem?_eq_none (by rw [wipe_len]; omega), List.getElem?_eq_none (by rw [wipe_len]; omega)]
  · rw [wipe_off hi, wipe_off hi, h i hi]
theorem wipe_idem {own : List Nat} {e : List (Option α)} : wipe own (wipe own e) = wipe own e := wipe_ext (wipe_len _ _) fun j hj => wipe_off hj
end
theorem back_len (e0 : List (Option SV)) : ∀ (own : List Nat) (e : List (Option SV)), (back own e0 e).length = e.length
  | [], e => rfl
  | v :: vs, e => by unfold back; rw [List.length_set, back_len e0 vs e]
theorem back_off {i : Nat} {e0 : List (Option SV)} : ∀ {own : List Nat} {e : List (Option SV)}, i ∉ own → (back own e0 e)[i]? = e[i]?
  | [], e, _ => rfl
  | v :: vs, e, h => by
    unfold back
    rw [List.getElem?_set_ne (fun z => h (by simp [z])), back_off fun z => h (List.mem_cons_of_mem _ z)]
theorem back_some {i : Nat} {x : SV} {e0 : List (Option SV)} : ∀ {own : List Nat} {e : List (Option SV)}, (back own e0 e)[i]? = some (some x) → (i ∈ own ∧ e0[i]? = some (some x)) ∨ (i ∉ own ∧ e[i]? = some (some x))
  | [], e, h => .inr ⟨by simp, h⟩
  | v :: vs, e, h => by
    unfold back at h
    rcases set_look h with ⟨rfl, _, q⟩ | ⟨hne, h⟩
    · refine .inl ⟨List.mem_cons_self, ?_⟩
      cases ee : e0[i]? with
      | none => rw [ee] at q; cases q
      | some y => rw [ee] at q; exact congrArg some q.symm
    · rcases back_some h with ⟨a, b⟩ | ⟨a, b⟩
      · exact .inl ⟨List.mem_cons_of_mem _ a, b⟩
      · exact .inr ⟨by simp [hne, a], b⟩
section
variable {K : Kf} {θ θ0 θ1 θ' : List Ad} {st st0 st1 st2 st3 st' : S} {σ σ2 : Sg} {H H0 H1 H' H3 : Hp} {own : List Nat} {D : Ad}
theorem own_wiped {a : Ad} (h : Own (wiped own st) (wipe own σ) a) : Own st σ a := by
  obtain ⟨i, xs, h1, h2⟩ := h
  obtain ⟨_, h1⟩ := wipe_some h1
  obtain ⟨_, h2⟩ := wipe_some h2
  exact ⟨i, xs, h1, h2⟩
theorem Rel.wiped (R : Rel K θ st σ H) : Rel K θ (wiped own st) (wipe own σ) H := by
  refine ⟨⟨by unfold Py.wiped; rw [wipe_len, wipe_len]; exact R.e.len, fun i sv h => ?_, fun i j a h1 h2 => ?_⟩, R.m⟩
  · obtain ⟨hi, h⟩ := wipe_some h
    obtain ⟨v, h1, h2⟩ := R.e.at_ i sv h
    exact ⟨v, by rw [wipe_off hi]; exact h1, h2⟩
  · obtain ⟨xs, p1, p2⟩ := h1
    obtain ⟨ys, q1, q2⟩ := h2
    obtain ⟨_, p1⟩ := wipe_some p1
    obtain ⟨_, p2⟩ := wipe_some p2
    obtain ⟨_, q1⟩ := wipe_some q1
    obtain ⟨_, q2⟩ := wipe_some q2
    exact R.e.one i j a ⟨xs, p1, p2⟩ ⟨ys, q1, q2⟩
/-- the part inside a turn, seen from its start -/
theorem Post.turn (p : PostS K (wipe own σ) θ (wiped own st) H σ2 θ st1 H) (o : Off own (wiped own st) (wipe own σ) st1 σ2) (q : Post K σ2 θ st1 H θ' st2 H') :
    Post K (wipe own σ) θ (wiped own st) H θ' (wiped own st2) H' := by
  refine ⟨⟨q.keep.tup, q.keep.frz, q.keep.dom, fun a xs ha h => ?_⟩, q.grow, fun i xs h => ?_, ⟨⟨?_, fun i sv h => ?_, fun i j a h1 h2 => ?_⟩, q.rel.m⟩⟩
  · rcases q.keep.lst a xs ha h with z | ⟨z, w⟩
    · exact .inl z
    · rcases p.own a z with y | y
      · exact .inr ⟨y, w⟩
      · rw [h] at y; cases y
  · obtain ⟨hi, h⟩ := wipe_some h
    have h1 := q.own i xs h
    rw [(o.2 i hi).2] at h1
    exact h1
  · show (wipe own st2.e).length = _
    rw [wipe_len, q.rel.e.len, o.1]
  · obtain ⟨hi, h⟩ := wipe_some h
    obtain ⟨v, h1, h2⟩ := q.rel.e.at_ i sv h
    exact ⟨v, by rw [← (o.2 i hi).1]; exact h1, h2⟩
  · obtain ⟨xs, p1, p2⟩ := h1
    obtain ⟨ys, q1, q2⟩ := h2
    obtain ⟨hi, p1⟩ := wipe_some p1
    obtain ⟨hj, q1⟩ := wipe_some q1
    exact q.rel.e.one i j a ⟨xs, p1, by rw [(o.2 i hi).1]; exact p2⟩ ⟨ys, q1, by rw [(o.2 j hj).1]; exact q2⟩
/-- a list that the slots do not hold changes -/
theorem Post.updD {σ : Sg} {vs us : List V} (R0 : Rel K θ0 st0 σ H0) (p : Post K σ θ0 st0 H0 θ st H) (h : H D = some (.lst vs)) (hn : H0 D = none) (hd : D ∉ θ) : Post K σ θ0 st0 H0 θ st (upd H D (.lst us)) := by
  have k : Keep1 θ (fun b => b = D) H (upd H D (.lst us)) := ⟨fun b ys q => by rw [upd_ne (ne_of q h (by intro z; cases z))]; exact q, fun b p u q => by rw [upd_ne (ne_of q h (by intro z; cases z))]; exact q, fun b q => by
    by_cases e : b = D
    · rw [e, upd_same] at q; cases q
    · rw [upd_ne e] at q; exact q, fun b ys _ hb q => by rw [upd_ne hb]; exact q⟩
  have nown : ∀ b, Own st σ b → b ≠ D := fun b ⟨i, z⟩ e => by
    obtain ⟨us, q, _⟩ := Own.tracked R0 ⟨i, p.ownM z⟩
    rw [e, hn] at q; cases q
  refine ⟨⟨fun b ys q => k.tup b ys (p.keep.tup b ys q), fun b o u q => k.frz b o u (p.keep.frz b o u q), fun b q => p.keep.dom b (k.dom b q), fun b ys hb q => ?_⟩, p.grow, p.own, ⟨⟨p.rel.e.len, fun i sv q => ?_, p.rel.e.one⟩, ⟨p.rel.m.len, p.rel.m.nd, fun n ys q => ?_⟩⟩⟩
  · have ne : b ≠ D := fun e => by rw [e, hn] at q; cases q
    rw [upd_ne ne]
    exact p.keep.lst b ys hb q
  · obtain ⟨v, h1, h2⟩ := p.rel.e.at_ i sv q
    refine ⟨v, h1, ?_⟩
    cases sv with
    | val x => exact RV.mono k _ _ h2
    | own ys =>
      obtain ⟨b, us, e, h3, h4, h5⟩ := h2
      refine ⟨b, us, e, ?_, RVs.mono k _ _ h4, h5⟩
      rw [upd_ne (nown b ⟨i, ys, q, by rw [h1, e]⟩)]
      exact h3
    | pk ys => exact h2.elim
  · obtain ⟨b, us, h1, h2, h3⟩ := p.rel.m.at_ n ys q
    have hb : b ≠ D := fun z => hd (z ▸ List.mem_of_getElem? h1)
    exact ⟨b, us, h1, by rw [upd_ne hb]; exact h2, RVs.mono (θ := θ.take n) (F := fun b => b = D) ⟨k.tup, k.frz, k.dom, fun b ys _ hb q => by rw [upd_ne hb]; exact q⟩ _ _ h3⟩
/-- a list that the slots do not hold stays -/
theorem Post.keepD {σ : Sg} {vs : List V} (R0 : Rel K θ0 st0 σ H0) (p : Post K σ θ0 st0 H0 θ st H) (q : Post K σ θ st H θ' st' H') (h : H D = some (.lst vs)) (hn : H0 D = none) (hd : D ∉ θ) : H' D = some (.lst vs) ∧ D ∉ θ' := by
  refine ⟨?_, q.grow.out hd h⟩
  rcases q.keep.lst D vs hd h with z | ⟨⟨i, z⟩, _⟩
  · exact z
  · obtain ⟨us, e, _⟩ := Own.tracked R0 ⟨i, p.ownM z⟩
    rw [hn] at e; cases e
/-- behind a block -/
theorem Post.unwipe (p : Post K (wipe own σ) θ (wiped own st) H θ' (wiped own st2) H') (R : Rel K θ st σ H) : Post K σ θ st H θ' { st2 with e := back own st.e st2.e } H' := by
  have ow : ∀ (i : Nat) (xs : List Val), (back own st.e st2.e)[i]? = some (some (.own xs)) → st.e[i]? = some (some (.own xs)) := fun i xs h => by
    rcases back_some h with ⟨_, h⟩ | ⟨hi, h⟩
    · exact h
    · exact (wipe_some (p.own i xs (by show (wipe own st2.e)[i]? = _; rw [wipe_off hi]; exact h))).2
  refine ⟨⟨p.keep.tup, p.keep.frz, p.keep.dom, fun a xs ha h => ?_⟩, p.grow, ow, ⟨⟨?_, fun i sv h => ?_, fun i j a h1 h2 => ?_⟩, p.rel.m⟩⟩
  · rcases p.keep.lst a xs ha h with z | ⟨z, w⟩
    · exact .inl z
    · exact .inr ⟨own_wiped z, w⟩
  · show (back own st.e st2.e).length = _
    have := p.rel.e.len
    rw [back_len]
    unfold Py.wiped at this
    rw [wipe_len, wipe_len] at this
    exact this
  · rcases back_some h with ⟨hi, h⟩ | ⟨hi, h⟩
    · obtain ⟨v, h1, h2⟩ := R.e.at_ i sv h
      refine ⟨v, h1, ?_⟩
      have mv : ∀ (xs : List Val) (vs : List V), RVs K θ H xs vs → RVs K θ' H' xs vs := fun xs vs h => RVs.pre p.grow.pre _ _ (RVs.mono p.keep.to1 _ _ h)
      cases sv with
      | val x => exact RV.pre p.grow.pre _ _ (RV.mono p.keep.to1 _ _ h2)
      | own xs =>
        obtain ⟨a, vs, e, h3, h4, h5⟩ := h2
        refine ⟨a, vs, e, ?_, mv _ _ h4, p.grow.out h5 h3⟩
        rcases p.keep.lst a vs h5 h3 with z | ⟨⟨j, ys, z1, z2⟩, _⟩
        · exact z
        · obtain ⟨hj, z1⟩ := wipe_some z1
          obtain ⟨_, z2⟩ := wipe_some z2
          have := R.e.one i j a ⟨xs, h, by rw [h1, e]⟩ ⟨ys, z1, z2⟩
          exact (hj (this ▸ hi)).elim
      | pk xs => exact h2.elim
    · obtain ⟨v, h1, h2⟩ := p.rel.e.at_ i sv (by show (wipe own st2.e)[i]? = _; rw [wipe_off hi]; exact h)
      exact ⟨v, (wipe_some h1).2, h2⟩
  · obtain ⟨xs, p1, p2⟩ := h1
    obtain ⟨ys, q1, q2⟩ := h2
    exact R.e.one i j a ⟨xs, ow i xs p1, p2⟩ ⟨ys, ow j ys q1, q2⟩
end
/-- where a walk's turn begins: the thing yielded lies in the heap -/
theorem yv_post {K : Kf} {θ : List Ad} {st : S} {σ : Sg} {H H' : Hp} {x : Val} {v : V} (R : Rel K θ st σ H) (y : YV K θ H x v H') : Post K σ θ st H θ st H' ∧ RV K θ H' x v := by
  rcases y with ⟨rfl, h⟩ | ⟨T, ys, vs, rfl, rfl, hT, rfl, h⟩
  · exact ⟨.refl R, h⟩
  · have p := Post.new (K := K) (o := .tup vs) R hT
    refine ⟨p, ?_⟩
    unfold RV
    exact ⟨T, vs, rfl, SqT.of upd_same, RVs.mono p.keep.to1 _ _ h⟩
theorem KeepB.of {θ θ1 : List Ad} {F F1 : Ad → Prop} {H H' : Hp} (k : Keep θ1 F1 H H') (hf : ∀ a, F1 a → F a) (ht : ∀ a, a ∈ θ1 → a ∈ θ) : KeepB false θ F H H' :=
  show Keep θ F H H' from ⟨k.tup, k.frz, k.dom, fun a xs ha h => (k.lst a xs (fun z => ha (ht a z)) h).imp id fun ⟨z, w⟩ => ⟨hf a z, w⟩⟩
def lcM (own : List Nat) (tg : Tg) (test : M Bool) (elt : M Val) (f : M (List Val)) : M SV := M.bind f fun xs => M.bind (within own (compL own tg test elt xs)) fun ys => M.of (ownl ys)
theorem lc_imp {K : Kf} {own : List Nat} {tg : Tg} {F : List Nat} {test : M Bool} {elt : M Val} {f : M (List Val)} {σ : Sg} {H : Hp} {Q : VK} (hF : ∀ i ∈ F, i ∈ own) (h : tE K none (lcM own tg test elt f) σ H Q) :
    L2.tLc (tI K none false f) (tG K F (asg tg)) (tT K none test) (tV K none elt) own σ H Q := by
  obtain ⟨θ, st, R, h⟩ := h
  refine ⟨θ, st, R, h.bind.mono (fun _ _ z => z) fun xs st1 h1 J θ1 H1 p1 itr D hD => ?_⟩
  obtain ⟨a, s2, e2, h2⟩ := wpO.fin h1
  obtain ⟨G, Y, wk, hG, hY⟩ := itr
  have hw : wpO (compL own tg test elt xs st1) (fun _ _ => False) fun ys s => ys.length ≤ PySem.sizeLine ∧ ∀ v θ' H', Post K σ θ st H θ' { s with e := back own st1.e s.e } H' → RX K θ' H H' (.own ys) v → Q v H' := by
    have h3 := h1.bind
    unfold within at h3
    unfold wpO at h3 ⊢
    cases e : compL own tg test elt xs st1 with
    | none => rw [e] at h3; exact h3.elim
    | some r =>
      rw [e] at h3
      cases r with
      | ex e s => exact h3.elim
      | ok ys s =>
        obtain ⟨z, e4, h4⟩ := wpO.of h3
        obtain ⟨hz, rfl⟩ := ownl_of e4
        exact ⟨hz, h4⟩
  clear h1 e2 h2 a s2
  have R1 : Rel K θ1 (wiped own st1) (wipe own σ) H1 := p1.rel.wiped
  have q0 : Post K (wipe own σ) θ1 (wiped own st1) H1 θ1 (wiped own st1) (upd H1 D (.lst [])) := .new R1 hD
  refine L2.lc_it wk (fun i Hi => ∃ θi sti accv acc, Post K (wipe own σ) θ1 (wiped own st1) H1 θi (wiped own sti) Hi ∧ Hi D = some (.lst acc) ∧ D ∉ θi ∧ RVs K θi Hi accv acc ∧
    wpO (compL own tg test elt (xs.drop i) sti) (fun _ _ => False) fun r s => (accv ++ r).length ≤ PySem.sizeLine ∧ ∀ v θ' H', Post K σ θ st H θ' { s with e := back own st1.e s.e } H' → RX K θ' H H' (.own (accv ++ r)) v → Q v H')
    ⟨θ1, st1, [], [], q0, upd_same, notin_of_none p1.rel.m hD, RVs.nil, hw⟩ ?_ ?_ ?_
  · rintro i H2 _ ⟨θi, sti, accv, acc, q, hd, ht, hr, hc⟩
    exact hG H2 (KeepB.of q.keep (fun a z => .inl (own_wiped z)) fun _ z => z)
  · rintro i x H2 H3 hi ⟨θi, sti, accv, acc, q, hd, ht, hr, hc⟩ y
    have hx : xs[i]? = some xs[i] := List.getElem?_eq_getElem hi
    have y := hY i xs[i] H2 x H3 hx (KeepB.of q.keep (fun a z => .inl (own_wiped z)) fun _ z => z) y
    -- seen with the cells of now
    have y : YV K θi H2 xs[i] x H3 := by
      rcases y with ⟨e, h⟩ | ⟨T, ys, vs, e1, e2, e3, e4, h⟩
      · exact .inl ⟨e, RV.pre q.grow.pre _ _ h⟩
      · exact .inr ⟨T, ys, vs, e1, e2, e3, e4, RVs.pre q.grow.pre _ _ h⟩
    obtain ⟨qy, rx⟩ := yv_post q.rel y
    rw [List.drop_eq_getElem_cons hi] at hc
    unfold compL at hc
    have q3 := q.trans qy
    obtain ⟨hd3, ht3⟩ := Post.keepD R1 q qy hd hD ht
    rw [wipe_l2]
    refine ⟨θi, wiped own sti, xs[i], q3.rel, rx, hc.bind.mono (fun _ _ z => z) fun _ s1 h1 σ2 ps of => ?_⟩
    have of := of.mono hF
    refine ⟨?_, θi, s1, ps.rel, h1.bind.mono (fun _ _ z => z) fun b s2 h2 θ2 H4 p2 => ?_⟩
    · rw [wipe_l2]
      conv => rhs; rw [← wipe_idem]
      exact wipe_ext of.1 fun j hj => (of.2 j hj).1
    · have pt := Post.turn ps of p2
      obtain ⟨hd4, ht4⟩ := Post.keepD R1 q3 pt hd3 hD ht3
      have hr4 : RVs K θ2 H4 accv acc := RVs.pre pt.grow.pre _ _ (RVs.mono (qy.trans pt).keep.to1 _ _ hr)
      cases b with
      | false => exact ⟨θ2, s2, accv, acc, q3.trans pt, hd4, ht4, hr4, h2⟩
      | true =>
        refine ⟨θ2, s2, p2.rel, h2.bind.mono (fun _ _ z => z) fun w s3 h3 v θ5 H5 p3 r3 => ?_⟩
        have pt3 := Post.turn ps of (p2.trans p3)
        obtain ⟨hd5, ht5⟩ := Post.keepD R1 q3 pt3 hd3 hD ht3
        have hr5 : RVs K θ5 H5 accv acc := RVs.pre pt3.grow.pre _ _ (RVs.mono (qy.trans pt3).keep.to1 _ _ hr)
        have hall := hr5.append (RVs.cons r3 RVs.nil)
        have h4 := h3.bind
        refine ⟨acc, hd5, ?_, θ5, s3, accv ++ [w], acc ++ [v], Post.updD R1 (q3.trans pt3) hd5 hD ht5, upd_same, ht5, ?_, h4.mono (fun _ _ z => z) fun r s h => ?_⟩
        · obtain ⟨r, s, _, h⟩ := wpO.fin h4
          have := h.pure.1
          rw [hr.length]
          simp only [List.length_append, List.length_cons] at this
          omega
        · refine RVs.mono (F := fun b => b = D) ⟨fun b ys q => by rw [upd_ne (ne_of q hd5 (by intro z; cases z))]; exact q, fun b p u q => by rw [upd_ne (ne_of q hd5 (by intro z; cases z))]; exact q, fun b q => ?_, fun b ys _ hb q => by rw [upd_ne hb]; exact q⟩ _ _ hall
          by_cases e : b = D
          · rw [e, upd_same] at q; cases q
          · rw [upd_ne e] at q; exact q
        · have h := h.pure
          rw [List.append_assoc]
          exact h
  · rintro H2 ⟨θi, sti, accv, acc, q, hd, ht, hr, hc⟩
    rw [List.drop_length] at hc
    have hc := (show wpO (M.pure [] sti) _ _ from hc).pure
    rw [List.append_nil] at hc
    have pu := Post.unwipe q p1.rel
    exact hc.2 _ θi H2 (p1.trans pu) ⟨D, acc, rfl, hd, hr, ht, p1.keep.dom D hD⟩
theorem noX_imp {K : Kf} {W : WE} {f : M SV} {σ : Sg} {H : Hp} {Q : VK} (h : tE K W (noX f) σ H Q) : tE K none f σ H Q := by
  obtain ⟨θ, st, R, h⟩ := h
  refine ⟨θ, st, R, ?_⟩
  unfold noX at h
  unfold wpO at h ⊢
  cases e : f st with
  | none => rw [e] at h; exact h.elim
  | some r =>
    rw [e] at h
    cases r with
    | ex x s => exact h.elim
    | ok a s => exact h
section
variable {X : Cx} {W : WE}
/-- a block's rules, in every block that may come -/
abbrev Blk (X : Cx) (scope : PySem.Scope) (p : Cx → Prop) : Prop := ∀ (s : Shared) (H : Hp) (C : Ad) (cl : List (PySem.Str × Ad)) (fp : List Ad), p (X.blk s H scope (PySem.compEnvC scope cl C X.env) fp)
theorem e_lc {elt tg iter : Expr} {ifs : List Expr} {scope : PySem.Scope} {own : List (PySem.Str × Nat)} {pos : Pos} {g : Tg} {F : List Nat} {test : M Bool} {fe : M Val} {fi : M (List Val)} (hc : X.calm = true) (hN : X.N.Nodup) (hi : PI X tg iter (tI X.K none false fi)) (ok : L2.BlkOk X.N X.env.scope scope own) (hF : ∀ i ∈ F, i ∈ own.map (·.2))
    (hg : Blk X scope fun X => PG X tg (tG X.K F (asg g))) (ht : Blk X scope fun X => PTs X ifs (tT X.K none test)) (he : Blk X scope fun X => PE X elt (tV X.K none fe)) (hs : ∀ x, PySem.foldedSetIterable iter X.env x = pure x) :
    PE X (.ListComp elt [⟨tg, iter, ifs, 0⟩] scope pos) (tE X.K W (noX (lcM (own.map (·.2)) g test fe fi))) :=
  pe_imp (L2.pe_lc hc hN hi ok hg ht he hs) fun σ H Q h => lc_imp hF (noX_imp h)
theorem s_setLc {i : Nat} {y : PySem.Str} {py : Pos} {elt tg iter : Expr} {ifs : List Expr} {scope : PySem.Scope} {own : List (PySem.Str × Nat)} {pos spos : Pos} {g : Tg} {F : List Nat} {test : M Bool} {fe : M Val} {fi : M (List Val)} (hc : X.calm = true) (hN : X.N.Nodup) (hy : X.N[i]? = some y) (hyl : X.env.scope.names.lookup y = some .local)
    (hsw : PySem.swapsWith (.ListComp elt [⟨tg, iter, ifs, 0⟩] scope pos) (some (.Name y py)) spos.line X.env = pure true) (hi : PI X tg iter (tI X.K none false fi)) (ok : L2.BlkOk X.N X.env.scope scope own) (hF : ∀ i ∈ F, i ∈ own.map (·.2))
    (hg : Blk X scope fun X => PG X tg (tG X.K F (asg g))) (ht : Blk X scope fun X => PTs X ifs (tT X.K none test)) (he : Blk X scope fun X => PE X elt (tV X.K none fe)) (hs : ∀ x, PySem.foldedSetIterable iter X.env x = pure x) :
    L2.PS X (.Assign [.Name y py] (.ListComp elt [⟨tg, iter, ifs, 0⟩] scope pos) spos) (L2.tAsg (tE X.K W (noX (lcM (own.map (·.2)) g test fe fi))) (L2.gName i)) := by
  have q := L2.ps_setLc (te := tV X.K none fe) (tt := tT X.K none test) (g := tG X.K F (asg g)) hc hN hy hyl hsw hi ok hg ht he hs
  exact ⟨fun pins s σ H D I h => q.run pins s σ H D I (lc_imp hF (noX_imp h))⟩
end
end Py
end

section
set_option autoImplicit false
set_option linter.all false
set_option Elab.async false
set_option maxRecDepth 100000
set_option maxHeartbeats 4000000
/-! Comprehensions of two clauses. -/
namespace Py
open L2 (V Hp HO SqL SqT Rd upd upd_same upd_ne ne_of ne_of_none Cx PE PT PW PA TE TT TA VK R2 OpR tOp thn EP TP Inv RelV CallR Sp PI TI Walk YAt YFn YPair PG PGs TG TGs PTs)
open PySem (Expr Pos Operator CmpOp Value Shared Sem wpAny)
theorem compL_cons {own : List Nat} {tg : Tg} {test : M Bool} {elt : M Val} {x : Val} {xs : List Val} {s : S} : compL own tg test elt (x :: xs) s = M.bind (asg tg x) (fun _ => M.bind test fun b => if b then M.bind elt fun v => M.bind (compL own tg test elt xs) fun r => M.pure (v :: r) else compL own tg test elt xs) (wiped own s) := rfl
/-- behind steps that may store in slots, what is owned at most locked -/
structure PostT (K : Kf) (σ : Sg) (θ : List Ad) (st : S) (H : Hp) (σ' : Sg) (θ' : List Ad) (st' : S) (H' : Hp) : Prop where
  keep : Keep θ (Own st σ) H H'
  grow : Grow θ H θ'
  own : ∀ a, Own st' σ' a → Own st σ a
  rel : Rel K θ' st' σ' H'
/-- off the slots own nothing is stored -/
def OffW (own : List Nat) (st : S) (σ : Sg) (st' : S) (σ' : Sg) : Prop := σ'.length = σ.length ∧ ∀ j : Nat, j ∉ own → σ'[j]? = σ[j]? ∧ ∀ xs, st'.e[j]? = some (some (.own xs)) → st.e[j]? = some (some (.own xs))
section
variable {K : Kf} {θ θ0 θ1 θ2 θ' : List Ad} {st st0 st1 st2 st' : S} {σ σ1 σ2 : Sg} {H H0 H1 H2 H' : Hp} {own own2 F : List Nat} {D : Ad}
theorem Post.toT (p : Post K σ θ st H θ' st' H') : PostT K σ θ st H σ θ' st' H' := ⟨p.keep, p.grow, fun a ⟨i, h⟩ => ⟨i, p.ownM h⟩, p.rel⟩
theorem PostT.trans (p : PostT K σ θ st H σ1 θ1 st1 H1) (q : PostT K σ1 θ1 st1 H1 σ2 θ2 st2 H2) : PostT K σ θ st H σ2 θ2 st2 H2 := by
  refine ⟨⟨fun a xs h => q.keep.tup a xs (p.keep.tup a xs h), fun a o u h => q.keep.frz a o u (p.keep.frz a o u h), fun a h => p.keep.dom a (q.keep.dom a h), fun a xs ha h => ?_⟩, p.grow.trans p.keep.dom q.grow, fun a h => p.own a (q.own a h), q.rel⟩
  · rcases p.keep.lst a xs ha h with h1 | ⟨f, o, h1⟩
    · rcases q.keep.lst a xs (p.grow.out ha h) h1 with h2 | ⟨f, h2⟩
      · exact .inl h2
      · exact .inr ⟨p.own a f, h2⟩
    · exact .inr ⟨f, o, q.keep.frz a o _ h1⟩
theorem PostT.wiped (p : PostT K σ θ st H σ1 θ1 st1 H1) : PostT K σ θ st H (wipe own σ1) θ1 (wiped own st1) H1 := ⟨p.keep, p.grow, fun a h => p.own a (own_wiped h), p.rel.wiped⟩
theorem PostT.asg (p : PostS K σ θ st H σ1 θ st1 H) : PostT K σ θ st H σ1 θ st1 H := ⟨.refl, .refl, fun a h => (p.own a h).resolve_right fun z => (by obtain ⟨us, e, _⟩ := Own.tracked p.rel h; rw [z] at e; cases e), p.rel⟩
theorem OffW.ofOff (o : Off F st σ st1 σ1) (m : ∀ i ∈ F, i ∈ own) : OffW own st σ st1 σ1 := ⟨o.1, fun j hj => by
  obtain ⟨a, b⟩ := o.2 j fun z => hj (m j z)
  exact ⟨a, fun xs h => by rw [← b]; exact h⟩⟩
theorem OffW.ofPost (p : Post K σ θ st H θ' st' H') : OffW own st σ st' σ := ⟨rfl, fun j _ => ⟨rfl, p.own j⟩⟩
theorem OffW.trans (o : OffW own st σ st1 σ1) (o2 : OffW own st1 σ1 st2 σ2) : OffW own st σ st2 σ2 := ⟨o2.1.trans o.1, fun j hj => ⟨(o2.2 j hj).1.trans (o.2 j hj).1, fun xs h => (o.2 j hj).2 xs ((o2.2 j hj).2 xs h)⟩⟩
theorem OffW.wiped (m : ∀ i ∈ own2, i ∈ own) : OffW own st σ (wiped own2 st) (wipe own2 σ) := ⟨wipe_len _ _, fun j hj => ⟨wipe_off fun z => hj (m j z), fun xs h => (wipe_some h).2⟩⟩
theorem OffW.wipe_eq (o : OffW own st σ st1 σ1) : wipe own σ1 = wipe own σ := wipe_ext o.1 fun j hj => (o.2 j hj).1
theorem PostT.toPost (p : PostT K (wipe own σ) θ (Py.wiped own st) H σ1 θ' st' H') (o : OffW own (Py.wiped own st) (wipe own σ) st' σ1) : Post K (wipe own σ) θ (Py.wiped own st) H θ' (Py.wiped own st') H' := by
  have e : wipe own σ1 = wipe own σ := by rw [o.wipe_eq, wipe_idem]
  have r := p.rel.wiped (own := own)
  rw [e] at r
  refine ⟨p.keep, p.grow, fun i xs h => ?_, r⟩
  obtain ⟨hi, h⟩ := wipe_some h
  exact (o.2 i hi).2 xs h
theorem PostT.keepD {vs : List V} (p : PostT K σ θ st H σ1 θ1 st1 H1) (q : PostT K σ1 θ1 st1 H1 σ2 θ2 st2 H2) (R : Rel K θ st σ H) (h : H1 D = some (.lst vs)) (hn : H D = none) (hd : D ∉ θ1) : H2 D = some (.lst vs) ∧ D ∉ θ2 := by
  refine ⟨?_, q.grow.out hd h⟩
  rcases q.keep.lst D vs hd h with z | ⟨z, _⟩
  · exact z
  · obtain ⟨us, e, _⟩ := Own.tracked R (p.own D z)
    rw [hn] at e; cases e
/-- a list that the slots do not hold changes -/
theorem PostT.updD {vs us : List V} (R0 : Rel K θ st σ H) (p : PostT K σ θ st H σ1 θ1 st1 H1) (h : H1 D = some (.lst vs)) (hn : H D = none) (hd : D ∉ θ1) : PostT K σ θ st H σ1 θ1 st1 (upd H1 D (.lst us)) := by
  have k : Keep1 θ1 (fun b => b = D) H1 (upd H1 D (.lst us)) := ⟨fun b ys q => by rw [upd_ne (ne_of q h (by intro z; cases z))]; exact q, fun b p u q => by rw [upd_ne (ne_of q h (by intro z; cases z))]; exact q, fun b q => by
    by_cases e : b = D
    · rw [e, upd_same] at q; cases q
    · rw [upd_ne e] at q; exact q, fun b ys _ hb q => by rw [upd_ne hb]; exact q⟩
  have nown : ∀ b, Own st1 σ1 b → b ≠ D := fun b z e => by
    obtain ⟨us, q, _⟩ := Own.tracked R0 (p.own b z)
    rw [e, hn] at q; cases q
  refine ⟨⟨fun b ys q => k.tup b ys (p.keep.tup b ys q), fun b o u q => k.frz b o u (p.keep.frz b o u q), fun b q => p.keep.dom b (k.dom b q), fun b ys hb q => ?_⟩, p.grow, p.own, ⟨⟨p.rel.e.len, fun i sv q => ?_, p.rel.e.one⟩, ⟨p.rel.m.len, p.rel.m.nd, fun n ys q => ?_⟩⟩⟩
  · have ne : b ≠ D := fun e => by rw [e, hn] at q; cases q
    rw [upd_ne ne]
    exact p.keep.lst b ys hb q
  · obtain ⟨v, h1, h2⟩ := p.rel.e.at_ i sv q
    refine ⟨v, h1, ?_⟩
    cases sv with
    | val x => exact RV.mono k _ _ h2
    | own ys =>
      obtain ⟨b, us, e, h3, h4, h5⟩ := h2
      refine ⟨b, us, e, ?_, RVs.mono k _ _ h4, h5⟩
      rw [upd_ne (nown b ⟨i, ys, q, by rw [h1, e]⟩)]
      exact h3
    | pk ys => exact h2.elim
  · obtain ⟨b, us, h1, h2, h3⟩ := p.rel.m.at_ n ys q
    have hb : b ≠ D := fun z => hd (z ▸ List.mem_of_getElem? h1)
    exact ⟨b, us, h1, by rw [upd_ne hb]; exact h2, RVs.mono (θ := θ1.take n) (F := fun b => b = D) ⟨k.tup, k.frz, k.dom, fun b ys _ hb q => by rw [upd_ne hb]; exact q⟩ _ _ h3⟩
theorem rvs_updD {vs us ws : List V} {xs : List Val} (h : H D = some (.lst ws)) (r : RVs K θ H xs vs) : RVs K θ (upd H D (.lst us)) xs vs :=
  RVs.mono (F := fun b => b = D) ⟨fun b ys q => by rw [upd_ne (ne_of q h (by intro z; cases z))]; exact q, fun b p u q => by rw [upd_ne (ne_of q h (by intro z; cases z))]; exact q, fun b q => by
    by_cases e : b = D
    · rw [e, upd_same] at q; cases q
    · rw [upd_ne e] at q; exact q, fun b ys _ hb q => by rw [upd_ne hb]; exact q⟩ _ _ r
theorem PostT.rvs {vs : List V} {xs : List Val} (p : PostT K σ θ st H σ1 θ1 st1 H1) (r : RVs K θ H xs vs) : RVs K θ1 H1 xs vs := RVs.pre p.grow.pre _ _ (RVs.mono p.keep.to1 _ _ r)
end
theorem yv_pre {K : Kf} {θ θ' : List Ad} {H H' : Hp} {x : Val} {v : V} (g : Pre θ θ') (y : YV K θ H x v H') : YV K θ' H x v H' := by
  rcases y with ⟨e, h⟩ | ⟨T, ys, vs, e1, e2, e3, e4, h⟩
  · exact .inl ⟨e, RV.pre g _ _ h⟩
  · exact .inr ⟨T, ys, vs, e1, e2, e3, e4, RVs.pre g _ _ h⟩
theorem wipe_sub {α : Type} {own own2 : List Nat} (ho : ∀ i ∈ own2, i ∈ own) (e : List (Option α)) : wipe own (wipe own2 e) = wipe own e := wipe_ext (wipe_len _ _) fun j hj => wipe_off fun z => hj (ho j z)
def lc2M (own own2 : List Nat) (tg tg2 : Tg) (test test2 : M Bool) (elt : M Val) (f f2 : M (List Val)) : M SV :=
  M.bind f fun xs => M.bind (within own (compF own tg test (M.bind f2 fun ys => compL own2 tg2 test2 elt ys) xs)) fun ys => M.of (ownl ys)
theorem lc2_imp {K : Kf} {own own2 : List Nat} {tg tg2 : Tg} {F F2 : List Nat} {test test2 : M Bool} {elt : M Val} {f f2 : M (List Val)} {σ : Sg} {H : Hp} {Q : VK} (hF : ∀ i ∈ F, i ∈ own) (hF2 : ∀ i ∈ F2, i ∈ own2) (ho : ∀ i ∈ own2, i ∈ own)
    (h : tE K none (lc2M own own2 tg tg2 test test2 elt f f2) σ H Q) :
    L2.tLc2 (tI K none false f) (tG K F (asg tg)) (tT K none test) (tI K none true f2) (tG K F2 (asg tg2)) (tT K none test2) (tV K none elt) own own2 σ H Q := by
  obtain ⟨θ, st, R, h⟩ := h
  refine ⟨θ, st, R, h.bind.mono (fun _ _ z => z) fun xs st1 h1 J θ1 H1 p1 itr D hD => ?_⟩
  obtain ⟨G, Y, wk, hG, hY⟩ := itr
  have hw : wpO (compF own tg test (M.bind f2 fun ys => compL own2 tg2 test2 elt ys) xs st1) (fun _ _ => False) fun ys s => ys.length ≤ PySem.sizeLine ∧ ∀ v θ' H', Post K σ θ st H θ' { s with e := back own st1.e s.e } H' → RX K θ' H H' (.own ys) v → Q v H' := by
    have h3 := h1.bind
    unfold within at h3
    unfold wpO at h3 ⊢
    cases e : compF own tg test (M.bind f2 fun ys => compL own2 tg2 test2 elt ys) xs st1 with
    | none => rw [e] at h3; exact h3.elim
    | some r =>
      rw [e] at h3
      cases r with
      | ex e s => exact h3.elim
      | ok ys s =>
        obtain ⟨z, e4, h4⟩ := wpO.of h3
        obtain ⟨hz, rfl⟩ := ownl_of e4
        exact ⟨hz, h4⟩
  clear h1
  have R1 : Rel K θ1 (wiped own st1) (wipe own σ) H1 := p1.rel.wiped
  have q0 : PostT K (wipe own σ) θ1 (wiped own st1) H1 (wipe own σ) θ1 (wiped own st1) (upd H1 D (.lst [])) := (Post.new R1 hD).toT
  -- what the whole ends with
  let Fin : List Val → S → Prop := fun ys s => ys.length ≤ PySem.sizeLine ∧ ∀ v θ' H', Post K σ θ st H θ' { s with e := back own st1.e s.e } H' → RX K θ' H H' (.own ys) v → Q v H'
  let Pv : Nat → Hp → Prop := fun i Hi => ∃ θi sti accv acc, PostT K (wipe own σ) θ1 (wiped own st1) H1 (wipe own σ) θi (wiped own sti) Hi ∧ OffW own (wiped own st1) (wipe own σ) (wiped own sti) (wipe own σ) ∧ Hi D = some (.lst acc) ∧ D ∉ θi ∧ RVs K θi Hi accv acc ∧
    wpO (compF own tg test (M.bind f2 fun ys => compL own2 tg2 test2 elt ys) (xs.drop i) sti) (fun _ _ => False) fun r s => Fin (accv ++ r) s
  have hGi : ∀ i Hi, i ≤ xs.length → Pv i Hi → G Hi := by
    rintro i H2 _ ⟨θi, sti, accv, acc, q, of, hd, ht, hr, hc⟩
    exact hG H2 (KeepB.of q.keep (fun a z => .inl (own_wiped z)) fun _ z => z)
  refine ⟨fun i m Hi => m = xs.length - i ∧ i ≤ xs.length ∧ Pv i Hi, ⟨xs.length, by simp, Nat.zero_le _, θ1, st1, [], [], q0, ⟨rfl, fun j _ => ⟨rfl, fun _ h => h⟩⟩, upd_same, notin_of_none p1.rel.m hD, RVs.nil, hw⟩, ?_⟩
  rintro i m Hi ⟨rfl, hi, pv⟩
  have gi := hGi i Hi hi pv
  by_cases hlt : i < xs.length
  · refine .inr ⟨wk.goes i Hi hlt gi, Pv (i + 1), fun H' p' => ⟨xs.length - (i + 1), by omega, rfl, hlt, p'⟩, fun x H3 y => ?_⟩
    obtain ⟨θi, sti, accv, acc, q, of, hd, ht, hr, hc⟩ := pv
    have hx : xs[i]? = some xs[i] := List.getElem?_eq_getElem hlt
    have y := yv_pre q.grow.pre (hY i xs[i] Hi x H3 hx (KeepB.of q.keep (fun a z => .inl (own_wiped z)) fun _ z => z) (wk.yields i Hi x H3 hlt gi y))
    obtain ⟨qy, rx⟩ := yv_post q.rel y
    rw [List.drop_eq_getElem_cons hlt] at hc
    unfold compF at hc
    have q3 := q.trans qy.toT
    obtain ⟨hd3, ht3⟩ := PostT.keepD q qy.toT R1 hd hD ht
    have hr3 := qy.toT.rvs hr
    rw [wipe_l2]
    refine ⟨θi, wiped own sti, xs[i], q3.rel, rx, hc.bind.mono (fun _ _ z => z) fun _ s1 h1 σ2 ps of1 => ?_⟩
    have of1 := OffW.ofOff of1 hF
    have q4 := q3.trans (PostT.asg ps)
    have of4 : OffW own (wiped own st1) (wipe own σ) s1 σ2 := (of.trans (OffW.ofPost qy)).trans of1
    have we : wipe own σ2 = wipe own σ := by rw [of4.wipe_eq, wipe_idem]
    refine ⟨by rw [wipe_l2]; exact we, θi, s1, ps.rel, h1.bind.mono (fun _ _ z => z) fun b s2 h2 θ2 H4 p2 => ?_⟩
    have q5 := q4.trans p2.toT
    have of5 := of4.trans (OffW.ofPost p2)
    obtain ⟨hd4, ht4⟩ := PostT.keepD q3 ((PostT.asg ps).trans p2.toT) R1 hd3 hD ht3
    have hr4 := ((PostT.asg ps).trans p2.toT).rvs hr3
    cases b with
    | false =>
      refine ⟨θ2, s2, accv, acc, ?_, ?_, hd4, ht4, hr4, h2⟩
      · have := q5.wiped (own := own); rw [we] at this; exact this
      · have := of5.trans (OffW.wiped (own := own) (own2 := own) fun _ z => z); rw [we] at this; exact this
    | true =>
      have h2 : wpO ((M.bind (M.bind f2 fun ys => compL own2 tg2 test2 elt ys) fun v => M.bind (compF own tg test (M.bind f2 fun ys => compL own2 tg2 test2 elt ys) (xs.drop (i + 1))) fun r => M.pure (v ++ r)) s2) (fun _ _ => False) _ := h2
      refine ⟨θ2, s2, p2.rel, h2.bind.bind.mono (fun _ _ z => z) fun ys s3 h3 J2 θ3 H5 p3 itr2 => ?_⟩
      obtain ⟨G2, Y2, wk2, hG2, hY2⟩ := itr2
      have q6 := q5.trans p3.toT
      have of6 := of5.trans (OffW.ofPost p3)
      obtain ⟨hd5, ht5⟩ := PostT.keepD q5 p3.toT R1 hd4 hD ht4
      have hr5 := p3.toT.rvs hr4
      have R6 : Rel K θ3 (wiped own2 s3) (wipe own2 σ2) H5 := q6.rel.wiped
      let Pv2 : Nat → Hp → Prop := fun j Hj => ∃ θj stj accv acc, Keep1 θ3 (FreeB true s3 σ2 H4) H5 Hj ∧ Grow θ3 H5 θj ∧ PostT K (wipe own σ) θ1 (wiped own st1) H1 (wipe own2 σ2) θj (wiped own2 stj) Hj ∧ OffW own (wiped own st1) (wipe own σ) (wiped own2 stj) (wipe own2 σ2) ∧
        Hj D = some (.lst acc) ∧ D ∉ θj ∧ RVs K θj Hj accv acc ∧
        wpO (compL own2 tg2 test2 elt (ys.drop j) stj) (fun _ _ => False) fun r s => wpO ((M.bind (compF own tg test (M.bind f2 fun ys => compL own2 tg2 test2 elt ys) (xs.drop (i + 1))) fun r' => M.pure (r ++ r')) s) (fun _ _ => False) fun rr s' => Fin (accv ++ rr) s'
      have hGj : ∀ j Hj, Pv2 j Hj → G2 Hj := by
        rintro j Hj ⟨θj, stj, accv2, acc2, qi, _⟩
        exact hG2 Hj qi
      refine ⟨fun j k Hj => k = ys.length - j ∧ j ≤ ys.length ∧ Pv2 j Hj, ⟨ys.length, by simp, Nat.zero_le _, θ3, s3, accv, acc, .refl, .refl, q6.wiped, of6.trans (OffW.wiped ho), hd5, ht5, hr5, h3⟩, ?_⟩
      rintro j k Hj ⟨rfl, hj, pv2⟩
      have gj := hGj j Hj pv2
      by_cases hlt2 : j < ys.length
      · refine .inr ⟨wk2.goes j Hj hlt2 gj, Pv2 (j + 1), fun H' p' => ⟨ys.length - (j + 1), by omega, rfl, hlt2, p'⟩, fun x2 H6 y2 => ?_⟩
        obtain ⟨θj, stj, accv2, acc2, qi, gr, qo, ofo, hdj, htj, hrj, hc2⟩ := pv2
        have hx2 : ys[j]? = some ys[j] := List.getElem?_eq_getElem hlt2
        have y2 := yv_pre gr.pre (hY2 j ys[j] Hj x2 H6 hx2 qi (wk2.yields j Hj x2 H6 hlt2 gj y2))
        obtain ⟨qy2, rx2⟩ := yv_post qo.rel y2
        rw [List.drop_eq_getElem_cons hlt2] at hc2
        rw [compL_cons] at hc2
        have ki : ∀ {θ' : List Ad} {st' : S} {σ' : Sg} {H' : Hp}, PostT K (wipe own2 σ2) θj (wiped own2 stj) Hj σ' θ' st' H' → Keep1 θ3 (FreeB true s3 σ2 H4) H5 H' ∧ Grow θ3 H5 θ' := fun t => ⟨⟨fun a xs h => t.keep.tup a xs (qi.tup a xs h), fun a o u h => t.keep.frz a o u (qi.frz a o u h), fun a h => qi.dom a (t.keep.dom a h), fun a xs h1 h2 h3 => by
            have h4 := qi.lst a xs h1 h2 h3
            rcases t.keep.lst a xs (gr.out h1 h3) h4 with z | ⟨z, _⟩
            · exact z
            · obtain ⟨vs, g1, g2⟩ := Own.tracked R1 (qo.own a z)
              rcases q5.keep.lst a vs g2 g1 with e | ⟨_, o, e⟩
              · exact (h2 (.inr ⟨rfl, vs, e⟩)).elim
              · rw [p3.keep.frz _ _ _ e] at h3; cases h3⟩, gr.trans qi.dom t.grow⟩
        have qo3 := qo.trans qy2.toT
        obtain ⟨hd6, ht6⟩ := PostT.keepD qo qy2.toT R1 hdj hD htj
        have hr6 := qy2.toT.rvs hrj
        rw [wipe_l2]
        refine ⟨θj, wiped own2 stj, ys[j], qo3.rel, rx2, hc2.bind.mono (fun _ _ z => z) fun _ s4 h4 σ3 ps2 of2 => ?_⟩
        have qi4 := qy2.toT.trans (PostT.asg ps2)
        have qo4 := qo3.trans (PostT.asg ps2)
        have ofo4 := (ofo.trans (OffW.ofPost qy2)).trans (OffW.ofOff of2 fun i hi => ho i (hF2 i hi))
        have we2 : wipe own2 σ3 = wipe own2 σ2 := by rw [(OffW.ofOff of2 hF2).wipe_eq, wipe_idem]
        refine ⟨by rw [wipe_l2]; exact we2, θj, s4, ps2.rel, h4.bind.mono (fun _ _ z => z) fun b2 s5 h5 θ5 H7 p5 => ?_⟩
        have qi5 := qi4.trans p5.toT
        have qo5 := qo4.trans p5.toT
        have ofo5 := ofo4.trans (OffW.ofPost p5)
        obtain ⟨hd7, ht7⟩ := PostT.keepD qo3 ((PostT.asg ps2).trans p5.toT) R1 hd6 hD ht6
        have hr7 := ((PostT.asg ps2).trans p5.toT).rvs hr6
        cases b2 with
        | false =>
          refine ⟨θ5, s5, accv2, acc2, (ki qi5).1, (ki qi5).2, ?_, ?_, hd7, ht7, hr7, h5⟩
          · have := qo5.wiped (own := own2); rw [we2] at this; exact this
          · have := ofo5.trans (OffW.wiped ho); rw [we2] at this; exact this
        | true =>
          refine ⟨θ5, s5, p5.rel, h5.bind.mono (fun _ _ z => z) fun w s6 h6 v θ6 H8 p6 r6 => ?_⟩
          have qi6 := qi5.trans p6.toT
          have qo6 := qo5.trans p6.toT
          have ofo6 := ofo5.trans (OffW.ofPost p6)
          obtain ⟨hd8, ht8⟩ := PostT.keepD qo5 p6.toT R1 hd7 hD ht7
          have hr8 := p6.toT.rvs hr7
          have hall := hr8.append (RVs.cons r6 RVs.nil)
          have h7 := h6.bind
          have hH5 : H5 D ≠ none := by rw [hd5]; simp
          refine ⟨acc2, hd8, ?_, θ6, s6, accv2 ++ [w], acc2 ++ [v], ?_, (ki qi6).2, ?_, ?_, upd_same, ht8, rvs_updD hd8 hall, h7.mono (fun _ _ z => z) fun r s h => ?_⟩
          · obtain ⟨r, s, _, h⟩ := wpO.fin h7
            have h := h.pure
            obtain ⟨r2, s2, _, h⟩ := wpO.fin (wpO.bind h)
            have := h.pure.1
            rw [hrj.length]
            simp only [List.length_append, List.length_cons] at this
            omega
          · have kk := (ki qi6).1
            have hD4 : FreeB true s3 σ2 H4 D := .inr ⟨rfl, acc, hd4⟩
            exact ⟨fun b zs q => by rw [upd_ne (ne_of (kk.tup b zs q) hd8 (by intro z; cases z))]; exact kk.tup b zs q, fun b p u q => by rw [upd_ne (ne_of (kk.frz b p u q) hd8 (by intro z; cases z))]; exact kk.frz b p u q, fun b q => kk.dom b (by
              by_cases e : b = D
              · rw [e, upd_same] at q; cases q
              · rw [upd_ne e] at q; exact q), fun b zs h1 h2 h3 => by
                have ne : b ≠ D := fun e => h2 (e ▸ hD4)
                rw [upd_ne ne]; exact kk.lst b zs h1 h2 h3⟩
          · have := (PostT.updD R1 qo6 (us := acc2 ++ [v]) hd8 hD ht8).wiped (own := own2); rw [we2] at this; exact this
          · have := ofo6.trans (OffW.wiped ho); rw [we2] at this; exact this
          · have h := h.pure
            have h := wpO.bind h
            refine wpO.unbind (h.mono (fun _ _ z => z) fun r' s' h => ?_)
            have h := h.pure
            show Fin _ _
            rw [List.append_assoc]
            exact h
      · have e : j = ys.length := by omega
        subst e
        refine .inl ⟨wk2.stops Hj gj, ?_⟩
        obtain ⟨θj, stj, accv2, acc2, qi, gr, qo, ofo, hdj, htj, hrj, hc2⟩ := pv2
        rw [List.drop_length] at hc2
        have hc2 := (show wpO (M.pure [] stj) _ _ from hc2).pure
        have ws : wipe own (wipe own2 σ2) = wipe own σ := by rw [wipe_sub ho, we]
        have wst : wiped own (wiped own2 stj) = wiped own stj := by unfold Py.wiped; rw [wipe_sub ho]
        refine ⟨θj, stj, accv2, acc2, ?_, ?_, hdj, htj, hrj, ?_⟩
        · have := qo.wiped (own := own); rw [ws, wst] at this; exact this
        · have := ofo.trans (OffW.wiped (own := own) (own2 := own) fun _ z => z); rw [ws, wst] at this; exact this
        · have h := wpO.bind hc2
          exact h.mono (fun _ _ z => z) fun r s h => h.pure
  · have e : i = xs.length := by omega
    subst e
    refine .inl ⟨wk.stops Hi gi, ?_⟩
    obtain ⟨θi, sti, accv, acc, q, of, hd, ht, hr, hc⟩ := pv
    rw [List.drop_length] at hc
    have hc := (show wpO (M.pure [] sti) _ _ from hc).pure
    rw [List.append_nil] at hc
    have qp : Post K (wipe own σ) θ1 (wiped own st1) H1 θi (wiped own sti) Hi := by
      have := q.toPost of
      rw [show wiped own (wiped own sti) = wiped own sti by unfold Py.wiped; rw [wipe_idem]] at this
      exact this
    have pu := Post.unwipe qp p1.rel
    exact hc.2 _ θi Hi (p1.trans pu) ⟨D, acc, rfl, hd, hr, ht, p1.keep.dom D hD⟩
section
variable {X : Cx} {W : WE}
theorem e_lc2 {elt tg iter tg1 iter1 : Expr} {ifs ifs1 : List Expr} {scope : PySem.Scope} {own : List (PySem.Str × Nat)} {vs1 : List Nat} {pos : Pos} {g g1 : Tg} {F F1 : List Nat} {test test1 : M Bool} {fe : M Val} {fi fi1 : M (List Val)} (hc : X.calm = true) (hN : X.N.Nodup) (hi : PI X tg iter (tI X.K none false fi)) (ok : L2.BlkOk X.N X.env.scope scope own)
    (hv : ∀ i ∈ vs1, i ∈ own.map (·.2)) (hF : ∀ i ∈ F, i ∈ own.map (·.2)) (hF1 : ∀ i ∈ F1, i ∈ vs1)
    (hg : Blk X scope fun X => PG X tg (tG X.K F (asg g))) (ht : Blk X scope fun X => PTs X ifs (tT X.K none test)) (hi1 : Blk X scope fun X => PI X tg1 iter1 (tI X.K none true fi1)) (hg1 : Blk X scope fun X => PG X tg1 (tG X.K F1 (asg g1))) (ht1 : Blk X scope fun X => PTs X ifs1 (tT X.K none test1)) (he : Blk X scope fun X => PE X elt (tV X.K none fe))
    (hs : ∀ x, PySem.foldedSetIterable iter X.env x = pure x) (hs1 : ∀ env x, PySem.foldedSetIterable iter1 env x = pure x) :
    PE X (.ListComp elt [⟨tg, iter, ifs, 0⟩, ⟨tg1, iter1, ifs1, 0⟩] scope pos) (tE X.K W (noX (lc2M (own.map (·.2)) vs1 g g1 test test1 fe fi fi1))) :=
  pe_imp (L2.pe_lc2 (wi1 := tI X.K none true fi1) (tt1 := tT X.K none test1) (g1 := tG X.K F1 (asg g1)) (te := tV X.K none fe) hc hN hi ok hv hg ht hi1 hg1 ht1 he hs hs1) fun σ H Q h => lc2_imp hF hF1 hv (noX_imp h)
theorem s_setLc2 {i : Nat} {y : PySem.Str} {py : Pos} {elt tg iter tg1 iter1 : Expr} {ifs ifs1 : List Expr} {scope : PySem.Scope} {own : List (PySem.Str × Nat)} {vs1 : List Nat} {pos spos : Pos} {g g1 : Tg} {F F1 : List Nat} {test test1 : M Bool} {fe : M Val} {fi fi1 : M (List Val)} (hc : X.calm = true) (hN : X.N.Nodup) (hy : X.N[i]? = some y) (hyl : X.env.scope.names.lookup y = some .local)
    (hsw : PySem.swapsWith (.ListComp elt [⟨tg, iter, ifs, 0⟩, ⟨tg1, iter1, ifs1, 0⟩] scope pos) (some (.Name y py)) spos.line X.env = pure true) (hi : PI X tg iter (tI X.K none false fi)) (ok : L2.BlkOk X.N X.env.scope scope own)
    (hv : ∀ i ∈ vs1, i ∈ own.map (·.2)) (hF : ∀ i ∈ F, i ∈ own.map (·.2)) (hF1 : ∀ i ∈ F1, i ∈ vs1)
    (hg : Blk X scope fun X => PG X tg (tG X.K F (asg g))) (ht : Blk X scope fun X => PTs X ifs (tT X.K none test)) (hi1 : Blk X scope fun X => PI X tg1 iter1 (tI X.K none true fi1)) (hg1 : Blk X scope fun X => PG X tg1 (tG X.K F1 (asg g1))) (ht1 : Blk X scope fun X => PTs X ifs1 (tT X.K none test1)) (he : Blk X scope fun X => PE X elt (tV X.K none fe))
    (hs : ∀ x, PySem.foldedSetIterable iter X.env x = pure x) (hs1 : ∀ env x, PySem.foldedSetIterable iter1 env x = pure x) :
    L2.PS X (.Assign [.Name y py] (.ListComp elt [⟨tg, iter, ifs, 0⟩, ⟨tg1, iter1, ifs1, 0⟩] scope pos) spos) (L2.tAsg (tE X.K W (noX (lc2M (own.map (·.2)) vs1 g g1 test test1 fe fi fi1))) (L2.gName i)) := by
  have q := L2.ps_setLc2 (wi1 := tI X.K none true fi1) (tt1 := tT X.K none test1) (g1 := tG X.K F1 (asg g1)) (te := tV X.K none fe) (tt := tT X.K none test) (g := tG X.K F (asg g)) hc hN hy hyl hsw hi ok hv hg ht hi1 hg1 ht1 he hs hs1
  exact ⟨fun pins s σ H D I h => q.run pins s σ H D I (lc2_imp hF hF1 hv (noX_imp h))⟩
end
end Py
end

section
set_option autoImplicit false
set_option linter.all false
set_option Elab.async false
set_option maxRecDepth 100000
set_option maxHeartbeats 4000000
/-! Statements. -/
namespace Py
open L2 (V Hp HO SqL SqT Rd upd upd_same upd_ne ne_of ne_of_none Cx PE PT PW PA TE TT TA VK R2 OpR tOp thn EP TP Inv RelV CallR Sp PI TI Walk YAt YFn YPair PG PGs TG TGs PTs PS PSs TS Ends)
open PySem (Expr Pos Operator CmpOp Value Shared Sem wpAny Stmt)
open Py2 (SqS)
/-- a result: H the heap ahead, the state behind -/
def RT (K : Kf) (θ' : List Ad) (st' : S) (σ' : Sg) (H H' : Hp) : SV → V → Prop
  | .val x, v => RV K θ' H' x v
  | .own xs, v => ∃ a vs, v = .ref a ∧ H' a = some (.lst vs) ∧ RVs K θ' H' xs vs ∧ a ∉ θ' ∧ (H a = none ∨ Own st' σ' a)
  | .pk _, _ => False
abbrev nf : Ex → S → Prop := fun _ _ => False
/-- the wish for an exception, out of a statement -/
def ws (K : Kf) (W : WE) (σ : Sg) (θ : List Ad) (st : S) (H : Hp) : Ex → S → Prop := fun e st' => match W with
  | none => False
  | some w => ∀ cls d σ' θ' H', PostS K σ θ st H σ' θ' st' H' → EXc K e cls d H' → w cls d σ' H'
theorem ws_we {K : Kf} {W : WE} {σ : Sg} {θ : List Ad} {st : S} {H : Hp} {e : Ex} {s : S} (h : ws K W σ θ st H e s) : we K W σ θ st H e s := by
  cases W with
  | none => exact h
  | some w => exact fun cls d θ' H' p x => h cls d σ θ' H' p.toS x
theorem ws.later {K : Kf} {W : WE} {σ σ1 : Sg} {θ θ1 : List Ad} {st st1 : S} {H H1 : Hp} (p : PostS K σ θ st H σ1 θ1 st1 H1) {e : Ex} {s : S} (h : ws K W σ θ st H e s) : ws K W σ1 θ1 st1 H1 e s := by
  cases W with
  | none => exact h
  | some w => exact fun cls d σ' θ' H' q x => h cls d σ' θ' H' (p.trans q) x
def tS (K : Kf) (W : WE) (f : M Fl) : TS := fun D σ H => ∃ θ st, Rel K θ st σ H ∧ wpO (f st) (ws K W σ θ st H) fun fl st' => ∀ σ' θ' H', PostS K σ θ st H σ' θ' st' H' → match fl with
  | .nx => D.nx σ' H'
  | .rt sv => ∀ v, RT K θ' st' σ' H H' sv v → D.rt v H'
theorem ps_imp {X : Cx} {e : Stmt} {t t' : TS} (h : PS X e t) (i : ∀ D σ H, t' D σ H → t D σ H) : PS X e t' := ⟨fun pins s σ H D I q => h.run pins s σ H D I (i D σ H q)⟩
theorem pss_imp {X : Cx} {e : List Stmt} {t t' : TS} (h : PSs X e t) (i : ∀ D σ H, t' D σ H → t D σ H) : PSs X e t' := ⟨fun pins s σ H D I q => h.run pins s σ H D I (i D σ H q)⟩
theorem RT.from {K : Kf} {θ' : List Ad} {st' : S} {σ' : Sg} {H H1 H' : Hp} {sv : SV} {v : V} (d : ∀ a, H1 a = none → H a = none) (h : RT K θ' st' σ' H1 H' sv v) : RT K θ' st' σ' H H' sv v := by
  cases sv with
  | val x => exact h
  | own xs => obtain ⟨a, vs, e, h1, h2, h3, h4⟩ := h; exact ⟨a, vs, e, h1, h2, h3, h4.imp (d a) id⟩
  | pk xs => exact h.elim
theorem we_none {K : Kf} {σ : Sg} {θ : List Ad} {st : S} {H : Hp} {e : Ex} {s : S} (h : we K none σ θ st H e s) : False := h
/-- what stands behind, seen from an earlier start -/
theorem tS_later {K : Kf} {W : WE} {f : M Fl} {D : Ends} {σ σ1 : Sg} {θ θ1 : List Ad} {st st1 : S} {H H1 : Hp} (p : PostS K σ θ st H σ1 θ1 st1 H1)
    (h : wpO (f st1) (ws K W σ θ st H) fun fl st' => ∀ σ' θ' H', PostS K σ θ st H σ' θ' st' H' → match fl with
      | .nx => D.nx σ' H'
      | .rt sv => ∀ v, RT K θ' st' σ' H H' sv v → D.rt v H') : tS K W f D σ1 H1 :=
  ⟨θ1, st1, p.rel, h.mono (fun _ _ z => z.later p) fun fl st' h2 σ' θ' H' q => by
    have h3 := h2 σ' θ' H' (p.trans q)
    cases fl with
    | nx => exact h3
    | rt sv => exact fun v r => h3 v (r.from p.keep.dom)⟩
/-! ### what raises nothing -/
def NoEx {α : Type} (m : M α) : Prop := ∀ s e s', m s ≠ some (.ex e s')
theorem wpO.nx {α : Type} {m : M α} {s : S} {w w' : Ex → S → Prop} {k : α → S → Prop} (n : NoEx m) (h : wpO (m s) w k) : wpO (m s) w' k := by
  unfold wpO at h ⊢
  cases e : m s with
  | none => rw [e] at h; exact h
  | some r =>
    rw [e] at h
    cases r with
    | ok a s' => exact h
    | ex x s' => exact (n _ _ _ e).elim
theorem nx_pure {α : Type} {a : α} : NoEx (M.pure a) := fun s e s' h => by cases h
theorem nx_of {α : Type} {o : Option α} : NoEx (M.of o) := fun s e s' h => by cases o <;> cases h
theorem nx_bind {α β : Type} {x : M α} {f : α → M β} (h1 : NoEx x) (h2 : ∀ a, NoEx (f a)) : NoEx (M.bind x f) := fun s e s' h => by
  unfold M.bind at h
  cases ex : x s with
  | none => rw [ex] at h; cases h
  | some r =>
    rw [ex] at h
    cases r with
    | ok a s1 => exact h2 a s1 e s' h
    | ex y s1 => exact h1 _ _ _ ex
theorem nx_store {i : Nat} {v : SV} : NoEx (store i v) := fun s e s' h => by
  unfold store at h
  cases v with
  | pk xs => cases h
  | val x => dsimp only at h; split at h <;> cases h
  | own x => dsimp only at h; split at h <;> cases h
mutual
theorem nx_asg : ∀ (t : Tg) (v : Val), NoEx (asg t v)
  | .n i, v => by unfold asg; exact nx_store
  | .t ts, v => fun s e s' h => by
    unfold asg at h
    split at h
    · exact nx_asgs ts _ _ _ _ h
    · cases h
theorem nx_asgs : ∀ (t : Tgs) (v : List Val), NoEx (asgs t v)
  | .nil, [] => by unfold asgs; exact nx_pure
  | .nil, x :: xs => by unfold asgs; exact fun s e s' h => by cases h
  | .cons t ts, [] => by unfold asgs; exact fun s e s' h => by cases h
  | .cons t ts, x :: xs => by unfold asgs; exact nx_bind (nx_asg t x) fun _ => nx_asgs ts xs
end
theorem nx_change {i : Nat} {f : List Val → Option (List Val)} {c : Bool} : NoEx (change i f c) := fun s e s' h => by
  unfold change at h
  split at h
  · obtain ⟨ys, _, h⟩ := Option.bind_eq_some_iff.mp h
    cases h
  · obtain ⟨xs, _, h⟩ := Option.bind_eq_some_iff.mp h
    obtain ⟨ys, _, h⟩ := Option.bind_eq_some_iff.mp h
    split at h <;> cases h
  · cases h
theorem nx_nxt {x : M Unit} (h : NoEx x) : NoEx (nxt x) := nx_bind h fun _ => nx_pure
theorem nx_stores : ∀ (is : List Nat) (vs : List SV), NoEx (stores is vs)
  | [], [] => by unfold stores; exact nx_pure
  | [], _ :: _ => by unfold stores; exact fun s e s' h => by cases h
  | _ :: _, [] => by unfold stores; exact fun s e s' h => by cases h
  | i :: is, v :: vs => by unfold stores; exact nx_bind nx_store fun _ => nx_stores is vs
section
variable {X : Cx} {W : WE} {f : M SV} {e : Expr} {pos : Pos} {fa fb : M Fl}
def seqM (fa fb : M Fl) : M Fl := M.bind fa fun f => match f with
  | .nx => fb
  | .rt v => M.pure (.rt v)
theorem s_nil : PSs X [] (tS X.K W (M.pure .nx)) := pss_imp L2.pss_nil fun D σ H h => by
  obtain ⟨θ, st, R, h⟩ := h
  exact h.pure σ θ H (.refl R)
theorem s_cons {a : Stmt} {b : List Stmt} (h1 : PS X a (tS X.K W fa)) (h2 : PSs X b (tS X.K W fb)) : PSs X (a :: b) (tS X.K W (seqM fa fb)) := pss_imp (L2.pss_cons h1 h2) fun D σ H h => by
  obtain ⟨θ, st, R, h⟩ := h
  refine ⟨θ, st, R, h.bind.mono (fun _ _ z => z) fun fl s1 h1 σ1 θ1 H1 p1 => ?_⟩
  cases fl with
  | nx => exact tS_later p1 h1
  | rt sv => exact fun v r => h1.pure σ1 θ1 H1 p1 v r
theorem s_expr (h : PE X e (tE X.K W f)) (hs : PySem.swapsWith e none pos.line X.env = pure false) : PS X (.Expr e pos) (tS X.K W (M.bind f fun _ => M.pure .nx)) := ps_imp (L2.ps_expr h hs) fun D σ H h => by
  obtain ⟨θ, st, R, h⟩ := h
  exact ⟨θ, st, R, h.bind.mono (fun _ _ z => ws_we z) fun sv s1 h1 v θ1 H1 p1 _ => h1.pure σ θ1 H1 p1.toS⟩
theorem nxt_store {i : Nat} {v : SV} {s : S} {w : Ex → S → Prop} {k : Fl → S → Prop} (h : wpO (nxt (store i v) s) w k) : (∀ xs, v ≠ .pk xs) ∧ i < s.e.length ∧ k .nx { s with e := s.e.set i (some v) } := by
  have h := h.bind
  cases v with
  | pk xs => exact h.elim
  | val x =>
    have h : wpO (if i < s.e.length then some (.ok () { s with e := s.e.set i (some (.val x)) }) else none) _ _ := h
    split at h
    · exact ⟨fun xs e => (nomatch e), by assumption, h⟩
    · exact h.elim
  | own x =>
    have h : wpO (if i < s.e.length then some (.ok () { s with e := s.e.set i (some (.own x)) }) else none) _ _ := h
    split at h
    · exact ⟨fun xs e => (nomatch e), by assumption, h⟩
    · exact h.elim
theorem asg_imp {K : Kf} {i : Nat} {D : Ends} {σ : Sg} {H : Hp} (h : tS K W (M.bind f fun v => nxt (store i v)) D σ H) : L2.tAsg (tE K W f) (L2.gName i) D σ H := by
  obtain ⟨θ, st, R, h⟩ := h
  refine ⟨θ, st, R, h.bind.mono (fun _ _ z => ws_we z) fun sv s1 h1 v θ1 H1 p1 x1 => ?_⟩
  obtain ⟨hp, hi, h2⟩ := nxt_store h1
  exact h2 _ θ1 H1 (PostS.store R p1 x1 hp hi)
theorem s_set {i : Nat} {x : PySem.Str} {pos' : Pos} (hN : X.N.Nodup) (hi : X.N[i]? = some x) (hx : L2.Loc X.env.scope x) (he : PE X e (tE X.K W f)) (hs : PySem.swapsWith e (some (.Name x pos')) pos.line X.env = pure false) (hf : X.fn x = true ∨ X.env.scope.names.lookup x = some .local) :
    PS X (.Assign [.Name x pos'] e pos) (tS X.K W (M.bind f fun v => nxt (store i v))) := ps_imp (L2.ps_set hN hi hx he hs hf) fun D σ H h => asg_imp h
theorem s_setL {i : Nat} {t : Stmt} (h : PS X t (L2.tAsg (tE X.K W f) (L2.gName i))) : PS X t (tS X.K W (M.bind f fun v => nxt (store i v))) := ps_imp h fun D σ H h => asg_imp h
def iteS (c : M Bool) (fa fb : M Fl) : M Fl := M.bind c fun t => if t then fa else fb
theorem s_ite {c : Expr} {a b : List Stmt} {fc : M Bool} (hc : PT X c (tT X.K W fc)) (ha : PSs X a (tS X.K W fa)) (hb : PSs X b (tS X.K W fb)) : PS X (.If c a b pos) (tS X.K W (iteS fc fa fb)) := ps_imp (L2.ps_if hc ha hb) fun D σ H h => by
  obtain ⟨θ, st, R, h⟩ := h
  refine ⟨θ, st, R, h.bind.mono (fun _ _ z => ws_we z) fun t s1 h1 θ1 H1 p1 => ?_⟩
  cases t with
  | true => exact tS_later p1.toS h1
  | false => exact tS_later p1.toS h1
theorem s_pass : PS X (.Pass pos) (tS X.K W (M.pure .nx)) := ps_imp L2.ps_pass fun D σ H h => by
  obtain ⟨θ, st, R, h⟩ := h
  exact h.pure σ θ H (.refl R)
theorem s_retN : PS X (.Return none pos) (tS X.K W (M.pure (.rt (.val .non)))) := ps_imp L2.ps_retN fun D σ H h => by
  obtain ⟨θ, st, R, h⟩ := h
  refine h.pure σ θ H (.refl R) .non ?_
  show RV _ _ _ _ _
  unfold RV
  rfl
theorem RX.toT {K : Kf} {θ' : List Ad} {st' : S} {σ' : Sg} {H H' : Hp} {sv : SV} {v : V} (h : RT K θ' st' σ' H H' sv v → False) : True := trivial
/-- return e -/
theorem s_ret (h : PE X e (tE X.K W f)) : PS X (.Return (some e) pos) (tS X.K W (M.bind f fun v => match v with
    | .pk _ => M.fail
    | v => M.pure (.rt v))) := ps_imp (L2.ps_ret h) fun D σ H h => by
  obtain ⟨θ, st, R, h⟩ := h
  refine ⟨θ, st, R, h.bind.mono (fun _ _ z => ws_we z) fun sv s1 h1 v θ1 H1 p1 x1 => ?_⟩
  cases sv with
  | pk xs => exact h1.elim
  | val x => exact h1.pure σ θ1 H1 p1.toS v x1
  | own xs =>
    obtain ⟨a, vs, e, q1, q2, q3, q4⟩ := x1
    exact h1.pure σ θ1 H1 p1.toS v ⟨a, vs, e, q1, q2, q3, .inl q4⟩
def retS (i : Nat) : M Fl := fun s => match s.e[i]? with
    | some (some v) => some (.ok (.rt v) s)
    | _ => none
/-- return x -/
theorem s_retS {i : Nat} {x : PySem.Str} {pos' : Pos} (hN : X.N[i]? = some x) (hv : L2.Vis X.env.scope x) (hd : (x == ("__debug__" : PySem.Str)) = false) (hcd : (x == ("__classdict__" : PySem.Str)) = false) :
    PS X (.Return (some (.Name x pos')) pos) (tS X.K W (retS i)) := ps_imp (L2.ps_ret (L2.pe_var hN hv hd hcd)) fun D σ H h => by
  obtain ⟨θ, st, R, h⟩ := h
  unfold retS at h
  cases ee : st.e[i]? with
  | none => rw [ee] at h; exact h.elim
  | some o =>
    cases o with
    | none => rw [ee] at h; exact h.elim
    | some sv =>
      rw [ee] at h
      obtain ⟨v, h1, h2⟩ := R.e.at_ i sv ee
      refine ⟨v, h1, ?_⟩
      have h3 := (show wpO (some (.ok (Fl.rt sv) st)) _ _ from h)
      refine h3 σ θ H (.refl R) v ?_
      cases sv with
      | val x => exact h2
      | own xs =>
        obtain ⟨a, vs, e, q1, q2, q3⟩ := h2
        exact ⟨a, vs, e, q1, q2, q3, .inr ⟨i, xs, ee, by rw [h1, e]⟩⟩
      | pk xs => exact h2.elim
/-! ### while -/
def whileN (c : M Bool) (b : M Fl) : Nat → S → Option (Res Fl)
  | 0, _ => none
  | n + 1, s => match c s with
    | none => none
    | some (.ex x s') => some (.ex x s')
    | some (.ok false s') => some (.ok .nx s')
    | some (.ok true s') => match b s' with
      | none => none
      | some (.ex x s'') => some (.ex x s'')
      | some (.ok (.rt v) s'') => some (.ok (.rt v) s'')
      | some (.ok .nx s'') => whileN c b n s''
theorem whileN_of {c : M Bool} {b : M Fl} : ∀ (s : S) (r : Res Fl), whileM c b s = some r → ∃ n, whileN c b n s = some r := by
  refine whileM.partial_correctness c b (fun s r => ∃ n, whileN c b n s = some r) fun w ih s r h => ?_
  cases ec : c s with
  | none => rw [ec] at h; cases h
  | some r1 =>
    rw [ec] at h
    cases r1 with
    | ex x s' => exact ⟨1, by unfold whileN; rw [ec]; exact h⟩
    | ok t s' =>
      cases t with
      | false => exact ⟨1, by unfold whileN; rw [ec]; exact h⟩
      | true =>
        dsimp only at h
        cases eb : b s' with
        | none => rw [eb] at h; cases h
        | some r2 =>
          rw [eb] at h
          cases r2 with
          | ex x s'' => exact ⟨1, by unfold whileN; rw [ec]; dsimp only; rw [eb]; exact h⟩
          | ok fl s'' =>
            cases fl with
            | rt v => exact ⟨1, by unfold whileN; rw [ec]; dsimp only; rw [eb]; exact h⟩
            | nx =>
              obtain ⟨n, q⟩ := ih s'' r h
              exact ⟨n + 1, by unfold whileN; rw [ec]; dsimp only; rw [eb]; exact q⟩
theorem s_wh {c : Expr} {body : List Stmt} {fc : M Bool} (hp : PySem.PassesOwn (PySem.model X.prog X.w) X.A X.env X.xe) (hc : PT X c (tT X.K W fc)) (hb : PSs X body (tS X.K W fb)) : PS X (.While c body [] pos) (tS X.K W (whileM fc fb)) := ps_imp (L2.ps_while hp hc hb) fun D σ H h => by
  obtain ⟨θ, st, R, h⟩ := h
  have hr : ∃ r, whileM fc fb st = some r := by
    cases e0 : whileM fc fb st with
    | none => unfold wpO at h; rw [e0] at h; exact h.elim
    | some r => exact ⟨r, rfl⟩
  obtain ⟨r0, e0⟩ := hr
  obtain ⟨n0, hn0⟩ := whileN_of _ _ e0
  have h0 : wpO (whileN fc fb n0 st) (ws X.K W σ θ st H) fun fl st' => ∀ σ' θ' H', PostS X.K σ θ st H σ' θ' st' H' → match fl with
      | .nx => D.nx σ' H'
      | .rt sv => ∀ v, RT X.K θ' st' σ' H H' sv v → D.rt v H' := by rw [hn0, ← e0]; exact h
  refine ⟨fun m σi Hi => ∃ θi sti, PostS X.K σ θ st H σi θi sti Hi ∧ wpO (whileN fc fb m sti) (ws X.K W σ θ st H) fun fl st' => ∀ σ' θ' H', PostS X.K σ θ st H σ' θ' st' H' → match fl with
      | .nx => D.nx σ' H'
      | .rt sv => ∀ v, RT X.K θ' st' σ' H H' sv v → D.rt v H', ⟨n0, θ, st, .refl R, h0⟩, ?_⟩
  rintro m σi Hi ⟨θi, sti, p, hw⟩
  cases m with
  | zero => exact hw.elim
  | succ m =>
    unfold whileN at hw
    refine ⟨θi, sti, p.rel, ?_⟩
    unfold wpO at hw ⊢
    cases ec : fc sti with
    | none => rw [ec] at hw; exact hw.elim
    | some r1 =>
      rw [ec] at hw
      cases r1 with
      | ex x s' => exact ws_we (ws.later p hw)
      | ok t s' =>
        intro θ1 H1 p1
        cases t with
        | false => exact hw σi θ1 H1 (p.trans p1.toS)
        | true =>
          refine ⟨fun σ' H' => ∃ m', m' < m + 1 ∧ ∃ θi sti, PostS X.K σ θ st H σ' θi sti H' ∧ wpO (whileN fc fb m' sti) (ws X.K W σ θ st H) fun fl st' => ∀ σ' θ' H', PostS X.K σ θ st H σ' θ' st' H' → match fl with
              | .nx => D.nx σ' H'
              | .rt sv => ∀ v, RT X.K θ' st' σ' H H' sv v → D.rt v H', fun _ _ z => z, θ1, s', p1.rel, ?_⟩
          unfold wpO
          dsimp only at hw
          cases eb : fb s' with
          | none => rw [eb] at hw; exact hw.elim
          | some r2 =>
            rw [eb] at hw
            cases r2 with
            | ex x s'' => exact ws.later (p.trans p1.toS) hw
            | ok fl s'' =>
              intro σ2 θ2 H2 p2
              have p3 := (p.trans p1.toS).trans p2
              cases fl with
              | rt v => exact fun u r => hw σ2 θ2 H2 p3 u (r.from (p.trans p1.toS).keep.dom)
              | nx => exact ⟨m, Nat.lt_succ_self m, θ2, s'', p3, hw⟩
/-! ### for -/
theorem keep1_mono {θ : List Ad} {st : S} {σ : Sg} {H0 H H2 : Hp} (k : Keep1 θ (Own st σ) H H2) : KeepB true θ (FreeB true st σ H0) H H2 :=
  show Keep1 θ _ H H2 from ⟨k.tup, k.frz, k.dom, fun a xs h1 h2 h3 => k.lst a xs h1 (fun z => h2 (.inl z)) h3⟩
theorem s_for {tg iter : Expr} {body : List Stmt} {g : Tg} {F : List Nat} {fi : M (List Val)} (hp : PySem.PassesOwn (PySem.model X.prog X.w) X.A X.env X.xe) (hc : X.calm = true) (hi : PI X tg iter (tI X.K W true fi)) (hg : PG X tg (tG X.K F (asg g))) (hb : PSs X body (tS X.K W fb)) (hs : ∀ x, PySem.foldedSetIterable iter X.env x = pure x) :
    PS X (.For tg iter body [] pos) (tS X.K W (M.bind fi fun xs => forM g fb xs)) := ps_imp (L2.ps_for hp hc hi hg hb hs) fun D σ H h => by
  obtain ⟨θ, st, R, h⟩ := h
  refine ⟨θ, st, R, h.bind.mono (fun _ _ z => ws_we z) fun xs st1 h1 J θ1 H1 p1 itr => ?_⟩
  obtain ⟨G, Y, wk, hG, hY⟩ := itr
  refine L2.for_it wk (fun i σi Hi => ∃ θi sti, PostS X.K σ θ1 st1 H1 σi θi sti Hi ∧ wpO (forM g fb (xs.drop i) sti) (ws X.K W σ θ st H) fun fl st' => ∀ σ' θ' H', PostS X.K σ θ st H σ' θ' st' H' → match fl with
      | .nx => D.nx σ' H'
      | .rt sv => ∀ v, RT X.K θ' st' σ' H H' sv v → D.rt v H') ⟨θ1, st1, .refl p1.rel, h1⟩ ?_ ?_ ?_
  · rintro i σi Hi _ ⟨θi, sti, p, hw⟩
    exact hG Hi (keep1_mono p.keep)
  · rintro i x σi Hi H3 hi ⟨θi, sti, p, hw⟩ y
    have hx : xs[i]? = some xs[i] := List.getElem?_eq_getElem hi
    have y := hY i xs[i] Hi x H3 hx (keep1_mono p.keep) y
    have y : YV X.K θi Hi xs[i] x H3 := by
      rcases y with ⟨e, h⟩ | ⟨T, ys, vs, e1, e2, e3, e4, h⟩
      · exact .inl ⟨e, RV.pre p.grow.pre _ _ h⟩
      · exact .inr ⟨T, ys, vs, e1, e2, e3, e4, RVs.pre p.grow.pre _ _ h⟩
    obtain ⟨qy, rx⟩ := yv_post p.rel y
    rw [List.drop_eq_getElem_cons hi] at hw
    unfold forM at hw
    refine ⟨θi, sti, xs[i], qy.rel, rx, (wpO.nx (nx_asg g _) hw.bind).mono (fun _ _ z => z) fun _ s1 h2 σ2 ps of => ?_⟩
    have p2 := (p.trans qy.toS).trans ps
    refine ⟨θi, s1, ps.rel, h2.bind.mono (fun _ _ z => z.later (p1.toS.trans p2)) fun fl s2 h3 σ3 θ3 H4 p3 => ?_⟩
    cases fl with
    | nx => exact ⟨θ3, s2, p2.trans p3, h3⟩
    | rt v => exact fun u r => h3.pure σ3 θ3 H4 (p1.toS.trans (p2.trans p3)) u (r.from (p1.toS.trans p2).keep.dom)
  · rintro σi Hi ⟨θi, sti, p, hw⟩
    rw [List.drop_length] at hw
    exact (show wpO (M.pure Fl.nx sti) _ _ from hw).pure σi θi Hi (p1.toS.trans p)
end
end Py
end

section
set_option autoImplicit false
set_option linter.all false
set_option Elab.async false
set_option maxRecDepth 100000
set_option maxHeartbeats 4000000
/-! Statements, on: lists that are changed, several names at once. -/
namespace Py2
open L2 PySem PySem.Spec PyProof.Rows
section
variable {X : Cx}
theorem ip_mul : PIp X .Mult (fun x y H Q => ∃ i j, x = .int i ∧ y = .int j ∧ CMulW i j ∧ Q (.int (i * j)) H) := by
  intro pins s σ H x y v u Q I r1 r2 h
  obtain ⟨i, j, e1, e2, hc, q⟩ := h
  subst e1; subst e2
  obtain ⟨t, rfl⟩ := r1
  obtain ⟨t', rfl⟩ := r2
  exact PyProof.Rows.imul_int ⟨.int _, H, I.tok _, ⟨_, rfl⟩, q⟩ hc.ok
theorem get_list : PGet X (rIxL X.K) := by
  intro pins s σ H x y v u Q I rx ry h
  obtain ⟨p, xs, i, z, rfl, rfl, hq, he, q⟩ := h
  cases rx
  obtain ⟨t, rfl⟩ := ry
  obtain ⟨its, r, pl, hz⟩ := I.list hq
  obtain ⟨j, h1, h2, h3, h4, h5⟩ := atI_get he
  obtain ⟨w, ew, rw'⟩ := r.get h2
  have hl := r.length
  have hn := line63
  have fin : EP X pins σ Q w s := ⟨z, H, I, rw', q⟩
  by_cases h0 : 0 ≤ i
  · have hj : i.toNat = j := by
      rw [seqIndex_of h0 h5] at h1
      exact Option.some.inj h1
    exact wpAny_getItem_list pl.isList h0 (by omega) (by rw [hj]; simpa using ew) fin
  · have hj : (i + (its.toArray.size : Int)).toNat = j := by
      rw [seqIndex_neg (by omega) h4] at h1
      rw [List.size_toArray, ← hl]
      exact Option.some.inj h1
    exact wpAny_getItem_list_neg pl.isList (by omega) (by rw [List.size_toArray] <;> omega) (by omega) (by rw [hj]; simpa using ew) fin
end
end Py2
namespace Py
open L2 (V Hp HO SqL SqT Rd upd upd_same upd_ne ne_of ne_of_none Cx PE PT PW PA TE TT TA VK R2 OpR tOp thn EP TP Inv RelV CallR Sp PI TI Walk YAt YFn YPair PG PGs TG TGs PTs PS PSs TS Ends)
open PySem (Expr Pos Operator CmpOp Value Shared Sem wpAny Stmt)
open Py2 (SqS)
section
variable {K : Kf} {θ θ1 : List Ad} {st s1 : S} {σ : Sg} {H H1 : Hp}
theorem upd_keep1 {a : Ad} {vs us : List V} (h : H a = some (.lst vs)) : Keep1 θ (fun b => b = a) H (upd H a (.lst us)) :=
  ⟨fun b ys q => by rw [upd_ne (ne_of q h (by intro z; cases z))]; exact q, fun b p u q => by rw [upd_ne (ne_of q h (by intro z; cases z))]; exact q, fun b q => by
    by_cases e : b = a
    · rw [e, upd_same] at q; cases q
    · rw [upd_ne e] at q; exact q, fun b ys _ hb q => by rw [upd_ne hb]; exact q⟩
theorem nodup_inj {α : Type} {l : List α} (h : l.Nodup) {i j : Nat} (hi : i < l.length) (hj : j < l.length) (e : l[i] = l[j]) : i = j := by
  have q := List.pairwise_iff_getElem.mp h
  rcases Nat.lt_trichotomy i j with z | z | z
  · exact absurd e (q i j hi hj z)
  · exact z
  · exact absurd e.symm (q j i hj hi z)
/-- a list that may be changed: where it lies, what its new items must be -/
def ChOk (K : Kf) (σ : Sg) (θ : List Ad) (st : S) (H : Hp) (θ1 : List Ad) (s1 : S) (H1 : Hp) (i : Nat) (chk : Bool) (xs : List Val) (a : Ad) (vs : List V) (nx : List Val → S) : Prop :=
  σ[i]? = some (some (.ref a)) ∧ H1 a = some (.lst vs) ∧ ∃ θx, (θx = θ1 ∨ chk = true) ∧ RVs K θx H1 xs vs ∧ ∀ ys us, RVs K θx H1 ys us → PostS K σ θ st H σ θ1 (nx ys) (upd H1 a (.lst us))
theorem change_ok {i : Nat} {f : List Val → Option (List Val)} {chk : Bool} {w : Ex → S → Prop} {k : Fl → S → Prop} (R : Rel K θ st σ H) (p : Post K σ θ st H θ1 s1 H1) (h : wpO (nxt (change i f chk) s1) w k) :
    ∃ xs ys a vs nx, f xs = some ys ∧ ChOk K σ θ st H θ1 s1 H1 i chk xs a vs nx ∧ k .nx (nx ys) := by
  have h := h.bind
  unfold change at h
  cases ee : s1.e[i]? with
  | none => rw [ee] at h; exact h.elim
  | some o =>
    cases o with
    | none => rw [ee] at h; exact h.elim
    | some sv =>
      rw [ee] at h
      obtain ⟨v, h1, h2⟩ := p.rel.e.at_ i sv ee
      cases sv with
      | pk xs => exact h.elim
      | own xs =>
        obtain ⟨a, vs, rfl, q1, q2, q3⟩ := h2
        dsimp only at h
        cases ef : f xs with
        | none => rw [ef] at h; exact h.elim
        | some ys =>
          rw [ef] at h
          refine ⟨xs, ys, a, vs, fun ys => { s1 with e := s1.e.set i (some (.own ys)) }, ef, ⟨h1, q1, θ1, .inl rfl, q2, fun ys us hr => ?_⟩, h⟩
          have own1 : Own s1 σ a := ⟨i, xs, ee, h1⟩
          have kk : Keep1 θ1 (fun b => b = a) H1 (upd H1 a (.lst us)) := upd_keep1 q1
          have hl : i < s1.e.length := (List.getElem?_eq_some_iff.mp ee).1
          have ow : ∀ j b, OwnAt { s1 with e := s1.e.set i (some (.own ys)) } σ j b → OwnAt s1 σ j b := fun j b ⟨zs, z1, z2⟩ => by
            rcases set_look z1 with ⟨rfl, _, _⟩ | ⟨_, z1⟩
            · exact ⟨xs, ee, z2⟩
            · exact ⟨zs, z1, z2⟩
          refine ⟨⟨fun b ys q => kk.tup b ys (p.keep.tup b ys q), fun b o u q => kk.frz b o u (p.keep.frz b o u q), fun b q => p.keep.dom b (kk.dom b q), fun b zs hb hf q => ?_⟩, p.grow, fun b ⟨j, z⟩ => .inl ⟨j, p.ownM (ow j b z)⟩, ⟨⟨by simpa using p.rel.e.len, fun j sv z => ?_, fun j l b z1 z2 => p.rel.e.one j l b (ow j b z1) (ow l b z2)⟩, ⟨p.rel.m.len, p.rel.m.nd, fun n zs z => ?_⟩⟩⟩
          · have ne : b ≠ a := fun e => hf (by rw [e]; exact ⟨i, p.ownM ⟨xs, ee, h1⟩⟩)
            rw [upd_ne ne]
            exact (p.keep.lst b zs hb q).resolve_right fun z => hf z.1
          · rcases set_look z with ⟨rfl, _, e⟩ | ⟨hj, z⟩
            · cases e
              exact ⟨.ref a, h1, a, us, rfl, upd_same, RVs.mono kk _ _ hr, q3⟩
            · obtain ⟨u, g1, g2⟩ := p.rel.e.at_ j sv z
              refine ⟨u, g1, ?_⟩
              cases sv with
              | val x => exact RV.mono kk _ _ g2
              | own zs =>
                obtain ⟨b, ws, e, g3, g4, g5⟩ := g2
                have hb : b ≠ a := fun z' => hj (p.rel.e.one j i a ⟨zs, z, by rw [g1, e, z']⟩ ⟨xs, ee, h1⟩)
                exact ⟨b, ws, e, by rw [upd_ne hb]; exact g3, RVs.mono kk _ _ g4, g5⟩
              | pk zs => exact g2.elim
          · obtain ⟨b, ws, g1, g2, g3⟩ := p.rel.m.at_ n zs z
            have hb : b ≠ a := fun e => q3 (e ▸ List.mem_of_getElem? g1)
            exact ⟨b, ws, g1, by rw [upd_ne hb]; exact g2, RVs.mono (upd_keep1 q1) _ _ g3⟩
      | val x =>
        cases x with
        | loc n =>
          obtain ⟨a, rfl, ha⟩ : ∃ a, v = .ref a ∧ θ1[n]? = some a := by
            have h2 : RV K θ1 H1 (.loc n) v := h2
            unfold RV at h2
            exact h2
          dsimp only at h
          cases em : s1.m[n]? with
          | none => rw [em] at h; exact h.elim
          | some xs =>
            rw [em] at h
            have h : wpO ((f xs).bind fun ys => if chk = true then some (.ok () { s1 with m := s1.m.set n ys }) else none) w _ := h
            cases ef : f xs with
            | none => rw [ef] at h; exact h.elim
            | some ys =>
              rw [ef] at h
              have h : wpO (if chk = true then some (.ok () { s1 with m := s1.m.set n ys }) else none) w _ := h
              split at h
              · rename_i hc
                obtain ⟨b, vs, g1, g2, g3⟩ := p.rel.m.at_ n xs em
                rw [ha] at g1
                cases g1
                refine ⟨xs, ys, a, vs, fun ys => { s1 with m := s1.m.set n ys }, ef, ⟨h1, g2, θ1.take n, .inr hc, g3, fun ys us hr => ?_⟩, h⟩
                have hm : a ∈ θ1 := List.mem_of_getElem? ha
                have kk : ∀ θ', Keep1 θ' (fun b => b = a) H1 (upd H1 a (.lst us)) := fun θ' => upd_keep1 g2
                refine ⟨⟨fun b ys q => (kk θ1).tup b ys (p.keep.tup b ys q), fun b o u q => (kk θ1).frz b o u (p.keep.frz b o u q), fun b q => p.keep.dom b ((kk θ1).dom b q), fun b zs hb hf q => ?_⟩, p.grow, fun b ⟨j, z⟩ => .inl ⟨j, p.ownM z⟩, ⟨⟨p.rel.e.len, fun j sv z => ?_, p.rel.e.one⟩, ⟨by simpa using p.rel.m.len, p.rel.m.nd, fun l zs z => ?_⟩⟩⟩
                · have ne : b ≠ a := fun e => p.grow.out hb q (e ▸ hm)
                  rw [upd_ne ne]
                  exact (p.keep.lst b zs hb q).resolve_right fun z => hf z.1
                · obtain ⟨u, g4, g5⟩ := p.rel.e.at_ j sv z
                  refine ⟨u, g4, ?_⟩
                  cases sv with
                  | val x => exact RV.mono (kk θ1) _ _ g5
                  | own zs =>
                    obtain ⟨b, ws, e, g6, g7, g8⟩ := g5
                    have hb : b ≠ a := fun z' => g8 (z' ▸ hm)
                    exact ⟨b, ws, e, by rw [upd_ne hb]; exact g6, RVs.mono (kk θ1) _ _ g7, g8⟩
                  | pk zs => exact g5.elim
                · rcases set_look z with ⟨rfl, _, e⟩ | ⟨hl, z⟩
                  · cases e
                    exact ⟨a, us, ha, upd_same, RVs.mono (kk (θ1.take l)) _ _ hr⟩
                  · obtain ⟨b, ws, g4, g5, g6⟩ := p.rel.m.at_ l zs z
                    have hb : b ≠ a := fun e => by
                      subst e
                      have h1' := List.getElem?_eq_some_iff.mp g4
                      have h2' := List.getElem?_eq_some_iff.mp ha
                      obtain ⟨l1, e1⟩ := h1'
                      obtain ⟨l2, e2⟩ := h2'
                      exact hl (nodup_inj p.rel.m.nd l1 l2 (e1.trans e2.symm))
                    exact ⟨b, ws, g4, by rw [upd_ne hb]; exact g5, RVs.mono (kk (θ1.take l)) _ _ g6⟩
              · exact h.elim
        | _ => exact h.elim
theorem loc_ok {n : Nat} {a : Ad} {xs : List Val} (R : Rel K θ st σ H) (p : Post K σ θ st H θ1 s1 H1) (ha : θ1[n]? = some a) (em : s1.m[n]? = some xs) :
    ∃ vs, H1 a = some (.lst vs) ∧ RVs K (θ1.take n) H1 xs vs ∧ ∀ ys us, RVs K (θ1.take n) H1 ys us → PostS K σ θ st H σ θ1 { s1 with m := s1.m.set n ys } (upd H1 a (.lst us)) := by
  obtain ⟨b, vs, g1, g2, g3⟩ := p.rel.m.at_ n xs em
  rw [ha] at g1
  cases g1
  refine ⟨vs, g2, g3, fun ys us hr => ?_⟩
  have hm : a ∈ θ1 := List.mem_of_getElem? ha
  have kk : ∀ θ', Keep1 θ' (fun b => b = a) H1 (upd H1 a (.lst us)) := fun θ' => upd_keep1 g2
  refine ⟨⟨fun b ys q => (kk θ1).tup b ys (p.keep.tup b ys q), fun b o u q => (kk θ1).frz b o u (p.keep.frz b o u q), fun b q => p.keep.dom b ((kk θ1).dom b q), fun b zs hb hf q => ?_⟩, p.grow, fun b ⟨j, z⟩ => .inl ⟨j, p.ownM z⟩, ⟨⟨p.rel.e.len, fun j sv z => ?_, p.rel.e.one⟩, ⟨by simpa using p.rel.m.len, p.rel.m.nd, fun l zs z => ?_⟩⟩⟩
  · have ne : b ≠ a := fun e => p.grow.out hb q (e ▸ hm)
    rw [upd_ne ne]
    exact (p.keep.lst b zs hb q).resolve_right fun z => hf z.1
  · obtain ⟨u, g4, g5⟩ := p.rel.e.at_ j sv z
    refine ⟨u, g4, ?_⟩
    cases sv with
    | val x => exact RV.mono (kk θ1) _ _ g5
    | own zs =>
      obtain ⟨b, ws, e, g6, g7, g8⟩ := g5
      have hb : b ≠ a := fun z' => g8 (z' ▸ hm)
      exact ⟨b, ws, e, by rw [upd_ne hb]; exact g6, RVs.mono (kk θ1) _ _ g7, g8⟩
    | pk zs => exact g5.elim
  · rcases set_look z with ⟨rfl, _, e⟩ | ⟨hl, z⟩
    · cases e
      exact ⟨a, us, ha, upd_same, RVs.mono (kk (θ1.take l)) _ _ hr⟩
    · obtain ⟨b, ws, g4, g5, g6⟩ := p.rel.m.at_ l zs z
      have hb : b ≠ a := fun e => by
        subst e
        have h1' := List.getElem?_eq_some_iff.mp g4
        have h2' := List.getElem?_eq_some_iff.mp ha
        obtain ⟨l1, e1⟩ := h1'
        obtain ⟨l2, e2⟩ := h2'
        exact hl (nodup_inj p.rel.m.nd l1 l2 (e1.trans e2.symm))
      exact ⟨b, ws, g4, by rw [upd_ne hb]; exact g5, RVs.mono (kk (θ1.take l)) _ _ g6⟩
theorem lslot_ok {i : Nat} {w : Ex → S → Prop} {k : Unit → S → Prop} (R : Rel K θ st σ H) (h : wpO (lslot i st) w k) : k () st ∧ ∃ a vs, σ[i]? = some (some (.ref a)) ∧ H a = some (.lst vs) := by
  unfold lslot at h
  cases ee : st.e[i]? with
  | none => rw [ee] at h; exact h.elim
  | some o =>
    cases o with
    | none => rw [ee] at h; exact h.elim
    | some sv =>
      rw [ee] at h
      obtain ⟨v, h1, h2⟩ := R.e.at_ i sv ee
      cases sv with
      | pk xs => exact h.elim
      | own xs =>
        obtain ⟨a, vs, rfl, q1, q2, q3⟩ := h2
        exact ⟨h, a, vs, h1, q1⟩
      | val x =>
        cases x with
        | loc n =>
          obtain ⟨a, rfl, ha⟩ : ∃ a, v = .ref a ∧ θ[n]? = some a := by
            have h2 : RV K θ H (.loc n) v := h2
            unfold RV at h2
            exact h2
          have h : wpO (if n < st.m.length then some (.ok () st) else none) w k := h
          split at h
          · rename_i hn
            obtain ⟨b, vs, g1, g2, g3⟩ := R.m.at_ n _ (List.getElem?_eq_getElem hn)
            rw [ha] at g1
            cases g1
            exact ⟨h, a, vs, h1, g2⟩
          · exact h.elim
        | _ => exact h.elim
end
section
variable {X : Cx} {W : WE} {i : Nat} {f fi : M SV} {e ix : Expr} {pos p2 apos cpos : Pos} {x : PySem.Str}
theorem RV.alt {K : Kf} {θ1 θx : List Ad} {H : Hp} {x : Val} {v : V} (c : θx = θ1 ∨ x.pure = true) (h : RV K θ1 H x v) : RV K θx H x v := by
  rcases c with rfl | c
  · exact h
  · exact RV.pure x v c h
theorem s_app (hN : X.N[i]? = some x) (hv : L2.Vis X.env.scope x) (hd : (x == ("__debug__" : PySem.Str)) = false) (hcd : (x == ("__classdict__" : PySem.Str)) = false) (he : PE X e (tE X.K W f))
    (hs : PySem.starEach [e] X.env = (false, PySem.eval e X.env) :: PySem.starEach [] X.env) (hbase : PySem.attributeBase (.Name x p2) "append" X.env (PySem.eval (.Name x p2) X.env) = PySem.eval (.Name x p2) X.env) (hline : (apos.endLine == cpos.line) = true)
    (hfew : ((PySem.backTo cpos (PySem.starEach [e] X.env)).all (fun x => !x.1) && (PySem.backToKw cpos (PySem.keywordEach [] X.env)).all (fun x => x.1.isSome)
      && decide ([e].length + ([] : List PySem.Keyword).length + (if ([] : List PySem.Keyword).isEmpty then 0 else 1) < 30)) = true) :
    PS X (.Expr (.Call (.Attribute (.Name x p2) "append" apos) [e] [] cpos) pos) (tS X.K W (M.bind (lslot i) fun _ => M.bind (M.bind f asV) fun v => nxt (change i (fun xs => if decide (xs.length < szl) then some (xs ++ [v]) else none) v.pure))) := by
  refine ps_imp (L2.ps_expr (L2.pe_bm PySem.F.plainAttrs_list PySem.F.slot_list_append PySem.F.type_list_append L2.mt_append (L2.pe_var hN hv hd hcd) (L2.pa_cons (e_asV he) L2.pa_nil hs) hbase hfew hline hs rfl) rfl) fun D σ H h => ?_
  obtain ⟨θ, st, R, h⟩ := h
  obtain ⟨h1, a0, vs0, g1, g2⟩ := lslot_ok R h.bind
  refine ⟨.ref a0, g1, .inl ⟨rfl, vs0, .inl (.inl g2)⟩, θ, st, R, h1.bind.mono (fun _ _ z => ws_we z) fun w s1 h2 v θ1 H1 p1 rv => ?_⟩
  obtain ⟨xs, ys, a, vs, nx, ef, ⟨k1, k2, θx, k3, k4, k5⟩, hk⟩ := change_ok R p1 h2
  rw [g1] at k1
  cases k1
  split at ef
  · rename_i hz
    cases ef
    have hz := of_decide_eq_true hz
    refine ⟨a0, vs, v, rfl, rfl, k2, by rw [k4.length, PySem.sizeLine_eq]; exact hz, hk σ θ1 _ (k5 _ _ (k4.append (.cons (RV.alt k3 rv) .nil)))⟩
  · cases ef
theorem s_pop (hN : X.N[i]? = some x) (hv : L2.Vis X.env.scope x) (hd : (x == ("__debug__" : PySem.Str)) = false) (hcd : (x == ("__classdict__" : PySem.Str)) = false)
    (hbase : PySem.attributeBase (.Name x p2) "pop" X.env (PySem.eval (.Name x p2) X.env) = PySem.eval (.Name x p2) X.env) (hline : (apos.endLine == cpos.line) = true) :
    PS X (.Expr (.Call (.Attribute (.Name x p2) "pop" apos) [] [] cpos) pos) (tS X.K W (M.bind (lslot i) fun _ => nxt (change i (fun xs => if xs.isEmpty then none else some xs.dropLast) true))) := by
  refine ps_imp (L2.ps_expr (L2.pe_bm0 PySem.F.plainAttrs_list PySem.F.slot_list_pop PySem.F.type_list_pop L2.mt_pop (L2.pe_var hN hv hd hcd) hbase hline) rfl) fun D σ H h => ?_
  obtain ⟨θ, st, R, h⟩ := h
  obtain ⟨h1, a0, vs0, g1, g2⟩ := lslot_ok R h.bind
  refine ⟨.ref a0, g1, .inl ⟨rfl, vs0, .inl (.inl g2)⟩, ?_⟩
  obtain ⟨xs, ys, a, vs, nx, ef, ⟨k1, k2, θx, k3, k4, k5⟩, hk⟩ := change_ok R (.refl R) h1
  rw [g1] at k1
  cases k1
  split at ef
  · cases ef
  · rename_i hz
    cases ef
    have hl : xs.length - 1 < xs.length := by
      have : xs.length ≠ 0 := fun e => hz (by rw [List.eq_nil_of_length_eq_zero e]; rfl)
      omega
    obtain ⟨y, hy, _⟩ := k4.get (List.getElem?_eq_getElem hl)
    rw [← k4.length] at hy
    refine ⟨a0, vs, y, rfl, rfl, k2, hy, hk σ θ _ (k5 _ _ ?_)⟩
    rw [List.dropLast_eq_take, List.dropLast_eq_take, k4.length]
    exact k4.take _
theorem s_ext (hN : X.N[i]? = some x) (hv : L2.Vis X.env.scope x) (hd : (x == ("__debug__" : PySem.Str)) = false) (hcd : (x == ("__classdict__" : PySem.Str)) = false) (he : PE X e (tE X.K W f))
    (hs : PySem.starEach [e] X.env = (false, PySem.eval e X.env) :: PySem.starEach [] X.env) (hbase : PySem.attributeBase (.Name x p2) "extend" X.env (PySem.eval (.Name x p2) X.env) = PySem.eval (.Name x p2) X.env) (hline : (apos.endLine == cpos.line) = true)
    (hfew : ((PySem.backTo cpos (PySem.starEach [e] X.env)).all (fun x => !x.1) && (PySem.backToKw cpos (PySem.keywordEach [] X.env)).all (fun x => x.1.isSome)
      && decide ([e].length + ([] : List PySem.Keyword).length + (if ([] : List PySem.Keyword).isEmpty then 0 else 1) < 30)) = true) :
    PS X (.Expr (.Call (.Attribute (.Name x p2) "extend" apos) [e] [] cpos) pos) (tS X.K W (M.bind (lslot i) fun _ => M.bind (M.bind f fun x => fun s => M.of (lists s.m x) s) fun vs => nxt (change i (fun xs => if fits (xs ++ vs) then some (xs ++ vs) else none) (pureL vs)))) := by
  refine ps_imp (L2.ps_expr (L2.pe_bm PySem.F.plainAttrs_list PySem.F.slot_list_extend PySem.F.type_list_extend Py2.mt_extR (L2.pe_var hN hv hd hcd) (L2.pa_cons he L2.pa_nil hs) hbase hfew hline hs rfl) rfl) fun D σ H h => ?_
  obtain ⟨θ, st, R, h⟩ := h
  obtain ⟨h1, a0, vs0, g1, g2⟩ := lslot_ok R h.bind
  refine ⟨.ref a0, g1, .inl ⟨rfl, vs0, .inl (.inl g2)⟩, θ, st, R, h1.bind.bind.mono (fun _ _ z => ws_we z) fun w s1 h2 v θ1 H1 p1 x1 => ?_⟩
  obtain ⟨zs, e1, h3⟩ := h2.of
  unfold lists at e1
  split at e1
  · cases e1
  · rename_i ht
    obtain ⟨b, us, rfl, q1, q2⟩ := items_list p1.rel.m e1 (by simpa using ht) x1
    obtain ⟨xs, ys, a, vs, nx, ef, ⟨k1, k2, θx, k3, k4, k5⟩, hk⟩ := change_ok R p1 h3
    rw [g1] at k1
    cases k1
    split at ef
    · rename_i hz
      cases ef
      have hz := fits_of hz
      have q3 : RVs X.K θx H1 zs us := by
        rcases k3 with rfl | c
        · exact q2
        · exact RVs.pure c q2
      refine ⟨a0, b, vs, us, rfl, rfl, k2, q1, ?_, hk σ θ1 _ (k5 _ _ (k4.append q3))⟩
      rw [k4.length, q2.length, ← List.length_append]
      exact hz
    · cases ef
theorem putL_of {j : Int} {v : Val} {xs ys : List Val} (h : putL j v xs = some ys) : ∃ k, L2.ixN xs.length j = some k ∧ ys = xs.set k v := by
  unfold putL at h
  obtain ⟨k, h1, rfl⟩ := Option.map_eq_some_iff.mp h
  exact ⟨k, h1, rfl⟩
theorem s_put {fx : M SV} (hN : X.N[i]? = some x) (hv : L2.Vis X.env.scope x) (hd : (x == ("__debug__" : PySem.Str)) = false) (hcd : (x == ("__classdict__" : PySem.Str)) = false) (he : PE X e (tE X.K W f)) (hi : PE X ix (tE X.K W fx))
    (ha : ∀ v, PySem.assign (.Subscript (.Name x p2) ix cpos) X.env v = (do
      let ov ← PySem.holding [v] (PySem.eval (.Name x p2) X.env)
      let iv ← PySem.holding [v, ov] (PySem.eval ix X.env)
      PySem.standAt cpos
      PySem.holding [v, ov, iv] (PySem.setItem ov iv v)
      PySem.release [v, ov, iv] [])) (hs : PySem.swapsWithSole [.Subscript (.Name x p2) ix cpos] e pos.line X.env = pure false) (hw : PySem.swappedStores [.Subscript (.Name x p2) ix cpos] e X.env = pure none)
    (h1 : (PySem.assignEach [.Subscript (.Name x p2) ix cpos] X.env).map (·.2) = [PySem.assign (.Subscript (.Name x p2) ix cpos) X.env]) :
    PS X (.Assign [.Subscript (.Name x p2) ix cpos] e pos) (tS X.K W (M.bind (M.bind f asV) fun v => M.bind (lslot i) fun _ => M.bind (M.bind fx asInt) fun j => nxt (change i (putL j v) v.pure))) := by
  refine ps_imp (L2.ps_asg (e_asV he) (L2.pg_sub (L2.pe_var hN hv hd hcd) hi L2.set_list ha) hs hw h1) fun D σ H h => ?_
  obtain ⟨θ, st, R, h⟩ := h
  refine ⟨θ, st, R, h.bind.mono (fun _ _ z => ws_we z) fun w s1 h2 v θ1 H1 p1 rv => ?_⟩
  obtain ⟨h3, a0, vs0, g1, g2⟩ := lslot_ok p1.rel h2.bind
  refine ⟨.ref a0, g1, θ1, s1, p1.rel, h3.bind.bind.mono (fun _ _ z => (ws_we z).later p1) fun y s2 h4 u θ2 H2 p2 y2 => ?_⟩
  obtain ⟨j, rfl, h5⟩ := asInt_of h4
  have p := p1.trans p2
  obtain ⟨xs, ys, a, vs, nx, ef, ⟨k1, k2, θx, k3, k4, k5⟩, hk⟩ := change_ok R p h5
  rw [g1] at k1
  cases k1
  obtain ⟨k, e1, rfl⟩ := putL_of ef
  have rv2 : RV X.K θ2 H2 w v := RV.pre p2.grow.pre _ _ (RV.mono p2.keep.to1 _ _ rv)
  exact ⟨a0, vs, j, k, rfl, rx_int y2, k2, by rw [k4.length]; exact e1, hk σ θ2 _ (k5 _ _ (k4.set k (RV.alt k3 rv2)))⟩
def putEM (f fb fx : M SV) : M Fl := M.bind (M.bind f asV) fun v => M.bind fb fun o => M.bind (M.bind fx asInt) fun j => fun s => match o with
    | .val (.loc n) => (s.m[n]?).bind fun xs => (putL j v xs).bind fun ys => if v.pure then some (.ok .nx { s with m := s.m.set n ys }) else none
    | _ => none
theorem s_putE {o : Expr} {fb fx : M SV} (ho : PE X o (tE X.K W fb)) (he : PE X e (tE X.K W f)) (hi : PE X ix (tE X.K W fx))
    (ha : ∀ v, PySem.assign (.Subscript o ix cpos) X.env v = (do
      let ov ← PySem.holding [v] (PySem.eval o X.env)
      let iv ← PySem.holding [v, ov] (PySem.eval ix X.env)
      PySem.standAt cpos
      PySem.holding [v, ov, iv] (PySem.setItem ov iv v)
      PySem.release [v, ov, iv] [])) (hs : PySem.swapsWithSole [.Subscript o ix cpos] e pos.line X.env = pure false) (hw : PySem.swappedStores [.Subscript o ix cpos] e X.env = pure none)
    (h1 : (PySem.assignEach [.Subscript o ix cpos] X.env).map (·.2) = [PySem.assign (.Subscript o ix cpos) X.env]) :
    PS X (.Assign [.Subscript o ix cpos] e pos) (tS X.K W (putEM f fb fx)) := by
  refine ps_imp (L2.ps_asg (e_asV he) (L2.pg_sub ho hi L2.set_list ha) hs hw h1) fun D σ H h => ?_
  obtain ⟨θ, st, R, h⟩ := h
  refine ⟨θ, st, R, h.bind.mono (fun _ _ z => ws_we z) fun w s1 h2 v θ1 H1 p1 rv => ?_⟩
  refine ⟨θ1, s1, p1.rel, h2.bind.mono (fun _ _ z => (ws_we z).later p1) fun o s2 h3 ov θ2 H2 p2 xo => ?_⟩
  refine ⟨θ2, s2, p2.rel, h3.bind.bind.mono (fun _ _ z => (ws_we z).later (p1.trans p2)) fun y s3 h4 u θ3 H3 p3 y3 => ?_⟩
  obtain ⟨j, rfl, h5⟩ := asInt_of h4
  have p := (p1.trans p2).trans p3
  cases o with
  | own _ => exact h5.elim
  | pk _ => exact h5.elim
  | val z =>
    cases z with
    | loc n =>
      have xo := RX.later p1.rel p2 xo p3
      unfold RX at xo
      unfold RV at xo
      obtain ⟨a, rfl, ha⟩ := xo
      have h5 : wpO ((s3.m[n]?).bind fun xs => (putL j w xs).bind fun ys => if w.pure = true then some (.ok Fl.nx { s3 with m := s3.m.set n ys }) else none) _ _ := h5
      cases em : s3.m[n]? with
      | none => rw [em] at h5; exact h5.elim
      | some xs =>
        rw [em] at h5
        have h5 : wpO ((putL j w xs).bind fun ys => if w.pure = true then some (.ok Fl.nx { s3 with m := s3.m.set n ys }) else none) _ _ := h5
        cases ep : putL j w xs with
        | none => rw [ep] at h5; exact h5.elim
        | some ys =>
          rw [ep] at h5
          have h5 : wpO (if w.pure = true then some (.ok Fl.nx { s3 with m := s3.m.set n ys }) else none) _ _ := h5
          split at h5
          · rename_i hp
            obtain ⟨vs, g2, g3, g4⟩ := loc_ok R p ha em
            obtain ⟨k, e1, rfl⟩ := putL_of ep
            exact ⟨a, vs, j, k, rfl, rx_int y3, g2, by rw [g3.length]; exact e1, h5 σ θ3 _ (g4 _ _ (g3.set k (RV.pure (θ := θ3) w v hp (RV.pre (p2.trans p3).grow.pre _ _ (RV.mono (p2.trans p3).keep.to1 _ _ rv)))))⟩
          · exact h5.elim
    | _ => exact h5.elim
def tIp : BO → L2.TIp
  | .add => fun x y H Q => ∃ i j, x = .int i ∧ y = .int j ∧ Q (.int (i + j)) H
  | .sub => fun x y H Q => ∃ i j, x = .int i ∧ y = .int j ∧ Q (.int (i - j)) H
  | .mul => fun x y H Q => ∃ i j, x = .int i ∧ y = .int j ∧ L2.CMulW i j ∧ Q (.int (i * j)) H
  | _ => fun _ _ _ _ => False
theorem ip_bo : ∀ o : BO, L2.PIp X (boOp o) (tIp o)
  | .add => L2.ip_add
  | .sub => L2.ip_sub
  | .mul => Py2.ip_mul
  | .fdiv => fun _ _ _ _ _ _ _ _ _ _ _ _ h => h.elim
  | .mod => fun _ _ _ _ _ _ _ _ _ _ _ _ h => h.elim
theorem augop_ok {o : BO} {a b z : SV} {K : Kf} {θ : List Ad} {H0 H : Hp} {u v : V} {Q : VK} (h : augop o a b = some z) (ra : RX K θ H0 H a u) (rb : RX K θ H0 H b v) (q : ∀ w, RX K θ H0 H z w → Q w H) : tIp o u v H Q := by
  unfold augop at h
  split at h
  · cases h
    exact ⟨_, _, rx_int ra, rx_int rb, q _ rx_mkint⟩
  · cases h
    exact ⟨_, _, rx_int ra, rx_int rb, q _ rx_mkint⟩
  · split at h
    · rename_i hc
      rw [Bool.and_eq_true] at hc
      cases h
      refine ⟨_, _, rx_int ra, rx_int rb, ?_, q _ rx_mkint⟩
      have h1 := small_log hc.1
      have h2 := small_log hc.2
      unfold L2.CMulW
      omega
    · cases h
  · cases h
theorem augop_int {o : BO} {a b z : SV} (h : augop o a b = some z) : ∃ k, z = .val (.int k) := by
  unfold augop at h
  split at h
  · cases h; exact ⟨_, rfl⟩
  · cases h; exact ⟨_, rfl⟩
  · split at h
    · cases h; exact ⟨_, rfl⟩
    · cases h
  · cases h
theorem augop_int1 {o : BO} {a b z : SV} (h : augop o a b = some z) : ∃ k, a = .val (.int k) := by
  unfold augop at h
  split at h
  · exact ⟨_, rfl⟩
  · exact ⟨_, rfl⟩
  · exact ⟨_, rfl⟩
  · cases h
theorem slot_of {K : Kf} {θ : List Ad} {st : S} {σ : Sg} {H : Hp} {i : Nat} {w : Ex → S → Prop} {k : SV → S → Prop} (R : Rel K θ st σ H) (h : wpO (slot i false st) w k) : ∃ sv v, k sv st ∧ σ[i]? = some (some v) ∧ RX K θ H H sv v := by
  unfold slot at h
  cases ee : st.e[i]? with
  | none => rw [ee] at h; exact h.elim
  | some o =>
    cases o with
    | none => rw [ee] at h; exact h.elim
    | some sv =>
      rw [ee] at h
      obtain ⟨v, h1, h2⟩ := R.e.at_ i sv ee
      cases sv with
      | val x => exact ⟨_, v, h, h1, h2⟩
      | own xs =>
        obtain ⟨a, vs, rfl, q1, q2, q3⟩ := h2
        exact ⟨.pk xs, _, h, h1, a, vs, rfl, .inl q1, q2, q3⟩
      | pk xs => exact h.elim
theorem s_aug {o : BO} (hN : X.N.Nodup) (hi : X.N[i]? = some x) (hx : L2.Loc X.env.scope x) (he : PE X e (tE X.K W f)) (hf : X.fn x = true ∨ X.env.scope.names.lookup x = some .local) :
    PS X (.AugAssign (.Name x p2) (boOp o) e pos) (tS X.K W (M.bind (slot i false) fun x => M.bind f fun y => M.bind (M.of (augop o x y)) fun z => nxt (store i z))) := by
  refine ps_imp (L2.ps_aug hN hi hx he (ip_bo o) hf) fun D σ H h => ?_
  obtain ⟨θ, st, R, h⟩ := h
  obtain ⟨sv, v, h1, g1, g2⟩ := slot_of R h.bind
  refine ⟨v, g1, θ, st, R, h1.bind.mono (fun _ _ z => ws_we z) fun y s1 h2 u θ1 H1 p1 y1 => ?_⟩
  obtain ⟨z, e1, h3⟩ := h2.bind.of
  obtain ⟨n, rfl⟩ := augop_int1 e1
  obtain ⟨m, rfl⟩ := augop_int e1
  obtain ⟨hp, hi, h4⟩ := nxt_store h3
  refine augop_ok e1 (θ := θ1) (H0 := H) (RX.later R (.refl R) g2 p1) y1 fun w rw' => ?_
  exact h4 _ θ1 H1 (PostS.store R p1 rw' hp hi)
theorem s_augS {fx : M SV} {o : BO} (hN : X.N[i]? = some x) (hv : L2.Vis X.env.scope x) (hd : (x == ("__debug__" : PySem.Str)) = false) (hcd : (x == ("__classdict__" : PySem.Str)) = false) (hi : PE X ix (tE X.K W fx)) (he : PE X e (tE X.K W f))
    (ha : ∀ ov iv new, PySem.augStore ix ov iv new = (do PySem.holding [new, ov, iv] (PySem.setItem ov iv new); PySem.release [new, ov, iv] []; pure .next)) :
    PS X (.AugAssign (.Subscript (.Name x p2) ix cpos) (boOp o) e pos) (tS X.K W (M.bind (slot i false) fun x => M.bind (M.bind fx asInt) fun j => M.bind (fun s => match lists s.m x with
      | some xs => M.of (getI xs j) s
      | none => none) fun old => M.bind f fun y => M.bind (M.of (augop o (.val old) y)) fun z => M.bind (asV z) fun v => nxt (change i (putL j v) v.pure))) := by
  refine ps_imp (L2.ps_augS (L2.pe_var hN hv hd hcd) hi Py2.get_list he (ip_bo o) L2.set_list ha) fun D σ H h => ?_
  obtain ⟨θ, st, R, h⟩ := h
  obtain ⟨sv, v, h1, g1, g2⟩ := slot_of R h.bind
  refine ⟨v, g1, θ, st, R, h1.bind.bind.mono (fun _ _ z => ws_we z) fun y s1 h2 u θ1 H1 p1 y1 => ?_⟩
  obtain ⟨j, rfl, h3⟩ := asInt_of h2
  have sv1 := RX.later R (.refl R) g2 p1
  have h3 := h3.bind
  cases ei : lists s1.m sv with
  | none => rw [ei] at h3; exact h3.elim
  | some xs =>
    rw [ei] at h3
    obtain ⟨old, e1, h4⟩ := h3.of
    unfold getI at e1
    obtain ⟨k, e2, e3⟩ := Option.bind_eq_some_iff.mp e1
    unfold lists at ei
    split at ei
    · cases ei
    · rename_i ht
      obtain ⟨b, us, rfl, q1, q2⟩ := items_list p1.rel.m ei (by simpa using ht) sv1
      obtain ⟨w, g3, g4⟩ := q2.get e3
      refine ⟨b, us, j, w, rfl, rx_int y1, .inl q1, by unfold L2.atI; rw [show L2.ixN us.length j = some k by rw [q2.length]; exact e2]; exact g3, ?_⟩
      refine ⟨θ1, s1, p1.rel, h4.bind.mono (fun _ _ z => (ws_we z).later p1) fun y2 s2 h5 u2 θ2 H2 p2 y3 => ?_⟩
      obtain ⟨z, e4, h6⟩ := h5.bind.of
      obtain ⟨m, rfl⟩ := augop_int e4
      obtain ⟨z2, e5, h7⟩ := h6.bind.of
      cases e5
      have p := p1.trans p2
      have old2 : RX X.K θ2 H H2 (.val old) w := RV.pre p2.grow.pre _ _ (RV.mono p2.keep.to1 _ _ g4)
      refine augop_ok e4 (H0 := H) old2 (y3.from p1.keep.dom) fun w2 rw2 => ?_
      obtain ⟨xs', ys, a, vs, nx, ef, ⟨k1, k2, θx, k3, k4, k5⟩, hk⟩ := change_ok R p h7
      rw [g1] at k1
      cases k1
      obtain ⟨k', e6, rfl⟩ := putL_of ef
      refine ⟨b, vs, j, k', rfl, rx_int y1, k2, by rw [k4.length]; exact e6, hk σ θ2 _ (k5 _ _ (k4.set k' ?_))⟩
      exact RV.alt k3 rw2
end
/-! ### several at once -/
/-- lists of their own, told apart -/
def OD : List SV → List V → Prop
  | x :: xs, v :: vs => ((∃ ys, x = .own ys) → ∀ (j : Nat) (ys : List Val), xs[j]? = some (.own ys) → vs[j]? ≠ some v) ∧ OD xs vs
  | _, _ => True
def tP2 (K : Kf) (W : WE) (f : M (List SV)) : TA := fun σ H Q => ∃ θ st, Rel K θ st σ H ∧ wpO (f st) (we K W σ θ st H) fun xs st' => ∀ vs θ' H', Post K σ θ st H θ' st' H' → RXs K θ' H H' xs vs → OD xs vs → Q vs H'
theorem RXs.get {K : Kf} {θ : List Ad} {H0 H : Hp} {xs : List SV} {vs : List V} (h : RXs K θ H0 H xs vs) : ∀ {j : Nat} {x : SV}, xs[j]? = some x → ∃ v, vs[j]? = some v ∧ RX K θ H0 H x v := by
  induction h with
  | nil => intro j x e; simp at e
  | cons h r ih =>
    intro j x e
    cases j with
    | zero => simp at e; subst e; exact ⟨_, rfl, h⟩
    | succ j => exact ih (by simpa using e)
section
variable {X : Cx} {W : WE} {f : M SV} {e : Expr} {es : List Expr}
theorem w_nil : PA X [] (tP2 X.K W (M.pure [])) := pa_imp L2.pa_nil fun σ H Q hq => by
  obtain ⟨θ, st, R, h⟩ := hq
  exact h.pure [] θ H (.refl R) .nil trivial
theorem w_cons {r : M (List SV)} (h1 : PE X e (tE X.K W f)) (h2 : PA X es (tP2 X.K W r)) (hs : PySem.starEach (e :: es) X.env = (false, PySem.eval e X.env) :: PySem.starEach es X.env) :
    PA X (e :: es) (tP2 X.K W (M.bind f fun v => M.bind r fun vs => M.pure (v :: vs))) := by
  refine pa_imp (L2.pa_cons h1 h2 hs) fun σ H Q hq => ?_
  obtain ⟨θ, st, R, h⟩ := hq
  refine ⟨θ, st, R, h.bind.mono (fun _ _ z => z) fun x s1 h1 v θ1 H1 p1 x1 => ?_⟩
  refine ⟨θ1, s1, p1.rel, h1.bind.mono (fun _ _ z => z.later p1) fun xs s2 h2 vs θ2 H2 p2 x2 o2 => ?_⟩
  refine h2.pure _ θ2 H2 (p1.trans p2) (.cons (RX.later R p1 x1 p2) (x2.from p1.keep.dom)) ⟨fun ⟨ys, e⟩ j zs hj he => ?_, o2⟩
  subst e
  obtain ⟨a, us, rfl, q1, _⟩ := x1
  obtain ⟨w, g1, b, ws, rfl, _, _, _, g2⟩ := x2.get hj
  rw [g1] at he
  cases he
  rw [q1] at g2
  cases g2
end
def setsV : List Nat → List V → Sg → Sg
  | i :: is, v :: vs, σ => setsV is vs (σ.set i (some v))
  | _, _, σ => σ
def setsE : List Nat → List SV → List (Option SV) → List (Option SV)
  | i :: is, v :: vs, e => setsE is vs (e.set i (some v))
  | _, _, e => e
theorem PostS.store2 {K : Kf} {θ θ' : List Ad} {st st' : S} {σ σ1 : Sg} {H H' : Hp} {i : Nat} {sv : SV} {v : V} (p : PostS K σ θ st H σ1 θ' st' H') (x : RX K θ' H H' sv v) (hp : ∀ xs, sv ≠ .pk xs) (hi : i < st'.e.length)
    (no : ∀ j a, OwnAt st' σ1 j a → (∃ xs, sv = .own xs) → v ≠ .ref a) : PostS K σ θ st H (σ1.set i (some v)) θ' { st' with e := st'.e.set i (some sv) } H' := by
  have hs : i < σ1.length := by rw [← p.rel.e.len]; exact hi
  have ownN : ∀ j a, OwnAt { st' with e := st'.e.set i (some sv) } (σ1.set i (some v)) j a → (j = i ∧ (∃ xs, sv = .own xs) ∧ v = .ref a) ∨ (j ≠ i ∧ OwnAt st' σ1 j a) := fun j a ⟨xs, h1, h2⟩ => by
    rcases set_look h1 with ⟨rfl, _, e⟩ | ⟨hj, h1⟩
    · cases e
      rw [List.getElem?_set_self hs] at h2
      cases h2
      exact .inl ⟨rfl, ⟨_, rfl⟩, rfl⟩
    · rw [List.getElem?_set_ne (Ne.symm hj)] at h2
      exact .inr ⟨hj, xs, h1, h2⟩
  have newN : ∀ xs, sv = .own xs → ∀ a, v = .ref a → H a = none := fun xs e a e2 => by
    subst e
    obtain ⟨b, vs, q1, q2, q3, q4, q5⟩ := x
    rw [q1] at e2
    cases e2
    exact q5
  refine ⟨p.keep, p.grow, fun a ⟨j, h⟩ => ?_, ⟨⟨by simpa using p.rel.e.len, fun j sv' h => ?_, fun j k a h1 h2 => ?_⟩, p.rel.m⟩⟩
  · rcases ownN j a h with ⟨_, ⟨xs, e⟩, e2⟩ | ⟨_, h⟩
    · exact .inr (newN xs e a e2)
    · exact p.own a ⟨j, h⟩
  · rcases set_look h with ⟨rfl, _, e⟩ | ⟨hj, h⟩
    · cases e
      refine ⟨v, List.getElem?_set_self hs, ?_⟩
      cases sv with
      | val y => exact x
      | own xs =>
        obtain ⟨b, vs, q1, q2, q3, q4, q5⟩ := x
        exact ⟨b, vs, q1, q2, q3, q4⟩
      | pk xs => exact (hp xs rfl).elim
    · obtain ⟨w, h1, h2⟩ := p.rel.e.at_ j _ h
      exact ⟨w, by rw [List.getElem?_set_ne (Ne.symm hj)]; exact h1, h2⟩
  · rcases ownN j a h1 with ⟨e1, o1, v1⟩ | ⟨_, z1⟩
    · rcases ownN k a h2 with ⟨e2, _⟩ | ⟨_, z2⟩
      · rw [e1, e2]
      · exact (no k a z2 o1 v1).elim
    · rcases ownN k a h2 with ⟨_, o2, v2⟩ | ⟨_, z2⟩
      · exact (no j a z1 o2 v2).elim
      · exact p.rel.e.one j k a z1 z2
theorem stores_ok {w : Ex → S → Prop} {K : Kf} {θ θ' : List Ad} {st : S} {σ : Sg} {H H' : Hp} {k : Unit → S → Prop} : ∀ (is : List Nat) (xs : List SV) (vs : List V) (st' : S) (σ1 : Sg), PostS K σ θ st H σ1 θ' st' H' → RXs K θ' H H' xs vs → OD xs vs →
    (∀ (j : Nat) (ys : List Val), xs[j]? = some (.own ys) → ∀ i a, OwnAt st' σ1 i a → vs[j]? ≠ some (.ref a)) → wpO (stores is xs st') w k → vs.length = is.length ∧ ∃ s2, k () s2 ∧ PostS K σ θ st H (setsV is vs σ1) θ' s2 H'
  | [], [], vs, st', σ1, p, r, _, _, h => by
    cases r
    exact ⟨rfl, st', h, p⟩
  | [], x :: xs, vs, st', σ1, p, r, _, _, h => h.elim
  | i :: is, [], vs, st', σ1, p, r, _, _, h => h.elim
  | i :: is, x :: xs, vs, st', σ1, p, r, od, no, h => by
    cases r with
    | cons rx rr =>
      rename_i v vs
      have h := h.bind
      have st1 : (∀ zs, x ≠ .pk zs) ∧ i < st'.e.length ∧ wpO (stores is xs { st' with e := st'.e.set i (some x) }) w k := by
        cases x with
        | pk zs => exact h.elim
        | val y =>
          have h : wpO (if i < st'.e.length then some (.ok () { st' with e := st'.e.set i (some (.val y)) }) else none) _ _ := h
          split at h
          · exact ⟨fun xs e => (nomatch e), by assumption, h⟩
          · exact h.elim
        | own y =>
          have h : wpO (if i < st'.e.length then some (.ok () { st' with e := st'.e.set i (some (.own y)) }) else none) _ _ := h
          split at h
          · exact ⟨fun xs e => (nomatch e), by assumption, h⟩
          · exact h.elim
      obtain ⟨hp, hi, h⟩ := st1
      have p2 := PostS.store2 p rx hp hi fun j a o ⟨zs, e⟩ e2 => no 0 zs (by rw [e]; rfl) j a o (by rw [e2]; rfl)
      have hn : ∀ (j : Nat) (ys : List Val), xs[j]? = some (.own ys) → ∀ l a, OwnAt { st' with e := st'.e.set i (some x) } (σ1.set i (some v)) l a → vs[j]? ≠ some (.ref a) := by
        intro j ys hj l a ⟨zs, z1, z2⟩ e
        rcases set_look z1 with ⟨rfl, hl, e3⟩ | ⟨hl, z1⟩
        · cases e3
          rw [List.getElem?_set_self (by rw [← p.rel.e.len]; exact hl)] at z2
          cases z2
          exact od.1 ⟨zs, rfl⟩ j ys hj e
        · rw [List.getElem?_set_ne (Ne.symm hl)] at z2
          exact no (j + 1) ys hj l a ⟨zs, z1, z2⟩ e
      obtain ⟨hl, s2, k2, p3⟩ := stores_ok is xs vs _ _ p2 rr od.2 hn h
      exact ⟨by simp [hl], s2, k2, p3⟩
def parM (f : M (List SV)) (is : List Nat) : M Fl := M.bind f fun vs => nxt (stores is vs)
theorem par_imp {K : Kf} {W : WE} {is : List Nat} {f : M (List SV)} {D : Ends} {σ : Sg} {H : Hp} (h : tS K W (parM f is) D σ H) : tP2 K W f σ H fun vs H1 => vs.length = is.length ∧ D.nx (setsV is vs σ) H1 := by
  obtain ⟨θ, st, R, h⟩ := h
  refine ⟨θ, st, R, h.bind.mono (fun _ _ z => ws_we z) fun xs s1 h1 vs θ1 H1 p1 rx od => ?_⟩
  have hn : ∀ (j : Nat) (ys : List Val), xs[j]? = some (.own ys) → ∀ i a, OwnAt s1 σ i a → vs[j]? ≠ some (.ref a) := by
    intro j ys hj i a o e
    obtain ⟨w, g1, b, ws, rfl, _, _, _, g2⟩ := rx.get hj
    rw [g1] at e
    cases e
    obtain ⟨us, q, _⟩ := Own.tracked R ⟨i, p1.ownM o⟩
    rw [g2] at q
    cases q
  obtain ⟨hl, s2, k2, p2⟩ := stores_ok is xs vs s1 σ p1.toS rx od hn h1.bind
  exact ⟨hl, k2 _ θ1 H1 p2⟩
end Py
end

section
set_option autoImplicit false
set_option linter.all false
set_option Elab.async false
set_option maxRecDepth 100000
set_option maxHeartbeats 4000000
/-! Statements, on: several names, unpacking, cells, raise. -/
namespace Py
open L2 (V Hp HO SqL SqT Rd upd upd_same upd_ne ne_of ne_of_none Cx PE PT PW PA TE TT TA VK R2 OpR tOp thn EP TP Inv RelV CallR Sp PI TI Walk YAt YFn YPair PG PGs TG TGs PTs PS PSs TS Ends)
open PySem (Expr Pos Operator CmpOp Value Shared Sem wpAny Stmt)
theorem RXs.later {K : Kf} {σ : Sg} {θ θ1 θ2 : List Ad} {st st1 st2 : S} {H H1 H2 : Hp} {xs : List SV} {vs : List V} (r : Rel K θ st σ H) (p0 : Post K σ θ st H θ1 st1 H1) (x : RXs K θ1 H H1 xs vs) (p : Post K σ θ1 st1 H1 θ2 st2 H2) : RXs K θ2 H H2 xs vs := by
  induction x with
  | nil => exact .nil
  | cons h _ ih => exact .cons (RX.later r p0 h p) ih
section
variable {X : Cx} {W : WE} {f : M SV} {e : Expr} {es : List Expr} {pos p2 pt : Pos} {g : M (List SV)}
def unpM (f : M SV) (ts : Tgs) : M Fl := M.bind f fun x => fun s => match items s.m x with
    | some xs => nxt (asgs ts xs) s
    | none => none
theorem s_unp {ts : Tgs} {k : Nat} {F : List Nat} (hc : X.calm = true) (he : PE X e (tE X.K W f)) (hg : PGs X es (tGs X.K F (asgs ts))) (hn : (PySem.assignEach es X.env).length = ts.len) (hst : (PySem.assignEach es X.env).findIdx? (·.1) = none)
    (hs : PySem.swapsWithSole [.Tuple es k pt] e pos.line X.env = pure false) (hw : PySem.swappedStores [.Tuple es k pt] e X.env = pure none)
    (h1 : (PySem.assignEach [.Tuple es k pt] X.env).map (·.2) = [PySem.assign (.Tuple es k pt) X.env]) : PS X (.Assign [.Tuple es k pt] e pos) (tS X.K W (unpM f ts)) := by
  refine ps_imp (L2.ps_asg he (PG.or (L2.pg_tup hc hg hn hst) (L2.pg_unl hc hg hn hst)) hs hw h1) fun D σ H h => ?_
  obtain ⟨θ, st, R, h⟩ := h
  refine ⟨θ, st, R, h.bind.mono (fun _ _ z => ws_we z) fun x s1 h1 v θ1 H1 p1 x1 => ?_⟩
  cases ei : items s1.m x with
  | none => rw [ei] at h1; exact h1.elim
  | some xs =>
    rw [ei] at h1
    have h1 := h1.bind
    obtain ⟨a, vs, rfl, s, t⟩ := items_rel p1.rel.m ei x1
    have hl : vs.length = ts.len := by rw [t.length]; exact asgs_len ts xs s1 _ _ (wpO.nx (nx_asgs ts xs) h1) fun _ _ z => z
    have fin : tGs X.K F (asgs ts) vs σ H1 D.nx := ⟨θ1, s1, xs, p1.rel, t, (wpO.nx (nx_asgs ts xs) h1).mono (fun _ _ z => z) fun _ s2 h2 σ2 p2 _ => h2 σ2 θ1 H1 (p1.toS.trans p2)⟩
    unfold Sq at s
    split at s
    · exact .inl ⟨a, vs, rfl, s, hl, fin⟩
    · exact .inr ⟨a, vs, rfl, .inl s, hl, fin⟩
/-- names, each stored -/
def gNames (is : List Nat) : TGs := fun vs σ H Q => vs.length = is.length ∧ Q (setsV is vs σ) H
theorem gn_nil : PGs X [] (gNames []) := pgs_imp L2.pgs_nil fun vs σ H Q h => by
  obtain ⟨h1, h2⟩ := h
  have e := List.eq_nil_of_length_eq_zero h1
  subst e
  exact ⟨rfl, h2⟩
theorem gn_cons {i : Nat} {is : List Nat} {x : PySem.Str} (hN : X.N.Nodup) (hi : X.N[i]? = some x) (hx : L2.Loc X.env.scope x) (hf : X.fn x = true ∨ X.env.scope.names.lookup x = some .local) (h2 : PGs X es (gNames is))
    (hs : (PySem.assignEach (.Name x p2 :: es) X.env).map (·.2) = PySem.assign (.Name x p2) X.env :: (PySem.assignEach es X.env).map (·.2)) : PGs X (.Name x p2 :: es) (gNames (i :: is)) :=
  pgs_imp (L2.pgs_cons (L2.pg_name hN hi hx hf) h2 hs) fun vs σ H Q h => by
    obtain ⟨h1, h2⟩ := h
    cases vs with
    | nil => cases h1
    | cons v vs => exact ⟨v, vs, rfl, by simpa using h1, h2⟩
theorem tP2_len {K : Kf} {g : M (List SV)} {σ : Sg} {H : Hp} {Q : List V → Hp → Prop} {n : Nat} (hz : n ≤ PySem.sizeLine) (h : tP2 K W g σ H fun vs H1 => vs.length = n ∧ Q vs H1) : tP2 K W g σ H fun vs H1 => vs.length ≤ PySem.sizeLine ∧ vs.length = n ∧ Q vs H1 := by
  obtain ⟨θ, st, R, h⟩ := h
  refine ⟨θ, st, R, h.mono (fun _ _ z => z) fun xs s1 h1 vs θ1 H1 p1 x1 o1 => ?_⟩
  obtain ⟨h2, h3⟩ := h1 vs θ1 H1 p1 x1 o1
  exact ⟨by rw [h2]; exact hz, h2, h3⟩
/-- a, b = x, y: stored from the right -/
theorem s_par2 {i j : Nat} {x y : PySem.Str} {a b : Expr} {px py : Pos} {kt k2 : Nat} {pt2 : Pos} (hc : X.calm = true) (hN : X.N.Nodup) (hi : X.N[i]? = some x) (hj : X.N[j]? = some y) (hij : i ≠ j)
    (hx : X.env.scope.names.lookup x = some .local) (hy : X.env.scope.names.lookup y = some .local) (ha : PA X [a, b] (tP2 X.K W g))
    (hw : PySem.swappedStores [.Tuple [.Name x px, .Name y py] kt pt] (.Tuple [a, b] k2 pt2) X.env = pure (some [x, y]))
    (hs : PySem.swapsWithSole [.Tuple [.Name x px, .Name y py] kt pt] (.Tuple [a, b] k2 pt2) pos.line X.env = pure false) :
    PS X (.Assign [.Tuple [.Name x px, .Name y py] kt pt] (.Tuple [a, b] k2 pt2) pos) (tS X.K W (parM g [i, j])) := by
  refine ps_imp (L2.ps_par hc hN hi hj hij hx hy ha hw hs) fun D σ H h => ?_
  obtain ⟨θ, st, R, h⟩ := par_imp h
  refine ⟨θ, st, R, h.mono (fun _ _ z => z) fun xs s1 h1 vs θ1 H1 p1 x1 o1 => ?_⟩
  obtain ⟨h2, h3⟩ := h1 vs θ1 H1 p1 x1 o1
  match vs, h2, h3 with
  | [v, w], _, h3 => exact ⟨v, w, rfl, h3⟩
theorem s_par3 {i j l : Nat} {x y z : PySem.Str} {a b c : Expr} {px py pz : Pos} {kt k2 : Nat} {pt2 : Pos} (hc : X.calm = true) (hN : X.N.Nodup) (hi : X.N[i]? = some x) (hj : X.N[j]? = some y) (hl : X.N[l]? = some z) (hij : i ≠ j) (hil : i ≠ l) (hjl : j ≠ l)
    (hx : X.env.scope.names.lookup x = some .local) (hy : X.env.scope.names.lookup y = some .local) (hz : X.env.scope.names.lookup z = some .local) (ha : PA X [a, b, c] (tP2 X.K W g))
    (hw : PySem.swappedStores [.Tuple [.Name x px, .Name y py, .Name z pz] kt pt] (.Tuple [a, b, c] k2 pt2) X.env = pure (some [x, y, z]))
    (hs : PySem.swapsWithSole [.Tuple [.Name x px, .Name y py, .Name z pz] kt pt] (.Tuple [a, b, c] k2 pt2) pos.line X.env = pure false) :
    PS X (.Assign [.Tuple [.Name x px, .Name y py, .Name z pz] kt pt] (.Tuple [a, b, c] k2 pt2) pos) (tS X.K W (parM g [i, j, l])) := by
  refine ps_imp (L2.ps_par3 hc hN hi hj hl hij hil hjl hx hy hz ha hw hs) fun D σ H h => ?_
  obtain ⟨θ, st, R, h⟩ := par_imp h
  refine ⟨θ, st, R, h.mono (fun _ _ z => z) fun xs s1 h1 vs θ1 H1 p1 x1 o1 => ?_⟩
  obtain ⟨h2, h3⟩ := h1 vs θ1 H1 p1 x1 o1
  match vs, h2, h3 with
  | [u, v, w], _, h3 => exact ⟨u, v, w, rfl, h3⟩
/-- .., by way of the tuple -/
theorem s_parT {is : List Nat} {ts : List Expr} {k k2 : Nat} {pt2 : Pos} (hc : X.calm = true) (hz : is.length ≤ PySem.sizeLine) (hg : PGs X ts (gNames is)) (ha : PA X es (tP2 X.K W g)) (hn : (PySem.assignEach ts X.env).length = is.length) (hst : (PySem.assignEach ts X.env).findIdx? (·.1) = none)
    (hs : PySem.swapsWithSole [.Tuple ts k pt] (.Tuple es k2 pt2) pos.line X.env = pure false) (hw : PySem.swappedStores [.Tuple ts k pt] (.Tuple es k2 pt2) X.env = pure none)
    (h1 : (PySem.assignEach [.Tuple ts k pt] X.env).map (·.2) = [PySem.assign (.Tuple ts k pt) X.env]) : PS X (.Assign [.Tuple ts k pt] (.Tuple es k2 pt2) pos) (tS X.K W (parM g is)) := by
  refine ps_imp (L2.ps_asg (L2.pe_tup ha) (L2.pg_tup hc hg hn hst) hs hw h1) fun D σ H h => ?_
  obtain ⟨θ, st, R, h⟩ := h
  -- the tuple is laid ahead of the stores
  refine ⟨θ, st, R, h.bind.mono (fun _ _ z => ws_we z) fun xs s1 h1 vs θ1 H1 p1 x1 o1 => ?_⟩
  have hl : vs.length = is.length := by
    have hn : ∀ (j : Nat) (ys : List Val), xs[j]? = some (.own ys) → ∀ i a, OwnAt s1 σ i a → vs[j]? ≠ some (.ref a) := by
      intro j ys hj i a o e
      obtain ⟨w, g1, b, ws, rfl, _, _, _, g2⟩ := x1.get hj
      rw [g1] at e
      cases e
      obtain ⟨us, q, _⟩ := Own.tracked R ⟨i, p1.ownM o⟩
      rw [g2] at q
      cases q
    exact (stores_ok is xs vs s1 σ p1.toS x1 o1 hn h1.bind).1
  refine ⟨by rw [hl]; exact hz, fun p n => ⟨p, vs, rfl, SqT.of upd_same, hl, hl, ?_⟩⟩
  have pn : Post X.K σ θ1 s1 H1 θ1 s1 (upd H1 p (.tup vs)) := .new p1.rel n
  have p2 := p1.trans pn
  have x2 : RXs X.K θ1 H (upd H1 p (.tup vs)) xs vs := RXs.later R p1 x1 pn
  have hn : ∀ (j : Nat) (ys : List Val), xs[j]? = some (.own ys) → ∀ i a, OwnAt s1 σ i a → vs[j]? ≠ some (.ref a) := by
    intro j ys hj i a o e
    obtain ⟨w, g1, b, ws, rfl, _, _, _, g2⟩ := x1.get hj
    rw [g1] at e
    cases e
    obtain ⟨us, q, _⟩ := Own.tracked R ⟨i, p1.ownM o⟩
    rw [g2] at q
    cases q
  obtain ⟨_, s2, k2, p3⟩ := stores_ok is xs vs s1 σ p2.toS x2 o1 hn h1.bind
  exact k2 _ θ1 _ p3
/-- a new list becomes a cell -/
theorem e_mk (he : PE X e (tE X.K W f)) : PE X e (tE X.K W (M.bind f newLoc)) := pe_imp he fun σ H Q hq => by
  obtain ⟨θ, st, R, h⟩ := hq
  refine ⟨θ, st, R, h.bind.mono (fun _ _ z => z) fun sv s1 h1 v θ1 H1 p1 x1 => ?_⟩
  cases sv with
  | val x => exact h1.elim
  | pk x => exact h1.elim
  | own xs =>
    have h1 : wpO (some (.ok (SV.val (.loc s1.m.length)) { s1 with m := s1.m ++ [xs] })) _ _ := h1
    obtain ⟨a, vs, rfl, q1, q2, q3, q4⟩ := x1
    have hlen : s1.m.length = θ1.length := p1.rel.m.len
    refine h1 _ (θ1 ++ [a]) H1 ⟨p1.keep, ?_, p1.own, ⟨⟨p1.rel.e.len, fun i sv z => ?_, p1.rel.e.one⟩, ⟨by simp [hlen], ?_, fun n ys z => ?_⟩⟩⟩ ?_
    · obtain ⟨new, e, hn⟩ := p1.grow
      exact ⟨new ++ [a], by rw [e, List.append_assoc], fun b hb => (List.mem_append.mp hb).elim (hn b) fun z => by simp at z; rw [z]; exact q4⟩
    · obtain ⟨u, g1, g2⟩ := p1.rel.e.at_ i sv z
      refine ⟨u, g1, ?_⟩
      cases sv with
      | val x => exact RV.pre Pre.app _ _ g2
      | own zs =>
        obtain ⟨b, ws, e, g3, g4, g5⟩ := g2
        refine ⟨b, ws, e, g3, RVs.pre Pre.app _ _ g4, fun z' => ?_⟩
        rcases List.mem_append.mp z' with z' | z'
        · exact g5 z'
        · simp at z'
          subst z'
          obtain ⟨us, g6, _⟩ := Own.tracked R ⟨i, p1.ownM ⟨zs, z, by rw [g1, e]⟩⟩
          rw [q4] at g6
          cases g6
      | pk zs => exact g2.elim
    · refine List.nodup_append.mpr ⟨p1.rel.m.nd, by simp, fun b hb c hc e => ?_⟩
      simp at hc
      subst hc e
      exact q3 hb
    · by_cases hn : n < s1.m.length
      · rw [List.getElem?_append_left hn] at z
        obtain ⟨b, ws, g1, g2, g3⟩ := p1.rel.m.at_ n ys z
        exact ⟨b, ws, by rw [List.getElem?_append_left (by omega)]; exact g1, g2, by rw [List.take_append_of_le_length (by omega)]; exact g3⟩
      · have e : n = s1.m.length := by
          have := (List.getElem?_eq_some_iff.mp z).1
          simp at this
          omega
        subst e
        rw [List.getElem?_append_right (Nat.le_refl _)] at z
        simp at z
        subst z
        refine ⟨a, vs, ?_, q1, ?_⟩
        · rw [hlen, List.getElem?_append_right (Nat.le_refl _)]; simp
        · rw [hlen, List.take_append_of_le_length (Nat.le_refl _), List.take_length]; exact q2
    · show RV _ _ _ _ _
      unfold RV
      exact ⟨a, rfl, by rw [hlen, List.getElem?_append_right (Nat.le_refl _)]; simp⟩
end
end Py
end

section
set_option autoImplicit false
set_option linter.all false
set_option Elab.async false
set_option maxRecDepth 100000
set_option maxHeartbeats 4000000
/-! try .. except: several clauses, each with a name or without. -/
namespace L2
open PySem PySem.Spec PyProof.Rows
abbrev Hcl := Value × Option Nat × (Addr → Value → Option Addr → TS)
/-- behind a clause that has a name -/
def goneD (i : Nat) (D : Ends) : Ends := { nx := fun σ' H' => D.nx (σ'.set i none) H', rt := D.rt, bk := fun σ' H' => D.bk (σ'.set i none) H', ct := fun σ' H' => D.ct (σ'.set i none) H' }
/-- what the clauses wish of an exception of the body -/
def wNmd (K : PySem.W.Frag) (Wout : WX) (D : Ends) : List Hcl → WX
  | [] => Wout
  | (c, none, ts) :: r => fun cls d σ H => ∃ b, PySem.W.exmOne K cls c = some b ∧ (b = true → ∀ a, H a = none → ts a cls d D σ H) ∧ (b = false → wNmd K Wout D r cls d σ H)
  | (c, some i, ts) :: r => fun cls d σ H => ∃ b, PySem.W.exmOne K cls c = some b ∧ (b = true → ∀ a, H a = none → ts a cls d (goneD i D) (σ.set i (some (.ref a))) H) ∧ (b = false → wNmd K Wout D r cls d σ H)
inductive HdsN (X : Cx) : List ExceptHandler → List Hcl → Prop
  | nil : HdsN X [] []
  | cons0 {x : Str} {c : Value} {ts : Addr → Value → Option Addr → TS} {b₀ : Stmt} {suite : List Stmt} {np pos' : Pos} {hds : List ExceptHandler} {l : List Hcl} (hc : Names X x c)
      (hsu : ∀ (a : Addr) (oe : Obj) (cls : Value) (d : Option Addr) (pn : List (Addr × Obj)), Zc cls d oe → (∃ vs, oe.data = .fields vs) → PSs (X.suite a ((a, oe) :: pn)) (b₀ :: suite) (ts a cls d)) (r : HdsN X hds l) :
      HdsN X (.ExceptHandler (some (.Name x np)) none (b₀ :: suite) pos' :: hds) ((c, none, ts) :: l)
  | consN {x n : Str} {i : Nat} {c : Value} {ts : Addr → Value → Option Addr → TS} {b₀ : Stmt} {suite : List Stmt} {np pos' : Pos} {hds : List ExceptHandler} {l : List Hcl} (hi : X.N[i]? = some n) (hln : X.env.kindOf n = some .local) (hc : Names X x c)
      (hsu : ∀ (a : Addr) (oe : Obj) (cls : Value) (d : Option Addr) (pn : List (Addr × Obj)), Zc cls d oe → (∃ vs, oe.data = .fields vs) → PSs (X.suite a ((a, oe) :: pn)) (b₀ :: suite) (ts a cls d)) (r : HdsN X hds l) :
      HdsN X (.ExceptHandler (some (.Name x np)) (some n) (b₀ :: suite) pos' :: hds) ((c, some i, ts) :: l)
section
variable {X : Cx} {body : List Stmt} {h₀ : ExceptHandler} {hds : List ExceptHandler} {l : List Hcl} {pos : Pos} {tb : WX → TS} {Wout : WX}
theorem ps_tryN (hs : X.stack = X.env :: X.outer) (hf : X.env.frame = some X.env.locals) (hN : X.N.Nodup) (tk : Takes X Wout)
    (hb : ∀ (W : WX) (pn : List (Addr × Obj)) (xe : Value → Shared → Prop), Takes (X.tr pn xe) W → PassesOwn (model X.prog X.w) X.A X.env xe → PSs (X.tr pn xe) body (tb W))
    (hh : HdsN X (h₀ :: hds) l) : PS X (.Try body (h₀ :: hds) [] [] pos) (fun D σ H => tb (wNmd X.K Wout D l) D σ H) := by
  refine ⟨fun pins s σ H D I h => ?_⟩
  have ok := I.ok
  have hfr : X.A.frames = some (X.env :: X.outer) := by rw [ok.frames, hs]
  refine wpAny_Try_except ?_
  refine wpAny_mono ((hb (wNmd X.K Wout D l) (X.pn ++ pins) (fun e s₁ => wpAny (model X.prog X.w) X.A (noteFrame e X.env) (fun _ s₂ => wpAny (model X.prog X.w) X.A (setFlight e none) (fun _ s₃ =>
    wpAny (model X.prog X.w) X.A (handleBy e X.env (h₀ :: hds)) (SP X pins D) X.xe s₃) X.xe s₂) X.xe s₁) (fun u s' xx => ?_) PassesOwn.looking).run [] s σ H D (I.toTry _) h) (fun f s1 hsp => ?_) (fun e s1 he => he)
  · -- the catch
    obtain ⟨a, B, sI, pins', σ', H', cls, d, rfl, J', nb, up, sky, na, os, ag, w⟩ := xx
    have J : Inv X pins σ' H' sI := J'.ofTry ok
    have sky' : Sky B (X.env :: X.outer) a (Zc cls d) X.env.locals s'.heap := by rw [← hs]; exact sky
    show wpAny (model X.prog X.w) X.A (noteFrame (.ref a) X.env) _ _ _
    refine Sky.land Zc.steady hfr hf sky' fun h3 fl3 up3 => ?_
    have J3 : Inv X pins σ' H' { s' with heap := h3 } := J.landed nb fl3.1 (up.trans up3) os ag
    obtain ⟨oe3, vs3, he3, hz3, hd3⟩ := fl3.there
    have notFr : ∀ {h : Heap} {o : Obj} {vs : Array Value}, h.FunFrames B (X.env :: X.outer) → h.get? a = some o → o.data = .fields vs → a ∉ frs (X.env :: X.outer) := fun {h o vs} ff e dd hm => by
      obtain ⟨_, o', e', hnf⟩ := ff.mem hm
      rw [e] at e'; cases e'
      exact hnf _ dd
    have nfr := notFr fl3.2.2.1 he3 hd3
    have nL : a ≠ X.env.locals := fun z => nfr (List.mem_filterMap.mpr ⟨X.env, List.mem_cons_self, by rw [hf, z]⟩)
    have nF : a ∉ X.fs := fun hm => by
      obtain ⟨e, he, q⟩ := List.mem_filterMap.mp hm
      exact nfr (List.mem_filterMap.mpr ⟨e, List.mem_cons_of_mem _ he, q⟩)
    have S3 := J3.suite he3 hd3 na nL nF
    have go : ∀ {hds' : List ExceptHandler} {l' : List Hcl}, HdsN X hds' l' → wNmd X.K Wout D l' cls d σ' H' →
        wpAny (model X.prog X.w) X.A (handleBy (.ref a) X.env hds') (SP X pins D) X.xe { s' with heap := h3 } := by
      intro hds' l' hk
      have test : ∀ {x : Str} {c : Value} {np : Pos} (hc : Names X x c) {Q : Value → Shared → Prop} {E : Value → Shared → Prop}, Q c { s' with heap := h3 } → wpAny (model X.prog X.w) (X.A.mark (some (.ref a))) (eval (.Name x np) X.env) Q E { s' with heap := h3 } := fun {x c np} hc {Q E} q => by
        obtain ⟨hg, hdbg, hm | ⟨hm, hv, hnn⟩⟩ := hc
        · exact ld_glob (X := X.suite a ((a, oe3) :: (X.pn ++ pins))) S3 hg hm q hdbg
        · exact ld_blt (X := X.suite a ((a, oe3) :: (X.pn ++ pins))) S3 hg hm hv q hnn hdbg
      induction hk with
      | nil =>
        intro w
        refine wpAny_handleBy_nil ?_
        obtain ⟨k1, k2, k3, oe, vs, T, oT, ts', he, hz, hd, h1, hr⟩ := id fl3
        unfold PySem.passOn
        refine wpAny_bind (wpAny_field he hd h1 ?_)
        rw [if_neg (show ¬ ((Value.ref T == Value.none) = true) from by simp)]
        have fin : wpAny (model X.prog X.w) X.A (setFlight (.ref a) X.env.frame) (fun _ s4 => wpAny (model X.prog X.w) X.A (throw (.ref a) : Sem Flow) (SP X pins D) X.xe s4) X.xe { s' with heap := h3 } := by
          rw [hf]
          refine HandSPX.setFlight_upZ fl3 fun h4 hh4 up4 => wpAny_throw (tk _ _ ?_)
          exact ⟨a, B, sI, pins, σ', H', cls, d, rfl, J, nb, (up.trans up3).trans up4, .inr (.inr (by rw [hs]; exact hh4)), na, os, ag, w⟩
        first
          | exact wpAny_bind (wpAny_pure (wpAny_bind fin))
          | exact wpAny_bind fin
      | @cons0 x c ts b₀ suite np pos' hds2 l2 hc hsu r ih =>
        intro w
        obtain ⟨b, hb1, hyes, hno⟩ := w
        refine wpAny_handleBy_cons (codeAny_handlers_test ?_) (by intro q; cases q)
        have LT : PySem.W.Looks (model X.prog X.w) h3 (typeOf (.ref a)) cls := fun A Q E s k q => wpAny_typeOf_ref (k _ _ he3) (by rw [hz3.1]; exact q)
        have LM := PySem.W.exm_one (M := model X.prog X.w) (J3.kIn) LT hb1
        refine test hc (LM.here ?_)
        cases b with
        | true =>
          refine codeAny_handlers_suite ?_
          refine HandSPX.lands_againZ fl3 fun h4 fl4 up4 => ?_
          have J4 : Inv X pins σ' H' { s' with heap := h4 } := J.landed nb fl4.1 ((up.trans up3).trans up4) os ag
          obtain ⟨oe4, vs4, he4, hz4, hd4⟩ := fl4.there
          have S4 := J4.suite he4 hd4 na nL nF
          refine wpAny_mono ((hsu a oe4 cls d (X.pn ++ pins) hz4 ⟨_, hd4⟩).run [] _ _ H' _ S4 (hyes rfl a na)) (fun f s6 hsp => ?_) (fun _ _ z => False.elim z)
          cases f with
          | next =>
            obtain ⟨σ6, H6, S6, q6⟩ := hsp
            exact ⟨_, _, S6.unsuite ok, q6⟩
          | brk =>
            obtain ⟨σ6, H6, S6, q6⟩ := hsp
            exact ⟨_, _, S6.unsuite ok, q6⟩
          | cont =>
            obtain ⟨σ6, H6, S6, q6⟩ := hsp
            exact ⟨_, _, S6.unsuite ok, q6⟩
          | ret u =>
            obtain ⟨v6, σ6, H6, S6, r6, q6⟩ := hsp
            exact ⟨_, _, _, S6.unsuite ok, r6, q6⟩
        | false =>
          show wpAny _ X.A (handleBy (.ref a) X.env hds2) _ _ _
          exact ih (hno rfl)
      | @consN x n i c ts b₀ suite np pos' hds2 l2 hi hln hc hsu r ih =>
        intro w
        obtain ⟨b, hb1, hyes, hno⟩ := w
        have hloc : Loc X.env.scope n := .inl hln
        refine wpAny_handleBy_cons (codeAny_handlers_test ?_) (by intro q; cases q)
        have LT : PySem.W.Looks (model X.prog X.w) h3 (typeOf (.ref a)) cls := fun A Q E s k q => wpAny_typeOf_ref (k _ _ he3) (by rw [hz3.1]; exact q)
        have LM := PySem.W.exm_one (M := model X.prog X.w) (J3.kIn) LT hb1
        refine test hc (LM.here ?_)
        cases b with
        | true =>
          refine codeAny_handlers_suite_as ?_
          refine HandSPX.lands_againZ fl3 fun h4 fl4 up4 => ?_
          have J4 : Inv X pins σ' H' { s' with heap := h4 } := J.landed nb fl4.1 ((up.trans up3).trans up4) os ag
          obtain ⟨oe4, vs4, he4, hz4, hd4⟩ := fl4.there
          have S4 := J4.suite he4 hd4 na nL nF
          refine store_ok (X := X.suite a ((a, oe4) :: (X.pn ++ pins))) (v := .ref a) S4 hN hi hloc rfl (fun s5 S5 => ?_) (.inr hln)
          refine wpAny_mono ((hsu a oe4 cls d (X.pn ++ pins) hz4 ⟨_, hd4⟩).run [] s5 _ H' _ S5 (hyes rfl a na)) (fun f s6 hsp => ?_) (fun _ _ z => False.elim z)
          have end_ : ∀ {σ6 : St} {H6 : Hp} {Q : Shared → Prop}, Inv (X.suite a ((a, oe4) :: (X.pn ++ pins))) [] σ6 H6 s6 → (∀ s7, Inv X pins (σ6.set i none) H6 s7 → Q s7) →
              wpAny (model X.prog X.w) X.A (do bindName X.env n .none; unbindBehindTheSuite X.env n pos') (fun _ s7 => Q s7) X.xe s6 := fun {σ6 H6 Q} S6 hq => gone_ok (S6.unsuite ok) hN hi hln hq
          cases f with
          | next =>
            obtain ⟨σ6, H6, S6, q6⟩ := hsp
            exact end_ S6 fun s7 J7 => ⟨_, _, J7, q6⟩
          | brk =>
            obtain ⟨σ6, H6, S6, q6⟩ := hsp
            exact end_ S6 fun s7 J7 => ⟨_, _, J7, q6⟩
          | cont =>
            obtain ⟨σ6, H6, S6, q6⟩ := hsp
            exact end_ S6 fun s7 J7 => ⟨_, _, J7, q6⟩
          | ret u =>
            obtain ⟨v6, σ6, H6, S6, r6, q6⟩ := hsp
            exact end_ S6 fun s7 J7 => ⟨_, _, _, J7, r6, q6⟩
        | false =>
          show wpAny _ X.A (handleBy (.ref a) X.env hds2) _ _ _
          exact ih (hno rfl)
    exact go hh w
  · cases f with
    | next =>
      obtain ⟨σ', H', J', q⟩ := hsp
      exact wpAny_execs_nil ⟨σ', H', J'.ofTry ok, q⟩
    | brk =>
      obtain ⟨σ', H', J', q⟩ := hsp
      exact ⟨σ', H', J'.ofTry ok, q⟩
    | cont =>
      obtain ⟨σ', H', J', q⟩ := hsp
      exact ⟨σ', H', J'.ofTry ok, q⟩
    | ret u =>
      obtain ⟨v, σ', H', J', r, q⟩ := hsp
      exact ⟨v, σ', H', J'.ofTry ok, r, q⟩
end
end L2
end

section
set_option autoImplicit false
set_option linter.all false
set_option Elab.async false
set_option maxRecDepth 100000
set_option maxHeartbeats 4000000
/-! isinstance of a caught error, its dict there or not. -/
namespace PySem.W
open PySem PySem.Spec PySem.Calls PyProof.Rows
section
variable {prog : Program} {w : World} {A : Around} {E : Value → Shared → Prop} {s : Shared} {K : Frag} {x D : Addr} {ox : Obj} {od : Option Obj}
theorem findObj_dataD {C : Addr} {name : Str} {a g : Value} (hc : (clsIn K C).isSome = true) (ha : findIn K (.ref C) name = some (some a)) (hg : specialIn K a "__get__" = some (some g)) (ht : takesIn K a = some true) : findObj K C od name = some (.bind g a) := by
  obtain ⟨cd, hc⟩ := Option.isSome_iff_exists.mp hc
  unfold findObj
  rw [hc, Option.bind_some, ha, Option.bind_some]
  simp [hg, ht]
theorem kin_classD {Q : Option Value → Shared → Prop} (hga : findIn K (.ref D) "__getattribute__" = some (some (.builtin "BaseException.__getattribute__"))) (hgt : findIn K (.ref D) "__getattr__" = some none) (hsub : subIn K (.ref D) (.type "BaseException") = some true)
    (hdct : hasDictIn K D = true) (ha : findIn K (.ref D) "__class__" = some (some (.builtin "object.__class__")))
    (hn : specialIn K (.builtin "object.__class__") "__get__" = some (some (.builtin "getset_descriptor.__get__"))) (htk : takesIn K (.builtin "object.__class__") = some true) (hm : mroIn K D (.type "object") = some true)
    (X : K.In s.heap) (I : InstAt s.heap x ox D od) (h : Q (some (.ref D)) { s with toks := s.toks + 1 }) : wpAny (model prog w) A (getAttr? (.ref x) "__class__") Q E s := by
  have hf : findObj K D od "__class__" = some (.bind (.builtin "getset_descriptor.__get__") (.builtin "object.__class__")) := findObj_dataD (by obtain ⟨cd, hc, _⟩ := any_some hdct; rw [hc]; rfl) ha hn htk
  obtain ⟨hp, g, d, t, os⟩ := s
  have L0 := I.type (M := model prog w)
  have L1 := looks_findIn (M := model prog w) X hga
  have L2 := looks_findIn (M := model prog w) X hgt
  have L3 := looks_find (M := model prog w) X I hf
  have sub : Looks (model prog w) hp (isInstance (.ref x) (.type "BaseException")) true := L0.andThen (looks_subIn X hsub)
  have hx0 : (false && onTheHeap (Value.builtin "BaseException.__getattribute__")) = false := rfl
  have hx2 : (Value.builtin "BaseException.__getattribute__" == Value.builtin "object.__getattribute__") = false := by decide +kernel
  have hx1 : (onTheHeap (Value.ref D) && Value.builtin "BaseException.__getattribute__" == Value.builtin "object.__getattribute__") = false := by rw [hx2]; rfl
  unfold getAttr? getAttrBy? getAttrBy
  refine wpAny_bind (wpAny_mkText (wpAny_bind (wpAny_attempt (wpAny_holding (wpAny_bind (L0.at (wpAny_bind (L1.at ?_))))))))
  show wpAny _ _ (if (onTheHeap (Value.ref D) && Value.builtin "BaseException.__getattribute__" == Value.builtin "object.__getattribute__") = true then _ else _) _ _ _
  rw [hx1, if_neg Bool.false_ne_true]
  unfold getAttrByItsOwn hookBefore
  refine wpAny_bind ?_
  rw [if_pos (show onTheHeap (Value.ref D) = true from rfl)]
  refine L2.at ?_
  refine wpAny_bind (wpAny_attempt (wpAny_holding ?_))
  unfold callGetattribute
  rw [hx0, if_neg Bool.false_ne_true]
  unfold boundAndCalled
  rw [PySem.F.excAttr_ValueError.ga.bind (.ref x)]
  refine wpAny_bind (wpAny_pure ?_)
  show wpAny _ _ (call (.builtin "BaseException.__getattribute__") [.ref x, .str "__class__" t]) _ _ _
  refine wpAny_call (codeAny_call_builtin PySem.F.excAttr_ValueError.ga.plain PySem.F.entry_bexc_ga ?_)
  refine @check_slot (model prog w) _ _ ⟨hp, g, d, t + 1, os⟩ "BaseException.__getattribute__" "BaseException" "__getattribute__" (.ref x) [.str "__class__" t] [] _ (by decide +kernel) (by decide +kernel) sub (PySem.F.args_bexc_ga (.ref x) (.str "__class__" t)) ?_
  unfold Builtin.«object.__getattribute__»
  refine wpAny_bind (wpAny_of_eq (a := ((Value.ref x : Value), [Value.str "__class__" t])) (by first | rfl | (simp only [slotArgs]; rfl)) ?_)
  refine wpAny_bind (wpAny_pure (wpAny_bind (L0.at (wpAny_bind (L3.at ?_)))))
  show wpAny _ _ (holding [Value.builtin "object.__class__"] (call (.builtin "getset_descriptor.__get__") [.builtin "object.__class__", .ref x, .ref D]) >>= ret) _ _ _
  refine wpAny_bind (wpAny_holding (wpAny_call (class_get (s := ⟨hp, g, d, t + 1, os⟩) (ox := ox) (od := od) X I hm ?_)))
  refine wpAny_pure ?_
  show wpAny _ _ (handedOut (.ref D)) _ _ _
  rw [handedOut_of (v := .ref D) rfl]
  first
    | exact wpAny_pure (wpAny_pure h)
    | exact wpAny_pure h
    | exact wpAny_pure (wpAny_bind (wpAny_pure (wpAny_pure h)))
theorem kitx_excD (hga : findIn K (.ref D) "__getattribute__" = some (some (.builtin "BaseException.__getattribute__"))) (hgt : findIn K (.ref D) "__getattr__" = some none) (hsub : subIn K (.ref D) (.type "BaseException") = some true) (hdct : hasDictIn K D = true) (ha : findIn K (.ref D) "__class__" = some (some (.builtin "object.__class__")))
    (hn : specialIn K (.builtin "object.__class__") "__get__" = some (some (.builtin "getset_descriptor.__get__"))) (htk : takesIn K (.builtin "object.__class__") = some true) (hm : mroIn K D (.type "object") = some true) :
    KitX K (.ref x) (.ref D) (fun h => InstAt h x ox D od) where
  ty := fun _ _ _ I => I.type
  it := fun _ _ X _ => by
    obtain ⟨cdD, hcD, _⟩ := any_some hdct
    unfold clsIn at hcD
    split at hcD
    · rename_i c' d' cd' sl' ho
      intro A' Q' E' s' k q
      unfold isType loadHead
      exact wpAny_bind (wpAny_loadPart (k _ _ (X _ _ ho)) (wpAny_pure q))
    · cases hcD
  ne := fun h tp dd its n sl X htp => by
    obtain ⟨cdD, hcD, _⟩ := any_some hdct
    refine Bool.eq_false_iff.mpr fun q => ?_
    have e : D = tp := Value.ref.inj (beq_iff_eq.mp q)
    subst e
    unfold clsIn at hcD
    split at hcD
    · rename_i c' d' cd' sl' ho
      have z := (X _ _ ho).symm.trans htp
      cases z
    · cases hcD
  ca := fun X I k => kin_classD hga hgt hsub hdct ha hn htk hm X I k
end
end PySem.W
namespace L2
open PySem PySem.Spec PyProof.Rows
/-- the dict of an exception -/
def DctE (d : Option Addr) (H : Hp) : Prop := d = none ∨ ∃ dx fs, d = some dx ∧ H dx = some (.xd fs)
def rIsD (K : PySem.W.Frag) (D a : Addr) (d : Option Addr) : List V → Hp → VK → Prop := fun xs H Q => ∃ (c : V) (cv : Value) (b : Bool), xs = [.ref a, c] ∧ (∀ u, RelV c u → u = cv) ∧ PySem.W.kitOne K (.ref D) cv = some b ∧ DctE d H ∧ Q (.bl b) H
theorem call_isD {X : Cx} {a D : Addr} {oe : Obj} {d : Option Addr} {pn : List (Addr × Obj)} (C : ExcC X.K D) (hz : Zc (.ref D) d oe) (hf : ∃ vs, oe.data = .fields vs) : CallR (X.suite a ((a, oe) :: pn)) (.builtin "isinstance") (rIsD X.K D a d) := by
  intro pins s σ H xs us Q I r h
  obtain ⟨c, cv, b, rfl, hcv, e, hd, q⟩ := h
  cases r with
  | cons rx rr =>
    cases rr with
    | cons rt rr =>
      cases rr
      cases rx
      have ec := hcv _ rt
      subst ec
      obtain ⟨hget, _⟩ := I.pin (a, oe) (List.mem_append.mpr (.inl List.mem_cons_self))
      obtain ⟨vs, hv⟩ := hf
      have J : ∃ od, PySem.W.InstAt s.heap a oe D od := by
        rcases hd with e | ⟨dx, fs, e, hx⟩
        · subst e
          refine ⟨none, ?_⟩
          obtain ⟨oc, od, oda, osl⟩ := oe
          obtain ⟨h1, h2⟩ := hz
          dsimp only at h1 h2 hv
          subst h1 h2 hv
          exact ⟨hget, rfl, rfl, trivial⟩
        · subst e
          obtain ⟨mA, hns, hr⟩ := (show ObjOk X.prog X.w H s.heap dx (.xd fs) from I.hok dx _ hx)
          obtain ⟨od, ho, hl⟩ := lookIn_ns hns
          exact ⟨some od, hget, hz.1, by unfold PySem.W.notCls; rw [hv] <;> rfl, by rw [hz.2]; exact ho⟩
      obtain ⟨od, J⟩ := J
      exact PySem.W.kia_one (PySem.W.kitx_excD C.hg C.hk C.hs C.hd C.ha C.hn C.ht C.hm) I.kIn J e (fun z => nomatch z) fun tk => ⟨.bl b, H, I.kept (t' := tk) fun _ _ z => z, rfl, q⟩
end L2
end

section
set_option autoImplicit false
set_option linter.all false
set_option Elab.async false
set_option maxRecDepth 100000
set_option maxHeartbeats 4000000
/-! raise, try .. except: the evaluator's and the model's. -/
namespace Py
open L2 (V Hp HO SqL SqT Rd upd upd_same upd_ne ne_of ne_of_none Cx PE PT PW PA TE TT TA VK R2 OpR tOp thn EP TP Inv RelV CallR Sp PI TI Walk YAt YFn YPair PG PGs TG TGs PTs PS PSs TS Ends)
open PySem (Expr Pos Operator CmpOp Value Shared Sem wpAny Stmt ExceptHandler Obj)
/-- what the module's top says of an exception's class -/
structure ExF (X : Cx) (n : Nat) (C : Ad) : Prop where
  at_ : exC X.K n = some C
  mg : X.mg (exN n) = some (.ref C)
  exc : PySem.W.excIn X.K C [.type "ValueError", .type "Exception", .type "BaseException", .type "object"] "ValueError.__new__" = true
  keep : PySem.W.keepIn X.K (.ref C) = true
  sub : PySem.W.subIn X.K (.ref C) (.type "BaseException") = some true
  ty : PySem.W.typeIn X.K (.ref C) = some (.type "type")
section
variable {X : Cx} {W : WE} {pos pos' p p2 : Pos}
/-- raise Malformed('..') -/
theorem s_raise {C : Ad} {m : Str} {j : Nat} {n : Nat} (hc : X.calm = true) (tk : L2.Takes X (wE W)) (F : ExF X n C) (hg : L2.Gl X (exN n)) (hd : (exN n == ("__debug__" : PySem.Str)) = false) :
    PS X (.Raise (some (.Call (.Name (exN n) p) [.Constant (.str m) j p2] [] pos)) none pos') (tS X.K W fun s => some (.ex ⟨n, none⟩ s)) :=
  ps_imp (L2.ps_raise hc tk (L2.pmk_own PySem.F.excBase_ValueError F.exc F.mg F.keep (L2.raises_own F.sub F.ty) hg hd)) fun D σ H h => by
    obtain ⟨θ, st, R, h⟩ := h
    have h : ws X.K W σ θ st H ⟨n, none⟩ st := h
    cases W with
    | none => exact h.elim
    | some w => exact h (.ref C) none σ θ H (.refl R) ⟨C, F.at_, rfl, rfl⟩
/-! ### except clauses -/
/-- what is known of the exception: a the exception, i its slot, c its class -/
def tHI (K : Kf) (c : Nat) (cls : Value) (d : Option Ad) (a : Ad) (i : Option Nat) (σ : Sg) (H : Hp) : Prop := (∀ j, i = some j → j < σ.length → σ[j]? = some (some (.ref a))) ∧ (∃ C, exC K c = some C ∧ cls = .ref C) ∧ L2.DctE d H
/-- what a clause's value asks -/
def tHP (K : Kf) (c : Nat) (cls : Value) (d : Option Ad) (a : Ad) (i : Option Nat) : HP → TE
  | .c v => fun σ H Q => tHI K c cls d a i σ H ∧ ∀ w, (∀ θ H, RV K θ H v w) → Q w H
  | .reason => fun σ H Q => tHI K c cls d a i σ H ∧ ∃ dx fs w, d = some dx ∧ H dx = some (.xd fs) ∧ fs.lookup ("reason" : Str) = some w ∧ Q w H
def tHR (K : Kf) (c : Nat) (i : Option Nat) : HR → Ad → Value → Option Ad → TS
  | .one p => fun a cls d D σ H => tHP K c cls d a i p σ H D.rt
  | .two p q => fun a cls d D σ H => tHP K c cls d a i p σ H fun v H1 => tHP K c cls d a i q σ H1 fun w H2 => ∀ b, H2 b = none → D.rt (.ref b) (upd H2 b (.lst [v, w]))
/-- the clauses, as the layer has them -/
def hcl (K : Kf) : Hs → List L2.Hcl
  | .nil => []
  | .cons c i r hs => (match exC K c with
    | some C => .ref C
    | none => .none, i, tHR K c i r) :: hcl K hs
/-- the classes, the slots of the clauses -/
def HsAt : Hs → Nat → Prop
  | .nil, _ => False
  | .cons c _ _ hs, n => n = c ∨ HsAt hs n
def tryM (f : M Fl) (hs : Hs) : M Fl := fun s => match f s with
  | some (.ex x s') => exh hs x s'
  | r => r
end
/-- the slot of a clause's name goes -/
theorem PostS.gone {K : Kf} {σ σ' : Sg} {θ θ' : List Ad} {st st' : S} {H H' : Hp} (p : PostS K σ θ st H σ' θ' st' H') {i : Nat} {a : Ad} : PostS K σ θ st H (σ'.set i (some (.ref a))) θ' (gone (some i) st') H' := by
  have look : ∀ (j : Nat) (sv : SV), (st'.e.set i none)[j]? = some (some sv) → j ≠ i ∧ st'.e[j]? = some (some sv) := fun j sv h => by
    rcases set_look h with ⟨_, _, q⟩ | ⟨hne, h⟩
    · cases q
    · exact ⟨hne, h⟩
  refine ⟨p.keep, p.grow, fun b ⟨j, xs, h1, h2⟩ => ?_, ⟨⟨?_, fun j sv h => ?_, fun j k b h1 h2 => ?_⟩, p.rel.m⟩⟩
  · obtain ⟨hne, h1⟩ := look j _ h1
    rw [List.getElem?_set_ne (Ne.symm hne)] at h2
    exact p.own b ⟨j, xs, h1, h2⟩
  · show (st'.e.set i none).length = _
    rw [List.length_set, List.length_set]
    exact p.rel.e.len
  · obtain ⟨hne, h⟩ := look j _ h
    obtain ⟨v, h1, h2⟩ := p.rel.e.at_ j sv h
    exact ⟨v, by rw [List.getElem?_set_ne (Ne.symm hne)]; exact h1, h2⟩
  · obtain ⟨xs, p1, p2⟩ := h1
    obtain ⟨ys, q1, q2⟩ := h2
    obtain ⟨hj, p1⟩ := look j _ p1
    obtain ⟨hk, q1⟩ := look k _ q1
    rw [List.getElem?_set_ne (Ne.symm hj)] at p2
    rw [List.getElem?_set_ne (Ne.symm hk)] at q2
    exact p.rel.e.one j k b ⟨xs, p1, p2⟩ ⟨ys, q1, q2⟩
theorem PostS.new {K : Kf} {σ σ' : Sg} {θ θ' : List Ad} {st st' : S} {H H' : Hp} (p : PostS K σ θ st H σ' θ' st' H') {b : Ad} {o : HO} (n : H' b = none) : PostS K σ θ st H σ' θ' st' (upd H' b o) :=
  p.trans (Post.new p.rel n).toS
section
variable {K : Kf}
theorem EXc.at_ {e : Ex} {cls : Value} {d : Option Ad} {H : Hp} (x : EXc K e cls d H) : ∃ C, exC K e.cls = some C ∧ cls = .ref C := let ⟨C, h1, h2, _⟩ := x; ⟨C, h1, h2⟩
theorem EXc.dct {e : Ex} {cls : Value} {d : Option Ad} {H : Hp} (x : EXc K e cls d H) : L2.DctE d H := by
  obtain ⟨C, h1, h2, h3⟩ := x
  cases ea : e.arg with
  | none => rw [ea] at h3; exact .inl h3
  | some s =>
    rw [ea] at h3
    obtain ⟨dx, fs, e1, e2, _⟩ := h3
    exact .inr ⟨dx, fs, e1, e2⟩
theorem hp_ok {e : Ex} {cls : Value} {d : Option Ad} {a : Ad} {i : Option Nat} {σ : Sg} {H : Hp} {Q : VK} {p : HP} {v : Val} (xc : EXc K e cls d H) (hv : hpV e p = some v) (hi : ∀ j, i = some j → j < σ.length → σ[j]? = some (some (.ref a))) (q : ∀ w, (∀ θ H, RV K θ H v w) → Q w H) : tHP K e.cls cls d a i p σ H Q := by
  have hI : tHI K e.cls cls d a i σ H := ⟨hi, xc.at_, xc.dct⟩
  cases p with
  | c u => cases hv; exact ⟨hI, q⟩
  | reason =>
    obtain ⟨C, _, _, xa⟩ := xc
    have hv : e.arg.map Val.str = some v := hv
    cases ea : e.arg with
    | none => rw [ea] at hv; cases hv
    | some s =>
      rw [ea] at hv xa
      cases hv
      obtain ⟨dx, fs, e1, e2, e3⟩ := xa
      exact ⟨hI, dx, fs, .str s, e1, e2, e3, q _ fun θ H => by unfold RV; rfl⟩
theorem hr_ok {e : Ex} {cls : Value} {d : Option Ad} {a : Ad} {i : Option Nat} {σ0 σ : Sg} {θ0 θ : List Ad} {st0 st : S} {H0 H : Hp} {D : Ends} {r : HR} {v : SV} (xc : EXc K e cls d H) (hv : hrV e r = some v) (hi : ∀ j, i = some j → j < σ.length → σ[j]? = some (some (.ref a)))
    (p : PostS K σ0 θ0 st0 H0 σ θ st H) (k : ∀ σ' θ' H', PostS K σ0 θ0 st0 H0 σ' θ' st H' → ∀ w, RT K θ' st σ' H0 H' v w → D.rt w H') : tHR K e.cls i r a cls d D σ H := by
  cases r with
  | one x =>
    obtain ⟨u, h1, rfl⟩ := Option.map_eq_some_iff.mp hv
    exact hp_ok xc h1 hi fun w hw => k σ θ H p w (hw θ H)
  | two x y =>
    obtain ⟨u, h1, hv⟩ := Option.bind_eq_some_iff.mp hv
    obtain ⟨u2, h2, rfl⟩ := Option.map_eq_some_iff.mp hv
    refine hp_ok xc h1 hi fun w hw => hp_ok xc h2 hi fun w2 hw2 b hb => ?_
    exact k σ θ _ (p.new hb) (.ref b) ⟨b, [w, w2], rfl, upd_same, .cons (hw _ _) (.cons (hw2 _ _) .nil), notin_of_none p.rel.m hb, .inl (p.keep.dom b hb)⟩
/-- the classes are told apart -/
def Exm (K : Kf) : Prop := ∀ i j Ci Cj, exC K i = some Ci → exC K j = some Cj → PySem.W.exmOne K (.ref Ci) (.ref Cj) = some (decide (i = j))
theorem exh_ok {W : WE} {D : Ends} {σ0 : Sg} {θ0 : List Ad} {st0 : S} {H0 : Hp} (M : Exm K) : ∀ (hs : Hs), (∀ c, HsAt hs c → ∃ C, exC K c = some C) → ∀ (e : Ex) (s' : S), wpO (exh hs e s') (ws K W σ0 θ0 st0 H0) (fun fl st' => ∀ σ' θ' H', PostS K σ0 θ0 st0 H0 σ' θ' st' H' → match fl with
    | .nx => D.nx σ' H'
    | .rt sv => ∀ v, RT K θ' st' σ' H0 H' sv v → D.rt v H') → ∀ cls d σ θ H, PostS K σ0 θ0 st0 H0 σ θ s' H → EXc K e cls d H → L2.wNmd K (wE W) D (hcl K hs) cls d σ H
  | .nil, _, e, s', h, cls, d, σ, θ, H, p, xc => by
    have h : ws K W σ0 θ0 st0 H0 e s' := h
    cases W with
    | none => exact h.elim
    | some w => exact h cls d σ θ H p xc
  | .cons c i r hs, hC, e, s', h, cls, d, σ, θ, H, p, xc => by
    obtain ⟨Cj, hj⟩ := hC c (.inl rfl)
    obtain ⟨Ci, h1, e1, _⟩ := id xc
    subst e1
    have m := M _ _ _ _ h1 hj
    unfold hcl
    rw [hj]
    dsimp only
    unfold exh at h
    have no : e.cls ≠ c → L2.wNmd K (wE W) D (hcl K hs) (.ref Ci) d σ H := fun hne => by
      rw [if_neg hne] at h
      exact exh_ok M hs (fun c h => hC c (.inr h)) e s' h _ _ _ _ _ p xc
    have yes : e.cls = c → ∃ v, hrV e r = some v ∧ ∀ σ' θ' H', PostS K σ0 θ0 st0 H0 σ' θ' (Py.gone i s') H' → ∀ w, RT K θ' (Py.gone i s') σ' H0 H' v w → D.rt w H' := fun he => by
      rw [if_pos he] at h
      cases ev : hrV e r with
      | none => rw [ev] at h; exact h.elim
      | some v =>
        rw [ev] at h
        exact ⟨v, rfl, h⟩
    cases i with
    | none =>
      refine ⟨_, m, fun hb a ha => ?_, fun hb => no (of_decide_eq_false hb)⟩
      have he := of_decide_eq_true hb
      obtain ⟨v, ev, k⟩ := yes he
      have q := hr_ok xc ev (i := none) (a := a) (fun j z => nomatch z) p k
      rw [he] at q
      exact q
    | some i =>
      refine ⟨_, m, fun hb a ha => ?_, fun hb => no (of_decide_eq_false hb)⟩
      have he := of_decide_eq_true hb
      obtain ⟨v, ev, k⟩ := yes he
      have q := hr_ok (D := L2.goneD i D) (i := some i) (a := a) xc ev (fun j z hj => by cases z; rw [List.length_set] at hj; rw [List.getElem?_set_self hj]) p.gone k
      rw [he] at q
      exact q
/-- try .. except -/
theorem s_try {X : Cx} {W : WE} {body : List Stmt} {h₀ : ExceptHandler} {hds : List ExceptHandler} {hs : Hs} {fb : M Fl} {pos : Pos} (hst : X.stack = X.env :: X.outer) (hf : X.env.frame = some X.env.locals) (hN : X.N.Nodup) (tk : L2.Takes X (wE W)) (M : Exm X.K) (hC : ∀ c, HsAt hs c → ∃ C, exC X.K c = some C)
    (hb : ∀ (w : L2.WX) (pn : List (Ad × Obj)) (xe : Value → Shared → Prop), L2.Takes (X.tr pn xe) w → PySem.PassesOwn (PySem.model X.prog X.w) X.A X.env xe → PSs (X.tr pn xe) body (tS X.K (some w) fb)) (hh : L2.HdsN X (h₀ :: hds) (hcl X.K hs)) :
    PS X (.Try body (h₀ :: hds) [] [] pos) (tS X.K W (tryM fb hs)) :=
  ps_imp (L2.ps_tryN (tb := fun w => tS X.K (some w) fb) hst hf hN tk hb hh) fun D σ H h => by
    obtain ⟨θ, st, R, h⟩ := h
    refine ⟨θ, st, R, ?_⟩
    unfold tryM at h
    unfold wpO at h ⊢
    cases e : fb st with
    | none => rw [e] at h; exact h.elim
    | some r =>
      rw [e] at h
      cases r with
      | ok fl s' => exact h
      | ex x s' => exact fun cls d σ' θ' H' p xc => exh_ok M hs hC x s' h cls d σ' θ' H' p xc
end
end Py
end

section
set_option autoImplicit false
set_option linter.all false
set_option Elab.async false
set_option maxRecDepth 100000
set_option maxHeartbeats 4000000
/-! What stands in an except clause. -/
namespace Py
open L2 (V Hp HO SqL SqT Rd upd upd_same upd_ne ne_of ne_of_none Cx PE PT PW PA TE TT TA VK R2 OpR tOp thn EP TP Inv RelV CallR Sp PI TI Walk YAt YFn YPair PG PGs TG TGs PTs PS PSs TS Ends)
open PySem (Expr Pos Operator CmpOp Value Shared Sem wpAny Stmt ExceptHandler Obj)
/-- the slots are as many as the names -/
theorem pe_len {X : Cx} {e : Expr} {t t' : TE} (h : PE X e t) (i : ∀ σ H Q, σ.length = X.N.length → t' σ H Q → t σ H Q) : PE X e t' := ⟨fun pins s σ H Q I q => h.run pins s σ H Q I (i σ H Q I.len q)⟩
theorem pe_if {X : Cx} {e : Expr} {t : TE} {p : Prop} (h : p → PE X e t) (i : ∀ σ H Q, t σ H Q → p) : PE X e t := ⟨fun pins s σ H Q I q => (h (i σ H Q q)).run pins s σ H Q I q⟩
section
variable {X : Cx} {pos p p1 p2 p3 : Pos} {a : Ad} {oe : Obj} {pn : List (Ad × Obj)} {cls : Value} {d : Option Ad} {c : Nat} {i : Option Nat}
/-- a constant, with what it is -/
theorem hc_ok {v : Val} {k : PySem.Const} {j : Nat} {w : V} (h : PE X (.Constant k j p) (L2.tC w)) (hr : ∀ θ H, RV X.K θ H v w) : PE X (.Constant k j p) (tHP X.K c cls d a i (.c v)) := pe_imp h fun σ H Q q => q.2 w hr
/-- the facts of a class that a clause names -/
structure ExH (K : Kf) (c : Nat) (C F : Ad) : Prop where
  at_ : exC K c = some C
  is : L2.ExcC K C
  kit : PySem.W.kitOne K (.ref C) (.ref F) = some true
structure ExG (K : Kf) (c : Nat) (C : Ad) : Prop where
  at_ : exC K c = some C
  xf : L2.XfC K C
  no : PySem.W.findIn K (.ref C) "reason" = some none
/-- e.reason -/
theorem h_reason {C : Ad} {j : Nat} {n : Str} (G : ExG X.K c C) (hz : L2.Zc cls d oe) (hf : ∃ vs, oe.data = .fields vs) (hN : X.N[j]? = some n) (hv : L2.Vis X.env.scope n) (hd : (n == ("__debug__" : Str)) = false) (hcd : (n == ("__classdict__" : Str)) = false)
    (hb : PySem.attributeBase (.Name n p) "reason" X.env (PySem.eval (.Name n p) X.env) = PySem.eval (.Name n p) X.env) :
    PE (X.suite a ((a, oe) :: pn)) (.Attribute (.Name n p) "reason" pos) (tHP X.K c cls d a (some j) .reason) := by
  have hl : j < X.N.length := (List.getElem?_eq_some_iff.mp hN).1
  refine pe_len (L2.pe_xf G.xf G.no hz hf (L2.pe_var (X := X.suite a ((a, oe) :: pn)) hN hv hd hcd) hb) fun σ H Q hlen q => ?_
  obtain ⟨⟨h1, ⟨C', h2, h3⟩, h4⟩, dx, fs, w, e1, e2, e3, q⟩ := q
  rw [G.at_] at h2
  cases h2
  have hlen : σ.length = X.N.length := hlen
  exact ⟨_, h1 j rfl (by omega), rfl, h3, dx, fs, w, e1, e2, e3, q⟩
/-- x if isinstance(e, Fault) else y -/
theorem h_isi {C F : Ad} {j : Nat} {n fn : Str} {x y : Expr} {q : HP} {ty : TE} (G : ExH X.K c C F) (hz : L2.Zc cls d oe) (hf : ∃ vs, oe.data = .fields vs) (hN : X.N[j]? = some n) (hv : L2.Vis X.env.scope n) (hd : (n == ("__debug__" : Str)) = false) (hcd : (n == ("__classdict__" : Str)) = false)
    (hg : L2.Gl X "isinstance") (hm : X.mg "isinstance" = none) (gF : L2.Gl X fn) (mF : X.mg fn = some (.ref F)) (dF : (fn == ("__debug__" : Str)) = false)
    (h1 : PySem.starEach [.Name n p1, .Name fn p2] X.env = (false, PySem.eval (.Name n p1) X.env) :: PySem.starEach [.Name fn p2] X.env) (h2 : PySem.starEach [.Name fn p2] X.env = (false, PySem.eval (.Name fn p2) X.env) :: PySem.starEach [] X.env)
    (ht : ∀ whole, PySem.isTrue (.Call (.Name "isinstance" p) [.Name n p1, .Name fn p2] [] p3) X.env whole = (do let v ← whole; PySem.standAt p3; PySem.holding [v] (PySem.truthy v)))
    (hx : PE (X.suite a ((a, oe) :: pn)) x (tHP X.K c cls d a (some j) q)) (hy : PE (X.suite a ((a, oe) :: pn)) y ty) :
    PE (X.suite a ((a, oe) :: pn)) (.IfExp (.Call (.Name "isinstance" p) [.Name n p1, .Name fn p2] [] p3) x y pos) (tHP X.K c cls d a (some j) q) := by
  have hl : j < X.N.length := (List.getElem?_eq_some_iff.mp hN).1
  have info : ∀ {q : HP} {σ : Sg} {H : Hp} {Q : VK}, tHP X.K c cls d a (some j) q σ H Q → tHI X.K c cls d a (some j) σ H := fun {q σ H Q} h => by
    cases q with
    | c v => exact h.1
    | reason => exact h.1
  refine pe_if (p := cls = .ref C) (fun e => ?_) fun σ H Q h => by
    obtain ⟨_, ⟨C', e1, e2⟩, _⟩ := info h
    rw [G.at_] at e1
    cases e1
    exact e2
  subst e
  have pc : PE (X.suite a ((a, oe) :: pn)) (.Call (.Name "isinstance" p) [.Name n p1, .Name fn p2] [] p3) _ := L2.pe_callB (L2.call_isD (d := d) (pn := pn) G.is hz hf) hg hm (by decide +kernel)
    (L2.pa_cons (L2.pe_var (X := X.suite a ((a, oe) :: pn)) hN hv hd hcd) (L2.pa_cons (L2.pe_glob (X := X.suite a ((a, oe) :: pn)) (v := .ref F) (u := .ref F) gF mF rfl dF) L2.pa_nil h2) h1) (by decide) (by decide) h1 (by rw [h2]; rfl)
  refine pe_len (L2.pe_ifExp (L2.pt_val pc ht) hx hy) fun σ H Q hlen h => ?_
  have hlen : σ.length = X.N.length := hlen
  obtain ⟨i1, i2, i3⟩ := info h
  refine ⟨_, i1 j rfl (by omega), .ref F, .ref F, true, rfl, fun u r => r, G.kit, i3, true, rfl, ?_⟩
  show (if true = true then tHP X.K c (Value.ref C) d a (some j) q σ H Q else ty σ H Q)
  rw [if_pos rfl]
  exact h
/-! ### the suites -/
theorem s_h1 {x : Expr} {q : HP} (h : PE X x (tHP X.K c cls d a i q)) : PSs X [.Return (some x) pos] (tHR X.K c i (.one q) a cls d) := L2.pss_one (L2.ps_ret h)
theorem s_h2 {x y : Expr} {q r : HP} (h : PE X x (tHP X.K c cls d a i q)) (h2 : PE X y (tHP X.K c cls d a i r)) (e1 : PySem.starEach [x, y] X.env = (false, PySem.eval x X.env) :: PySem.starEach [y] X.env) (e2 : PySem.starEach [y] X.env = (false, PySem.eval y X.env) :: PySem.starEach [] X.env) :
    PSs X [.Return (some (.List [x, y] p)) pos] (tHR X.K c i (.two q r) a cls d) := by
  refine pss_imp (L2.pss_one (L2.ps_ret (L2.pe_lst (L2.pa_cons h (L2.pa_cons h2 L2.pa_nil e2) e1)))) fun D σ H hq => ?_
  have mono : ∀ {q : HP} {σ : Sg} {H : Hp} {Q Q' : VK}, tHP X.K c cls d a i q σ H Q → (∀ v, Q v H → Q' v H) → tHP X.K c cls d a i q σ H Q' := fun {q σ H Q Q'} h m => by
    cases q with
    | c v => exact ⟨h.1, fun w hw => m w (h.2 w hw)⟩
    | reason => obtain ⟨i, dx, fs, w, e1, e2, e3, z⟩ := h; exact ⟨i, dx, fs, w, e1, e2, e3, m w z⟩
  show tHP X.K c cls d a i q σ H _
  refine mono hq fun v hv => ?_
  show tHP X.K c cls d a i r σ H _
  refine mono hv fun w hw => ?_
  exact ⟨by rw [PySem.sizeLine_eq]; simp, hw⟩
end
end Py
end

section
set_option autoImplicit false
set_option linter.all false
set_option Elab.async false
set_option maxRecDepth 100000
set_option maxHeartbeats 4000000
/-! x[::-1], x[i::-1]. -/
namespace HT
open PySem PySem.Spec PySem.Calls PyProof.Rows
/-- how many places x[lo::-1] has -/
def rvN (n : Nat) : Option Int → Nat
  | none => n
  | some v => ((if v < 0 then max (v + (n : Int)) (-1) else min v ((n : Int) - 1)) + 1).toNat
theorem rvN_le (n : Nat) (lo : Option Int) : rvN n lo ≤ n := by
  cases lo with
  | none => exact Nat.le_refl _
  | some v =>
    show ((if v < 0 then max (v + (n : Int)) (-1) else min v ((n : Int) - 1)) + 1).toNat ≤ n
    split <;> omega
theorem adjust_rev (lo : Option Int) (n : Nat) : Builtin.Slice.sliceAdjust lo none (-1) (n : Int) = (((rvN n lo : Nat) : Int) - 1, -1) := by
  have h1 : (-1 : Int) < 0 := by decide
  unfold Builtin.Slice.sliceAdjust
  simp only [h1, if_true]
  refine Prod.ext ?_ rfl
  cases lo with
  | none => show (n : Int) - 1 = (n : Int) - 1; rfl
  | some v =>
    show (if v < 0 then max (v + (n : Int)) (-1) else min v ((n : Int) - 1)) = ((((if v < 0 then max (v + (n : Int)) (-1) else min v ((n : Int) - 1)) + 1).toNat : Nat) : Int) - 1
    split <;> omega
theorem places_rev (c : Nat) : Builtin.Slice.slicePlaces ((c : Int) - 1) (-1) (-1) = c := by
  unfold Builtin.Slice.slicePlaces
  have h1 : ¬ ((-1 : Int) > 0) := by decide
  have h2 : -(-1 : Int) = 1 := by decide
  simp only [h1, if_false, h2, Int.ediv_one]
  split <;> omega
theorem fm_congr {α β : Type} {f g : α → Option β} : ∀ {l : List α}, (∀ x ∈ l, f x = g x) → l.filterMap f = l.filterMap g
  | [], _ => rfl
  | x :: l, h => by
    rw [List.filterMap_cons, List.filterMap_cons, h x List.mem_cons_self, fm_congr fun y hy => h y (List.mem_cons_of_mem _ hy)]
theorem pick_rev0 {α : Type} (xs : List α) : ∀ c : Nat, c ≤ xs.length → (List.range c).filterMap (fun k => xs[c - 1 - k]?) = (xs.take c).reverse
  | 0, _ => rfl
  | c + 1, hc => by
    rw [List.range_succ_eq_map, List.filterMap_cons]
    have e0 : xs[c + 1 - 1 - 0]? = some (xs[c]'(by omega)) := by rw [show c + 1 - 1 - 0 = c by omega]; exact List.getElem?_eq_getElem _
    rw [e0]
    dsimp only
    rw [List.filterMap_map, List.take_succ_eq_append_getElem (by omega), List.reverse_append, ← pick_rev0 xs c (by omega)]
    show _ :: _ = _ :: _
    congr 1
    refine fm_congr fun k _ => ?_
    show xs[c + 1 - 1 - (k + 1)]? = xs[c - 1 - k]?
    congr 1
    omega
theorem pick_rev {α : Type} (xs : List α) (c : Nat) (hc : c ≤ xs.length) : (List.range c).filterMap (fun (k : Nat) => xs[(((c : Int) - 1) + (k : Int) * (-1)).toNat]?) = (xs.take c).reverse := by
  rw [← pick_rev0 xs c hc]
  refine fm_congr fun k hk => ?_
  have := List.mem_range.mp hk
  congr 1
  omega
section
variable {prog : Program} {w : World} {A : Around} {E : Value → Shared → Prop} {s : Shared}
theorem sliceApplied_rev {sl : Addr} {vl vu vs : Value} {lo : Option Int} {n : Nat} {Q : Int × Int × Nat → Shared → Prop} (hs : s.heap.IsSliceOf sl vl vu vs) (pl : IsPart vl lo) (pu : IsPart vu none) (ps : IsPart vs (some (-1)))
    (h : Q (((rvN n lo : Nat) : Int) - 1, -1, rvN n lo) s) : wpAny (model prog w) A (Builtin.Slice.sliceApplied (.ref sl) (pure (n : Int))) Q E s := by
  obtain ⟨os, hos, hcs, hds⟩ := id hs
  unfold Builtin.Slice.sliceApplied Builtin.Slice.sliceFields
  refine wpAny_bind (wpAny_bind (wpAny_field hos hds (x := vl) rfl (wpAny_bind (wpAny_field hos hds (x := vu) rfl (wpAny_bind (wpAny_field hos hds (x := vs) rfl (wpAny_pure ?_)))))))
  refine wpAny_bind (slicePart_ ps ?_)
  show wpAny _ _ (if ((-1 : Int) == 0) = true then _ else _) _ _ s
  rw [if_neg (by decide)]
  refine wpAny_bind (slicePart_ pl (wpAny_bind (slicePart_ pu (wpAny_bind (wpAny_pure ?_)))))
  show wpAny _ _ (match Builtin.Slice.sliceAdjust lo none (-1) (n : Int) with | (lo, hi) => pure (lo, (-1 : Int), Builtin.Slice.slicePlaces lo hi (-1))) _ _ s
  rw [adjust_rev lo n]
  show wpAny _ _ (pure (((rvN n lo : Nat) : Int) - 1, (-1 : Int), Builtin.Slice.slicePlaces (((rvN n lo : Nat) : Int) - 1) (-1) (-1))) _ _ s
  rw [places_rev]
  exact wpAny_pure h
theorem getItem_tuple_rev {t sl : Addr} {items : Array Value} {vl vu vs : Value} {lo : Option Int} {Q : Value → Shared → Prop} (ht : IsTup s.heap t items) (hs : s.heap.IsSliceOf sl vl vu vs) (pl : IsPart vl lo) (pu : IsPart vu none) (ps : IsPart vs (some (-1)))
    (h : Q (.ref s.heap.objs.size) { s with heap := s.heap.push { cls := .type "tuple", data := .seq (items.toList.take (rvN items.size lo)).reverse.toArray } })
    (hsz : items.size ≤ sizeLine) : wpAny (model prog w) A (getItem (.ref t) (.ref sl)) Q E s := by
  have hc := rvN_le items.size lo
  have htake : sizeOk (.seq (items.toList.take (rvN items.size lo)).reverse.toArray) := by
    show (items.toList.take (rvN items.size lo)).reverse.toArray.size ≤ sizeLine
    rw [List.size_toArray, List.length_reverse, List.length_take, Array.length_toList]
    omega
  obtain ⟨os, hos, hcs, hds⟩ := id hs
  have hTs : s.TypeIs (.ref sl) "slice" := ⟨os, hos, hcs⟩
  unfold getItem
  try with_reducible refine wpAny_holding ?_
  first | refine wpAny_bind (wpAny_pure ?_) | skip
  refine wpAny_bind (wpAny_sequenceKey ht.typeIs (by decide) ?_)
  refine wpAny_bind (wpAny_callSpecial?_slot (name := Str.ofString "__getitem__") ht.typeIs PyProof.Rows.slot_tuple_getitem
    (wpAny_call_entry PyProof.Rows.slot_tuple_getitem ht.typeIs entry_tuple_getitem ?_ (args_tuple_getitem _ _)))
  show wpAny _ _ (Builtin.Tuple.tupleItemsOf (.ref t) >>= _) _ _ s
  refine wpAny_bind (tupleItemsOf_ ht ?_)
  refine wpAny_bind (wpAny_typeOf hTs ?_)
  rw [if_pos (by decide)]
  refine wpAny_bind (sliceApplied_rev hs pl pu ps ?_)
  have hno : ¬ (((((rvN items.size lo : Nat) : Int) - 1) == 0 && (-1 : Int) == 1 && rvN items.size lo == items.size) = true) := by
    intro q
    rw [Bool.and_eq_true, Bool.and_eq_true] at q
    exact absurd (eq_of_beq q.1.2) (by decide)
  show wpAny _ _ (if ((((rvN items.size lo : Nat) : Int) - 1) == 0 && (-1 : Int) == 1 && rvN items.size lo == items.size) = true then _ else _) _ _ s
  have pk : ((List.range (rvN items.size lo)).filterMap fun (k : Nat) => items[((((rvN items.size lo : Nat) : Int) - 1) + (k : Int) * (-1)).toNat]?).toArray = (items.toList.take (rvN items.size lo)).reverse.toArray := by
    rw [← pick_rev items.toList _ (by rw [Array.length_toList]; exact hc)]
    refine congrArg List.toArray (fm_congr fun k _ => ?_)
    rw [Array.getElem?_toList]
  rw [if_neg hno, pk]
  first
    | exact wpAny_bind (m := Builtin.Tuple.tupleExact _) (wpAny_newObj_type (wpAny_pure ⟨_, rfl, wpAny_pure h⟩) htake)
    | exact wpAny_bind (m := Builtin.Tuple.tupleExact _) (wpAny_newObj_type (wpAny_bind (wpAny_pure (wpAny_pure ⟨_, rfl, wpAny_pure h⟩))) htake)
    | exact wpAny_bind (wpAny_bind (m := Builtin.Tuple.tupleExact _) (wpAny_newObj_type (wpAny_pure (wpAny_pure ⟨_, rfl, wpAny_pure h⟩)) htake))
    | exact wpAny_bind (wpAny_bind (m := Builtin.Tuple.tupleExact _) (wpAny_newObj_type (wpAny_pure ⟨_, rfl, wpAny_pure h⟩) htake))
end
end HT
namespace L2
open PySem PySem.Spec PyProof.Rows
section
variable {X : Cx} {e : Expr} {te : TE} {tl : TO} {k : Nat} {p1 p2 p3 pos : Pos}
/-- x[::-1], a list's or a tuple's -/
def tRev2 (K : PySem.W.Frag) (te : TE) : TE := fun σ H Q => te σ H fun x H1 => (∃ a xs, x = .ref a ∧ SqL K H1 a xs ∧ ∀ p, H1 p = none → Q (.ref p) (upd H1 p (.lst xs.reverse))) ∨ (∃ a xs, x = .ref a ∧ SqT K H1 a xs ∧ ∀ p, H1 p = none → Q (.ref p) (upd H1 p (.tup xs.reverse)))
theorem pe_rev2 (he : PE X e te) : PE X (.Subscript e (.Slice none none (some (.UnaryOp .USub (.Constant (.int 1) k p1) p2)) p3) pos) (tRev2 X.K te) := by
  refine ⟨fun pins s σ H Q I h => ?_⟩
  refine Subscript_ (thn (he.run pins s σ H _ I h) fun v s1 ⟨x, H1, I1, r1, q1⟩ => ?_)
  have hst : PO X (some (.UnaryOp .USub (.Constant (.int 1) k p1) p2)) (tPart (tUn (rU fun i => .int (-i)) (tC (.int 1)))) := po_some (pe_un un_neg pe_int)
  refine wpAny_Slice (thn (po_none.run pins s1 σ H1 (fun o H2 => o = none ∧ H2 = H1) I1 ⟨rfl, rfl⟩) fun vl s2 ⟨l, H2, I2, pl, el, e2⟩ => ?_)
  subst el e2
  refine thn (po_none.run pins s2 σ H2 (fun o H3 => o = none ∧ H3 = H2) I2 ⟨rfl, rfl⟩) fun vu s3 ⟨u, H3, I3, pu, eu, e3⟩ => ?_
  subst eu e3
  refine thn (hst.run pins s3 σ H3 (fun o H4 => o = some (-1) ∧ H4 = H3) I3 ⟨1, rfl, -1, rfl, rfl, rfl⟩) fun vs s4 ⟨o, H4, I4, ps, eo, e4⟩ => ?_
  subst eo e4
  have I5 : Inv X pins σ H4 { s4 with heap := s4.heap.push { cls := .type "slice", data := .fields #[vl, vu, vs] } } := I4.kept (t' := s4.toks) fun b ob q => Heap.get?_push_of_some _ q
  rcases q1 with ⟨a, xs, ex, hx, q⟩ | ⟨a, xs, ex, hx, q⟩
  · subst ex
    cases r1
    obtain ⟨its, r, ht, hz⟩ := I5.list hx
    have hlen := r.length
    show wpAny (model X.prog X.w) X.A (subscriptTail e (.Slice none none (some (.UnaryOp .USub (.Constant (.int 1) k p1) p2)) p3) (.ref a) (.ref s4.heap.objs.size)) (EP X pins σ Q) X.xe { s4 with heap := s4.heap.push { cls := .type "slice", data := .fields #[vl, vu, vs] } }
    refine tail_any (ops := [.ref a, .ref s4.heap.objs.size]) ht.isList.typeIs (PySem.slot_list_getitem.lookup) ?_ (by with_unfolding_all rfl)
    refine wpAny_getItem_list_slice ht.isList (Heap.IsSliceOf.new _ vl vu vs) pl pu ps (by decide) ?_ (by rw [List.size_toArray]; omega)
    rw [PySem.W.krv_pick]
    refine ⟨.ref _, _, I5.laid (t' := s4.toks) (o := .lst xs.reverse) (fun b ob q => Heap.get?_push_of_some _ q) (Nat.le_refl _) ?_, rfl, q _ (I5.hok.fresh (Nat.le_refl _))⟩
    exact ⟨by rw [List.length_reverse]; exact hz, _, 0, r.reverse, Heap.get?_push_size _ rfl⟩
  · subst ex
    cases r1
    obtain ⟨its, r, ht, hz⟩ := I5.tuple hx
    have hlen : its.toArray.size = xs.length := by rw [List.size_toArray]; exact r.length.symm
    show wpAny (model X.prog X.w) X.A (subscriptTail e (.Slice none none (some (.UnaryOp .USub (.Constant (.int 1) k p1) p2)) p3) (.ref a) (.ref s4.heap.objs.size)) (EP X pins σ Q) X.xe { s4 with heap := s4.heap.push { cls := .type "slice", data := .fields #[vl, vu, vs] } }
    refine tail_any (ops := [.ref a, .ref s4.heap.objs.size]) ht.typeIs (PyProof.Rows.slot_tuple_getitem.lookup) ?_ (by with_unfolding_all rfl)
    refine HT.getItem_tuple_rev ht (Heap.IsSliceOf.new _ vl vu vs) pl pu ps ?_ (by rw [hlen]; exact hz)
    have ew : (its.toArray.toList.take (HT.rvN its.toArray.size none)).reverse = its.reverse := by
      show (its.take its.toArray.size).reverse = _
      rw [List.size_toArray, List.take_length]
    rw [ew]
    refine ⟨.ref _, _, I5.laid (t' := s4.toks) (o := .tup xs.reverse) (fun b ob q => Heap.get?_push_of_some _ q) (Nat.le_refl _) ?_, rfl, q _ (I5.hok.fresh (Nat.le_refl _))⟩
    exact ⟨by rw [List.length_reverse]; exact hz, _, r.reverse, IsTup.new _ _⟩
/-- x[i::-1], a tuple's -/
def tRevF (K : PySem.W.Frag) (i : Int) (te : TE) : TE := fun σ H Q => te σ H fun x H1 => ∃ a xs, x = .ref a ∧ SqT K H1 a xs ∧ ∀ p, H1 p = none → Q (.ref p) (upd H1 p (.tup (xs.take (HT.rvN xs.length (some i))).reverse))
theorem pe_revF {j : Nat} {p4 p5 : Pos} {n : Nat} (he : PE X e te) : PE X (.Subscript e (.Slice (some (.UnaryOp .USub (.Constant (.int n) j p4) p5)) none (some (.UnaryOp .USub (.Constant (.int 1) k p1) p2)) p3) pos) (tRevF X.K (-(n : Int)) te) := by
  refine ⟨fun pins s σ H Q I h => ?_⟩
  refine Subscript_ (thn (he.run pins s σ H _ I h) fun v s1 ⟨x, H1, I1, r1, a, xs, ex, hx, q⟩ => ?_)
  have hlo : PO X (some (.UnaryOp .USub (.Constant (.int n) j p4) p5)) (tPart (tUn (rU fun i => .int (-i)) (tC (.int n)))) := po_some (pe_un un_neg pe_int)
  have hst : PO X (some (.UnaryOp .USub (.Constant (.int 1) k p1) p2)) (tPart (tUn (rU fun i => .int (-i)) (tC (.int 1)))) := po_some (pe_un un_neg pe_int)
  refine wpAny_Slice (thn (hlo.run pins s1 σ H1 (fun o H2 => o = some (-(n : Int)) ∧ H2 = H1) I1 ⟨(n : Int), rfl, -(n : Int), rfl, rfl, rfl⟩) fun vl s2 ⟨l, H2, I2, pl, el, e2⟩ => ?_)
  subst el e2
  refine thn (po_none.run pins s2 σ H2 (fun o H3 => o = none ∧ H3 = H2) I2 ⟨rfl, rfl⟩) fun vu s3 ⟨u, H3, I3, pu, eu, e3⟩ => ?_
  subst eu e3
  refine thn (hst.run pins s3 σ H3 (fun o H4 => o = some (-1) ∧ H4 = H3) I3 ⟨1, rfl, -1, rfl, rfl, rfl⟩) fun vs s4 ⟨o, H4, I4, ps, eo, e4⟩ => ?_
  subst eo e4
  have I5 : Inv X pins σ H4 { s4 with heap := s4.heap.push { cls := .type "slice", data := .fields #[vl, vu, vs] } } := I4.kept (t' := s4.toks) fun b ob q => Heap.get?_push_of_some _ q
  subst ex
  cases r1
  obtain ⟨its, r, ht, hz⟩ := I5.tuple hx
  have hlen : its.toArray.size = xs.length := by rw [List.size_toArray]; exact r.length.symm
  show wpAny (model X.prog X.w) X.A (subscriptTail e (.Slice (some (.UnaryOp .USub (.Constant (.int n) j p4) p5)) none (some (.UnaryOp .USub (.Constant (.int 1) k p1) p2)) p3) (.ref a) (.ref s4.heap.objs.size)) (EP X pins σ Q) X.xe { s4 with heap := s4.heap.push { cls := .type "slice", data := .fields #[vl, vu, vs] } }
  refine tail_any (ops := [.ref a, .ref s4.heap.objs.size]) ht.typeIs (PyProof.Rows.slot_tuple_getitem.lookup) ?_ (by with_unfolding_all rfl)
  refine HT.getItem_tuple_rev ht (Heap.IsSliceOf.new _ vl vu vs) pl pu ps ?_ (by rw [hlen]; exact hz)
  rw [hlen]
  refine ⟨.ref _, _, I5.laid (t' := s4.toks) (o := .tup (xs.take (HT.rvN xs.length (some (-(n : Int))))).reverse) (fun b ob q => Heap.get?_push_of_some _ q) (Nat.le_refl _) ?_, rfl, q _ (I5.hok.fresh (Nat.le_refl _))⟩
  refine ⟨by rw [List.length_reverse, List.length_take]; omega, _, (r.take _).reverse, IsTup.new _ _⟩
end
end L2
namespace Py
open L2 (V Hp HO SqL SqT Rd upd upd_same upd_ne ne_of ne_of_none Cx PE PT PW PA TE TT TA VK R2 OpR tOp thn EP TP Inv RelV CallR Sp PI TI)
open PySem (Expr Pos Operator CmpOp Value Shared Sem wpAny)
section
variable {X : Cx} {W : WE} {fa : M SV} {a : Expr} {pos p1 p2 p3 p4 p5 : Pos} {k j : Nat}
def revM (fa : M SV) : M SV := M.bind fa fun x => fun s => match items s.m x with
    | some xs => M.pure (if isTup x then .val (.tup xs.reverse) else .own xs.reverse) s
    | none => none
theorem e_rev (ha : PE X a (tE X.K W fa)) : PE X (.Subscript a (.Slice none none (some (.UnaryOp .USub (.Constant (.int 1) k p1) p2)) p3) pos) (tE X.K W (revM fa)) := by
  refine pe_imp (L2.pe_rev2 ha) fun σ H Q hq => ?_
  obtain ⟨θ, st, R, h⟩ := hq
  refine ⟨θ, st, R, h.bind.mono (fun _ _ z => z) fun x s1 h1 u θ1 H1 p1 x1 => ?_⟩
  cases ei : items s1.m x with
  | none => rw [ei] at h1; exact h1.elim
  | some xs =>
    rw [ei] at h1
    dsimp only at h1
    obtain ⟨q, us, rfl, s, t⟩ := items_rel p1.rel.m ei x1
    by_cases ht : isTup x = true
    · rw [if_pos ht] at h1
      unfold Sq at s
      rw [if_pos ht] at s
      exact .inr ⟨q, us, rfl, s, fun d n => h1.pure _ θ1 _ (p1.trans (.new p1.rel n)) (new_tup p1.rel n t.reverse)⟩
    · rw [if_neg ht] at h1
      unfold Sq at s
      rw [if_neg ht] at s
      exact .inl ⟨q, us, rfl, .inl s, fun d n => h1.pure _ θ1 _ (p1.trans (.new p1.rel n)) (new_own p1.rel p1.keep.dom n t.reverse)⟩
def revFM (fa : M SV) (i : Int) : M SV := M.bind fa fun x => fun s => match items s.m x with
    | some xs => if isTup x then M.pure (.val (.tup (xs.take (rvN xs.length i)).reverse)) s else none
    | none => none
theorem e_revF {n : Nat} (ha : PE X a (tE X.K W fa)) : PE X (.Subscript a (.Slice (some (.UnaryOp .USub (.Constant (.int n) j p4) p5)) none (some (.UnaryOp .USub (.Constant (.int 1) k p1) p2)) p3) pos) (tE X.K W (revFM fa (-(n : Int)))) := by
  refine pe_imp (L2.pe_revF ha) fun σ H Q hq => ?_
  obtain ⟨θ, st, R, h⟩ := hq
  refine ⟨θ, st, R, h.bind.mono (fun _ _ z => z) fun x s1 h1 u θ1 H1 p1 x1 => ?_⟩
  cases ei : items s1.m x with
  | none => rw [ei] at h1; exact h1.elim
  | some xs =>
    rw [ei] at h1
    dsimp only at h1
    obtain ⟨q, us, rfl, s, t⟩ := items_rel p1.rel.m ei x1
    by_cases ht : isTup x = true
    · rw [if_pos ht] at h1
      unfold Sq at s
      rw [if_pos ht] at s
      refine ⟨q, us, rfl, s, fun d n => h1.pure _ θ1 _ (p1.trans (.new p1.rel n)) (new_tup p1.rel n ?_)⟩
      rw [t.length]
      exact (t.take _).reverse
    · rw [if_neg ht] at h1
      exact h1.elim
end
end Py
end

section
set_option autoImplicit false
set_option linter.all false
set_option Elab.async false
set_option maxRecDepth 100000
set_option maxHeartbeats 4000000
/-! The check of a program's text against our own syntax. -/
namespace Py
open PySem (Expr Pos Operator CmpOp Stmt Scope NameKind Const Comprehension Keyword)
inductive GE where
  | fn (f : Nat) | cv (v : Val) | ex (n : Nat) | flt
/-- what is known where a text stands: the slots' names, the scope, the scope ahead of relabelling (none: a def's own), the globals -/
structure Cc where
  N : List Str
  sc : Scope
  oc : Option Scope
  gt : List (Str × GE)
  bi : List Str
def okX : Expr → Bool
  | .Starred .. => false
  | .Set .. => false
  | .Slice .. => false
  | .SetComp .. => false
  | .DictComp .. => false
  | _ => true
def plainT : Expr → Bool
  | .UnaryOp .Not .. => false
  | .BoolOp .. => false
  | .IfExp .. => false
  | .Compare .. => false
  | _ => true
def Cc.slotB (C : Cc) (i : Nat) (x : Str) : Bool := decide (C.N[i]? = some x)
def visB (sc : Scope) (x : Str) : Bool := match sc.names.lookup x with
  | some .local => true
  | some .cell => true
  | some .free => true
  | _ => false
def locB (sc : Scope) (x : Str) : Bool := match sc.names.lookup x with
  | some .local => true
  | some .cell => true
  | _ => false
def Cc.fnB (C : Cc) (x : Str) : Bool := match C.oc with
  | none => true
  | some sc => decide (sc.names.lookup x = some .cell) || decide (C.sc.names.lookup x = some .local)
def okN (x : Str) : Bool := !(x == ("__debug__" : Str)) && !(x == ("__classdict__" : Str)) && decide (x ≠ "__name__")
def Cc.rd (C : Cc) (i : Nat) (x : Str) : Bool := C.slotB i x && visB C.sc x && okN x
def Cc.wr (C : Cc) (i : Nat) (x : Str) : Bool := C.slotB i x && locB C.sc x && C.fnB x
def Cc.gl (C : Cc) (x : Str) : Bool := decide (C.sc.names.lookup x = some .globalImplicit) && okN x
def Cc.blt (C : Cc) (x : Str) : Bool := C.gl x && C.bi.contains x
def Cc.blk (C : Cc) (scope : Scope) : Cc := { C with sc := L2.relS scope C.sc, oc := some scope }
def prN : Pr → Str
  | .abs => "abs" | .int => "int" | .len => "len" | .sum => "sum" | .max => "max" | .min => "min" | .all => "all" | .any => "any" | .sorted => "sorted" | .tuple => "tuple" | .list => "list"
def ckC : Val → Const → Bool
  | .non, .none => true
  | .bl b, .bool c => b == c
  | .int i, .int j => decide (i = j)
  | .str s, .str t => decide (s = t)
  | _, _ => false
/-- a constant that may stand for itself: no tuples -/
def valB : Val → Val → Bool
  | .non, .non => true
  | .bl b, .bl c => b == c
  | .int i, .int j => decide (i = j)
  | .str i, .str j => decide (i = j)
  | _, _ => false
mutual
def eqvB : Val → Val → Bool
  | .tup xs, .tup ys => eqvBs xs ys
  | x, y => valB x y
def eqvBs : List Val → List Val → Bool
  | [], [] => true
  | x :: xs, y :: ys => eqvB x y && eqvBs xs ys
  | _, _ => false
end
def tyStr : Ty → Str
  | .int => "int" | .bool => "bool" | .tuple => "tuple" | .list => "list" | .str => "str"
def Cc.ty1 (C : Cc) (ty : Str) : List Ty → Bool
  | [t] => decide (ty = tyStr t) && C.blt ty
  | _ => false
mutual
def ckTg (C : Cc) : Tg → Expr → Bool
  | .n i, x => match x with
    | .Name id _ => C.wr i id
    | _ => false
  | .t ts, x => match x with
    | .Tuple es _ _ => ckTgs C ts es
    | _ => false
def ckTgs (C : Cc) : Tgs → List Expr → Bool
  | .nil, xs => xs.isEmpty
  | .cons t ts, xs => match xs with
    | x :: r => okX x && ckTg C t x && ckTgs C ts r
    | [] => false
end
mutual
def ckE : Cc → E → Expr → Bool
  | C, .s i, x => match x with
    | .Name id _ => C.rd i id
    | _ => false
  | C, .c v, x => match x with
    | .Constant c _ _ => ckC v c
    | .Name id _ => C.gl id && (match C.gt.lookup id with
      | some (.cv u) => eqvB v u
      | _ => false)
    | _ => false
  | C, .tup es, x => match x with
    | .Tuple xs _ _ => ckEs C es xs
    | _ => false
  | C, .lst es, x => match x with
    | .List xs _ => ckEs C es xs
    | _ => false
  | C, .mk e, x => plainT x && ckE C e x
  | C, .bin o a b, x => match x with
    | .BinOp l op r _ => decide (op = boOp o) && ckE C a l && ckE C b r
    | _ => false
  | C, .neg a, x => match x with
    | .UnaryOp .USub l _ => ckE C a l
    | _ => false
  | C, .not a, x => match x with
    | .UnaryOp .Not l _ => ckE C a l
    | _ => false
  | C, .and a b, x => match x with
    | .BoolOp .And [l, m] _ => ckE C a l && ckE C b m
    | .BoolOp .And (l :: m :: n :: r) pos => ckE C a l && ckE C b (.BoolOp .And (m :: n :: r) pos)
    | _ => false
  | C, .or a b, x => match x with
    | .BoolOp .Or [l, m] _ => ckE C a l && ckE C b m
    | .BoolOp .Or (l :: m :: n :: r) pos => ckE C a l && ckE C b (.BoolOp .Or (m :: n :: r) pos)
    | _ => false
  | C, .ite c a b, x => match x with
    | .IfExp t l r _ => ckE C c t && ckE C a l && ckE C b r
    | _ => false
  | C, .cmp a cs, x => match x with
    | .Compare l ops es _ => ckE C a l && ckCs C cs ops es
    | _ => false
  | C, .call f es, x => match x with
    | .Call (.Name id _) xs [] _ => C.gl id && (match C.gt.lookup id with
      | some (.fn g) => decide (g = f)
      | _ => false) && ckEs C es xs
    | _ => false
  | C, .pr p es, x => match x with
    | .Call (.Name id _) (l :: r) [] _ => decide (id = prN p) && decide (p ≠ .sorted) && C.blt id && ckEs C es (l :: r)
    | _ => false
  | C, .ix a i, x => match x with
    | .Subscript l r _ => ckE C a l && ckE C i r
    | _ => false
  | C, .sl a lo hi, x => match x with
    | .Subscript l (.Slice p q none _) _ => ckE C a l && ckOe C lo p && ckOe C hi q
    | _ => false
  | C, .isi a ts, x => match x with
    | .Call (.Name id _) [l, .Name ty _] [] _ => decide (id = "isinstance") && C.blt id && ckE C a l && C.ty1 ty ts
    | _ => false
  | C, .lc own tg it ifs e, x => match x with
    | .ListComp elt [⟨t, i, fs, 0⟩] scope _ => match own.mapM fun k => (C.N[k]?).map fun n => (n, k) with
      | some ow => ckIt C it t i && okX i && L2.blkC C.N C.sc scope ow && tg.slots.all (fun k => own.contains k) && ckTg (C.blk scope) tg t && ckIfs (C.blk scope) ifs fs && ckE (C.blk scope) e elt
      | none => false
    | _ => false
  | C, .lc2 own own2 tg it ifs tg2 it2 ifs2 e, x => match x with
    | .ListComp elt [⟨t, i, fs, 0⟩, ⟨t2, i2, fs2, 0⟩] scope _ => match own.mapM fun k => (C.N[k]?).map fun n => (n, k) with
      | some ow => ckIt C it t i && okX i && L2.blkC C.N C.sc scope ow && tg.slots.all (fun k => own.contains k) && ckTg (C.blk scope) tg t && ckIfs (C.blk scope) ifs fs && ckE (C.blk scope) e elt &&
          (own2.all (fun k => own.contains k) && tg2.slots.all (fun k => own2.contains k) && ckIt (C.blk scope) it2 t2 i2 && okX i2 && ckTg (C.blk scope) tg2 t2 && ckIfs (C.blk scope) ifs2 fs2)
      | none => false
    | _ => false
  | _, .lit .., _ => false
  | _, .tit .., _ => false
  | C, .rev a, x => match x with
    | .Subscript l (.Slice none none (some (.UnaryOp .USub (.Constant (.int 1) _ _) _)) _) _ => ckE C a l
    | _ => false
  | C, .revF a i, x => match x with
    | .Subscript l (.Slice (some (.UnaryOp .USub (.Constant (.int m) _ _) _)) none (some (.UnaryOp .USub (.Constant (.int 1) _ _) _)) _) _ => decide (0 ≤ m) && decide (i = -m) && ckE C a l
    | _ => false
def ckEs : Cc → Es → List Expr → Bool
  | _, .nil, xs => xs.isEmpty
  | C, .cons e es, xs => match xs with
    | x :: r => ckE C e x && ckEs C es r
    | [] => false
def ckIfs : Cc → Es → List Expr → Bool
  | _, .nil, xs => xs.isEmpty
  | C, .cons e es, xs => match es, xs with
    | .nil, [x] => ckE C e x
    | _, _ => false
def ckCs : Cc → Cs → List CmpOp → List Expr → Bool
  | C, .one o e, ops, xs => match ops, xs with
    | [op], [x] => decide (op = coOp o) && ckE C e x
    | _, _ => false
  | C, .cons o e cs, ops, xs => match ops, xs with
    | op :: op2 :: ops, x :: x2 :: xs => decide (op = coOp o) && ckE C e x && ckCs C cs (op2 :: ops) (x2 :: xs)
    | _, _ => false
def ckOe : Cc → Oe → Option Expr → Bool
  | _, .no, x => x.isNone
  | C, .of e, x => match x with
    | some x => ckE C e x
    | none => false
def ckIt : Cc → It → Expr → Expr → Bool
  | C, .e a, _, x => ckE C a x
  | C, .range1 a, _, x => match x with
    | .Call (.Name id _) [l] [] _ => decide (id = "range") && C.blt id && ckE C a l
    | _ => false
  | C, .range2 a b, _, x => match x with
    | .Call (.Name id _) [l, m] [] _ => decide (id = "range") && C.blt id && ckE C a l && ckE C b m
    | _ => false
  | C, .rangeD a b c, _, x => match x with
    | .Call (.Name id _) [l, m, n] [] _ => decide (id = "range") && C.blt id && ckE C a l && ckE C b m && ckE C c n
    | _ => false
  | C, .enum (.e a) .no, t, x => match t, x with
    | .Tuple _ _ _, .Call (.Name id _) [l] [] _ => decide (id = "enumerate") && C.blt id && ckE C a l
    | _, _ => false
  | C, .enum (.e a) (.of b), t, x => match t, x with
    | .Tuple _ _ _, .Call (.Name id _) [l, m] [] _ => decide (id = "enumerate") && C.blt id && ckE C a l && ckE C b m
    | _, _ => false
  | C, .zip (.e a) (.e b), t, x => match t, x with
    | .Tuple _ _ _, .Call (.Name id _) [l, m] [] _ => decide (id = "zip") && C.blt id && ckE C a l && ckE C b m
    | _, _ => false
  | _, _, _, _ => false
end
end Py
end

section
set_option autoImplicit false
set_option linter.all false
set_option Elab.async false
set_option maxRecDepth 100000
set_option maxHeartbeats 4000000
/-! The check is sound: expressions. -/
namespace Py
open L2 (V Hp HO SqL SqT Rd upd upd_same upd_ne ne_of ne_of_none Cx PE PT PW PA TE TT TA VK R2 OpR tOp thn EP TP Inv RelV CallR Sp PI TI Walk YAt YFn YPair PG PGs TG TGs PTs PS PSs TS Ends)
open PySem (Expr Pos Operator CmpOp Value Shared Sem wpAny Stmt Scope NameKind Const Comprehension)
/-- what the module's top says of the exceptions -/
structure XOk (X : Cx) (gt : List (Str × GE)) : Prop where
  ex : ∀ (x : Str) (n : Nat), gt.lookup x = some (.ex n) → x = exN n ∧ ∃ C, ExF X n C
  exm : Exm X.K
  flt : ∀ x : Str, gt.lookup x = some .flt → ∃ F, X.mg x = some (.ref F) ∧ ∀ n C, exC X.K n = some C → ExH X.K n C F
  rsn : ∀ n C, exC X.K n = some C → n = 1 → ExG X.K n C
structure GOk (X : Cx) (kn : Kn) (gt : List (Str × GE)) (bi : List Str) : Prop where
  fn : ∀ (x : Str) (f : Nat), gt.lookup x = some (.fn f) → ∃ k fa fd ps, L2.FnOk X.prog X.w X.K X.mg X.base (L2.CX X.prog X.w) k fa fd ps (spK X.K kn f) ∧ L2.Room k X.A ∧ X.mg x = some (.ref fa) ∧ PySem.W.keepIn X.K (.ref fa) = true ∧ L2.Binds X.K fd ps []
  cv : ∀ (x : Str) (v : Val), gt.lookup x = some (.cv v) → ∃ u w, X.mg x = some u ∧ RelV w u ∧ ∀ θ H, RV X.K θ H v w
  bi : ∀ x : Str, bi.contains x = true → X.mg x = none
  un : X.A.units + 65 < PySem.cLine
  x : XOk X gt
structure CK (X : Cx) (kn : Kn) (C : Cc) (W : WE) : Prop where
  N : X.N = C.N
  nd : X.N.Nodup
  sc : X.env.scope = C.sc
  kind : C.sc.kind = .function
  fn : ∀ x, C.fnB x = true → X.fn x = true ∨ X.env.scope.names.lookup x = some .local
  calm : X.calm = true
  xe : PySem.PassesOwn (PySem.model X.prog X.w) X.A X.env X.xe
  g : GOk X kn C.gt C.bi
  tk : L2.Takes X (wE W)
  st : C.oc = none → X.stack = X.env :: X.outer ∧ X.env.frame = some X.env.locals
section
variable {X : Cx} {kn : Kn} {C : Cc} {W : WE} {x : Str} {i : Nat}
theorem vis_of {sc : Scope} (h : visB sc x = true) : L2.Vis sc x := by
  unfold visB at h
  split at h
  · exact .inl (by assumption)
  · exact .inr (.inl (by assumption))
  · exact .inr (.inr (by assumption))
  · cases h
theorem loc_of {sc : Scope} (h : locB sc x = true) : L2.Loc sc x := by
  unfold locB at h
  split at h
  · exact .inl (by assumption)
  · exact .inr (by assumption)
  · cases h
theorem ba {a b : Bool} (h : (a && b) = true) : a = true ∧ b = true := Bool.and_eq_true_iff.mp h
theorem okN_of (h : okN x = true) : (x == ("__debug__" : Str)) = false ∧ (x == ("__classdict__" : Str)) = false ∧ x ≠ "__name__" := by
  unfold okN at h
  obtain ⟨h1, h2⟩ := ba h
  obtain ⟨h1, h3⟩ := ba h1
  exact ⟨by simpa using h1, by simpa using h3, of_decide_eq_true h2⟩
theorem CK.rd (k : CK X kn C W) (h : C.rd i x = true) : X.N[i]? = some x ∧ L2.Vis X.env.scope x ∧ (x == ("__debug__" : Str)) = false ∧ (x == ("__classdict__" : Str)) = false := by
  unfold Cc.rd at h
  obtain ⟨h1, h3⟩ := ba h
  obtain ⟨h1, h2⟩ := ba h1
  obtain ⟨h4, h5, _⟩ := okN_of h3
  exact ⟨by rw [k.N]; exact of_decide_eq_true h1, by rw [k.sc]; exact vis_of h2, h4, h5⟩
theorem CK.wr (k : CK X kn C W) (h : C.wr i x = true) : X.N[i]? = some x ∧ L2.Loc X.env.scope x ∧ (X.fn x = true ∨ X.env.scope.names.lookup x = some .local) := by
  unfold Cc.wr at h
  obtain ⟨h1, h3⟩ := ba h
  obtain ⟨h1, h2⟩ := ba h1
  exact ⟨by rw [k.N]; exact of_decide_eq_true h1, by rw [k.sc]; exact loc_of h2, k.fn x h3⟩
theorem CK.gl (k : CK X kn C W) (h : C.gl x = true) : L2.Gl X x ∧ (x == ("__debug__" : Str)) = false ∧ x ≠ "__name__" := by
  unfold Cc.gl at h
  obtain ⟨h1, h2⟩ := ba h
  obtain ⟨h3, _, h4⟩ := okN_of h2
  refine ⟨?_, h3, h4⟩
  show X.env.scope.names.lookup x = _
  rw [k.sc]
  exact of_decide_eq_true h1
theorem CK.blt (k : CK X kn C W) (h : C.blt x = true) : L2.Gl X x ∧ X.mg x = none ∧ (x == ("__debug__" : Str)) = false ∧ x ≠ "__name__" := by
  unfold Cc.blt at h
  obtain ⟨h1, h2⟩ := ba h
  obtain ⟨h3, h4, h5⟩ := k.gl h1
  exact ⟨h3, k.g.bi x h2, h4, h5⟩
theorem CK.blk (k : CK X kn C W) {scope : Scope} (hk : scope.kind = .function) (s : Shared) (H : Hp) (c : Ad) (cl : List (PySem.Str × Ad)) (fp : List Ad) : CK (X.blk s H scope (PySem.compEnvC scope cl c X.env) fp) kn (C.blk scope) none where
  N := k.N
  nd := k.nd
  sc := by
    show PySem.relabel scope X.env = L2.relS scope C.sc
    rw [← k.sc]
    rfl
  kind := hk
  fn := fun x h => by
    have h : (decide (scope.names.lookup x = some .cell) || decide ((L2.relS scope C.sc).names.lookup x = some .local)) = true := h
    rcases Bool.or_eq_true_iff.mp h with h | h
    · left
      show (scope.names.lookup x == some .cell) = true
      rw [of_decide_eq_true h]
      rfl
    · right
      show (PySem.relabel scope X.env).names.lookup x = some .local
      have e : PySem.relabel scope X.env = L2.relS scope C.sc := by rw [← k.sc]; rfl
      rw [e]
      exact of_decide_eq_true h
  calm := k.calm
  xe := PySem.PassesOwn.never
  g := ⟨k.g.fn, k.g.cv, k.g.bi, k.g.un, ⟨fun x n h => let ⟨e, C, F⟩ := k.g.x.ex x n h; ⟨e, C, ⟨F.at_, F.mg, F.exc, F.keep, F.sub, F.ty⟩⟩, k.g.x.exm, k.g.x.flt, k.g.x.rsn⟩⟩
  tk := L2.takes_none5
  st := fun z => nomatch z
end
theorem CK.toNone {X : Cx} {kn : Kn} {C : Cc} {W : WE} (k : CK X kn C W) : CK X kn C none := ⟨k.N, k.nd, k.sc, k.kind, k.fn, k.calm, k.xe, k.g, L2.takes_none5, k.st⟩
theorem ok_star {x : Expr} (h : okX x = true) (es : List Expr) (env : PySem.Env) : PySem.starEach (x :: es) env = (false, PySem.eval x env) :: PySem.starEach es env := by
  cases x <;> first | rfl | cases h
theorem ok_asg {x : Expr} (h : okX x = true) (es : List Expr) (env : PySem.Env) : PySem.assignEach (x :: es) env = (false, PySem.assign x env) :: PySem.assignEach es env := by
  cases x <;> first | rfl | cases h
theorem ok_fold {x : Expr} (h : okX x = true) (env : PySem.Env) (v : Value) : PySem.foldedSetIterable x env v = pure v := by
  cases x <;> first | rfl | cases h
theorem ok_plain {x : Expr} (h : okX x = true) : L2.PlainIx x := by
  intro o i
  cases x <;> first | rfl | cases h
theorem ok_true {x : Expr} (h : plainT x = true) (env : PySem.Env) (whole : Sem Value) : PySem.isTrue x env whole = (do let v ← whole; PySem.standAt x.pos; PySem.holding [v] (PySem.truthy v)) := by
  cases x with
  | UnaryOp op y p => cases op <;> first | rfl | cases h
  | _ => first | rfl | cases h
theorem ok_marks : ∀ (ops : List CmpOp) (es : List Expr), (∀ x ∈ es, okX x = true) → PySem.lastMarks ops es = false
  | [], es, _ => by cases es <;> rfl
  | [op], [], _ => rfl
  | [op], [e], h => by
    show PySem.behindInMarks op e = false
    have := h e (by simp)
    cases e <;> first | rfl | cases this
  | [op], e :: f :: es, h => by
    show PySem.lastMarks [] (f :: es) = false
    rfl
  | op :: op2 :: ops, [], h => rfl
  | op :: op2 :: ops, e :: es, h => by
    show PySem.lastMarks (op2 :: ops) es = false
    exact ok_marks (op2 :: ops) es fun x hx => h x (List.mem_cons_of_mem _ hx)
mutual
theorem eqvB_eq : ∀ v u : Val, eqvB v u = true → v = u
  | .tup xs, .tup ys, h => by
    unfold eqvB at h
    rw [eqvBs_eq xs ys h]
  | .non, u, h => by cases u <;> first | rfl | (exact absurd h (by simp [eqvB, valB]))
  | .bl b, u, h => by
    cases u with
    | bl c => have h : (b == c) = true := h; rw [eq_of_beq h]
    | _ => exact absurd h (by simp [eqvB, valB])
  | .int i, u, h => by
    cases u with
    | int c => have h : decide (i = c) = true := h; rw [of_decide_eq_true h]
    | _ => exact absurd h (by simp [eqvB, valB])
  | .str i, u, h => by
    cases u with
    | str c => have h : decide (i = c) = true := h; rw [of_decide_eq_true h]
    | _ => exact absurd h (by simp [eqvB, valB])
  | .lst xs, u, h => by cases u <;> exact absurd h (by simp [eqvB, valB])
  | .scr xs, u, h => by cases u <;> exact absurd h (by simp [eqvB, valB])
  | .loc n, u, h => by cases u <;> exact absurd h (by simp [eqvB, valB])
  | .tup xs, .non, h => absurd h (by simp [eqvB, valB])
  | .tup xs, .bl _, h => absurd h (by simp [eqvB, valB])
  | .tup xs, .int _, h => absurd h (by simp [eqvB, valB])
  | .tup xs, .str _, h => absurd h (by simp [eqvB, valB])
  | .tup xs, .lst _, h => absurd h (by simp [eqvB, valB])
  | .tup xs, .scr _, h => absurd h (by simp [eqvB, valB])
  | .tup xs, .loc _, h => absurd h (by simp [eqvB, valB])
theorem eqvBs_eq : ∀ v u : List Val, eqvBs v u = true → v = u
  | [], [], _ => rfl
  | x :: xs, y :: ys, h => by
    unfold eqvBs at h
    obtain ⟨h1, h2⟩ := ba h
    rw [eqvB_eq x y h1, eqvBs_eq xs ys h2]
  | [], _ :: _, h => by cases h
  | _ :: _, [], h => by cases h
end
/-! ### targets -/
structure STs (X : Cx) (ts : Tgs) (xs : List Expr) : Prop where
  pg : PGs X xs (tGs X.K ts.slots (asgs ts))
  len : (PySem.assignEach xs X.env).length = ts.len
  st : (PySem.assignEach xs X.env).findIdx? (·.1) = none
theorem STs.cons {X : Cx} {t : Tg} {ts : Tgs} {x : Expr} {xs : List Expr} (hx : okX x = true) (h1 : PG X x (tG X.K t.slots (asg t))) (h : STs X ts xs) : STs X (.cons t ts) (x :: xs) where
  pg := by
    unfold Tgs.slots
    exact gs_cons h1 h.pg (by rw [ok_asg hx]; rfl)
  len := by rw [ok_asg hx, List.length_cons, h.len]; rfl
  st := by rw [ok_asg hx, List.findIdx?_cons]; simp [h.st]
mutual
theorem snd_Tg {X : Cx} {kn : Kn} {C : Cc} {W : WE} (k : CK X kn C W) : ∀ (t : Tg) (x : Expr), ckTg C t x = true → okX x = true ∧ PG X x (tG X.K t.slots (asg t))
  | .n i, x, h => by
    cases x with
    | Name id p =>
      obtain ⟨h1, h2, h3⟩ := k.wr (show C.wr i id = true from h)
      refine ⟨rfl, ?_⟩
      have q := g_n (pos := p) k.nd h1 h2 h3
      unfold Tg.slots
      have e : asg (.n i) = fun v => store i (.val v) := by funext v; rw [asg]
      rw [e]
      exact q
    | _ => cases h
  | .t ts, x, h => by
    cases x with
    | Tuple es n p =>
      have q := snd_Tgs k ts es h
      refine ⟨rfl, ?_⟩
      unfold Tg.slots
      exact g_t (n := 0) k.calm q.pg q.len q.st
    | _ => cases h
theorem snd_Tgs {X : Cx} {kn : Kn} {C : Cc} {W : WE} (k : CK X kn C W) : ∀ (t : Tgs) (x : List Expr), ckTgs C t x = true → STs X t x
  | .nil, x, h => by
    cases x with
    | nil =>
      refine ⟨?_, rfl, rfl⟩
      unfold Tgs.slots
      exact gs_nil
    | cons => cases h
  | .cons t ts, x, h => by
    cases x with
    | nil => cases h
    | cons x xs =>
      have h : (okX x && ckTg C t x && ckTgs C ts xs) = true := h
      obtain ⟨h1, h3⟩ := ba h
      obtain ⟨h1, h2⟩ := ba h1
      exact STs.cons h1 (snd_Tg k t x h2).2 (snd_Tgs k ts xs h3)
end
/-! ### expressions -/
structure SE (X : Cx) (kn : Kn) (W : WE) (e : E) (x : Expr) : Prop where
  ok : okX x = true
  pe : ∀ t, PE X x (tE X.K W (ev kn e t))
  pt : PT X x (tT X.K W (tst (ev kn e false)))
  pw : ∀ op l p, x = .BoolOp op l p → PW X x (tT X.K W (tst (ev kn e false)))
structure SEs (X : Cx) (kn : Kn) (W : WE) (es : Es) (xs : List Expr) : Prop where
  ok : ∀ x ∈ xs, okX x = true
  s : PA X xs (tA X.K W (evs kn es))
  p : PA X xs (tP X.K W (evp kn es))
  w : PA X xs (tP2 X.K W (evw kn es))
theorem plains : ∀ {xs : List Expr} (h : ∀ x ∈ xs, okX x = true) (env : PySem.Env) (pos : Pos), (PySem.backTo pos (PySem.starEach xs env)).any (·.1) = false
  | [], _, _, _ => rfl
  | x :: xs, h, env, pos => by
    rw [ok_star (h x (by simp))]
    have := plains (xs := xs) (fun y hy => h y (List.mem_cons_of_mem _ hy)) env pos
    unfold PySem.backTo at this ⊢
    rw [List.map_cons, List.any_cons, this]
    rfl
theorem SE.mk1 {X : Cx} {kn : Kn} {W : WE} {e : E} {x : Expr} (ok : okX x = true) (pl : plainT x = true) (pe : ∀ t, PE X x (tE X.K W (ev kn e t))) : SE X kn W e x :=
  ⟨ok, pe, t_plain (pe false) (ok_true pl X.env), fun op l p e => by subst e; cases pl⟩
/-- the evaluator's take flag does not matter -/
theorem SE.mk2 {X : Cx} {kn : Kn} {W : WE} {e : E} {x : Expr} {f : M SV} (hf : ∀ t, ev kn e t = f) (ok : okX x = true) (pl : plainT x = true) (pe : PE X x (tE X.K W f)) : SE X kn W e x :=
  SE.mk1 ok pl fun t => by rw [hf]; exact pe
theorem ownW {N : List Str} : ∀ {own : List Nat} {ow : List (Str × Nat)}, (own.mapM fun k => (N[k]?).map fun n => (n, k)) = some ow → ow.map (·.2) = own
  | [], ow, h => by
    simp at h
    rw [h]
    rfl
  | k :: own, ow, h => by
    rw [List.mapM_cons] at h
    obtain ⟨p, h1, h2⟩ := Option.bind_eq_some_iff.mp h
    obtain ⟨q, h3, h4⟩ := Option.bind_eq_some_iff.mp h2
    obtain ⟨n, _, rfl⟩ := Option.map_eq_some_iff.mp h1
    cases h4
    rw [List.map_cons, ownW h3]
theorem boot_pr : ∀ p : Pr, PySem.bootBuiltins (prN p) = some (prVal p)
  | .abs => by decide +kernel
  | .int => by decide +kernel
  | .len => by decide +kernel
  | .sum => by decide +kernel
  | .max => by decide +kernel
  | .min => by decide +kernel
  | .all => by decide +kernel
  | .any => by decide +kernel
  | .sorted => by decide +kernel
  | .tuple => by decide +kernel
  | .list => by decide +kernel
def tyVal (t : Ty) : Value := .type (tyN t)
theorem boot_ty : ∀ t : Ty, PySem.bootBuiltins (tyStr t) = some (.type (tyN t))
  | .int => by decide +kernel
  | .bool => by decide +kernel
  | .tuple => by decide +kernel
  | .list => by decide +kernel
  | .str => by decide +kernel
theorem ckC_ok {X : Cx} {W : WE} {v : Val} {c : Const} {k : Nat} {p : Pos} (h : ckC v c = true) : PE X (.Constant c k p) (tE X.K W (M.pure (.val v))) := by
  cases v with
  | non => cases c <;> first | exact e_c L2.pe_non (fun θ H => by unfold RV; rfl) | cases h
  | bl b =>
    cases c with
    | bool d =>
      have h : (b == d) = true := h
      obtain rfl := eq_of_beq h
      exact e_c L2.pe_bl (fun θ H => by unfold RV; rfl)
    | _ => cases h
  | int b =>
    cases c with
    | int d =>
      have h : decide (b = d) = true := h
      obtain rfl := of_decide_eq_true h
      exact e_c L2.pe_int (fun θ H => by unfold RV; rfl)
    | _ => cases h
  | str b =>
    cases c with
    | str d =>
      have h : decide (b = d) = true := h
      obtain rfl := of_decide_eq_true h
      exact e_c L2.pe_str (fun θ H => by unfold RV; rfl)
    | _ => cases h
  | _ => cases c <;> cases h
theorem Blk.of {X : Cx} {kn : Kn} {C : Cc} {W : WE} (k : CK X kn C W) {scope : Scope} (hk : scope.kind = .function) {p : Cx → Prop} (h : ∀ X', CK X' kn (C.blk scope) none → X'.K = X.K → p X') : Blk X scope p := fun s H c cl fp => h _ (k.blk hk s H c cl fp) rfl
mutual
theorem snd_E {kn : Kn} : ∀ (e : E) (C : Cc) (X : Cx) (W : WE) (x : Expr), CK X kn C W → ckE C e x = true → SE X kn W e x
  | .s i, C, X, W, x, k, h => by
    cases x with
    | Name id p =>
      obtain ⟨h1, h2, h3, h4⟩ := k.rd (show C.rd i id = true from h)
      exact SE.mk1 rfl rfl fun t => e_slot t h1 h2 h3 h4
    | _ => cases h
  | .c v, C, X, W, x, k, h => by
    refine SE.mk2 (f := M.pure (.val v)) (fun t => rfl) ?_ ?_ ?_
    · cases x <;> first | rfl | cases h
    · cases x <;> first | rfl | cases h
    · cases x with
      | Constant c n p => exact ckC_ok h
      | Name id p =>
        have h : (C.gl id && (match C.gt.lookup id with
          | some (.cv u) => eqvB v u
          | _ => false)) = true := h
        obtain ⟨h1, h2⟩ := ba h
        obtain ⟨h3, h4, h5⟩ := k.gl h1
        split at h2
        · rename_i u hu
          obtain rfl := eqvB_eq v u h2
          obtain ⟨w, y, g1, g2, g3⟩ := k.g.cv id v hu
          exact e_c (L2.pe_glob h3 g1 g2 h4) g3
        · cases h2
      | _ => cases h
  | .tup es, C, X, W, x, k, h => by
    cases x with
    | Tuple xs n p => exact SE.mk2 (f := M.bind (evs kn es) fun vs => M.of (tupl vs)) (fun t => rfl) rfl rfl (e_tup (snd_Es es C X W xs k h).s)
    | _ => cases h
  | .lst es, C, X, W, x, k, h => by
    cases x with
    | List xs p => exact SE.mk2 (f := M.bind (evs kn es) fun vs => M.of (ownl vs)) (fun t => rfl) rfl rfl (e_lst (snd_Es es C X W xs k h).s)
    | _ => cases h
  | .mk e, C, X, W, x, k, h => by
    have h : (plainT x && ckE C e x) = true := h
    obtain ⟨h1, h⟩ := ba h
    have ih := snd_E e C X W x k h
    exact SE.mk2 (fun t => rfl) ih.ok h1 (e_mk (ih.pe true))
  | .bin o a b, C, X, W, x, k, h => by
    cases x with
    | BinOp l op r p =>
      have h : (decide (op = boOp o) && ckE C a l && ckE C b r) = true := h
      obtain ⟨h1, h3⟩ := ba h
      obtain ⟨h1, h2⟩ := ba h1
      obtain rfl := of_decide_eq_true h1
      exact SE.mk2 (fun t => rfl) rfl rfl (e_bo o ((snd_E a C X W l k h2).pe false) ((snd_E b C X W r k h3).pe false))
    | _ => cases h
  | .neg a, C, X, W, x, k, h => by
    cases x with
    | UnaryOp op l p =>
      cases op with
      | USub => exact SE.mk2 (fun t => rfl) rfl rfl (e_neg ((snd_E a C X W l k h).pe false))
      | _ => cases h
    | _ => cases h
  | .not a, C, X, W, x, k, h => by
    cases x with
    | UnaryOp op l p =>
      cases op with
      | Not =>
        have ih := snd_E a C X W l k h
        exact ⟨rfl, fun t => e_not (ih.pe false), t_not ih.pt, fun op l p e => by cases e⟩
      | _ => cases h
    | _ => cases h
  | .and a b, C, X, W, x, k, h => by
    cases x with
    | BoolOp op l p =>
      cases op with
      | Or => cases h
      | And =>
        match l, h with
        | [l, m], h =>
          have h : (ckE C a l && ckE C b m) = true := h
          obtain ⟨h1, h2⟩ := ba h
          have i1 := snd_E a C X W l k h1
          have i2 := snd_E b C X W m k h2
          have pw : PW X (.BoolOp .And [l, m] p) (tT X.K W (tst (ev kn (.and a b) false))) := t_and i1.pt (L2.pw_and1 i2.pt)
          exact ⟨rfl, fun t => e_and (i1.pe false) (L2.pe_one (i2.pe t)), pw.pt, fun op l' p' e => by cases e; exact pw⟩
        | l :: m :: n :: r, h =>
          have h : (ckE C a l && ckE C b (.BoolOp .And (m :: n :: r) p)) = true := h
          obtain ⟨h1, h2⟩ := ba h
          have i1 := snd_E a C X W l k h1
          have i2 := snd_E b C X W _ k h2
          have pw : PW X (.BoolOp .And (l :: m :: n :: r) p) (tT X.K W (tst (ev kn (.and a b) false))) := t_and i1.pt (i2.pw _ _ _ rfl)
          exact ⟨rfl, fun t => e_and (i1.pe false) (i2.pe t), pw.pt, fun op l' p' e => by cases e; exact pw⟩
        | [], h => cases h
        | [_], h => cases h
    | _ => cases h
  | .or a b, C, X, W, x, k, h => by
    cases x with
    | BoolOp op l p =>
      cases op with
      | And => cases h
      | Or =>
        match l, h with
        | [l, m], h =>
          have h : (ckE C a l && ckE C b m) = true := h
          obtain ⟨h1, h2⟩ := ba h
          have i1 := snd_E a C X W l k h1
          have i2 := snd_E b C X W m k h2
          have pw : PW X (.BoolOp .Or [l, m] p) (tT X.K W (tst (ev kn (.or a b) false))) := t_or i1.pt (L2.pw_or1 i2.pt)
          exact ⟨rfl, fun t => e_or (i1.pe false) (L2.pe_one (i2.pe t)), pw.pt, fun op l' p' e => by cases e; exact pw⟩
        | l :: m :: n :: r, h =>
          have h : (ckE C a l && ckE C b (.BoolOp .Or (m :: n :: r) p)) = true := h
          obtain ⟨h1, h2⟩ := ba h
          have i1 := snd_E a C X W l k h1
          have i2 := snd_E b C X W _ k h2
          have pw : PW X (.BoolOp .Or (l :: m :: n :: r) p) (tT X.K W (tst (ev kn (.or a b) false))) := t_or i1.pt (i2.pw _ _ _ rfl)
          exact ⟨rfl, fun t => e_or (i1.pe false) (i2.pe t), pw.pt, fun op l' p' e => by cases e; exact pw⟩
        | [], h => cases h
        | [_], h => cases h
    | _ => cases h
  | .ite c a b, C, X, W, x, k, h => by
    cases x with
    | IfExp t l r p =>
      have h : (ckE C c t && ckE C a l && ckE C b r) = true := h
      obtain ⟨h1, h3⟩ := ba h
      obtain ⟨h1, h2⟩ := ba h1
      have i1 := snd_E c C X W t k h1
      have i2 := snd_E a C X W l k h2
      have i3 := snd_E b C X W r k h3
      exact ⟨rfl, fun t => e_ite i1.pt (i2.pe t) (i3.pe t), t_ite i1.pt i2.pt i3.pt, fun op l p e => by cases e⟩
    | _ => cases h
  | .cmp a cs, C, X, W, x, k, h => by
    cases x with
    | Compare l ops es p =>
      have h : (ckE C a l && ckCs C cs ops es) = true := h
      obtain ⟨h1, h2⟩ := ba h
      have i1 := snd_E a C X W l k h1
      obtain ⟨i2, i3⟩ := snd_Cs cs C X W ops es k h2
      have hm := ok_marks ops es i3
      exact ⟨rfl, fun t => e_cmp (i1.pe false) i2 hm, t_cmp (i1.pe false) i2 hm, fun op l p e => by cases e⟩
    | _ => cases h
  | .call f es, C, X, W, x, k, h => by
    cases x with
    | Call fn xs kw p =>
      cases fn with
      | Name id p2 =>
        cases kw with
        | cons => cases h
        | nil =>
          have h : (C.gl id && (match C.gt.lookup id with
            | some (.fn g) => decide (g = f)
            | _ => false) && ckEs C es xs) = true := h
          obtain ⟨h1, h3⟩ := ba h
          obtain ⟨h1, h2⟩ := ba h1
          obtain ⟨h4, h5, h6⟩ := k.gl h1
          split at h2
          · rename_i g hg
            obtain rfl := of_decide_eq_true h2
            obtain ⟨n, fa, fd, ps, g1, g2, g3, g4, g5⟩ := k.g.fn id g hg
            have i := snd_Es es C X W xs k h3
            refine SE.mk2 (f := M.bind (evs kn es) fun vs => callM kn g vs) (fun t => rfl) rfl rfl ?_
            cases xs with
            | nil =>
              cases es with
              | nil => exact e_call0 k.tk g1 g2 h4 g3 g4 g5 h5
              | cons => cases h3
            | cons y ys => exact e_call k.tk g1 g2 h4 g3 g4 g5 i.s h5 (ok_star (i.ok y (by simp)) ys X.env) (plains (fun z hz => i.ok z (List.mem_cons_of_mem _ hz)) X.env p)
          · cases h2
      | _ => cases h
    | _ => cases h
  | .pr pr es, C, X, W, x, k, h => by
    cases x with
    | Call fn xs kw p =>
      cases fn with
      | Name id p2 =>
        cases kw with
        | cons => cases xs <;> cases h
        | nil =>
          cases xs with
          | nil => cases h
          | cons y ys =>
            have h : (decide (id = prN pr) && decide (pr ≠ .sorted) && C.blt id && ckEs C es (y :: ys)) = true := h
            obtain ⟨h1, h4⟩ := ba h
            obtain ⟨h1, h3⟩ := ba h1
            obtain ⟨h1, h2⟩ := ba h1
            obtain ⟨g1, g2, g3, g4⟩ := k.blt h3
            obtain rfl := of_decide_eq_true h1
            have i := snd_Es es C X W (y :: ys) k h4
            exact SE.mk2 (fun t => rfl) rfl rfl (e_pr pr (of_decide_eq_true h2) k.calm g1 g2 (boot_pr pr) i.p g4 g3 (ok_star (i.ok y (by simp)) ys X.env) (plains (fun z hz => i.ok z (List.mem_cons_of_mem _ hz)) X.env p))
      | _ => cases xs <;> cases kw <;> cases h
    | _ => cases h
  | .ix a i, C, X, W, x, k, h => by
    cases x with
    | Subscript l r p =>
      have h : (ckE C a l && ckE C i r) = true := h
      obtain ⟨h1, h2⟩ := ba h
      have i2 := snd_E i C X W r k h2
      exact SE.mk2 (fun t => rfl) rfl rfl (e_ix ((snd_E a C X W l k h1).pe false) (i2.pe false) (ok_plain i2.ok))
    | _ => cases h
  | .sl a lo hi, C, X, W, x, k, h => by
    cases x with
    | Subscript l r p =>
      cases r with
      | Slice q1 q2 st p2 =>
        cases st with
        | some => cases h
        | none =>
          have h : (ckE C a l && ckOe C lo q1 && ckOe C hi q2) = true := h
          obtain ⟨h1, h3⟩ := ba h
          obtain ⟨h1, h2⟩ := ba h1
          exact SE.mk2 (fun t => rfl) rfl rfl (e_sl ((snd_E a C X W l k h1).pe false) (snd_Oe lo C X W q1 k h2) (snd_Oe hi C X W q2 k h3))
      | _ => cases h
    | _ => cases h
  | .isi a ts, C, X, W, x, k, h => by
    cases x with
    | Call fn xs kw p =>
      match fn, xs, kw, h with
      | .Name id p2, [l, .Name ty p3], [], h =>
        have h : (decide (id = "isinstance") && C.blt id && ckE C a l && C.ty1 ty ts) = true := h
        obtain ⟨h1, h4⟩ := ba h
        obtain ⟨h1, h3⟩ := ba h1
        obtain ⟨h1, h2⟩ := ba h1
        obtain rfl := of_decide_eq_true h1
        obtain ⟨g1, g2, g3, g4⟩ := k.blt h2
        have i := snd_E a C X W l k h3
        cases ts with
        | nil => cases h4
        | cons t r =>
          cases r with
          | cons => cases h4
          | nil =>
          have h4 : (decide (ty = tyStr t) && C.blt ty) = true := h4
          obtain ⟨h5, h6⟩ := ba h4
          obtain rfl := of_decide_eq_true h5
          obtain ⟨g5, g6, g7, g8⟩ := k.blt h6
          exact SE.mk2 (fun t => rfl) rfl rfl (e_isi g1 g2 (i.pe false) (L2.pe_bltn g5 g6 (boot_ty t) rfl g8 g7) (ok_star i.ok _ X.env) rfl)
    | _ => cases h
  | .lc own tg it ifs e, C, X, W, x, k, h => by
    cases x with
    | ListComp elt gens scope p =>
      match gens, h with
      | [⟨t, i, fs, 0⟩], h =>
        have h : (match own.mapM fun k => (C.N[k]?).map fun n => (n, k) with
          | some ow => ckIt C it t i && okX i && L2.blkC C.N C.sc scope ow && tg.slots.all (fun k => own.contains k) && ckTg (C.blk scope) tg t && ckIfs (C.blk scope) ifs fs && ckE (C.blk scope) e elt
          | none => false) = true := h
        refine SE.mk2 (fun t => rfl) rfl rfl ?_
        split at h
        · rename_i ow how
          obtain ⟨h, h7⟩ := ba h
          obtain ⟨h, h6⟩ := ba h
          obtain ⟨h, h5⟩ := ba h
          obtain ⟨h, h4⟩ := ba h
          obtain ⟨h, h3⟩ := ba h
          obtain ⟨h1, h2⟩ := ba h
          have hb : L2.BlkOk X.N X.env.scope scope ow := by rw [k.N, k.sc]; exact L2.blkOk_by h3
          have he := ownW how
          have q := e_lc (W := W) (pos := p) (F := tg.slots) (test := evt kn ifs) (g := tg) (fe := M.bind (ev kn e true) asV) k.calm k.nd (snd_It it C X none t i false (k.toNone) h1) hb (fun i hi => by rw [he]; simpa using List.all_eq_true.mp h4 i hi)
            (Blk.of k hb.kind fun X' k' e' => (snd_Tg k' tg t h5).2) (Blk.of k hb.kind fun X' k' e' => snd_Ifs ifs _ X' none fs k' h6) (Blk.of k hb.kind fun X' k' e' => e_asV ((snd_E e _ X' none elt k' h7).pe true)) (fun v => ok_fold h2 X.env v)
          rw [he] at q
          exact q
        · cases h
    | _ => cases h
  | .lc2 own own2 tg it ifs tg2 it2 ifs2 e, C, X, W, x, k, h => by
    cases x with
    | ListComp elt gens scope p =>
      match gens, h with
      | [⟨t, i, fs, 0⟩, ⟨t2, i2, fs2, 0⟩], h =>
        have h : (match own.mapM fun k => (C.N[k]?).map fun n => (n, k) with
          | some ow => ckIt C it t i && okX i && L2.blkC C.N C.sc scope ow && tg.slots.all (fun k => own.contains k) && ckTg (C.blk scope) tg t && ckIfs (C.blk scope) ifs fs && ckE (C.blk scope) e elt &&
              (own2.all (fun k => own.contains k) && tg2.slots.all (fun k => own2.contains k) && ckIt (C.blk scope) it2 t2 i2 && okX i2 && ckTg (C.blk scope) tg2 t2 && ckIfs (C.blk scope) ifs2 fs2)
          | none => false) = true := h
        refine SE.mk2 (fun t => rfl) rfl rfl ?_
        split at h
        · rename_i ow how
          obtain ⟨h, g6⟩ := ba h
          obtain ⟨g, g6⟩ := ba g6
          obtain ⟨g, g5⟩ := ba g
          obtain ⟨g, g4⟩ := ba g
          obtain ⟨g, g3⟩ := ba g
          obtain ⟨g1, g2⟩ := ba g
          obtain ⟨h, h7⟩ := ba h
          obtain ⟨h, h6⟩ := ba h
          obtain ⟨h, h5⟩ := ba h
          obtain ⟨h, h4⟩ := ba h
          obtain ⟨h, h3⟩ := ba h
          obtain ⟨h1, h2⟩ := ba h
          have hb : L2.BlkOk X.N X.env.scope scope ow := by rw [k.N, k.sc]; exact L2.blkOk_by h3
          have he := ownW how
          have q := e_lc2 (W := W) (pos := p) (F := tg.slots) (F1 := tg2.slots) (vs1 := own2) (test := evt kn ifs) (test1 := evt kn ifs2) (g := tg) (g1 := tg2) (fe := M.bind (ev kn e true) asV) (fi1 := evi kn it2 true) k.calm k.nd (snd_It it C X none t i false (k.toNone) h1) hb
            (fun i hi => by rw [he]; simpa using List.all_eq_true.mp g1 i hi) (fun i hi => by rw [he]; simpa using List.all_eq_true.mp h4 i hi) (fun i hi => by simpa using List.all_eq_true.mp g2 i hi)
            (Blk.of k hb.kind fun X' k' e' => (snd_Tg k' tg t h5).2) (Blk.of k hb.kind fun X' k' e' => snd_Ifs ifs _ X' none fs k' h6)
            (Blk.of k hb.kind fun X' k' e' => snd_It it2 _ X' none t2 i2 true k' g3) (Blk.of k hb.kind fun X' k' e' => (snd_Tg k' tg2 t2 g5).2) (Blk.of k hb.kind fun X' k' e' => snd_Ifs ifs2 _ X' none fs2 k' g6)
            (Blk.of k hb.kind fun X' k' e' => e_asV ((snd_E e _ X' none elt k' h7).pe true)) (fun v => ok_fold h2 X.env v) (fun env v => ok_fold g4 env v)
          rw [he] at q
          exact q
        · cases h
    | _ => cases h
  | .lit .., C, X, W, x, k, h => by cases h
  | .tit .., C, X, W, x, k, h => by cases h
  | .rev a, C, X, W, x, k, h => by
    unfold ckE at h
    split at h
    · rename_i l _ _ _ _ _
      exact SE.mk2 (fun t => rfl) rfl rfl (e_rev ((snd_E a C X W l k h).pe false))
    · cases h
  | .revF a i, C, X, W, x, k, h => by
    unfold ckE at h
    split at h
    · rename_i l m _ _ _ _ _ _ _ _
      obtain ⟨h, h3⟩ := ba h
      obtain ⟨h1, h2⟩ := ba h
      obtain ⟨n, rfl⟩ : ∃ n : Nat, m = (n : Int) := ⟨m.toNat, by have := of_decide_eq_true h1; omega⟩
      obtain rfl := of_decide_eq_true h2
      exact SE.mk2 (fun t => rfl) rfl rfl (e_revF ((snd_E a C X W l k h3).pe false))
    · cases h
theorem snd_Es {kn : Kn} : ∀ (es : Es) (C : Cc) (X : Cx) (W : WE) (xs : List Expr), CK X kn C W → ckEs C es xs = true → SEs X kn W es xs
  | .nil, C, X, W, xs, k, h => by
    cases xs with
    | nil => exact ⟨fun _ h => absurd h (by simp), a_nil, p_nil, w_nil⟩
    | cons => cases h
  | .cons e es, C, X, W, xs, k, h => by
    cases xs with
    | nil => cases h
    | cons x r =>
      have h : (ckE C e x && ckEs C es r) = true := h
      obtain ⟨h1, h2⟩ := ba h
      have i := snd_E e C X W x k h1
      have is := snd_Es es C X W r k h2
      have st := ok_star i.ok r X.env
      exact ⟨fun y hy => (List.mem_cons.mp hy).elim (fun e => e ▸ i.ok) (is.ok y), a_cons (e_asV (i.pe true)) is.s st, p_cons (i.pe false) is.p st, w_cons (i.pe true) is.w st⟩
theorem snd_Ifs {kn : Kn} : ∀ (es : Es) (C : Cc) (X : Cx) (W : WE) (xs : List Expr), CK X kn C W → ckIfs C es xs = true → PTs X xs (tT X.K W (evt kn es))
  | .nil, C, X, W, xs, k, h => by
    cases xs with
    | nil =>
      refine ⟨fun pins s σ H Q I h => L2.pts_nil.run pins s σ H Q I ?_⟩
      obtain ⟨θ, st, R, h⟩ := h
      exact h.pure θ H (.refl R)
    | cons => cases h
  | .cons e es, C, X, W, xs, k, h => by
    match es, xs, h with
    | .nil, [x], h =>
      have i := snd_E e C X W x k h
      refine ⟨fun pins s σ H Q I h => (L2.pts_one i.pt).run pins s σ H Q I ?_⟩
      obtain ⟨θ, st, R, h⟩ := h
      refine ⟨θ, st, R, ?_⟩
      refine wpO.unbind (h.bind.mono (fun _ _ z => z) fun y s1 h1 => ?_)
      cases et : truth s1.m y with
      | none => rw [et] at h1; exact h1.elim
      | some b =>
        rw [et] at h1
        cases b with
        | true => exact h1
        | false => exact h1
theorem snd_Cs {kn : Kn} : ∀ (cs : Cs) (C : Cc) (X : Cx) (W : WE) (ops : List CmpOp) (xs : List Expr), CK X kn C W → ckCs C cs ops xs = true → CH X W ops xs (evc kn cs) ∧ ∀ x ∈ xs, okX x = true
  | .one o e, C, X, W, ops, xs, k, h => by
    match ops, xs, h with
    | [op], [x], h =>
      have h : (decide (op = coOp o) && ckE C e x) = true := h
      obtain ⟨h1, h2⟩ := ba h
      obtain rfl := of_decide_eq_true h1
      have i := snd_E e C X W x k h2
      exact ⟨ch_one k.g.un (i.pe false), fun y hy => by simp at hy; rw [hy]; exact i.ok⟩
  | .cons o e cs, C, X, W, ops, xs, k, h => by
    match ops, xs, h with
    | op :: op2 :: ops, x :: x2 :: xs, h =>
      have h : (decide (op = coOp o) && ckE C e x && ckCs C cs (op2 :: ops) (x2 :: xs)) = true := h
      obtain ⟨h1, h3⟩ := ba h
      obtain ⟨h1, h2⟩ := ba h1
      obtain rfl := of_decide_eq_true h1
      have i := snd_E e C X W x k h2
      obtain ⟨i2, i3⟩ := snd_Cs cs C X W (op2 :: ops) (x2 :: xs) k h3
      exact ⟨ch_cons k.g.un (i.pe false) i2, fun y hy => (List.mem_cons.mp hy).elim (fun e => e ▸ i.ok) (i3 y)⟩
theorem snd_Oe {kn : Kn} : ∀ (o : Oe) (C : Cc) (X : Cx) (W : WE) (x : Option Expr), CK X kn C W → ckOe C o x = true → L2.PO X x (tO X.K W (evo kn o))
  | .no, C, X, W, x, k, h => by
    cases x with
    | none => exact o_no
    | some => cases h
  | .of e, C, X, W, x, k, h => by
    cases x with
    | none => cases h
    | some x => exact o_of ((snd_E e C X W x k h).pe false)
theorem snd_It {kn : Kn} : ∀ (it : It) (C : Cc) (X : Cx) (W : WE) (t x : Expr) (tk : Bool), CK X kn C W → ckIt C it t x = true → PI X t x (tI X.K W tk (evi kn it tk))
  | .e a, C, X, W, t, x, tk, k, h => i_e ((snd_E a C X W x k h).pe tk)
  | .range1 a, C, X, W, t, x, tk, k, h => by
    cases x with
    | Call fn xs kw p =>
      match fn, xs, kw, h with
      | .Name id p2, [l], [], h =>
        have h : (decide (id = "range") && C.blt id && ckE C a l) = true := h
        obtain ⟨h1, h3⟩ := ba h
        obtain ⟨h1, h2⟩ := ba h1
        obtain rfl := of_decide_eq_true h1
        obtain ⟨g1, g2, _⟩ := k.blt h2
        have i := snd_E a C X W l k h3
        exact i_range1 g1 g2 (i.pe false) (ok_star i.ok _ _)
    | _ => cases h
  | .range2 a b, C, X, W, t, x, tk, k, h => by
    cases x with
    | Call fn xs kw p =>
      match fn, xs, kw, h with
      | .Name id p2, [l, m], [], h =>
        have h : (decide (id = "range") && C.blt id && ckE C a l && ckE C b m) = true := h
        obtain ⟨h, h4⟩ := ba h
        obtain ⟨h1, h3⟩ := ba h
        obtain ⟨h1, h2⟩ := ba h1
        obtain rfl := of_decide_eq_true h1
        obtain ⟨g1, g2, _⟩ := k.blt h2
        have i := snd_E a C X W l k h3
        have j := snd_E b C X W m k h4
        exact i_range2 g1 g2 (i.pe false) (j.pe false) (ok_star i.ok _ _) (ok_star j.ok _ _)
    | _ => cases h
  | .rangeD a b c, C, X, W, t, x, tk, k, h => by
    cases x with
    | Call fn xs kw p =>
      match fn, xs, kw, h with
      | .Name id p2, [l, m, n], [], h =>
        have h : (decide (id = "range") && C.blt id && ckE C a l && ckE C b m && ckE C c n) = true := h
        obtain ⟨h, h5⟩ := ba h
        obtain ⟨h, h4⟩ := ba h
        obtain ⟨h1, h3⟩ := ba h
        obtain ⟨h1, h2⟩ := ba h1
        obtain rfl := of_decide_eq_true h1
        obtain ⟨g1, g2, _⟩ := k.blt h2
        have i := snd_E a C X W l k h3
        have j := snd_E b C X W m k h4
        have r := snd_E c C X W n k h5
        exact i_rangeD g1 g2 (i.pe false) (j.pe false) (r.pe false) (ok_star i.ok _ _) (ok_star j.ok _ _) (ok_star r.ok _ _)
    | _ => cases h
  | .enum (.e a) .no, C, X, W, t, x, tk, k, h => by
    cases t with
    | Tuple ts n tp =>
      cases x with
      | Call fn xs kw p =>
        match fn, xs, kw, h with
        | .Name id p2, [l], [], h =>
          have h : (decide (id = "enumerate") && C.blt id && ckE C a l) = true := h
          obtain ⟨h1, h3⟩ := ba h
          obtain ⟨h1, h2⟩ := ba h1
          obtain rfl := of_decide_eq_true h1
          obtain ⟨g1, g2, _⟩ := k.blt h2
          have i := snd_E a C X W l k h3
          exact i_enum g1 g2 (i.pe tk) (ok_star i.ok _ _)
      | _ => cases h
    | _ => cases h
  | .enum (.e a) (.of b), C, X, W, t, x, tk, k, h => by
    cases t with
    | Tuple ts n tp =>
      cases x with
      | Call fn xs kw p =>
        match fn, xs, kw, h with
        | .Name id p2, [l, m], [], h =>
          have h : (decide (id = "enumerate") && C.blt id && ckE C a l && ckE C b m) = true := h
          obtain ⟨h, h4⟩ := ba h
          obtain ⟨h1, h3⟩ := ba h
          obtain ⟨h1, h2⟩ := ba h1
          obtain rfl := of_decide_eq_true h1
          obtain ⟨g1, g2, _⟩ := k.blt h2
          have i := snd_E a C X W l k h3
          have j := snd_E b C X W m k h4
          exact i_enumK g1 g2 (i.pe tk) (j.pe false) (ok_star i.ok _ _) (ok_star j.ok _ _)
      | _ => cases h
    | _ => cases h
  | .zip (.e a) (.e b), C, X, W, t, x, tk, k, h => by
    cases t with
    | Tuple ts n tp =>
      cases x with
      | Call fn xs kw p =>
        match fn, xs, kw, h with
        | .Name id p2, [l, m], [], h =>
          have h : (decide (id = "zip") && C.blt id && ckE C a l && ckE C b m) = true := h
          obtain ⟨h, h4⟩ := ba h
          obtain ⟨h1, h3⟩ := ba h
          obtain ⟨h1, h2⟩ := ba h1
          obtain rfl := of_decide_eq_true h1
          obtain ⟨g1, g2, _⟩ := k.blt h2
          have i := snd_E a C X W l k h3
          have j := snd_E b C X W m k h4
          exact i_zip g1 g2 (i.pe tk) (j.pe tk) (ok_star i.ok _ _) (ok_star j.ok _ _)
      | _ => cases h
    | _ => cases h
  | .enum (.range1 ..) _, C, X, W, t, x, tk, k, h => by cases h
  | .enum (.range2 ..) _, C, X, W, t, x, tk, k, h => by cases h
  | .enum (.rangeD ..) _, C, X, W, t, x, tk, k, h => by cases h
  | .enum (.enum ..) _, C, X, W, t, x, tk, k, h => by cases h
  | .enum (.zip ..) _, C, X, W, t, x, tk, k, h => by cases h
  | .enum (.zip3 ..) _, C, X, W, t, x, tk, k, h => by cases h
  | .zip (.range1 ..) _, C, X, W, t, x, tk, k, h => by cases h
  | .zip (.range2 ..) _, C, X, W, t, x, tk, k, h => by cases h
  | .zip (.rangeD ..) _, C, X, W, t, x, tk, k, h => by cases h
  | .zip (.enum ..) _, C, X, W, t, x, tk, k, h => by cases h
  | .zip (.zip ..) _, C, X, W, t, x, tk, k, h => by cases h
  | .zip (.zip3 ..) _, C, X, W, t, x, tk, k, h => by cases h
  | .zip (.e _) (.range1 ..), C, X, W, t, x, tk, k, h => by cases h
  | .zip (.e _) (.range2 ..), C, X, W, t, x, tk, k, h => by cases h
  | .zip (.e _) (.rangeD ..), C, X, W, t, x, tk, k, h => by cases h
  | .zip (.e _) (.enum ..), C, X, W, t, x, tk, k, h => by cases h
  | .zip (.e _) (.zip ..), C, X, W, t, x, tk, k, h => by cases h
  | .zip (.e _) (.zip3 ..), C, X, W, t, x, tk, k, h => by cases h
  | .zip3 .., C, X, W, t, x, tk, k, h => by cases h
end
end Py
end

section
set_option autoImplicit false
set_option linter.all false
set_option Elab.async false
set_option maxRecDepth 100000
set_option maxHeartbeats 4000000
/-! The check of statements, and that it is sound. -/
namespace Py
open L2 (V Hp HO SqL SqT Rd upd upd_same upd_ne ne_of ne_of_none Cx PE PT PW PA TE TT TA VK R2 OpR tOp thn EP TP Inv RelV CallR Sp PI TI Walk YAt YFn YPair PG PGs TG TGs PTs PS PSs TS Ends)
open PySem (Expr Pos Operator CmpOp Value Shared Sem wpAny Stmt Scope NameKind Const Comprehension)
def isTupE : Expr → Bool
  | .Tuple .. => true
  | _ => false
def isLcE : Expr → Bool
  | .ListComp .. => true
  | _ => false
def swB (C : Cc) (x : Expr) (y : Str) (py : Pos) : Bool := match x with
  | .ListComp _ _ s p => decide (C.sc.names.lookup y = some .local) && py.line == p.line && !(s.names.any fun nk => nk.1 == y && (nk.2 == .local || nk.2 == .cell))
  | _ => false
def ckNames (C : Cc) : List Nat → List Expr → Bool
  | [], [] => true
  | i :: is, .Name id _ :: ts => C.wr i id && ckNames C is ts
  | _, _ => false
def lineOf (ts : List Expr) : Nat := (ts.head?.map (·.pos.line)).getD 0
def swF (C : Cc) (line : Nat) (t : Expr) : Option Str := match t with
    | .Name id pos => if C.sc.names.lookup id == some .local && pos.line == line then some id else none
    | _ => none
def swNames (C : Cc) (line : Nat) (ts : List Expr) : List Str := ts.filterMap (swF C line)
/-- how the stores of a, b = x, y go: swapped, in order, unknown -/
def swp (C : Cc) (ts xs : List Expr) : Option Bool :=
  if !(ts.length == 2 || ts.length == 3) || xs.length != ts.length then some false
  else if (swNames C (lineOf ts) ts).length != ts.length || (swNames C (lineOf ts) ts).eraseDups.length != (swNames C (lineOf ts) ts).length then some false
  else if xs.all (PySem.foldedForSure 8) then some false
  else if xs.all (PySem.constantsAlone 8) then none
  else some true
def parSw (C : Cc) : List Nat → List Expr → Bool
  | [i, j], [.Name x _, .Name y _] => decide (i ≠ j) && decide (C.sc.names.lookup x = some .local) && decide (C.sc.names.lookup y = some .local)
  | [i, j, l], [.Name x _, .Name y _, .Name z _] => decide (i ≠ j) && decide (i ≠ l) && decide (j ≠ l) && decide (C.sc.names.lookup x = some .local) && decide (C.sc.names.lookup y = some .local) && decide (C.sc.names.lookup z = some .local)
  | _, _ => false
def ckPar (C : Cc) (is : List Nat) (ts xs : List Expr) : Bool := match swp C ts xs with
  | some true => parSw C is ts
  | some false => decide (is.length ≤ 1000)
  | none => false
def isLcV : E → Bool
  | .lc .. => true
  | _ => false
/-! except clauses -/
def ckNm (C : Cc) (i : Option Nat) (n : Str) : Bool := match i with
  | some j => C.rd j n
  | none => false
def ckHB (C : Cc) (c : Nat) (i : Option Nat) : HP → Expr → Bool
  | .c v, x => match x with
    | .Constant k _ _ => ckC v k
    | _ => false
  | .reason, x => match x with
    | .Attribute (.Name n _) m _ => decide (m = "reason") && ckNm C i n && decide (c = 1)
    | _ => false
def isiB (C : Cc) (i : Option Nat) : Expr → Bool
  | .Call (.Name id _) [.Name n _, .Name f _] [] _ => decide (id = "isinstance") && C.blt id && ckNm C i n && C.gl f && (match C.gt.lookup f with
    | some .flt => true
    | _ => false)
  | _ => false
def strB : Expr → Bool
  | .Constant (.str _) _ _ => true
  | _ => false
def ckHP (C : Cc) (c : Nat) (i : Option Nat) (p : HP) (x : Expr) : Bool := ckHB C c i p x || match x with
  | .IfExp t a y _ => isiB C i t && ckHB C c i p a && strB y
  | _ => false
def ckHR (C : Cc) (c : Nat) (i : Option Nat) : HR → List Stmt → Bool
  | .one p, l => match l with
    | [.Return (some x) _] => ckHP C c i p x
    | _ => false
  | .two p q, l => match l with
    | [.Return (some (.List [x, y] _)) _] => okX x && okX y && ckHP C c i p x && ckHP C c i q y
    | _ => false
def nameB (C : Cc) : Option Nat → Option Str → Bool
  | none, none => true
  | some j, some n => C.slotB j n && decide (C.sc.names.lookup n = some .local)
  | _, _ => false
def ckHs (C : Cc) : Hs → List PySem.ExceptHandler → Bool
  | .nil, l => l.isEmpty
  | .cons c i r hs, l => match l with
    | .ExceptHandler (some (.Name id _)) nm suite _ :: hds => C.gl id && (match C.gt.lookup id with
      | some (.ex m) => decide (m = c)
      | _ => false) && nameB C i nm && ckHR C c i r suite && ckHs C hs hds
    | _ => false
mutual
def ckS (C : Cc) : St → Stmt → Bool
  | .expr e, s => match s with
    | .Expr x _ => ckE C e x && !isLcE x
    | _ => false
  | .set i e, s => match s with
    | .Assign [.Name id py] x _ => C.wr i id && ckE C e x && (!swB C x id py || isLcV e)
    | _ => false
  | .unp ts e, s => match s with
    | .Assign [.Tuple es _ _] x _ => ckTgs C ts es && ckE C e x && !isTupE x
    | _ => false
  | .par is es, s => match s with
    | .Assign [.Tuple ts _ _] (.Tuple xs _ _) _ => ckNames C is ts && ckEs C es xs && ckPar C is ts xs
    | _ => false
  | .put i ix e, s => match s with
    | .Assign [.Subscript (.Name id _) j _] x _ => C.rd i id && ckE C ix j && ckE C e x
    | _ => false
  | .aug i o e, s => match s with
    | .AugAssign (.Name id _) op x _ => C.wr i id && decide (op = boOp o) && ckE C e x
    | _ => false
  | .augS i ix o e, s => match s with
    | .AugAssign (.Subscript (.Name id _) j _) op x _ => C.rd i id && decide (op = boOp o) && ckE C ix j && ckE C e x
    | _ => false
  | .app i e, s => match s with
    | .Expr (.Call (.Attribute (.Name id _) m apos) [x] [] cpos) _ => decide (m = "append") && C.rd i id && (apos.endLine == cpos.line) && ckE C e x
    | _ => false
  | .ext i e, s => match s with
    | .Expr (.Call (.Attribute (.Name id _) m apos) [x] [] cpos) _ => decide (m = "extend") && C.rd i id && (apos.endLine == cpos.line) && ckE C e x
    | _ => false
  | .pop i, s => match s with
    | .Expr (.Call (.Attribute (.Name id _) m apos) [] [] cpos) _ => decide (m = "pop") && C.rd i id && (apos.endLine == cpos.line)
    | _ => false
  | .ite c a b, s => match s with
    | .If t l r _ => ckE C c t && ckSs C a l && ckSs C b r
    | _ => false
  | .wh c b, s => match s with
    | .While t l [] _ => ckE C c t && ckSs C b l
    | _ => false
  | .for tg it b, s => match s with
    | .For t x l [] _ => ckIt C it t x && okX x && ckTg C tg t && ckSs C b l
    | _ => false
  | .ret e, s => match s with
    | .Return (some x) _ => ckE C e x
    | _ => false
  | .retN, s => match s with
    | .Return none _ => true
    | _ => false
  | .raise n a, s => match a, s with
    | none, .Raise (some (.Call (.Name id _) [.Constant (.str _) _ _] [] _)) none _ => C.gl id && decide (n = 0) && (match C.gt.lookup id with
      | some (.ex m) => decide (m = n)
      | _ => false)
    | _, _ => false
  | .bad, _ => true
  | .pass, s => match s with
    | .Pass _ => true
    | _ => false
  | .putE b ix e, s => match s with
    | .Assign [.Subscript o j _] x _ => ckE C b o && ckE C ix j && ckE C e x
    | _ => false
  | .tr b hs, s => match s with
    | .Try body (h :: hds) [] [] _ => decide (C.oc = none) && ckSs C b body && ckHs C hs (h :: hds)
    | _ => false
def ckSs (C : Cc) : Sts → List Stmt → Bool
  | .nil, l => l.isEmpty
  | .cons a b, l => match l with
    | s :: r => ckS C a s && ckSs C b r
    | [] => false
end
section
variable {X : Cx} {kn : Kn} {C : Cc} {W : WE}
theorem bk_fun (k : CK X kn C W) : X.env.blockKind = .function := by
  unfold PySem.Env.blockKind
  rw [k.sc, k.kind]
  rfl
theorem swap_none {x : Expr} (ho : okX x = true) (h : isLcE x = false) (env : PySem.Env) (l : Nat) : PySem.swapsWith x none l env = pure false := by
  cases x <;> first | rfl | (cases ho; done) | (cases h; done)
theorem swap_name (k : CK X kn C W) {x : Expr} {y : Str} {py : Pos} (ho : okX x = true) (l : Nat) : PySem.swapsWith x (some (.Name y py)) l X.env = pure (swB C x y py) := by
  cases x with
  | ListComp elt gens s p =>
    show (pure (X.env.blockKind == .function && X.env.kindOf y == some .local && py.line == p.line && !(s.names.any fun (n, kd) => n == y && (kd == .local || kd == .cell))) : Sem Bool) = _
    rw [bk_fun k]
    unfold PySem.Env.kindOf
    rw [k.sc]
    unfold swB
    congr 1
    have e : ∀ o : Option NameKind, (o == some .local) = decide (o = some .local) := fun o => by
      cases o with
      | none => rfl
      | some z => cases z <;> rfl
    rw [e]
    show (true && _ && _ && _) = _
    rw [Bool.true_and]
  | _ => first | rfl | cases ho
theorem swap_other {x t : Expr} (ho : okX x = true) (ht : ∀ y p, t ≠ .Name y p) (env : PySem.Env) (l : Nat) : PySem.swapsWith x (some t) l env = pure false := by
  cases x with
  | ListComp elt gens s p =>
    cases t with
    | Name y p => exact (ht y p rfl).elim
    | _ => rfl
  | _ => first | rfl | cases ho
def isStarE (x : Expr) : Bool := match x with
  | .Starred .. => true
  | _ => false
theorem noStar : ∀ {xs : List Expr} (h : ∀ x ∈ xs, okX x = true), xs.any isStarE = false
  | [], _ => rfl
  | x :: xs, h => by
    have i := noStar (xs := xs) fun y hy => h y (List.mem_cons_of_mem _ hy)
    have := h x (by simp)
    have e : isStarE x = false := by cases x <;> first | rfl | (cases this; done)
    rw [List.any_cons, i, e]
    rfl
theorem swapped (k : CK X kn C W) {ts xs : List Expr} {n m : Nat} {p q : Pos} {b : Bool} (hx : ∀ x ∈ xs, okX x = true) (h : swp C ts xs = some b) :
    PySem.swappedStores [.Tuple ts n p] (.Tuple xs m q) X.env = pure (if b = true then some (swNames C (lineOf ts) ts) else none) := by
  have en : (ts.filterMap fun x => match x with
    | .Name id pos => if X.env.kindOf id == some .local && pos.line == lineOf ts then some id else none
    | _ => none) = swNames C (lineOf ts) ts := by
    unfold swNames PySem.Env.kindOf
    rw [k.sc]
    rfl
  have unf : PySem.swappedStores [.Tuple ts n p] (.Tuple xs m q) X.env = (do
    if !(ts.length == 2 || ts.length == 3) || xs.length != ts.length || X.env.blockKind != .function then return none
    if xs.any isStarE then return none
    let names := ts.filterMap fun x => match x with
      | .Name id pos => if X.env.kindOf id == some .local && pos.line == lineOf ts then some id else none
      | _ => none
    if names.length != ts.length || names.eraseDups.length != names.length then return none
    if xs.all (PySem.foldedForSure 8) then return none
    if xs.all (PySem.constantsAlone 8) then PySem.unsupported "assign.tuple-of-constant-expressions:order-of-the-stores"
    return some names) := rfl
  rw [unf, bk_fun k, noStar hx]
  dsimp only
  rw [en]
  unfold swp at h
  generalize (!(ts.length == 2 || ts.length == 3) || xs.length != ts.length) = c1 at h ⊢
  generalize swNames C (lineOf ts) ts = ns at h ⊢
  generalize (ns.length != ts.length || ns.eraseDups.length != ns.length) = c2 at h ⊢
  generalize xs.all (PySem.foldedForSure 8) = c3 at h ⊢
  generalize xs.all (PySem.constantsAlone 8) = c4 at h ⊢
  cases c1 <;> cases c2 <;> cases c3 <;> cases c4 <;> first | (cases h; rfl) | (cases h; done)
theorem ckNames_len : ∀ (is : List Nat) (ts : List Expr), ckNames C is ts = true → ts.length = is.length ∧ ∀ x ∈ ts, okX x = true
  | [], [], _ => ⟨rfl, fun _ h => absurd h (by simp)⟩
  | [], _ :: _, h => by cases h
  | i :: is, [], h => by cases h
  | i :: is, t :: ts, h => by
    cases t with
    | Name id p =>
      have h : (C.wr i id && ckNames C is ts) = true := h
      obtain ⟨h1, h2⟩ := ba h
      obtain ⟨e1, e2⟩ := ckNames_len is ts h2
      exact ⟨by simp [e1], fun x hx => (List.mem_cons.mp hx).elim (fun e => e ▸ rfl) (e2 x)⟩
    | _ => cases h
theorem snd_names (k : CK X kn C W) : ∀ (is : List Nat) (ts : List Expr), ckNames C is ts = true → PGs X ts (gNames is) ∧ (PySem.assignEach ts X.env).length = is.length ∧ (PySem.assignEach ts X.env).findIdx? (·.1) = none
  | [], [], _ => ⟨gn_nil, rfl, rfl⟩
  | [], _ :: _, h => by cases h
  | i :: is, [], h => by cases h
  | i :: is, t :: ts, h => by
    cases t with
    | Name id p =>
      have h : (C.wr i id && ckNames C is ts) = true := h
      obtain ⟨h1, h2⟩ := ba h
      obtain ⟨g1, g2, g3⟩ := k.wr h1
      obtain ⟨i1, i2, i3⟩ := snd_names k is ts h2
      refine ⟨gn_cons k.nd g1 g2 g3 i1 (by rw [ok_asg rfl]; rfl), by rw [ok_asg rfl, List.length_cons, i2]; rfl, ?_⟩
      rw [ok_asg rfl, List.findIdx?_cons]
      simp [i3]
    | _ => cases h
theorem eraseDups2 {x y : Str} (h : ([x, y] : List Str).eraseDups.length = 2) : x ≠ y := fun e => by
  subst e
  simp [List.eraseDups_cons] at h
end
theorem filterMap_all {α β : Type} {f : α → Option β} : ∀ {l : List α}, (l.filterMap f).length = l.length → ∀ x ∈ l, ∃ y, f x = some y
  | [], _, x, hx => absurd hx (by simp)
  | a :: l, h, x, hx => by
    rw [List.filterMap_cons] at h
    cases e : f a with
    | none =>
      rw [e] at h
      have := List.length_filterMap_le f l
      simp only [List.length_cons] at h
      omega
    | some b =>
      rw [e] at h
      simp only [List.length_cons] at h
      rcases List.mem_cons.mp hx with rfl | hx
      · exact ⟨b, e⟩
      · exact filterMap_all (by omega) x hx
theorem swap_sole {x t : Expr} (ho : okX x = true) (ht : ∀ y p, t ≠ .Name y p) (env : PySem.Env) (l : Nat) : PySem.swapsWithSole [t] x l env = pure false := swap_other ho ht env l
theorem swF_name {C : Cc} {l : Nat} {x y : Str} {p : Pos} (h : swF C l (.Name x p) = some y) : y = x := by
  have h : (if C.sc.names.lookup x == some .local && p.line == l then some x else none) = some y := h
  split at h
  · cases h; rfl
  · cases h
theorem swNames2 {C : Cc} {x y : Str} {px py : Pos} {xs : List Expr} (h : swp C [.Name x px, .Name y py] xs = some true) : swNames C (lineOf [.Name x px, .Name y py]) [.Name x px, .Name y py] = [x, y] := by
  unfold swp at h
  split at h
  · cases h
  · split at h
    · cases h
    · rename_i h2
      generalize lineOf [.Name x px, .Name y py] = ln at h2 ⊢
      have hl : (([.Name x px, .Name y py] : List Expr).filterMap (swF C ln)).length = ([.Name x px, .Name y py] : List Expr).length := by
        by_cases q : (([.Name x px, .Name y py] : List Expr).filterMap (swF C ln)).length = ([.Name x px, .Name y py] : List Expr).length
        · exact q
        · exact absurd (Bool.or_eq_true_iff.mpr (.inl (bne_iff_ne.mpr q))) h2
      obtain ⟨u, hu⟩ := filterMap_all hl (.Name x px) (by simp)
      obtain ⟨v, hv⟩ := filterMap_all hl (.Name y py) (by simp)
      unfold swNames
      rw [List.filterMap_cons, hu, List.filterMap_cons, hv, swF_name hu, swF_name hv]
      rfl
theorem swNames3 {C : Cc} {x y z : Str} {px py pz : Pos} {xs : List Expr} (h : swp C [.Name x px, .Name y py, .Name z pz] xs = some true) : swNames C (lineOf [.Name x px, .Name y py, .Name z pz]) [.Name x px, .Name y py, .Name z pz] = [x, y, z] := by
  unfold swp at h
  split at h
  · cases h
  · split at h
    · cases h
    · rename_i h2
      generalize lineOf [.Name x px, .Name y py, .Name z pz] = ln at h2 ⊢
      have hl : (([.Name x px, .Name y py, .Name z pz] : List Expr).filterMap (swF C ln)).length = ([.Name x px, .Name y py, .Name z pz] : List Expr).length := by
        by_cases q : (([.Name x px, .Name y py, .Name z pz] : List Expr).filterMap (swF C ln)).length = ([.Name x px, .Name y py, .Name z pz] : List Expr).length
        · exact q
        · exact absurd (Bool.or_eq_true_iff.mpr (.inl (bne_iff_ne.mpr q))) h2
      obtain ⟨u, hu⟩ := filterMap_all hl (.Name x px) (by simp)
      obtain ⟨v, hv⟩ := filterMap_all hl (.Name y py) (by simp)
      obtain ⟨w, hw⟩ := filterMap_all hl (.Name z pz) (by simp)
      unfold swNames
      rw [List.filterMap_cons, hu, List.filterMap_cons, hv, List.filterMap_cons, hw, swF_name hu, swF_name hv, swF_name hw]
      rfl
theorem swp_len {C : Cc} {ts xs : List Expr} (h : swp C ts xs = some true) : xs.length = ts.length := by
  unfold swp at h
  split at h
  · cases h
  · rename_i h1
    by_cases q : xs.length = ts.length
    · exact q
    · exact absurd (by simp [q]) h1
theorem few1 {x : Expr} (h : okX x = true) (env : PySem.Env) (cpos : Pos) : ((PySem.backTo cpos (PySem.starEach [x] env)).all (fun x => !x.1) && (PySem.backToKw cpos (PySem.keywordEach [] env)).all (fun x => x.1.isSome)
      && decide ([x].length + ([] : List PySem.Keyword).length + (if ([] : List PySem.Keyword).isEmpty then 0 else 1) < 30)) = true := by
  rw [ok_star h]
  rfl
theorem parSw_of {C : Cc} {is : List Nat} {ts : List Expr} (h : parSw C is ts = true) :
    (∃ i j x px y py, is = [i, j] ∧ ts = [.Name x px, .Name y py] ∧ i ≠ j ∧ C.sc.names.lookup x = some .local ∧ C.sc.names.lookup y = some .local) ∨
    ∃ i j l x px y py z pz, is = [i, j, l] ∧ ts = [.Name x px, .Name y py, .Name z pz] ∧ i ≠ j ∧ i ≠ l ∧ j ≠ l ∧ C.sc.names.lookup x = some .local ∧ C.sc.names.lookup y = some .local ∧ C.sc.names.lookup z = some .local := by
  unfold parSw at h
  split at h
  · obtain ⟨h, c3⟩ := ba h
    obtain ⟨c1, c2⟩ := ba h
    exact .inl ⟨_, _, _, _, _, _, rfl, rfl, of_decide_eq_true c1, of_decide_eq_true c2, of_decide_eq_true c3⟩
  · obtain ⟨h3, c6⟩ := ba h
    obtain ⟨h3, c5⟩ := ba h3
    obtain ⟨h3, c4⟩ := ba h3
    obtain ⟨h3, c3⟩ := ba h3
    obtain ⟨c1, c2⟩ := ba h3
    exact .inr ⟨_, _, _, _, _, _, _, _, _, rfl, rfl, of_decide_eq_true c1, of_decide_eq_true c2, of_decide_eq_true c3, of_decide_eq_true c4, of_decide_eq_true c5, of_decide_eq_true c6⟩
  · cases h
theorem isiB_of {C : Cc} {i : Option Nat} {t : Expr} (h : isiB C i t = true) : ∃ id p1 n p2 f p3 p4, t = .Call (.Name id p1) [.Name n p2, .Name f p3] [] p4 ∧ (decide (id = "isinstance") && C.blt id && ckNm C i n && C.gl f && (match C.gt.lookup f with
    | some .flt => true
    | _ => false)) = true := by
  unfold isiB at h
  split at h
  · exact ⟨_, _, _, _, _, _, _, rfl, h⟩
  · cases h
theorem ite_of {C : Cc} {c : Nat} {i : Option Nat} {p : HP} {x : Expr} (h : (match x with
  | .IfExp t a y _ => isiB C i t && ckHB C c i p a && strB y
  | _ => false) = true) : ∃ t a y q, x = .IfExp t a y q ∧ (isiB C i t && ckHB C c i p a && strB y) = true := by
  split at h
  · exact ⟨_, _, _, _, rfl, h⟩
  · cases h
theorem hr1_of {C : Cc} {c : Nat} {i : Option Nat} {p : HP} {l : List Stmt} (h : ckHR C c i (.one p) l = true) : ∃ x q, l = [.Return (some x) q] ∧ ckHP C c i p x = true := by
  have h : (match (generalizing := false) l with
    | [.Return (some x) _] => ckHP C c i p x
    | _ => false) = true := h
  split at h
  · exact ⟨_, _, rfl, h⟩
  · cases h
theorem hr2_of {C : Cc} {c : Nat} {i : Option Nat} {p q : HP} {l : List Stmt} (h : ckHR C c i (.two p q) l = true) : ∃ x y lp r, l = [.Return (some (.List [x, y] lp)) r] ∧ (okX x && okX y && ckHP C c i p x && ckHP C c i q y) = true := by
  have h : (match (generalizing := false) l with
    | [.Return (some (.List [x, y] _)) _] => okX x && okX y && ckHP C c i p x && ckHP C c i q y
    | _ => false) = true := h
  split at h
  · exact ⟨_, _, _, _, rfl, h⟩
  · cases h
theorem strB_of {x : Expr} (h : strB x = true) : ∃ s j p, x = .Constant (.str s) j p := by
  unfold strB at h
  split at h
  · exact ⟨_, _, _, rfl⟩
  · cases h
theorem ckC_pe {v : Val} {c : Const} (h : ckC v c = true) : ∃ w : V, (∀ (X : Cx) (k : Nat) (p : Pos), PE X (.Constant c k p) (L2.tC w)) ∧ ∀ (K : Kf) θ H, RV K θ H v w := by
  cases v with
  | non => cases c <;> first | exact ⟨.non, fun X k p => L2.pe_non, fun K θ H => by unfold RV; rfl⟩ | cases h
  | bl b =>
    cases c with
    | bool d =>
      have h : (b == d) = true := h
      obtain rfl := eq_of_beq h
      exact ⟨.bl b, fun X k p => L2.pe_bl, fun K θ H => by unfold RV; rfl⟩
    | _ => cases h
  | int b =>
    cases c with
    | int d =>
      have h : decide (b = d) = true := h
      obtain rfl := of_decide_eq_true h
      exact ⟨.int b, fun X k p => L2.pe_int, fun K θ H => by unfold RV; rfl⟩
    | _ => cases h
  | str b =>
    cases c with
    | str d =>
      have h : decide (b = d) = true := h
      obtain rfl := of_decide_eq_true h
      exact ⟨.str b, fun X k p => L2.pe_str, fun K θ H => by unfold RV; rfl⟩
    | _ => cases h
  | _ => cases c <;> cases h
theorem CK.tr {X : Cx} {kn : Kn} {C : Cc} {W : WE} (k : CK X kn C W) {w : L2.WX} {pn : List (Ad × PySem.Obj)} {xe : Value → Shared → Prop} (tk : L2.Takes (X.tr pn xe) w) (po : PySem.PassesOwn (PySem.model X.prog X.w) X.A X.env xe) : CK (X.tr pn xe) kn C (some w) :=
  ⟨k.N, k.nd, k.sc, k.kind, k.fn, k.calm, po, ⟨k.g.fn, k.g.cv, k.g.bi, k.g.un, ⟨fun x n h => let ⟨e, C, F⟩ := k.g.x.ex x n h; ⟨e, C, ⟨F.at_, F.mg, F.exc, F.keep, F.sub, F.ty⟩⟩, k.g.x.exm, k.g.x.flt, k.g.x.rsn⟩⟩, tk, k.st⟩
section
variable {X : Cx} {kn : Kn} {C : Cc} {W : WE} {a : Ad} {oe : PySem.Obj} {pn : List (Ad × PySem.Obj)} {cls : Value} {d : Option Ad} {c : Nat} {i : Option Nat}
theorem snd_HB (k : CK X kn C W) (CC : Ad) (hC : exC X.K c = some CC) (hz : L2.Zc cls d oe) (hf : ∃ vs, oe.data = .fields vs) (p : HP) (x : Expr) (h : ckHB C c i p x = true) : PE (X.suite a ((a, oe) :: pn)) x (tHP X.K c cls d a i p) := by
  cases p with
  | c v =>
    cases x with
    | Constant k j p =>
      obtain ⟨w, h1, h2⟩ := ckC_pe (show ckC v k = true from h)
      exact hc_ok (X := X.suite a ((a, oe) :: pn)) (h1 _ j p) fun θ H => h2 _ θ H
    | _ => cases h
  | reason =>
    cases x with
    | Attribute y m p =>
      cases y with
      | Name n p2 =>
        have h : (decide (m = "reason") && ckNm C i n && decide (c = 1)) = true := h
        obtain ⟨h1, h3⟩ := ba h
        obtain ⟨h1, h2⟩ := ba h1
        obtain rfl := of_decide_eq_true h1
        cases i with
        | none => cases h2
        | some j =>
          obtain ⟨g1, g2, g3, g4⟩ := k.rd (show C.rd j n = true from h2)
          exact h_reason (k.g.x.rsn c CC hC (of_decide_eq_true h3)) hz hf g1 g2 g3 g4 rfl
      | _ => cases h
    | _ => cases h
theorem snd_HP (k : CK X kn C W) (CC : Ad) (hC : exC X.K c = some CC) (hz : L2.Zc cls d oe) (hf : ∃ vs, oe.data = .fields vs) (p : HP) (x : Expr) (h : ckHP C c i p x = true) : PE (X.suite a ((a, oe) :: pn)) x (tHP X.K c cls d a i p) := by
  unfold ckHP at h
  rcases Bool.or_eq_true_iff.mp h with h | h
  · exact snd_HB k CC hC hz hf p x h
  · obtain ⟨t, x, y, ip, rfl, h⟩ := ite_of h
    obtain ⟨h, h3⟩ := ba h
    obtain ⟨h1, h2⟩ := ba h
    obtain ⟨id, p1, n, p2, f, p3, p4, rfl, h1⟩ := isiB_of h1
    obtain ⟨h1, g5⟩ := ba h1
    obtain ⟨h1, g4⟩ := ba h1
    obtain ⟨h1, g3⟩ := ba h1
    obtain ⟨g1, g2⟩ := ba h1
    obtain rfl := of_decide_eq_true g1
    obtain ⟨s, sj, sp, rfl⟩ := strB_of h3
    cases i with
    | none => cases g3
    | some j =>
      obtain ⟨r1, r2, r3, r4⟩ := k.rd (show C.rd j n = true from g3)
      obtain ⟨b1, b2, b3, b4⟩ := k.blt g2
      obtain ⟨q1, q2, q3⟩ := k.gl g4
      split at g5
      · rename_i hg
        obtain ⟨F, m1, m2⟩ := k.g.x.flt f hg
        exact h_isi (ty := L2.tC (.str s)) (m2 c CC hC) hz hf r1 r2 r3 r4 b1 b2 q1 m1 q2 rfl rfl (fun _ => rfl) (snd_HB k CC hC hz hf p x h2) L2.pe_str
      · cases g5
theorem snd_HR (k : CK X kn C W) (CC : Ad) (hC : exC X.K c = some CC) (hz : L2.Zc cls d oe) (hf : ∃ vs, oe.data = .fields vs) (r : HR) (l : List Stmt) (h : ckHR C c i r l = true) : ∃ b₀ suite, l = b₀ :: suite ∧ PSs (X.suite a ((a, oe) :: pn)) (b₀ :: suite) (tHR X.K c i r a cls d) := by
  cases r with
  | one p =>
    obtain ⟨x, q, rfl, h⟩ := hr1_of h
    exact ⟨_, _, rfl, s_h1 (X := X.suite a ((a, oe) :: pn)) (snd_HP k CC hC hz hf p x h)⟩
  | two p q =>
    obtain ⟨x, y, lp, r, rfl, h⟩ := hr2_of h
    obtain ⟨h, h4⟩ := ba h
    obtain ⟨h, h3⟩ := ba h
    obtain ⟨h1, h2⟩ := ba h
    exact ⟨_, _, rfl, s_h2 (X := X.suite a ((a, oe) :: pn)) (snd_HP k CC hC hz hf p x h3) (snd_HP k CC hC hz hf q y h4) (ok_star h1 _ _) (ok_star h2 _ _)⟩
end
section
variable {X : Cx} {kn : Kn} {C : Cc} {W : WE}
theorem hs_at (k : CK X kn C W) : ∀ (hs : Hs) (hds : List PySem.ExceptHandler), ckHs C hs hds = true → ∀ c, HsAt hs c → ∃ CC, exC X.K c = some CC
  | .nil, _, _, c, h => h.elim
  | .cons c i r hs, hds, h, n, hn => by
    unfold ckHs at h
    split at h
    · obtain ⟨h, h5⟩ := ba h
      obtain ⟨h, h4⟩ := ba h
      obtain ⟨h, h3⟩ := ba h
      obtain ⟨h1, h2⟩ := ba h
      rcases hn with rfl | hn
      · split at h2
        · rename_i m hg
          obtain rfl := of_decide_eq_true h2
          obtain ⟨_, CC, F⟩ := k.g.x.ex _ _ hg
          exact ⟨CC, F.at_⟩
        · cases h2
      · exact hs_at k hs _ h5 n hn
    · cases h
theorem snd_Hs (k : CK X kn C W) : ∀ (hs : Hs) (hds : List PySem.ExceptHandler), ckHs C hs hds = true → L2.HdsN X hds (hcl X.K hs)
  | .nil, hds, h => by
    cases hds with
    | nil => exact .nil
    | cons => cases h
  | .cons c i r hs, hds, h => by
    unfold ckHs at h
    split at h
    · rename_i id np nm suite pos hds
      obtain ⟨h, h5⟩ := ba h
      obtain ⟨h, h4⟩ := ba h
      obtain ⟨h, h3⟩ := ba h
      obtain ⟨h1, h2⟩ := ba h
      have ih := snd_Hs k hs hds h5
      obtain ⟨q1, q2, q3⟩ := k.gl h1
      split at h2
      · rename_i m hg
        obtain rfl := of_decide_eq_true h2
        obtain ⟨e, CC, F⟩ := k.g.x.ex _ _ hg
        subst e
        have nms : L2.Names X (exN m) (.ref CC) := ⟨q1, q2, .inl F.mg⟩
        have hsu : ∀ (a : Ad) (oe : PySem.Obj) (cls : Value) (d : Option Ad) (pn : List (Ad × PySem.Obj)), L2.Zc cls d oe → (∃ vs, oe.data = .fields vs) → ∃ b₀ s2, suite = b₀ :: s2 ∧ PSs (X.suite a ((a, oe) :: pn)) (b₀ :: s2) (tHR X.K m i r a cls d) :=
          fun a oe cls d pn hz hf => snd_HR k CC F.at_ hz hf r suite h4
        have hne : ∃ b₀ s2, suite = b₀ :: s2 := by
          cases r with
          | one p => obtain ⟨x, q, rfl, _⟩ := hr1_of h4; exact ⟨_, _, rfl⟩
          | two p q => obtain ⟨x, y, lp, r, rfl, _⟩ := hr2_of h4; exact ⟨_, _, rfl⟩
        obtain ⟨b₀, s2, rfl⟩ := hne
        have hsu : ∀ (a : Ad) (oe : PySem.Obj) (cls : Value) (d : Option Ad) (pn : List (Ad × PySem.Obj)), L2.Zc cls d oe → (∃ vs, oe.data = .fields vs) → PSs (X.suite a ((a, oe) :: pn)) (b₀ :: s2) (tHR X.K m i r a cls d) := fun a oe cls d pn hz hf => by
          obtain ⟨b, s, e, q⟩ := hsu a oe cls d pn hz hf
          rw [e]; exact q
        unfold hcl
        rw [F.at_]
        cases i with
        | none =>
          cases nm with
          | none => exact .cons0 nms hsu ih
          | some n => cases h3
        | some j =>
          cases nm with
          | none => cases h3
          | some n =>
            have h3 : (C.slotB j n && decide (C.sc.names.lookup n = some .local)) = true := h3
            obtain ⟨e1, e2⟩ := ba h3
            refine .consN (by rw [k.N]; exact of_decide_eq_true e1) ?_ nms hsu ih
            show X.env.scope.names.lookup n = _
            rw [k.sc]
            exact of_decide_eq_true e2
      · cases h2
    · cases h
end
mutual
theorem snd_S {kn : Kn} {C : Cc} : ∀ (a : St) {X : Cx} {W : WE} (k : CK X kn C W) (s : Stmt), ckS C a s = true → PS X s (tS X.K W (ex kn a))
  | .expr e, X, W, k, s, h => by
    unfold ckS at h
    split at h
    · rename_i x p
      have h : (ckE C e x && !isLcE x) = true := h
      obtain ⟨h1, h2⟩ := ba h
      have i := snd_E e C X W x k h1
      exact s_expr (i.pe false) (swap_none i.ok (by simpa using h2) _ _)
    · cases h
  | .set j e, X, W, k, s, h => by
    unfold ckS at h
    split at h
    · rename_i id py x p
      have h : (C.wr j id && ckE C e x && (!swB C x id py || isLcV e)) = true := h
      obtain ⟨h1, h3⟩ := ba h
      obtain ⟨h1, h2⟩ := ba h1
      obtain ⟨g1, g2, g3⟩ := k.wr h1
      have i := snd_E e C X W x k h2
      have sw := swap_name k (y := id) (py := py) i.ok p.line
      cases hb : swB C x id py with
      | false =>
        rw [hb] at sw
        exact s_set k.nd g1 g2 (i.pe true) sw g3
      | true =>
        rw [hb] at sw h3
        cases x with
        | ListComp elt gens scope p2 =>
          cases e with
          | lc own tg it ifs e =>
            match gens, h2 with
            | [⟨t, i, fs, 0⟩], h =>
              have h : (match own.mapM fun k => (C.N[k]?).map fun n => (n, k) with
                | some ow => ckIt C it t i && okX i && L2.blkC C.N C.sc scope ow && tg.slots.all (fun k => own.contains k) && ckTg (C.blk scope) tg t && ckIfs (C.blk scope) ifs fs && ckE (C.blk scope) e elt
                | none => false) = true := h
              split at h
              · rename_i ow how
                obtain ⟨h, h7⟩ := ba h
                obtain ⟨h, h6⟩ := ba h
                obtain ⟨h, h5⟩ := ba h
                obtain ⟨h, h4⟩ := ba h
                obtain ⟨h, h3⟩ := ba h
                obtain ⟨h1, h2⟩ := ba h
                have hbk : L2.BlkOk X.N X.env.scope scope ow := by rw [k.N, k.sc]; exact L2.blkOk_by h3
                have he := ownW how
                have hl : X.env.scope.names.lookup id = some .local := by
                  rw [k.sc]
                  unfold swB at hb
                  obtain ⟨hb, _⟩ := ba hb
                  obtain ⟨hb, _⟩ := ba hb
                  exact of_decide_eq_true hb
                have q := s_setLc (W := W) (i := j) (py := py) (pos := p2) (spos := p) (F := tg.slots) (test := evt kn ifs) (g := tg) (fe := M.bind (ev kn e true) asV) k.calm k.nd g1 hl sw (snd_It it C X none t i false k.toNone h1) hbk (fun i hi => by rw [he]; simpa using List.all_eq_true.mp h4 i hi)
                  (Blk.of k hbk.kind fun X' k' e' => (snd_Tg k' tg t h5).2) (Blk.of k hbk.kind fun X' k' e' => snd_Ifs ifs _ X' none fs k' h6) (Blk.of k hbk.kind fun X' k' e' => e_asV ((snd_E e _ X' none elt k' h7).pe true)) (fun v => ok_fold h2 X.env v)
                rw [he] at q
                exact s_setL q
              · cases h
          | _ => cases h3
        | _ => cases hb
    · cases h
  | .unp ts e, X, W, k, s, h => by
    unfold ckS at h
    split at h
    · rename_i es n pt x p
      have h : (ckTgs C ts es && ckE C e x && !isTupE x) = true := h
      obtain ⟨h1, h3⟩ := ba h
      obtain ⟨h1, h2⟩ := ba h1
      have i := snd_E e C X W x k h2
      have q := snd_Tgs k ts es h1
      exact s_unp k.calm (i.pe false) q.pg q.len q.st (swap_sole i.ok (fun _ _ e => by cases e) _ _) (by cases x <;> first | rfl | (cases h3; done)) rfl
    · cases h
  | .par is es, X, W, k, s, h => by
    unfold ckS at h
    split at h
    · rename_i ts n pt xs m pt2 p
      have h : (ckNames C is ts && ckEs C es xs && ckPar C is ts xs) = true := h
      obtain ⟨h1, h3⟩ := ba h
      obtain ⟨h1, h2⟩ := ba h1
      have i := snd_Es es C X W xs k h2
      obtain ⟨n1, n2, n3⟩ := snd_names k is ts h1
      unfold ckPar at h3
      split at h3
      · rename_i hs
        have hl := swp_len hs
        have sw := swapped k (n := n) (m := m) (p := pt) (q := pt2) i.ok hs
        rw [if_pos rfl] at sw
        rcases parSw_of h3 with ⟨a, b, x, px, y, py, rfl, rfl, c1, c2, c3⟩ | ⟨a, b, l, x, px, y, py, z, pz, rfl, rfl, c1, c2, c3, c4, c5, c6⟩
        · have h1 : (C.wr a x && (C.wr b y && true)) = true := h1
          obtain ⟨w1, w2⟩ := ba h1
          obtain ⟨w2, _⟩ := ba w2
          rw [swNames2 hs] at sw
          match xs, hl, i, sw with
          | [u, v], _, i, sw => exact s_par2 k.calm k.nd (k.wr w1).1 (k.wr w2).1 c1 (by rw [k.sc]; exact c2) (by rw [k.sc]; exact c3) i.w sw rfl
        · have h1 : (C.wr a x && (C.wr b y && (C.wr l z && true))) = true := h1
          obtain ⟨w1, w2⟩ := ba h1
          obtain ⟨w2, w3⟩ := ba w2
          obtain ⟨w3, _⟩ := ba w3
          rw [swNames3 hs] at sw
          match xs, hl, i, sw with
          | [u, v, w], _, i, sw => exact s_par3 k.calm k.nd (k.wr w1).1 (k.wr w2).1 (k.wr w3).1 c1 c2 c3 (by rw [k.sc]; exact c4) (by rw [k.sc]; exact c5) (by rw [k.sc]; exact c6) i.w sw rfl
      · rename_i hs
        have sw := swapped k (n := n) (m := m) (p := pt) (q := pt2) i.ok hs
        exact s_parT k.calm (Nat.le_trans (of_decide_eq_true h3) (by decide)) n1 i.w n2 n3 rfl sw rfl
      · cases h3
    · cases h
  | .put j ix e, X, W, k, s, h => by
    unfold ckS at h
    split at h
    · rename_i id p2 y cpos x p
      have h : (C.rd j id && ckE C ix y && ckE C e x) = true := h
      obtain ⟨h1, h3⟩ := ba h
      obtain ⟨h1, h2⟩ := ba h1
      obtain ⟨g1, g2, g3, g4⟩ := k.rd h1
      have i := snd_E ix C X W y k h2
      have j := snd_E e C X W x k h3
      refine s_put g1 g2 g3 g4 (j.pe true) (i.pe false) (fun v => ?_) (swap_sole j.ok (fun _ _ e => by cases e) _ _) rfl rfl
      have := i.ok
      cases y <;> first | rfl | (cases this; done)
    · cases h
  | .aug j o e, X, W, k, s, h => by
    unfold ckS at h
    split at h
    · rename_i id p2 op x p
      have h : (C.wr j id && decide (op = boOp o) && ckE C e x) = true := h
      obtain ⟨h1, h3⟩ := ba h
      obtain ⟨h1, h2⟩ := ba h1
      obtain ⟨g1, g2, g3⟩ := k.wr h1
      obtain rfl := of_decide_eq_true h2
      exact s_aug k.nd g1 g2 ((snd_E e C X W x k h3).pe false) g3
    · cases h
  | .augS j ix o e, X, W, k, s, h => by
    unfold ckS at h
    split at h
    · rename_i id p2 y cpos op x p
      have h : (C.rd j id && decide (op = boOp o) && ckE C ix y && ckE C e x) = true := h
      obtain ⟨h1, h4⟩ := ba h
      obtain ⟨h1, h3⟩ := ba h1
      obtain ⟨h1, h2⟩ := ba h1
      obtain ⟨g1, g2, g3, g4⟩ := k.rd h1
      obtain rfl := of_decide_eq_true h2
      have i := snd_E ix C X W y k h3
      refine s_augS g1 g2 g3 g4 (i.pe false) ((snd_E e C X W x k h4).pe false) (fun ov iv new => ?_)
      have := i.ok
      cases y <;> first | rfl | (cases this; done)
    · cases h
  | .app j e, X, W, k, s, h => by
    unfold ckS at h
    split at h
    · rename_i id p2 m apos x cpos p
      have h : (decide (m = "append") && C.rd j id && (apos.endLine == cpos.line) && ckE C e x) = true := h
      obtain ⟨h1, h4⟩ := ba h
      obtain ⟨h1, h3⟩ := ba h1
      obtain ⟨h1, h2⟩ := ba h1
      obtain rfl := of_decide_eq_true h1
      obtain ⟨g1, g2, g3, g4⟩ := k.rd h2
      have i := snd_E e C X W x k h4
      exact s_app g1 g2 g3 g4 (i.pe true) (ok_star i.ok _ _) rfl h3 (few1 i.ok _ _)
    · cases h
  | .ext j e, X, W, k, s, h => by
    unfold ckS at h
    split at h
    · rename_i id p2 m apos x cpos p
      have h : (decide (m = "extend") && C.rd j id && (apos.endLine == cpos.line) && ckE C e x) = true := h
      obtain ⟨h1, h4⟩ := ba h
      obtain ⟨h1, h3⟩ := ba h1
      obtain ⟨h1, h2⟩ := ba h1
      obtain rfl := of_decide_eq_true h1
      obtain ⟨g1, g2, g3, g4⟩ := k.rd h2
      have i := snd_E e C X W x k h4
      exact s_ext g1 g2 g3 g4 (i.pe false) (ok_star i.ok _ _) rfl h3 (few1 i.ok _ _)
    · cases h
  | .pop j, X, W, k, s, h => by
    unfold ckS at h
    split at h
    · rename_i id p2 m apos cpos p
      have h : (decide (m = "pop") && C.rd j id && (apos.endLine == cpos.line)) = true := h
      obtain ⟨h1, h3⟩ := ba h
      obtain ⟨h1, h2⟩ := ba h1
      obtain rfl := of_decide_eq_true h1
      obtain ⟨g1, g2, g3, g4⟩ := k.rd h2
      exact s_pop g1 g2 g3 g4 rfl h3
    · cases h
  | .ite c a b, X, W, k, s, h => by
    unfold ckS at h
    split at h
    · rename_i t l r p
      have h : (ckE C c t && ckSs C a l && ckSs C b r) = true := h
      obtain ⟨h1, h3⟩ := ba h
      obtain ⟨h1, h2⟩ := ba h1
      exact s_ite (snd_E c C X W t k h1).pt (snd_Ss a k l h2) (snd_Ss b k r h3)
    · cases h
  | .wh c b, X, W, k, s, h => by
    unfold ckS at h
    split at h
    · rename_i t l p
      have h : (ckE C c t && ckSs C b l) = true := h
      obtain ⟨h1, h2⟩ := ba h
      exact s_wh k.xe (snd_E c C X W t k h1).pt (snd_Ss b k l h2)
    · cases h
  | .for tg it b, X, W, k, s, h => by
    unfold ckS at h
    split at h
    · rename_i t x l p
      have h : (ckIt C it t x && okX x && ckTg C tg t && ckSs C b l) = true := h
      obtain ⟨h1, h4⟩ := ba h
      obtain ⟨h1, h3⟩ := ba h1
      obtain ⟨h1, h2⟩ := ba h1
      exact s_for k.xe k.calm (snd_It it C X W t x true k h1) (snd_Tg k tg t h3).2 (snd_Ss b k l h4) (fun v => ok_fold h2 X.env v)
    · cases h
  | .ret e, X, W, k, s, h => by
    unfold ckS at h
    split at h
    · rename_i x p
      have h : ckE C e x = true := h
      have i := snd_E e C X W x k h
      cases e with
      | s j =>
        cases x with
        | Name id p2 =>
          obtain ⟨g1, g2, g3, g4⟩ := k.rd (show C.rd j id = true from h)
          exact s_retS g1 g2 g3 g4
        | _ => cases h
      | _ => exact s_ret (i.pe true)
    · cases h
  | .retN, X, W, k, s, h => by
    unfold ckS at h
    split at h
    · rename_i p
      exact s_retN
    · cases h
  | .raise n a, X, W, k, s, h => by
    unfold ckS at h
    split at h
    · rename_i id p m j p2 pos pos'
      have h : (C.gl id && decide (n = 0) && (match C.gt.lookup id with
        | some (.ex m) => decide (m = n)
        | _ => false)) = true := h
      obtain ⟨h1, h3⟩ := ba h
      obtain ⟨h1, h2⟩ := ba h1
      obtain ⟨g1, g2, g3⟩ := k.gl h1
      split at h3
      · rename_i m' hg
        obtain rfl := of_decide_eq_true h3
        obtain ⟨rfl, CC, F⟩ := k.g.x.ex id _ hg
        exact s_raise k.calm k.tk F g1 g2
      · cases h3
    · cases h
  | .bad, X, W, k, s, h => ps_imp L2.ps_never fun D σ H h => by
    obtain ⟨θ, st, R, h⟩ := h
    exact h
  | .pass, X, W, k, s, h => by
    unfold ckS at h
    split at h
    · rename_i p
      exact s_pass
    · cases h
  | .putE b ix e, X, W, k, s, h => by
    unfold ckS at h
    split at h
    · rename_i o y cpos x p
      have h : (ckE C b o && ckE C ix y && ckE C e x) = true := h
      obtain ⟨h1, h3⟩ := ba h
      obtain ⟨h1, h2⟩ := ba h1
      have i0 := snd_E b C X W o k h1
      have i := snd_E ix C X W y k h2
      have j := snd_E e C X W x k h3
      refine s_putE (i0.pe false) (j.pe true) (i.pe false) (fun v => ?_) (swap_sole j.ok (fun _ _ e => by cases e) _ _) rfl rfl
      have := i.ok
      cases y <;> first | rfl | (cases this; done)
    · cases h
  | .tr b hs, X, W, k, s, h => by
    unfold ckS at h
    split at h
    · rename_i body h0 hds p
      have h : (decide (C.oc = none) && ckSs C b body && ckHs C hs (h0 :: hds)) = true := h
      obtain ⟨h1, h3⟩ := ba h
      obtain ⟨h1, h2⟩ := ba h1
      obtain ⟨st, fr⟩ := k.st (of_decide_eq_true h1)
      exact s_try st fr k.nd k.tk k.g.x.exm (hs_at k _ _ h3) (fun w pn xe tk po => snd_Ss b (k.tr tk po) body h2) (snd_Hs k _ _ h3)
    · cases h
theorem snd_Ss {kn : Kn} {C : Cc} : ∀ (a : Sts) {X : Cx} {W : WE} (k : CK X kn C W) (s : List Stmt), ckSs C a s = true → PSs X s (tS X.K W (exs kn a))
  | .nil, X, W, k, s, h => by
    cases s with
    | nil => exact s_nil
    | cons => cases h
  | .cons a b, X, W, k, s, h => by
    cases s with
    | nil => cases h
    | cons s r =>
      have h : (ckS C a s && ckSs C b r) = true := h
      obtain ⟨h1, h2⟩ := ba h
      exact s_cons (snd_S a k s h1) (snd_Ss b k r h2)
end
end Py
end

section
set_option autoImplicit false
set_option linter.all false
set_option Elab.async false
set_option maxRecDepth 100000
set_option maxHeartbeats 4000000
/-! Whole programs: each def keeps what the evaluator says. -/
namespace Py
open L2 (V Hp HO SqL SqT Rd upd upd_same upd_ne ne_of ne_of_none Cx PE PT PW PA TE TT TA VK R2 OpR tOp thn EP TP Inv RelV CallR Sp PI TI PG PGs TG TGs PTs PS PSs TS Ends FnOk FunD)
open PySem (Expr Pos Operator CmpOp Value Shared Sem wpAny Stmt Scope NameKind Const Comprehension FuncData)
section
variable {K : Kf} {θ θ' : List Ad} {st st' : S} {σ σ' : Sg} {H H' : Hp} {m m' : Mem}
/-- a def's end, the cells of its own forgotten -/
theorem PostC.of (nown : ∀ a, ¬ Own st σ a) (p : PostS K σ θ st H σ' θ' st' H') : PostC K θ H θ' st'.m H' :=
  ⟨⟨p.keep.tup, p.keep.frz, p.keep.dom, fun a xs ha h => .inl (p.keep.lst a xs ha (nown a) h)⟩, p.grow, p.rel.m⟩
theorem PostC.cut (hl : m.length = θ.length) (c : PostC K θ H θ' m' H') : PostC K θ H θ (m'.take m.length) H' := by
  obtain ⟨new, e, hn⟩ := c.grow
  subst e
  refine ⟨c.keep, .refl, ?_, ?_, fun n xs h => ?_⟩
  · have := c.rel.len
    rw [List.length_append] at this
    rw [List.length_take]; omega
  · exact (List.nodup_append.mp c.rel.nd).1
  · have hn : n < m.length := by
      have := (List.getElem?_eq_some_iff.mp h).1
      rw [List.length_take] at this; omega
    rw [List.getElem?_take, if_pos hn] at h
    obtain ⟨a, vs, g1, g2, g3⟩ := c.rel.at_ n xs h
    rw [List.getElem?_append_left (by omega)] at g1
    rw [List.take_append_of_le_length (by omega)] at g3
    exact ⟨a, vs, g1, g2, g3⟩
theorem frame_own {d : Def} {xs : List Val} {i : Nat} {ys : List Val} (h : (frame d xs)[i]? = some (some (.own ys))) : False := by
  unfold frame at h
  by_cases hi : i < xs.length
  · rw [List.getElem?_append_left (by simpa using hi), List.getElem?_map] at h
    obtain ⟨x, _, e⟩ := Option.map_eq_some_iff.mp h
    cases e
  · rw [List.getElem?_append_right (by simpa using hi)] at h
    rw [List.getElem?_replicate] at h
    split at h
    · cases h
    · cases h
theorem rel_start {d : Def} {N : List Str} {xs : List Val} {vs : List V} (hm : RelM K θ m H) (hr : RVs K θ H xs vs) (hN : d.ns = N.length) (hle : xs.length ≤ d.ns) : Rel K θ ⟨frame d xs, m⟩ (L2.start N vs) H := by
  have hl := hr.length
  refine ⟨⟨?_, fun i sv h => ?_, fun i j a h1 h2 => ?_⟩, hm⟩
  · unfold frame L2.start
    simp only [List.length_append, List.length_map, List.length_replicate]
    omega
  · unfold frame at h
    by_cases hi : i < xs.length
    · rw [List.getElem?_append_left (by simpa using hi), List.getElem?_map] at h
      obtain ⟨x, hx, e⟩ := Option.map_eq_some_iff.mp h
      cases e
      obtain ⟨v, g1, g2⟩ := hr.get hx
      refine ⟨v, ?_, g2⟩
      unfold L2.start
      rw [List.getElem?_append_left (by simp; omega), List.getElem?_map, g1]
      rfl
    · rw [List.getElem?_append_right (by simpa using hi), List.getElem?_replicate] at h
      split at h <;> cases h
  · obtain ⟨ys, z, _⟩ := h1
    exact (frame_own z).elim
/-- a def as the head tells it, as the evaluator has it -/
structure PD where
  dd : He.DefD
  f : Nat
  N : List Str
  ps : List Str
  d : Def
def ckScope (N ps : List Str) (sc : Scope) : Bool :=
  decide (sc.kind = .function) && !sc.isCoroutine && !sc.isGenerator && decide N.Nodup && decide (N.take ps.length = ps) && ps.all (locB sc) && sc.names.all fun y => decide (y.2 ≠ .free)
theorem ckScope_ok {N ps : List Str} {sc : Scope} (h : ckScope N ps sc = true) : L2.FnScope N ps sc := by
  unfold ckScope at h
  obtain ⟨h, h7⟩ := ba h
  obtain ⟨h, h6⟩ := ba h
  obtain ⟨h, h5⟩ := ba h
  obtain ⟨h, h4⟩ := ba h
  obtain ⟨h, h3⟩ := ba h
  obtain ⟨h1, h2⟩ := ba h
  exact ⟨of_decide_eq_true h1, by simpa using h2, by simpa using h3, of_decide_eq_true h4, of_decide_eq_true h5, fun x hx => loc_of (List.all_eq_true.mp h6 x hx), fun y hy => of_decide_eq_true (List.all_eq_true.mp h7 y hy)⟩
def ckDef (gt : List (Str × GE)) (bi : List Str) (p : PD) : Bool :=
  ckScope p.N p.ps p.dd.scope && decide (p.d.ns = p.N.length) && decide (p.d.np = p.ps.length) && decide (p.d.np ≤ p.d.ns) && ckSs ⟨p.N, p.dd.scope, none, gt, bi⟩ p.d.body p.dd.body
/-- how a def's parameters are bound -/
def BindOk (p : PD) : Prop := ∀ (kV doc pm : Value) (an : Option Ad) (cdv ct : Value) (us : List Value), us.length = p.ps.length → PySem.bindArgs (PySem.W.fnOf p.dd.name p.dd.qual p.dd.params p.dd.body p.dd.scope .none kV doc pm an cdv ct) ⟨us, []⟩ = pure (p.ps.zip us)
def AllB : List PD → Prop
  | [] => True
  | p :: L => BindOk p ∧ AllB L
theorem AllB.mem : ∀ {L : List PD}, AllB L → ∀ p ∈ L, BindOk p
  | [], _, p, h => absurd h (by simp)
  | q :: L, ⟨h1, h2⟩, p, h => (List.mem_cons.mp h).elim (fun e => e ▸ h1) (h2.mem p)
end
section
variable {Pg : PySem.Program} {w : PySem.World} {K : Kf} {mg : PySem.Str → Option Value} {base : PySem.Heap} {P : Nat → Option Def} {L : List PD} {gt : List (Str × GE)} {bi : List Str}
/-- the facts of the globals -/
structure Glb (K : Kf) (mg : PySem.Str → Option Value) (L : List PD) (gt : List (Str × GE)) (bi : List Str) : Prop where
  fn : ∀ (x : Str) (f : Nat), gt.lookup x = some (.fn f) → ∃ p ∈ L, p.f = f ∧ ∃ fa fd, FunD K p.dd.name p.dd.qual p.dd.params p.dd.body p.dd.scope [] [] fa fd ∧ mg x = some (.ref fa)
  cv : ∀ (x : Str) (v : Val), gt.lookup x = some (.cv v) → ∃ u w, mg x = some u ∧ RelV w u ∧ ∀ θ H, RV K θ H v w
  bi : ∀ x : Str, bi.contains x = true → mg x = none
  ex : ∀ (x : Str) (n : Nat), gt.lookup x = some (.ex n) → x = exN n ∧ ∃ C, exC K n = some C ∧ mg (exN n) = some (.ref C) ∧ PySem.W.excIn K C [.type "ValueError", .type "Exception", .type "BaseException", .type "object"] "ValueError.__new__" = true ∧ PySem.W.keepIn K (.ref C) = true ∧
    PySem.W.subIn K (.ref C) (.type "BaseException") = some true ∧ PySem.W.typeIn K (.ref C) = some (.type "type")
  exm : Exm K
  flt : ∀ x : Str, gt.lookup x = some .flt → ∃ F, mg x = some (.ref F) ∧ ∀ n C, exC K n = some C → ExH K n C F
  rsn : ∀ n C, exC K n = some C → n = 1 → ExG K n C
theorem FunD.binds' {p : PD} (hb : BindOk p) {fa : Ad} {fd : FuncData} (F : FunD K p.dd.name p.dd.qual p.dd.params p.dd.body p.dd.scope [] [] fa fd) : L2.Binds K fd p.ps [] := F.bindsN hb
theorem prog_ok (hck : L.all (ckDef gt bi) = true) (hP : ∀ p ∈ L, P p.f = some p.d) (hB : AllB L) (G : Glb K mg L gt bi) : ∀ (n : Nat) (p : PD), p ∈ L → ∀ (fa : Ad) (fd : FuncData), FunD K p.dd.name p.dd.qual p.dd.params p.dd.body p.dd.scope [] [] fa fd →
    FnOk Pg w K mg base (L2.CX Pg w) n fa fd p.ps (spK K (callK P n) p.f)
  | 0, p, hp, fa, fd, F => by
    have no : ∀ vs H Q E, ¬ spK K (callK P 0) p.f vs H Q E := fun vs H Q E ⟨θ, m, xs, _, _, h⟩ => h
    exact ⟨fun vs H Q E h => (no _ _ _ _ h).elim, fun A outer s H args us vs Q E _ _ _ _ h => (no _ _ _ _ h).elim⟩
  | n + 1, p, hp, fa, fd, F => by
    have ck := List.all_eq_true.mp hck p hp
    unfold ckDef at ck
    obtain ⟨ck, c5⟩ := ba ck
    obtain ⟨ck, c4⟩ := ba ck
    obtain ⟨ck, c3⟩ := ba ck
    obtain ⟨c1, c2⟩ := ba ck
    have c2 := of_decide_eq_true c2
    have c3 := of_decide_eq_true c3
    have c4 := of_decide_eq_true c4
    have S := ckScope_ok c1
    have un : ∀ xs m r, callK P (n + 1) p.f xs m = some r → xs.length = p.d.np ∧ leave m (exs (callK P n) p.d.body ⟨frame p.d xs, m⟩) = some r := fun xs m r h => by
      unfold callK at h
      rw [hP p hp] at h
      dsimp only at h
      split at h
      · exact ⟨by assumption, h⟩
      · cases h
    refine F.ok S (fun vs H Q E h => ?_) (fun cdv A outer s H vs Q E hr h => ?_)
    · obtain ⟨θ, m, xs, _, r, h⟩ := h
      cases ek : callK P (n + 1) p.f xs m with
      | none => rw [ek] at h; exact h.elim
      | some z => rw [r.length, (un _ _ _ ek).1, c3]
    · obtain ⟨θ, m, xs, rm, r, h⟩ := h
      cases ek : callK P (n + 1) p.f xs m with
      | none => rw [ek] at h; exact h.elim
      | some z =>
      rw [ek] at h
      obtain ⟨hl, el⟩ := un _ _ _ ek
      refine ⟨_, snd_Ss (C := ⟨p.N, p.dd.scope, none, gt, bi⟩) (kn := callK P n) (W := some fun cls d _ H => E cls d H) p.d.body ⟨rfl, S.nd, rfl, S.kind, fun x _ => .inl rfl, rfl, L2.passes_of rfl, ⟨fun x f hx => ?_, G.cv, G.bi, ?_, ⟨fun x n hx => ?_, G.exm, G.flt, G.rsn⟩⟩, L2.takes_of rfl rfl rfl rfl, fun _ => ⟨rfl, rfl⟩⟩ p.dd.body c5, ?_⟩
      · obtain ⟨p', hp', rfl, fa', fd', F', hm⟩ := G.fn x f hx
        exact ⟨n, fa', fd', p'.ps, prog_ok hck hP hB G n p' hp' fa' fd' F', hr, hm, F'.kp, FunD.binds' (hB.mem p' hp') F'⟩
      · have := hr.un
        show (A.deeper _).units + 65 < PySem.cLine
        omega
      · obtain ⟨e, C, g1, g2, g3, g4, g5, g6⟩ := G.ex x n hx
        exact ⟨e, C, g1, g2, g3, g4, g5, g6⟩
      · have R := rel_start (K := K) (θ := θ) (m := m) (H := H) (d := p.d) (N := p.N) rm r c2 (by rw [hl]; exact c4)
        have nown : ∀ a, ¬ Own ⟨frame p.d xs, m⟩ (L2.start p.N vs) a := fun a ⟨i, ys, z, _⟩ => frame_own z
        have ml : m.length = θ.length := rm.len
        refine ⟨θ, _, R, ?_⟩
        unfold wpO
        cases ee : exs (callK P n) p.d.body ⟨frame p.d xs, m⟩ with
        | none => rw [ee] at el; cases el
        | some res =>
          rw [ee] at el
          cases res with
          | ex e s' =>
            cases el
            intro cls d σ' θ' H' ps xc
            exact h cls d θ H' ((PostC.of nown ps).cut ml) xc
          | ok fl s' =>
            intro σ' θ' H' ps
            have pc := PostC.of nown ps
            cases fl with
            | nx =>
              cases el
              exact h .non θ H' (pc.cut ml) (by unfold RX; unfold RV; rfl)
            | rt v =>
              intro u hu
              cases v with
              | pk ys => cases el
              | val x =>
                have el : some (CRes.ok (.val x) (trim m (.val x) s'.m)) = some z := el
                cases el
                unfold trim at h
                by_cases hpure : (SV.val x).pure = true
                · rw [if_pos hpure] at h
                  exact h u θ H' (pc.cut ml) (RV.pure (θ := θ') x u hpure hu)
                · rw [if_neg hpure] at h
                  exact h u θ' H' pc hu
              | own ys =>
                have el : some (CRes.ok (.own ys) (trim m (.own ys) s'.m)) = some z := el
                cases el
                obtain ⟨a, us, rfl, g1, g2, g3, g4⟩ := hu
                have fresh : H a = none := by
                  rcases g4 with g4 | g4
                  · exact g4
                  · rcases ps.own a g4 with z | z
                    · exact (nown a z).elim
                    · exact z
                unfold trim at h
                by_cases hpure : (SV.own ys).pure = true
                · rw [if_pos hpure] at h
                  obtain ⟨new, e, _⟩ := pc.grow
                  exact h _ θ H' (pc.cut ml) ⟨a, us, rfl, g1, RVs.pure hpure g2, fun z => g3 (by rw [e]; exact List.mem_append_left _ z), fresh⟩
                · rw [if_neg hpure] at h
                  exact h _ θ' H' pc ⟨a, us, rfl, g1, g2, g3, fresh⟩
end
end Py
end

section
set_option autoImplicit false
set_option linter.all false
set_option Elab.async false
set_option maxRecDepth 100000
set_option maxHeartbeats 4000000
/-! The head's facts, and a law from the evaluator's answer. -/
namespace Py
open L2 (V Hp HO SqL SqT Rd upd upd_same upd_ne ne_of ne_of_none Cx VK RelV Vals FnOk FunD)
open PySem (Value Obj Heap mainGlobals FuncData)
mutual
/-- a value as it lies in the written part -/
def rvB (K : Kf) : Val → Value → Bool
  | .non, u => match u with
    | .none => true
    | _ => false
  | .bl b, u => match u with
    | .bool c => b == c
    | _ => false
  | .int i, u => match u with
    | .int j _ => decide (i = j)
    | _ => false
  | .str s, u => match u with
    | .str t _ => decide (s = t)
    | _ => false
  | .tup xs, u => match u with
    | .ref a => (match K.lookup a with
      | some ⟨.type c, _, .seq its _, _⟩ => decide (c = "tuple") && decide (its.size ≤ PySem.sizeLine) && rvBs K xs its.toList
      | _ => false)
    | _ => false
  | _, _ => false
def rvBs (K : Kf) : List Val → List Value → Bool
  | [], us => us.isEmpty
  | x :: xs, us => match us with
    | u :: r => rvB K x u && rvBs K xs r
    | [] => false
end
mutual
theorem rvB_ok {K : Kf} : ∀ (v : Val) (u : Value), rvB K v u = true → ∃ w, RelV w u ∧ ∀ θ H, RV K θ H v w
  | .non, u, h => by
    cases u with
    | none => exact ⟨.non, rfl, fun _ _ => by unfold RV; rfl⟩
    | _ => cases h
  | .bl b, u, h => by
    cases u with
    | bool c =>
      have h : (b == c) = true := h
      obtain rfl := eq_of_beq h
      exact ⟨.bl b, rfl, fun _ _ => by unfold RV; rfl⟩
    | _ => cases h
  | .int i, u, h => by
    cases u with
    | int j t =>
      have h : decide (i = j) = true := h
      obtain rfl := of_decide_eq_true h
      exact ⟨.int i, ⟨t, rfl⟩, fun _ _ => by unfold RV; rfl⟩
    | _ => cases h
  | .str s, u, h => by
    cases u with
    | str j t =>
      have h : decide (s = j) = true := h
      obtain rfl := of_decide_eq_true h
      exact ⟨.str s, ⟨t, rfl⟩, fun _ _ => by unfold RV; rfl⟩
    | _ => cases h
  | .tup xs, u, h => by
    cases u with
    | ref a =>
      have h : (match K.lookup a with
        | some ⟨.type c, _, .seq its _, _⟩ => decide (c = "tuple") && decide (its.size ≤ PySem.sizeLine) && rvBs K xs its.toList
        | _ => false) = true := h
      split at h
      · rename_i c d its n sl e
        obtain ⟨h, h3⟩ := ba h
        obtain ⟨h1, h2⟩ := ba h
        obtain ⟨vs, g1, g2⟩ := rvBs_ok xs its.toList h3
        refine ⟨.ref a, rfl, fun θ H => ?_⟩
        unfold RV
        exact ⟨a, vs, rfl, .inr ⟨_, its, n, e, congrArg Value.type (of_decide_eq_true h1), rfl, of_decide_eq_true h2, g1⟩, g2 θ H⟩
      · cases h
    | _ => cases h
  | .lst _, u, h => by cases h
  | .loc _, u, h => by cases h
  | .scr _, u, h => by cases h
theorem rvBs_ok {K : Kf} : ∀ (xs : List Val) (us : List Value), rvBs K xs us = true → ∃ vs, Vals vs us ∧ ∀ θ H, RVs K θ H xs vs
  | [], us, h => by
    cases us with
    | nil => exact ⟨[], .nil, fun _ _ => RVs.nil⟩
    | cons => cases h
  | x :: xs, us, h => by
    cases us with
    | nil => cases h
    | cons u r =>
      have h : (rvB K x u && rvBs K xs r) = true := h
      obtain ⟨h1, h2⟩ := ba h
      obtain ⟨w, g1, g2⟩ := rvB_ok x u h1
      obtain ⟨vs, g3, g4⟩ := rvBs_ok xs r h2
      exact ⟨w :: vs, .cons g1 g3, fun θ H => .cons (g2 θ H) (g4 θ H)⟩
end
/-- what the head is to look at: free names, constants, defs -/
structure Tops where
  bi : List Str
  cv : List (Str × Val)
  L : List PD
  ex : List Nat
  fl : List Str
def cvB (K : Kf) (p : Str × Val) : Bool := match PySem.W.nsIn K mainGlobals p.1 with
  | some (some u) => rvB K p.2 u
  | _ => false
/-- an exception's class -/
def exB (K : Kf) (n : Nat) : Bool := decide (n < 2) && ((He.Fa.glo (exN n)).ok K && (He.Fa.exc (exN n)).ok K)
def twoB (f : Nat → Bool) : Bool := f 0 && f 1
def exmB (K : Kf) : Bool := twoB fun i => twoB fun j => match exC K i, exC K j with
  | some a, some b => decide (PySem.W.exmOne K (.ref a) (.ref b) = some (decide (i = j)))
  | _, _ => true
def isB (K : Kf) (D : Ad) : Bool := decide (PySem.W.findIn K (.ref D) "__getattribute__" = some (some (.builtin "BaseException.__getattribute__"))) && (decide (PySem.W.findIn K (.ref D) "__getattr__" = some none) && (decide (PySem.W.subIn K (.ref D) (.type "BaseException") = some true) &&
  (PySem.W.hasDictIn K D && (decide (PySem.W.findIn K (.ref D) "__class__" = some (some (.builtin "object.__class__"))) && (decide (PySem.W.specialIn K (.builtin "object.__class__") "__get__" = some (some (.builtin "getset_descriptor.__get__"))) &&
  (decide (PySem.W.takesIn K (.builtin "object.__class__") = some true) && decide (PySem.W.mroIn K D (.type "object") = some true)))))))
def flB (K : Kf) (x : Str) : Bool := (He.Fa.glo x).ok K && twoB fun n => match exC K n with
  | some C => isB K C && decide (PySem.W.kitOne K (.ref C) (.ref (He.ga K x)) = some true)
  | none => true
def rsB (K : Kf) : Bool := match exC K 1 with
  | some C => L2.xfB K C && decide (PySem.W.findIn K (.ref C) "reason" = some none)
  | none => true
def exsB (T : Tops) (K : Kf) : Bool := T.ex.all (exB K) && (exmB K && (T.fl.all (flB K) && rsB K))
def obsK (T : Tops) (K : Kf) : He.AlD := ((((T.bi.all fun x => (He.Fa.free x).ok K) && T.cv.all (cvB K)) && exsB T K) && ((T.L.all fun p => (He.Fa.glo p.dd.name).ok K) && (T.L.map (·.dd)).all fun d => d.ok K), (T.L.map (·.dd)).map fun d => He.fnW K d.at_)
def valK (T : Tops) : He.AlD := (true, (T.L.map (·.dd)).map He.DefD.val)
def obsKG (n : Nat) (T : Tops) (g : Ad → Option Obj) : He.AlD := obsK T (He.frG g (He.asD g n))
def hookK (n : Nat) (T : Tops) : PySem.W.Hook where
  α := He.AlD
  obs := fun s => obsKG n T s.heap.get?
  val := fun _ => valK T
  says := fun _ h => ∃ K : Kf, K.In h ∧ obsK T K = valK T
  of := fun _ _ e => ⟨_, He.frG_in, e⟩
  keeps := fun _ _ _ ⟨K, hK, c⟩ k => ⟨K, PySem.W.Frag.In.keeps hK k, c⟩
theorem obsKG_eq {n : Nat} {T : Tops} {g : Ad → Option Obj} {s : PySem.Shared} (h : ∀ a, g a = s.heap.get? a) : obsKG n T g = (hookK n T).obs s := by
  have e : g = s.heap.get? := funext h
  rw [e] <;> rfl
section
variable {T : Tops} {K : Kf} {h : Heap} {mg : PySem.Str → Option Value}
theorem twoB_ok {f : Nat → Bool} (h : twoB f = true) : ∀ n, n < 2 → f n = true := fun n hn => by
  obtain ⟨h0, h1⟩ := ba h
  match n, hn with
  | 0, _ => exact h0
  | 1, _ => exact h1
theorem exC_lt {K : Kf} {n : Nat} {C : Ad} (h : exC K n = some C) : n < 2 := by
  unfold exC at h
  split at h
  · assumption
  · cases h
theorem exC_ga {K : Kf} {n : Nat} (h : n < 2) (e : PySem.W.nsIn K mainGlobals (exN n) = some (some (.ref (He.ga K (exN n))))) : exC K n = some (He.ga K (exN n)) := by
  unfold exC
  rw [if_pos h, e]
theorem exmB_ok (h : exmB K = true) : Exm K := fun i j Ci Cj hi hj => by
  have := twoB_ok (twoB_ok h i (exC_lt hi)) j (exC_lt hj)
  rw [hi, hj] at this
  exact of_decide_eq_true this
theorem isB_ok {D : Ad} (h : isB K D = true) : L2.ExcC K D := by
  unfold isB at h
  obtain ⟨h1, h⟩ := ba h
  obtain ⟨h2, h⟩ := ba h
  obtain ⟨h3, h⟩ := ba h
  obtain ⟨h4, h⟩ := ba h
  obtain ⟨h5, h⟩ := ba h
  obtain ⟨h6, h⟩ := ba h
  obtain ⟨h7, h8⟩ := ba h
  exact ⟨of_decide_eq_true h1, of_decide_eq_true h2, of_decide_eq_true h3, h4, of_decide_eq_true h5, of_decide_eq_true h6, of_decide_eq_true h7, of_decide_eq_true h8⟩
theorem rsB_ok (h : rsB K = true) : ∀ n C, exC K n = some C → n = 1 → ExG K n C := fun n C hC e => by
  subst e
  unfold rsB at h
  rw [hC] at h
  obtain ⟨h1, h2⟩ := ba h
  exact ⟨hC, L2.xfB_ok h1, of_decide_eq_true h2⟩
theorem says_parts (c : obsK T K = valK T) : exsB T K = true ∧ (∀ x ∈ T.bi, (He.Fa.free x).ok K = true) ∧ (∀ p ∈ T.cv, cvB K p = true) ∧ (∀ p ∈ T.L, (He.Fa.glo p.dd.name).ok K = true) ∧ (∀ p ∈ T.L, p.dd.ok K = true) ∧ ∀ p ∈ T.L, He.fnW K p.dd.at_ = p.dd.val := by
  have c1 := congrArg (fun z : He.AlD => z.1) c
  have c2 : (T.L.map (·.dd)).map (fun d => He.fnW K d.at_) = (T.L.map (·.dd)).map He.DefD.val := congrArg (fun z : He.AlD => z.2) c
  obtain ⟨a, b⟩ := ba c1
  obtain ⟨a, a3⟩ := ba a
  obtain ⟨a1, a2⟩ := ba a
  obtain ⟨b1, b2⟩ := ba b
  refine ⟨a3, fun x hx => List.all_eq_true.mp a1 x hx, fun x hx => List.all_eq_true.mp a2 x hx, fun x hx => List.all_eq_true.mp b1 x hx, fun p hp => List.all_eq_true.mp b2 p.dd (List.mem_map_of_mem hp), fun p hp => ?_⟩
  rw [List.map_map, List.map_map] at c2
  exact (List.map_inj_left.mp c2) p hp
/-- the globals' table of the defs and the constants -/
def Tops.gt (T : Tops) : List (Str × GE) := T.L.map (fun p => (p.dd.name, GE.fn p.f)) ++ (T.cv.map (fun p => (p.1, GE.cv p.2)) ++ (T.ex.map (fun n => (exN n, GE.ex n)) ++ T.fl.map fun x => (x, GE.flt)))
theorem lookup_mem {α β : Type} [BEq α] [LawfulBEq α] {a : α} {b : β} : ∀ {l : List (α × β)}, l.lookup a = some b → (a, b) ∈ l
  | [], h => by cases h
  | (c, d) :: l, h => by
    rw [List.lookup_cons] at h
    cases e : (a == c) with
    | true =>
      rw [e] at h
      cases h
      rw [eq_of_beq e]
      exact List.mem_cons_self
    | false =>
      rw [e] at h
      exact List.mem_cons_of_mem _ (lookup_mem h)
theorem glb_of (X : K.In h) (G : h.Ns mainGlobals mg) (c : obsK T K = valK T) (hd : ∀ p ∈ T.L, p.dd.dfl = [] ∧ p.dd.kwd = [] ∧ p.dd.at_ = (p.dd.name, none)) : Glb K mg T.L T.gt T.bi ∧
    ∀ p ∈ T.L, ∃ fa fd, FunD K p.dd.name p.dd.qual p.dd.params p.dd.body p.dd.scope [] [] fa fd ∧ mg p.dd.name = some (.ref fa) := by
  obtain ⟨c0, c1, c2, c3, c4, c5⟩ := says_parts c
  obtain ⟨x1, c0⟩ := ba c0
  obtain ⟨x2, c0⟩ := ba c0
  obtain ⟨x3, x4⟩ := ba c0
  have fn : ∀ p ∈ T.L, ∃ fa fd, FunD K p.dd.name p.dd.qual p.dd.params p.dd.body p.dd.scope [] [] fa fd ∧ mg p.dd.name = some (.ref fa) := fun p hp => by
    obtain ⟨fd, F⟩ := He.DefD.funD (c5 p hp) (c4 p hp)
    obtain ⟨e1, e2, e3⟩ := hd p hp
    have F : FunD K p.dd.name p.dd.qual p.dd.params p.dd.body p.dd.scope (p.dd.dfl.map (He.Dv.v K)) (p.dd.kwd.map fun q => (q.1, q.2.v K)) (He.fAd K p.dd.at_) fd := F
    rw [e1, e2, e3] at F
    exact ⟨_, fd, F, He.glo_ok X G (c3 p hp)⟩
  have split : ∀ {x : Str} {g : GE}, T.gt.lookup x = some g → (∃ p ∈ T.L, (x, g) = (p.dd.name, GE.fn p.f)) ∨ (∃ p ∈ T.cv, (x, g) = (p.1, GE.cv p.2)) ∨ (∃ n ∈ T.ex, (x, g) = (exN n, GE.ex n)) ∨ ∃ y ∈ T.fl, (x, g) = (y, GE.flt) := fun {x g} h => by
    rcases List.mem_append.mp (lookup_mem h) with z | z
    · obtain ⟨p, hp, e⟩ := List.mem_map.mp z
      exact .inl ⟨p, hp, e.symm⟩
    · rcases List.mem_append.mp z with z | z
      · obtain ⟨p, hp, e⟩ := List.mem_map.mp z
        exact .inr (.inl ⟨p, hp, e.symm⟩)
      · rcases List.mem_append.mp z with z | z
        · obtain ⟨p, hp, e⟩ := List.mem_map.mp z
          exact .inr (.inr (.inl ⟨p, hp, e.symm⟩))
        · obtain ⟨p, hp, e⟩ := List.mem_map.mp z
          exact .inr (.inr (.inr ⟨p, hp, e.symm⟩))
  refine ⟨⟨fun x f hx => ?_, fun x v hx => ?_, fun x hx => He.free_ok X G (c1 x (by simpa using hx)), fun x n hx => ?_, exmB_ok x2, fun x hx => ?_, rsB_ok x4⟩, fn⟩
  · rcases split hx with ⟨p, hp, e⟩ | ⟨p, hp, e⟩ | ⟨p, hp, e⟩ | ⟨p, hp, e⟩
    · cases e
      obtain ⟨fa, fd, F, m⟩ := fn p hp
      exact ⟨p, hp, rfl, fa, fd, F, m⟩
    · cases e
    · cases e
    · cases e
  · rcases split hx with ⟨p, hp, e⟩ | ⟨p, hp, e⟩ | ⟨p, hp, e⟩ | ⟨p, hp, e⟩
    · cases e
    · cases e
      have q := c2 p hp
      unfold cvB at q
      split at q
      · rename_i u hu
        obtain ⟨w, g1, g2⟩ := rvB_ok p.2 u q
        exact ⟨u, w, PySem.W.mg_of X G hu, g1, g2⟩
      · cases q
    · cases e
    · cases e
  · rcases split hx with ⟨p, hp, e⟩ | ⟨p, hp, e⟩ | ⟨p, hp, e⟩ | ⟨p, hp, e⟩
    · cases e
    · cases e
    · cases e
      obtain ⟨q0, q⟩ := ba (List.all_eq_true.mp x1 n hp)
      obtain ⟨q1, q2⟩ := ba q
      obtain ⟨e1, e2, e3, e4⟩ := He.exc_ok q2
      exact ⟨rfl, _, exC_ga (of_decide_eq_true q0) (He.eqO_ok q1), He.glo_ok X G q1, e1, e2, e3, e4⟩
    · cases e
  · rcases split hx with ⟨p, hp, e⟩ | ⟨p, hp, e⟩ | ⟨p, hp, e⟩ | ⟨p, hp, e⟩
    · cases e
    · cases e
    · cases e
    · cases e
      obtain ⟨q1, q2⟩ := ba (List.all_eq_true.mp x3 x hp)
      refine ⟨_, He.glo_ok X G q1, fun n C hC => ?_⟩
      have q := twoB_ok q2 n (exC_lt hC)
      rw [hC] at q
      obtain ⟨r1, r2⟩ := ba q
      exact ⟨hC, isB_ok r1, of_decide_eq_true r2⟩
end
/-- the law holds where the evaluator says so -/
theorem law_hsp {K : Kf} {P : Nat → Option Def} {n f : Nat} {H : Hp} {a : Ad} {ns : List Int} {m' : Mem} (hO : L2.Only H) (hS : SqL K H a (ns.map V.int)) (h : callK P n f [.scr (ns.map .int)] [] = some (.ok (.val (.bl true)) m')) (E : L2.XK) :
    spK K (callK P n) f [.ref a] H (fun v _ => v = .bl true) E := by
  refine ⟨[], [], [.scr (ns.map .int)], ⟨rfl, List.nodup_nil, fun n xs z => by simp at z⟩, .cons ?_ .nil, by rw [h]; exact fun v θ' H' _ rx => rx_bl rx⟩
  unfold RV
  refine ⟨a, ns.map .int, rfl, ?_, RVs.of_ints ns⟩
  rcases hS with (hS | ⟨o, hS⟩) | hS
  · rcases hO a with z | ⟨o, xs, z⟩
    · rw [z] at hS; cases hS
    · rw [z] at hS; cases hS
  · exact .inl ⟨o, hS⟩
  · exact .inr hS
/-- a def that lets nothing out -/
theorem FnOk.to0 {Pg : PySem.Program} {w : PySem.World} {K : Kf} {mg : PySem.Str → Option Value} {base : Heap} {k : Nat} {f : Ad} {fd : FuncData} {ps : List PySem.Str} {sp : L2.Sp} (F : FnOk Pg w K mg base (L2.CX Pg w) k f fd ps sp) : FnOk Pg w K mg base L2.CX0 k f fd ps (fun vs H Q _ => sp vs H Q fun _ _ _ => False) :=
  ⟨fun vs H Q E q => F.len vs H Q _ q, fun A outer s H args us vs Q E hr he hb hv hs => PySem.codeAny_mono (F.run A outer s H args us vs Q _ hr he hb hv hs) fun r s' hq => by
    cases r with
    | error e => obtain ⟨_, _, _, _, _, _, _, _, _, _, _, _, z⟩ := hq; exact z.elim
    | ok fl => cases fl <;> exact hq⟩
/-- .. as walk_ofE asks it -/
theorem law_F {Pg : PySem.Program} {w : PySem.World} {T : Tops} {P : Nat → Option Def} {k : Nat} (p : PD) {x : PySem.Str} (hp : p ∈ T.L) (hx : p.ps = [x])
    (hck : T.L.all (ckDef T.gt T.bi) = true) (hP : ∀ p ∈ T.L, P p.f = some p.d) (hB : AllB T.L) (hd : ∀ p ∈ T.L, p.dd.dfl = [] ∧ p.dd.kwd = [] ∧ p.dd.at_ = (p.dd.name, none))
    (hlaw : ∀ ns : List Int, ns.length ≤ 63 → ∃ m', callK P k p.f [.scr (ns.map .int)] [] = some (.ok (.val (.bl true)) m'))
    (mg : PySem.Str → Option Value) (fa : Ad) (h : Heap) (Y : ∃ K : Kf, K.In h ∧ obsK T K = valK T) (G : h.Ns mainGlobals mg) (hmg : mg p.dd.name = some (.ref fa)) :
    ∃ (K : Kf) (fd : FuncData) (sp : L2.Sp), K.In h ∧ (∀ (s : PySem.Shared) (u : Value), PySem.BindsTo s fd ⟨[u], []⟩ [(x, u)]) ∧
        (∀ (H : Hp) (a : Ad) (ns : List Int), ns.length ≤ 63 → L2.Only H → SqL K H a (ns.map V.int) → sp [.ref a] H (fun v _ => v = .bl true) fun _ _ _ => False) ∧
        ∀ base : Heap, K.In base → base.Ns mainGlobals mg → FnOk Pg w K mg base L2.CX0 k fa fd [x] sp := by
  obtain ⟨K, KX, c⟩ := Y
  obtain ⟨Gl, fn⟩ := glb_of KX G c hd
  obtain ⟨fa', fd, F, m⟩ := fn p hp
  rw [hmg] at m
  cases m
  refine ⟨K, fd, fun vs H Q _ => spK K (callK P k) p.f vs H Q fun _ _ _ => False, KX, fun s u => ?_, fun H a ns hl hO hS => ?_, fun base _ _ => ?_⟩
  · have q := F.bindsA (ps := p.ps) (hB.mem p hp) s [u] (by rw [hx]; rfl)
    rw [hx] at q
    exact q
  · obtain ⟨m', hm⟩ := hlaw ns hl
    exact law_hsp hO hS hm _
  · have q := prog_ok (Pg := Pg) (w := w) (base := base) hck hP hB Gl k p hp fa fd F
    rw [hx] at q
    exact FnOk.to0 q
end Py
end

section
set_option maxRecDepth 100000
namespace Py
def d_is_whole : Def := ⟨1, 1, (.cons (.ret (.and (.isi (.s 0) [.int]) (.not (.isi (.s 0) [.bool])))) .nil)⟩
def b_common_1 : Sts := (.cons (.par [0, 1] (.cons (.s 1) (.cons (.bin .mod (.s 0) (.s 1)) .nil))) .nil)
def d_common : Def := ⟨2, 2, (.cons (.par [0, 1] (.cons (.pr .abs (.cons (.s 0) .nil)) (.cons (.pr .abs (.cons (.s 1) .nil)) .nil))) (.cons (.wh (.cmp (.s 1) (.one .ne (.c (.int 0)))) b_common_1) (.cons (.ret (.s 0)) .nil)))⟩
def d_lowest : Def := ⟨2, 3, (.cons (.set 2 (.call 1 (.cons (.s 0) (.cons (.s 1) .nil)))) (.cons (.ite (.cmp (.s 1) (.one .lt (.c (.int 0)))) (.cons (.set 2 (.neg (.s 2))) .nil) .nil) (.cons (.ret (.tup (.cons (.bin .fdiv (.s 0) (.s 2)) (.cons (.bin .fdiv (.s 1) (.s 2)) .nil)))) .nil)))⟩
def c_is_draw_1 : E := (.lc [1] (.n 1) (.e (.s 0)) .nil (.and (.call 0 (.cons (.s 1) .nil)) (.cmp (.c (.int 0)) (.cons .le (.s 1) (.one .le (.c (.int 1000000)))))))
def d_is_draw : Def := ⟨1, 2, (.cons (.ite (.or (.not (.isi (.s 0) [.tuple])) (.not (.cmp (.c (.int 1)) (.cons .le (.pr .len (.cons (.s 0) .nil)) (.one .le (.c (.int 30))))))) (.cons (.ret (.c (.bl false))) .nil) .nil) (.cons (.ret (.and (.pr .all (.cons c_is_draw_1 .nil)) (.cmp (.ix (.s 0) (.neg (.c (.int 1)))) (.one .gt (.c (.int 0)))))) .nil))⟩
def d_check_draw : Def := ⟨1, 1, (.cons (.ite (.not (.call 3 (.cons (.s 0) .nil))) (.cons (.raise 0 none) .nil) .nil) .nil)⟩
def b_law_draw_1 : Sts := (.cons (.set 1 (.bin .mod (.pr .int (.cons (.bin .add (.bin .add (.bin .mul (.s 1) (.c (.int 48271))) (.bin .mod (.pr .abs (.cons (.pr .int (.cons (.s 2) .nil)) .nil)) (.c (.int 65521)))) (.c (.int 1))) .nil)) (.c (.int 2147483647)))) .nil)
def c_law_draw_1 : E := (.lc [2] (.n 2) (.e (.s 0)) .nil (.pr .abs (.cons (.pr .int (.cons (.s 2) .nil)) .nil)))
def d_law_draw : Def := ⟨1, 3, (.cons (.set 1 (.c (.int 7))) (.cons (.for (.n 2) (.e (.s 0)) b_law_draw_1) (.cons (.ret (.mk (.lst (.cons c_law_draw_1 (.cons (.neg (.c (.int 1))) (.cons (.c (.int 0)) (.cons (.s 1) .nil))))))) .nil)))⟩
def d_law_take : Def := ⟨2, 3, (.cons (.ite (.cmp (.ix (.s 0) (.c (.int 2))) (.one .eq (.c (.int 0)))) (.cons (.put 0 (.c (.int 1)) (.bin .add (.ix (.s 0) (.c (.int 1))) (.c (.int 1)))) (.cons (.ite (.cmp (.ix (.s 0) (.c (.int 1))) (.one .lt (.pr .len (.cons (.ix (.s 0) (.c (.int 0))) .nil)))) (.cons (.put 0 (.c (.int 2)) (.ix (.ix (.s 0) (.c (.int 0))) (.ix (.s 0) (.c (.int 1))))) .nil) .nil) (.cons (.ite (.cmp (.ix (.s 0) (.c (.int 2))) (.one .eq (.c (.int 0)))) (.cons (.put 0 (.c (.int 3)) (.bin .mod (.pr .int (.cons (.bin .add (.bin .mul (.ix (.s 0) (.c (.int 3))) (.c (.int 48271))) (.c (.int 11))) .nil)) (.c (.int 2147483647)))) (.cons (.put 0 (.c (.int 2)) (.ix (.s 0) (.c (.int 3)))) .nil)) .nil) .nil))) .nil) (.cons (.set 2 (.bin .mod (.pr .int (.cons (.ix (.s 0) (.c (.int 2))) .nil)) (.s 1))) (.cons (.put 0 (.c (.int 2)) (.bin .fdiv (.ix (.s 0) (.c (.int 2))) (.s 1))) (.cons (.ret (.s 2)) .nil))))⟩
def d_law_says : Def := ⟨2, 2, (.cons (.ret (.and (.isi (.s 0) [.bool]) (.cmp (.s 0) (.one .eq (.s 1))))) .nil)⟩
def c_law_some_1 : E := (.lc [5] (.n 5) (.range1 (.bin .add (.c (.int 1)) (.call 17 (.cons (.s 0) (.cons (.s 1) .nil))))) .nil (.ite (.cmp (.call 17 (.cons (.s 0) (.cons (.c (.int 4)) .nil))) (.one .gt (.c (.int 0)))) (.call 17 (.cons (.s 0) (.cons (.bin .add (.s 3) (.c (.int 1))) .nil))) (.c (.int 0))))
def b_law_some_1 : Sts := (.cons (.pop 4) .nil)
def d_law_some : Def := ⟨3, 6, (.cons (.set 3 (.ix (.lst (.cons (.c (.int 2)) (.cons (.c (.int 4)) (.cons (.c (.int 9)) (.cons (.s 2) .nil))))) (.call 17 (.cons (.s 0) (.cons (.c (.int 4)) .nil))))) (.cons (.set 4 c_law_some_1) (.cons (.wh (.and (.cmp (.s 4) (.one .ne (.lst .nil))) (.cmp (.ix (.s 4) (.neg (.c (.int 1)))) (.one .eq (.c (.int 0))))) b_law_some_1) (.cons (.ret (.ite (.cmp (.s 4) (.one .ne (.lst .nil))) (.pr .tuple (.cons (.s 4) .nil)) (.tup (.cons (.bin .add (.c (.int 1)) (.call 17 (.cons (.s 0) (.cons (.c (.int 3)) .nil)))) .nil)))) .nil))))⟩
def b_law_frac_1 : Sts := (.cons (.par [2, 3] (.cons (.s 3) (.cons (.bin .mod (.pr .int (.cons (.s 2) .nil)) (.s 3)) .nil))) .nil)
def d_law_frac : Def := ⟨2, 4, (.cons (.par [2, 3] (.cons (.pr .abs (.cons (.s 0) .nil)) (.cons (.s 1) .nil))) (.cons (.wh (.cmp (.s 3) (.one .gt (.c (.int 0)))) b_law_frac_1) (.cons (.ret (.tup (.cons (.bin .fdiv (.s 0) (.s 2)) (.cons (.bin .fdiv (.s 1) (.s 2)) .nil)))) .nil)))⟩
def c_common_rows_1 : E := (.lc [7] (.n 7) (.e (.s 0)) .nil (.bin .mul (.s 7) (.s 4)))
def c_common_rows_2 : E := (.lc [7] (.n 7) (.e (.s 1)) .nil (.bin .mul (.s 7) (.s 3)))
def d_common_rows : Def := ⟨2, 8, (.cons (.set 2 (.pr .max (.cons (.pr .len (.cons (.s 0) .nil)) (.cons (.pr .len (.cons (.s 1) .nil)) .nil)))) (.cons (.par [3, 4] (.cons (.pr .sum (.cons (.s 0) .nil)) (.cons (.pr .sum (.cons (.s 1) .nil)) .nil))) (.cons (.set 5 (.bin .add c_common_rows_1 (.bin .mul (.lst (.cons (.c (.int 0)) .nil)) (.bin .sub (.s 2) (.pr .len (.cons (.s 0) .nil)))))) (.cons (.set 6 (.bin .add c_common_rows_2 (.bin .mul (.lst (.cons (.c (.int 0)) .nil)) (.bin .sub (.s 2) (.pr .len (.cons (.s 1) .nil)))))) (.cons (.ret (.tup (.cons (.s 5) (.cons (.s 6) .nil)))) .nil)))))⟩
def b_tails_1 : Sts := (.cons (.aug 2 .add (.s 3)) (.cons (.app 1 (.s 2)) .nil))
def d_tails : Def := ⟨1, 4, (.cons (.par [1, 2] (.cons (.lst .nil) (.cons (.c (.int 0)) .nil))) (.cons (.for (.n 3) (.e (.rev (.s 0))) b_tails_1) (.cons (.ret (.rev (.s 1))) .nil)))⟩
def b_heads_1 : Sts := (.cons (.aug 2 .add (.s 3)) (.cons (.app 1 (.s 2)) .nil))
def d_heads : Def := ⟨1, 4, (.cons (.par [1, 2] (.cons (.lst .nil) (.cons (.c (.int 0)) .nil))) (.cons (.for (.n 3) (.e (.s 0)) b_heads_1) (.cons (.ret (.s 1)) .nil)))⟩
def b_wins_1 : Sts := (.cons (.aug 2 .add (.bin .mul (.s 5) (.bin .sub (.ite (.cmp (.s 4) (.one .gt (.c (.int 0)))) (.ix (.s 3) (.bin .sub (.s 4) (.c (.int 1)))) (.c (.int 0))) (.bin .sub (.ix (.s 3) (.neg (.c (.int 1)))) (.ix (.s 3) (.s 4)))))) .nil)
def d_wins : Def := ⟨2, 6, (.cons (.par [2, 3] (.cons (.c (.int 0)) (.cons (.call 44 (.cons (.s 0) .nil)) .nil))) (.cons (.for (.t (.cons (.n 4) (.cons (.n 5) .nil))) (.enum (.e (.s 1)) .no) b_wins_1) (.cons (.ret (.s 2)) .nil)))⟩
def b_law_near_1 : Sts := (.cons (.par [4, 5] (.cons (.call 17 (.cons (.s 0) (.cons (.pr .len (.cons (.s 2) .nil)) .nil))) (.cons (.call 17 (.cons (.s 0) (.cons (.pr .len (.cons (.s 2) .nil)) .nil))) .nil))) (.cons (.set 6 (.call 17 (.cons (.s 0) (.cons (.bin .add (.ix (.s 2) (.s 4)) (.c (.int 1))) .nil)))) (.cons (.ite (.and (.cmp (.call 17 (.cons (.s 0) (.cons (.c (.int 3)) .nil))) (.one .eq (.c (.int 0)))) (.and (.cmp (.s 4) (.one .gt (.c (.int 0)))) (.cmp (.bin .add (.s 4) (.c (.int 1))) (.one .lt (.pr .len (.cons (.s 2) .nil)))))) (.cons (.set 7 (.bin .fdiv (.s 6) (.c (.int 2)))) (.cons (.put 2 (.s 4) (.bin .sub (.ix (.s 2) (.s 4)) (.bin .mul (.c (.int 2)) (.s 7)))) (.cons (.put 2 (.bin .sub (.s 4) (.c (.int 1))) (.bin .add (.ix (.s 2) (.bin .sub (.s 4) (.c (.int 1)))) (.s 7))) (.cons (.put 2 (.bin .add (.s 4) (.c (.int 1))) (.bin .add (.ix (.s 2) (.bin .add (.s 4) (.c (.int 1)))) (.s 7))) .nil)))) (.cons (.ite (.or (.cmp (.s 5) (.one .ge (.s 4))) (.cmp (.call 17 (.cons (.s 0) (.cons (.c (.int 3)) .nil))) (.one .eq (.c (.int 0))))) (.cons (.put 2 (.s 4) (.bin .sub (.ix (.s 2) (.s 4)) (.s 6))) (.cons (.put 2 (.s 5) (.bin .add (.ix (.s 2) (.s 5)) (.s 6))) .nil)) .nil) .nil)) .nil)))
def b_law_near_2 : Sts := (.cons (.pop 2) .nil)
def d_law_near : Def := ⟨2, 8, (.cons (.set 2 (.bin .add (.pr .list (.cons (.s 1) .nil)) (.lst (.cons (.c (.int 0)) (.cons (.c (.int 0)) .nil))))) (.cons (.for (.n 3) (.range1 (.bin .add (.c (.int 1)) (.call 17 (.cons (.s 0) (.cons (.c (.int 3)) .nil))))) b_law_near_1) (.cons (.wh (.cmp (.ix (.s 2) (.neg (.c (.int 1)))) (.one .eq (.c (.int 0)))) b_law_near_2) (.cons (.ret (.pr .tuple (.cons (.s 2) .nil))) .nil))))⟩
def d_law_pair : Def := ⟨3, 5, (.cons (.set 3 (.call 19 (.cons (.s 0) (.cons (.s 1) (.cons (.s 2) .nil))))) (.cons (.set 4 (.ite (.cmp (.call 17 (.cons (.s 0) (.cons (.c (.int 4)) .nil))) (.one .gt (.c (.int 0)))) (.call 63 (.cons (.s 0) (.cons (.s 3) .nil))) (.call 19 (.cons (.s 0) (.cons (.s 1) (.cons (.s 2) .nil)))))) (.cons (.ret (.ite (.cmp (.call 17 (.cons (.s 0) (.cons (.c (.int 4)) .nil))) (.one .gt (.c (.int 0)))) (.tup (.cons (.s 3) (.cons (.s 4) .nil))) (.tup (.cons (.s 4) (.cons (.s 3) .nil))))) .nil)))⟩
def c_law_both_1 : E := (.lc [5] (.n 5) (.e (.s 0)) .nil (.bin .mul (.s 5) (.s 4)))
def c_law_both_2 : E := (.lc [5] (.n 5) (.e (.s 1)) .nil (.bin .mul (.s 5) (.s 3)))
def d_law_both : Def := ⟨2, 6, (.cons (.set 2 (.pr .max (.cons (.pr .len (.cons (.s 0) .nil)) (.cons (.pr .len (.cons (.s 1) .nil)) .nil)))) (.cons (.par [3, 4] (.cons (.pr .sum (.cons (.s 0) .nil)) (.cons (.pr .sum (.cons (.s 1) .nil)) .nil))) (.cons (.ret (.tup (.cons (.bin .add c_law_both_1 (.bin .mul (.lst (.cons (.c (.int 0)) .nil)) (.bin .sub (.s 2) (.pr .len (.cons (.s 0) .nil))))) (.cons (.bin .add c_law_both_2 (.bin .mul (.lst (.cons (.c (.int 0)) .nil)) (.bin .sub (.s 2) (.pr .len (.cons (.s 1) .nil))))) .nil)))) .nil)))⟩
def c_law_list_1 : E := (.lc [3] (.n 3) (.range1 (.s 2)) .nil (.pr .sum (.cons (.sl (.s 1) (.of (.s 3)) .no) .nil)))
def c_law_list_2 : E := (.lc [3] (.n 3) (.range1 (.s 2)) .nil (.pr .sum (.cons (.sl (.s 1) .no (.of (.bin .add (.s 3) (.c (.int 1))))) .nil)))
def c_law_list_3 : E := (.lc [4] (.n 4) (.range1 (.bin .add (.s 3) (.c (.int 1)))) .nil (.bin .mul (.bin .add (.bin .sub (.s 3) (.s 4)) (.c (.int 1))) (.ix (.s 1) (.s 4))))
def c_law_list_4 : E := (.lc [3] (.n 3) (.range1 (.s 2)) .nil (.pr .sum (.cons c_law_list_3 .nil)))
def c_law_list_5 : E := (.lc [4] (.n 4) (.range2 (.s 3) (.s 2)) .nil (.bin .mul (.bin .sub (.bin .add (.s 4) (.c (.int 1))) (.s 3)) (.ix (.s 1) (.s 4))))
def c_law_list_6 : E := (.lc [3] (.n 3) (.range1 (.s 2)) .nil (.pr .sum (.cons c_law_list_5 .nil)))
def d_law_list : Def := ⟨2, 5, (.cons (.set 2 (.pr .len (.cons (.s 1) .nil))) (.cons (.ite (.cmp (.s 0) (.one .eq (.c (.str (PySem.Str.ofString "lr"))))) (.cons (.ret (.pr .list (.cons (.s 1) .nil))) .nil) .nil) (.cons (.ite (.cmp (.s 0) (.one .isin (.lst (.cons (.c (.str (PySem.Str.ofString "hr"))) (.cons (.c (.str (PySem.Str.ofString "st"))) .nil))))) (.cons (.ret c_law_list_1) .nil) .nil) (.cons (.ite (.cmp (.s 0) (.one .eq (.c (.str (PySem.Str.ofString "rh"))))) (.cons (.ret c_law_list_2) .nil) .nil) (.cons (.ite (.cmp (.s 0) (.one .eq (.c (.str (PySem.Str.ofString "icv"))))) (.cons (.ret c_law_list_4) .nil) .nil) (.cons (.ret c_law_list_6) .nil))))))⟩
def c_law_fails_1 : E := (.lc [5] (.n 5) (.range1 (.pr .len (.cons (.s 0) .nil))) .nil (.cmp (.bin .mul (.ix (.s 3) (.s 5)) (.ix (.s 4) (.c (.int 0)))) (.one .gt (.bin .mul (.ix (.s 4) (.s 5)) (.ix (.s 3) (.c (.int 0)))))))
def c_law_fails_2 : E := (.lc [5] (.n 5) (.range1 (.pr .len (.cons (.s 0) .nil))) .nil (.cmp (.ix (.s 3) (.s 5)) (.one .gt (.ix (.s 4) (.s 5)))))
def c_law_fails_3 : E := (.lc [5] (.n 5) (.range1 (.pr .len (.cons (.s 0) .nil))) .nil (.cmp (.ix (.s 3) (.s 5)) (.one .lt (.ix (.s 4) (.s 5)))))
def c_law_fails_4 : E := (.lc [6] (.n 6) (.range1 (.s 5)) .nil (.cmp (.bin .mul (.ix (.s 3) (.s 6)) (.ix (.s 4) (.s 5))) (.one .lt (.bin .mul (.ix (.s 3) (.s 5)) (.ix (.s 4) (.s 6))))))
def c_law_fails_5 : E := (.lc [5] (.n 5) (.range1 (.pr .len (.cons (.s 0) .nil))) .nil (.pr .any (.cons c_law_fails_4 .nil)))
def d_law_fails : Def := ⟨3, 7, (.cons (.ite (.cmp (.s 2) (.one .isin (.lst (.cons (.c (.str (PySem.Str.ofString "mean"))) (.cons (.c (.str (PySem.Str.ofString "pr"))) (.cons (.c (.str (PySem.Str.ofString "median"))) (.cons (.c (.str (PySem.Str.ofString "least"))) (.cons (.c (.str (PySem.Str.ofString "most"))) .nil)))))))) (.cons (.ret (.call 67 (.cons (.s 0) (.cons (.s 1) (.cons (.s 2) .nil))))) .nil) .nil) (.cons (.par [3, 4] (.cons (.call 66 (.cons (.s 2) (.cons (.s 0) .nil))) (.cons (.call 66 (.cons (.s 2) (.cons (.s 1) .nil))) .nil))) (.cons (.ite (.cmp (.s 2) (.one .eq (.c (.str (PySem.Str.ofString "hmrl"))))) (.cons (.ret (.pr .any (.cons c_law_fails_1 .nil))) .nil) .nil) (.cons (.ite (.cmp (.s 2) (.one .isin (.lst (.cons (.c (.str (PySem.Str.ofString "st"))) (.cons (.c (.str (PySem.Str.ofString "icx"))) .nil))))) (.cons (.ret (.pr .any (.cons c_law_fails_2 .nil))) .nil) .nil) (.cons (.ite (.cmp (.s 2) (.one .eq (.c (.str (PySem.Str.ofString "icv"))))) (.cons (.ret (.pr .any (.cons c_law_fails_3 .nil))) .nil) .nil) (.cons (.ret (.pr .any (.cons c_law_fails_5 .nil))) .nil))))))⟩
def c_law_1 : E := (.lc [10] (.n 10) (.e (.s 2)) (.cons (.call 71 (.cons (.s 5) (.cons (.s 10) .nil))) .nil) (.s 10))
def b_law_1 : Sts := (.cons (.set 11 (.call 59 (.cons (.s 5) (.cons (.s 10) .nil)))) (.cons (.ite (.or (.not (.call 18 (.cons (.call 60 (.cons (.s 5) (.cons (.s 10) .nil))) (.cons (.cmp (.s 10) (.one .isin (.s 6))) .nil)))) (.cmp (.cmp (.s 11) (.one .is (.c .non))) (.one .ne (.cmp (.s 10) (.one .isin (.s 6)))))) (.cons (.ret (.c (.bl false))) .nil) .nil) (.cons (.ite (.and (.cmp (.s 11) (.one .isnot (.c .non))) (.or (.not (.call 73 (.cons (.s 5) (.cons (.s 10) (.cons (.s 11) .nil))))) (.not (.call 18 (.cons (.call 62 (.cons (.s 5) (.cons (.s 10) (.cons (.s 11) .nil)))) (.cons (.c (.bl true)) .nil)))))) (.cons (.ret (.c (.bl false))) .nil) .nil) (.cons (.set 12 (.lst (.cons (.s 9) (.cons (.rev (.s 9)) (.cons (.pr .list (.cons (.s 9) .nil)) (.cons (.tup (.cons (.s 7) .nil)) (.cons (.c .non) (.cons (.tup (.cons (.ix (.s 9) (.c (.int 0))) (.cons (.tup (.cons (.c (.int 0)) .nil)) .nil))) (.cons (.tup (.cons (.ix (.s 9) (.c (.int 0))) (.cons (.bin .mul (.tup (.cons (.c (.int 1)) .nil)) (.bin .add (.s 4) (.c (.int 1)))) .nil))) (.cons (.tup (.cons (.tup (.cons (.c (.bl true)) .nil)) (.cons (.tup (.cons (.c (.int 0)) (.cons (.c (.int 1)) .nil))) .nil))) .nil)))))))))) (.cons (.set 13 (.ix (.s 12) (.call 17 (.cons (.s 1) (.cons (.c (.int 8)) .nil))))) (.cons (.ite (.not (.call 18 (.cons (.call 62 (.cons (.s 5) (.cons (.s 10) (.cons (.s 13) .nil)))) (.cons (.call 73 (.cons (.s 5) (.cons (.s 10) (.cons (.s 13) .nil)))) .nil)))) (.cons (.ret (.c (.bl false))) .nil) .nil) (.cons (.ite (.and (.cmp (.s 11) (.one .isnot (.c .non))) (.not (.call 18 (.cons (.call 62 (.cons (.s 5) (.cons (.s 10) (.cons (.rev (.s 11)) .nil)))) (.cons (.call 73 (.cons (.s 5) (.cons (.s 10) (.cons (.rev (.s 11)) .nil)))) .nil))))) (.cons (.ret (.c (.bl false))) .nil) .nil) .nil)))))))
def b_law_2 : Sts := (.cons (.set 4 (.bin .add (.c (.int 1)) (.call 17 (.cons (.s 1) (.cons (.c (.int 5)) .nil))))) (.cons (.set 5 (.call 22 (.cons (.s 1) (.cons (.s 4) .nil)))) (.cons (.set 6 c_law_1) (.cons (.ite (.cmp (.call 61 (.cons (.s 5) .nil)) (.one .ne (.pr .tuple (.cons (.s 6) .nil)))) (.cons (.ret (.c (.bl false))) .nil) .nil) (.cons (.unp (.cons (.n 7) (.cons (.n 8) .nil)) (.call 64 (.cons (.s 1) (.cons (.s 4) (.cons (.c (.int 6)) .nil))))) (.cons (.set 9 (.tup (.cons (.sl (.s 7) .no (.of (.s 4))) (.cons (.sl (.s 8) .no (.of (.s 4))) .nil)))) (.cons (.for (.n 10) (.e (.s 2)) b_law_1) .nil)))))))
def d_law : Def := ⟨1, 14, (.cons (.set 1 (.call 16 (.cons (.s 0) .nil))) (.cons (.set 2 (.tup (.cons (.c (.str (PySem.Str.ofString "lr"))) (.cons (.c (.str (PySem.Str.ofString "hr"))) (.cons (.c (.str (PySem.Str.ofString "rh"))) (.cons (.c (.str (PySem.Str.ofString "st"))) (.cons (.c (.str (PySem.Str.ofString "icx"))) (.cons (.c (.str (PySem.Str.ofString "icv"))) (.cons (.c (.str (PySem.Str.ofString "mean"))) .nil))))))))) (.cons (.for (.n 3) (.range1 (.c (.int 2))) b_law_2) (.cons (.ret (.c (.bl true))) .nil))))⟩
def d_law_tail : Def := ⟨2, 2, (.cons (.ret (.pr .sum (.cons (.sl (.s 0) (.of (.s 1)) .no) .nil))) .nil)⟩
def d_is_ratio : Def := ⟨1, 1, (.cons (.ite (.or (.not (.isi (.s 0) [.tuple])) (.or (.cmp (.pr .len (.cons (.s 0) .nil)) (.one .ne (.c (.int 2)))) (.or (.not (.call 0 (.cons (.ix (.s 0) (.c (.int 0))) .nil))) (.not (.call 0 (.cons (.ix (.s 0) (.c (.int 1))) .nil)))))) (.cons (.ret (.c (.bl false))) .nil) .nil) (.cons (.ret (.and (.cmp (.ix (.s 0) (.c (.int 1))) (.one .gt (.c (.int 0)))) (.cmp (.call 1 (.cons (.ix (.s 0) (.c (.int 0))) (.cons (.ix (.s 0) (.c (.int 1))) .nil))) (.one .eq (.c (.int 1)))))) .nil))⟩
def d_plus : Def := ⟨2, 2, (.cons (.ret (.call 2 (.cons (.bin .add (.bin .mul (.ix (.s 0) (.c (.int 0))) (.ix (.s 1) (.c (.int 1)))) (.bin .mul (.ix (.s 1) (.c (.int 0))) (.ix (.s 0) (.c (.int 1))))) (.cons (.bin .mul (.ix (.s 0) (.c (.int 1))) (.ix (.s 1) (.c (.int 1)))) .nil)))) .nil)⟩
def d_minus : Def := ⟨2, 2, (.cons (.ret (.call 2 (.cons (.bin .sub (.bin .mul (.ix (.s 0) (.c (.int 0))) (.ix (.s 1) (.c (.int 1)))) (.bin .mul (.ix (.s 1) (.c (.int 0))) (.ix (.s 0) (.c (.int 1))))) (.cons (.bin .mul (.ix (.s 0) (.c (.int 1))) (.ix (.s 1) (.c (.int 1)))) .nil)))) .nil)⟩
def d_times : Def := ⟨2, 2, (.cons (.ret (.call 2 (.cons (.bin .mul (.ix (.s 0) (.c (.int 0))) (.ix (.s 1) (.c (.int 0)))) (.cons (.bin .mul (.ix (.s 0) (.c (.int 1))) (.ix (.s 1) (.c (.int 1)))) .nil)))) .nil)⟩
def d_over : Def := ⟨2, 2, (.cons (.ite (.cmp (.ix (.s 1) (.c (.int 0))) (.one .eq (.c (.int 0)))) (.cons (.raise 0 none) .nil) .nil) (.cons (.ret (.call 2 (.cons (.bin .mul (.ix (.s 0) (.c (.int 0))) (.ix (.s 1) (.c (.int 1)))) (.cons (.bin .mul (.ix (.s 0) (.c (.int 1))) (.ix (.s 1) (.c (.int 0)))) .nil)))) .nil))⟩
def d_below : Def := ⟨2, 2, (.cons (.ret (.cmp (.bin .mul (.ix (.s 0) (.c (.int 0))) (.ix (.s 1) (.c (.int 1)))) (.one .lt (.bin .mul (.ix (.s 1) (.c (.int 0))) (.ix (.s 0) (.c (.int 1))))))) .nil)⟩
def b_total_1 : Sts := (.cons (.ite (.cmp (.ix (.s 2) (.c (.int 0))) (.one .ne (.c (.int 0)))) (.cons (.set 1 (.call 88 (.cons (.s 1) (.cons (.s 2) .nil)))) .nil) .nil) .nil)
def d_total : Def := ⟨1, 3, (.cons (.set 1 (.c (.tup [(.int 0), (.int 1)]))) (.cons (.for (.n 2) (.e (.s 0)) b_total_1) (.cons (.ret (.s 1)) .nil)))⟩
def d_lesser : Def := ⟨2, 2, (.cons (.ret (.ite (.call 92 (.cons (.s 1) (.cons (.s 0) .nil))) (.s 1) (.s 0))) .nil)⟩
def c_chances_of_1 : E := (.lc [2] (.n 2) (.e (.s 0)) .nil (.call 2 (.cons (.s 2) (.cons (.s 1) .nil))))
def d_chances_of : Def := ⟨1, 3, (.cons (.set 1 (.pr .sum (.cons (.s 0) .nil))) (.cons (.ret c_chances_of_1) .nil))⟩
def c_has_shape_1 : E := (.lc [4] (.n 4) (.e (.s 3)) .nil (.and (.call 87 (.cons (.s 4) .nil)) (.cmp (.ix (.s 4) (.c (.int 0))) (.one .ge (.c (.int 0))))))
def b_has_shape_1 : Sts := (.cons (.ite (.or (.not (.isi (.s 3) [.tuple])) (.cmp (.pr .len (.cons (.s 3) .nil)) (.one .ne (.s 2)))) (.cons (.ret (.c (.bl false))) .nil) .nil) (.cons (.ite (.not (.pr .all (.cons c_has_shape_1 .nil))) (.cons (.ret (.c (.bl false))) .nil) .nil) .nil))
def d_has_shape : Def := ⟨3, 5, (.cons (.ite (.or (.not (.isi (.s 0) [.tuple])) (.cmp (.pr .len (.cons (.s 0) .nil)) (.one .ne (.s 1)))) (.cons (.ret (.c (.bl false))) .nil) .nil) (.cons (.for (.n 3) (.e (.s 0)) b_has_shape_1) (.cons (.ret (.c (.bl true))) .nil)))⟩
def c_distance_of_1 : E := (.lc [4, 5] (.t (.cons (.n 4) (.cons (.n 5) .nil))) (.zip (.e (.s 2)) (.e (.s 3))) .nil (.pr .max (.cons (.bin .sub (.s 4) (.s 5)) (.cons (.c (.int 0)) .nil))))
def d_distance_of : Def := ⟨2, 6, (.cons (.unp (.cons (.n 2) (.cons (.n 3) .nil)) (.call 26 (.cons (.s 0) (.cons (.s 1) .nil)))) (.cons (.ret (.call 2 (.cons (.pr .sum (.cons c_distance_of_1 .nil)) (.cons (.pr .sum (.cons (.s 2) .nil)) .nil)))) .nil))⟩
def d_distance : Def := ⟨2, 2, (.cons (.expr (.call 4 (.cons (.s 0) .nil))) (.cons (.expr (.call 4 (.cons (.s 1) .nil))) (.cons (.ret (.call 98 (.cons (.s 0) (.cons (.s 1) .nil)))) .nil)))⟩
def c_least_parts_1 : E := (.lc [2, 3] (.t (.cons (.n 2) (.cons (.n 3) .nil))) (.zip (.e (.call 95 (.cons (.s 0) .nil))) (.e (.call 95 (.cons (.s 1) .nil)))) .nil (.call 94 (.cons (.s 2) (.cons (.s 3) .nil))))
def d_least_parts : Def := ⟨2, 4, (.cons (.ret c_least_parts_1) .nil)⟩
def c_left_over_1 : E := (.lc [3, 4] (.t (.cons (.n 3) (.cons (.n 4) .nil))) (.zip (.e (.call 95 (.cons (.s 0) .nil))) (.e (.s 2))) .nil (.call 89 (.cons (.s 3) (.cons (.s 4) .nil))))
def d_left_over : Def := ⟨2, 5, (.cons (.set 2 (.bin .add (.s 1) (.bin .mul (.lst (.cons (.c (.tup [(.int 0), (.int 1)])) .nil)) (.bin .sub (.pr .len (.cons (.s 0) .nil)) (.pr .len (.cons (.s 1) .nil)))))) (.cons (.ret c_left_over_1) .nil))⟩
def c_meeting_1 : E := (.lc [10] (.n 10) (.e (.s 4)) .nil (.call 91 (.cons (.call 90 (.cons (.s 8) (.cons (.s 10) .nil))) (.cons (.s 5) .nil))))
def b_meeting_1 : Sts := (.cons (.set 9 (.ite (.cmp (.ix (.s 5) (.c (.int 0))) (.one .eq (.c (.int 0)))) (.bin .mul (.lst (.cons (.c (.tup [(.int 0), (.int 1)])) .nil)) (.pr .len (.cons (.s 4) .nil))) c_meeting_1)) (.cons (.ite (.cmp (.s 7) (.one .lt (.pr .len (.cons (.s 2) .nil)))) (.cons (.put 9 (.s 7) (.call 88 (.cons (.ix (.s 9) (.s 7)) (.cons (.ix (.s 2) (.s 7)) .nil)))) .nil) .nil) (.cons (.app 6 (.pr .tuple (.cons (.s 9) .nil))) .nil)))
def d_meeting : Def := ⟨2, 11, (.cons (.expr (.call 4 (.cons (.s 0) .nil))) (.cons (.expr (.call 4 (.cons (.s 1) .nil))) (.cons (.set 2 (.call 100 (.cons (.s 0) (.cons (.s 1) .nil)))) (.cons (.par [3, 4] (.cons (.call 101 (.cons (.s 0) (.cons (.s 2) .nil))) (.cons (.call 101 (.cons (.s 1) (.cons (.s 2) .nil))) .nil))) (.cons (.set 5 (.call 93 (.cons (.s 3) .nil))) (.cons (.set 6 (.lst .nil)) (.cons (.for (.t (.cons (.n 7) (.cons (.n 8) .nil))) (.enum (.e (.s 3)) .no) b_meeting_1) (.cons (.ret (.pr .tuple (.cons (.s 6) .nil))) .nil))))))))⟩
def c_law_is_fraction_1 : E := (.lc [1] (.n 1) (.e (.s 0)) .nil (.and (.isi (.s 1) [.int]) (.not (.isi (.s 1) [.bool]))))
def d_law_is_fraction : Def := ⟨1, 2, (.cons (.ite (.or (.not (.isi (.s 0) [.tuple])) (.cmp (.pr .len (.cons (.s 0) .nil)) (.one .ne (.c (.int 2))))) (.cons (.ret (.c (.bl false))) .nil) .nil) (.cons (.ite (.or (.not (.pr .all (.cons c_law_is_fraction_1 .nil))) (.cmp (.ix (.s 0) (.c (.int 1))) (.one .lt (.c (.int 1))))) (.cons (.ret (.c (.bl false))) .nil) .nil) (.cons (.ret (.cmp (.call 20 (.cons (.ix (.s 0) (.c (.int 0))) (.cons (.ix (.s 0) (.c (.int 1))) .nil))) (.one .eq (.s 0)))) .nil)))⟩
def b_law_sum_1 : Sts := (.cons (.unp (.cons (.n 1) (.cons (.n 2) .nil)) (.call 20 (.cons (.bin .add (.bin .mul (.s 1) (.ix (.s 3) (.c (.int 1)))) (.bin .mul (.ix (.s 3) (.c (.int 0))) (.s 2))) (.cons (.bin .mul (.s 2) (.ix (.s 3) (.c (.int 1)))) .nil)))) .nil)
def d_law_sum : Def := ⟨1, 4, (.cons (.par [1, 2] (.cons (.c (.int 0)) (.cons (.c (.int 1)) .nil))) (.cons (.for (.n 3) (.e (.s 0)) b_law_sum_1) (.cons (.ret (.tup (.cons (.s 1) (.cons (.s 2) .nil)))) .nil)))⟩
def c_are_players_1 : E := (.lc [1] (.n 1) (.e (.s 0)) .nil (.call 3 (.cons (.s 1) .nil)))
def d_are_players : Def := ⟨1, 2, (.cons (.ite (.or (.not (.isi (.s 0) [.tuple])) (.not (.cmp (.c (.int 2)) (.cons .le (.pr .len (.cons (.s 0) .nil)) (.one .le (.c (.int 8))))))) (.cons (.ret (.c (.bl false))) .nil) .nil) (.cons (.ret (.pr .all (.cons c_are_players_1 .nil))) .nil))⟩
def d_check_players : Def := ⟨1, 1, (.cons (.ite (.not (.call 142 (.cons (.s 0) .nil))) (.cons (.raise 0 none) .nil) .nil) .nil)⟩
def d_padded : Def := ⟨2, 3, (.cons (.set 2 (.pr .max (.cons (.pr .len (.cons (.s 0) .nil)) (.cons (.pr .len (.cons (.s 1) .nil)) .nil)))) (.cons (.ret (.tup (.cons (.bin .add (.pr .list (.cons (.s 0) .nil)) (.bin .mul (.lst (.cons (.c (.int 0)) .nil)) (.bin .sub (.s 2) (.pr .len (.cons (.s 0) .nil))))) (.cons (.bin .add (.pr .list (.cons (.s 1) .nil)) (.bin .mul (.lst (.cons (.c (.int 0)) .nil)) (.bin .sub (.s 2) (.pr .len (.cons (.s 1) .nil))))) .nil)))) .nil))⟩
def d_ahead : Def := ⟨2, 4, (.cons (.unp (.cons (.n 2) (.cons (.n 3) .nil)) (.call 144 (.cons (.s 0) (.cons (.s 1) .nil)))) (.cons (.ret (.call 49 (.cons (.s 3) (.cons (.s 2) .nil)))) .nil))⟩
def d_sign : Def := ⟨1, 1, (.cons (.ret (.bin .sub (.pr .int (.cons (.cmp (.s 0) (.one .gt (.c (.int 0)))) .nil)) (.pr .int (.cons (.cmp (.s 0) (.one .lt (.c (.int 0)))) .nil)))) .nil)⟩
def c_round_of_1 : E := (.lc [2] (.n 2) (.e (.s 0)) .nil (.call 146 (.cons (.call 145 (.cons (.s 1) (.cons (.s 2) .nil))) .nil)))
def c_round_of_2 : E := (.lc [1] (.n 1) (.e (.s 0)) .nil (.pr .tuple (.cons c_round_of_1 .nil)))
def d_round_of : Def := ⟨1, 3, (.cons (.expr (.call 143 (.cons (.s 0) .nil))) (.cons (.ret (.pr .tuple (.cons c_round_of_2 .nil))) .nil))⟩
def d_law_less : Def := ⟨2, 2, (.cons (.ret (.cmp (.bin .mul (.ix (.s 0) (.c (.int 0))) (.ix (.s 1) (.c (.int 1)))) (.one .lt (.bin .mul (.ix (.s 1) (.c (.int 0))) (.ix (.s 0) (.c (.int 1))))))) .nil)⟩
def d_law_is_frac : Def := ⟨1, 1, (.cons (.ret (.and (.isi (.s 0) [.tuple]) (.and (.cmp (.pr .len (.cons (.s 0) .nil)) (.one .eq (.c (.int 2)))) (.and (.call 174 (.cons (.ix (.s 0) (.c (.int 0))) .nil)) (.and (.call 174 (.cons (.ix (.s 0) (.c (.int 1))) .nil)) (.and (.cmp (.ix (.s 0) (.c (.int 1))) (.one .gt (.c (.int 0)))) (.cmp (.call 20 (.cons (.ix (.s 0) (.c (.int 0))) (.cons (.ix (.s 0) (.c (.int 1))) .nil))) (.one .eq (.s 0))))))))) .nil)⟩
def d_check_number : Def := ⟨1, 1, (.cons (.ite (.or (.not (.call 0 (.cons (.s 0) .nil))) (.cmp (.s 0) (.one .lt (.c (.int 0))))) (.cons (.raise 0 none) .nil) .nil) .nil)⟩
def c_excess_1 : E := (.lc [2, 3] (.t (.cons (.n 2) (.cons (.n 3) .nil))) (.enum (.e (.s 0)) (.of (.c (.int 1)))) (.cons (.cmp (.s 2) (.one .gt (.s 1))) .nil) (.bin .mul (.s 3) (.bin .sub (.s 2) (.s 1))))
def d_excess : Def := ⟨2, 4, (.cons (.expr (.call 4 (.cons (.s 0) .nil))) (.cons (.expr (.call 201 (.cons (.s 1) .nil))) (.cons (.ret (.call 2 (.cons (.pr .sum (.cons c_excess_1 .nil)) (.cons (.pr .sum (.cons (.s 0) .nil)) .nil)))) .nil)))⟩
def c_lack_1 : E := (.lc [2, 3] (.t (.cons (.n 2) (.cons (.n 3) .nil))) (.enum (.e (.s 0)) (.of (.c (.int 1)))) (.cons (.cmp (.s 2) (.one .lt (.s 1))) .nil) (.bin .mul (.s 3) (.bin .sub (.s 1) (.s 2))))
def d_lack : Def := ⟨2, 4, (.cons (.expr (.call 4 (.cons (.s 0) .nil))) (.cons (.expr (.call 201 (.cons (.s 1) .nil))) (.cons (.ret (.call 2 (.cons (.pr .sum (.cons c_lack_1 .nil)) (.cons (.pr .sum (.cons (.s 0) .nil)) .nil)))) .nil)))⟩
def b_service_gap_1 : Sts := (.cons (.ite (.call 92 (.cons (.call 202 (.cons (.s 1) (.cons (.s 2) .nil))) (.cons (.call 202 (.cons (.s 0) (.cons (.s 2) .nil))) .nil))) (.cons (.ret (.s 2)) .nil) .nil) .nil)
def d_service_gap : Def := ⟨2, 3, (.cons (.ite (.or (.not (.call 3 (.cons (.s 0) .nil))) (.not (.call 3 (.cons (.s 1) .nil)))) (.cons (.raise 0 none) .nil) .nil) (.cons (.for (.n 2) (.range2 (.c (.int 1)) (.bin .add (.c (.int 30)) (.c (.int 1)))) b_service_gap_1) (.cons (.ret (.c .non)) .nil)))⟩
def b_gap_service_1 : Sts := (.cons (.ite (.call 92 (.cons (.call 217 (.cons (.s 0) (.cons (.s 2) .nil))) (.cons (.call 217 (.cons (.s 1) (.cons (.s 2) .nil))) .nil))) (.cons (.ret (.s 2)) .nil) .nil) .nil)
def d_gap_service : Def := ⟨2, 3, (.cons (.ite (.or (.not (.call 3 (.cons (.s 0) .nil))) (.not (.call 3 (.cons (.s 1) .nil)))) (.cons (.raise 0 none) .nil) .nil) (.cons (.for (.n 2) (.range2 (.c (.int 1)) (.bin .add (.c (.int 30)) (.c (.int 1)))) b_gap_service_1) (.cons (.ret (.c .non)) .nil)))⟩
def c_law_wait_1 : E := (.lc [3] (.n 3) (.range1 (.pr .len (.cons (.s 1) .nil))) .nil (.bin .mul (.bin .mul (.pr .max (.cons (.bin .sub (.s 2) (.s 3)) (.cons (.c (.int 0)) .nil))) (.ix (.s 0) (.s 2))) (.ix (.s 1) (.s 3))))
def c_law_wait_2 : E := (.lc [2] (.n 2) (.range1 (.pr .len (.cons (.s 0) .nil))) .nil (.pr .sum (.cons c_law_wait_1 .nil)))
def d_law_wait : Def := ⟨2, 4, (.cons (.ret (.pr .sum (.cons c_law_wait_2 .nil))) .nil)⟩
def d_law_point : Def := ⟨1, 1, (.cons (.ret (.bin .add (.bin .mul (.tup (.cons (.c (.int 0)) .nil)) (.bin .sub (.s 0) (.c (.int 1)))) (.tup (.cons (.c (.int 1)) .nil)))) .nil)⟩
def d_is_level : Def := ⟨1, 1, (.cons (.ret (.and (.call 87 (.cons (.s 0) .nil)) (.cmp (.c (.int 0)) (.cons .lt (.ix (.s 0) (.c (.int 0))) (.one .le (.ix (.s 0) (.c (.int 1)))))))) .nil)⟩
def d_is_part : Def := ⟨1, 1, (.cons (.ret (.and (.call 87 (.cons (.s 0) .nil)) (.cmp (.c (.int 0)) (.cons .le (.ix (.s 0) (.c (.int 0))) (.one .lt (.ix (.s 0) (.c (.int 1)))))))) .nil)⟩
def b_number_at_1 : Sts := (.cons (.ite (.cmp (.bin .mul (.s 4) (.ix (.s 1) (.c (.int 1)))) (.one .ge (.bin .mul (.ix (.s 1) (.c (.int 0))) (.s 2)))) (.cons (.ret (.s 3)) .nil) .nil) .nil)
def d_number_at : Def := ⟨2, 5, (.cons (.set 2 (.pr .sum (.cons (.s 0) .nil))) (.cons (.for (.t (.cons (.n 3) (.cons (.n 4) .nil))) (.enum (.e (.call 44 (.cons (.s 0) .nil))) (.of (.c (.int 1)))) b_number_at_1) (.cons (.ret (.pr .len (.cons (.s 0) .nil))) .nil)))⟩
def d_value_at : Def := ⟨2, 2, (.cons (.expr (.call 4 (.cons (.s 0) .nil))) (.cons (.ite (.not (.call 326 (.cons (.s 1) .nil))) (.cons (.raise 0 none) .nil) .nil) (.cons (.ret (.call 328 (.cons (.s 0) (.cons (.s 1) .nil)))) .nil)))⟩
def b_tail_sum_1 : Sts := (.cons (.set 6 (.call 94 (.cons (.call 2 (.cons (.ix (.s 0) (.bin .sub (.s 5) (.c (.int 1)))) (.cons (.s 4) .nil))) (.cons (.s 2) .nil)))) (.cons (.set 3 (.call 88 (.cons (.s 3) (.cons (.call 90 (.cons (.s 6) (.cons (.tup (.cons (.s 5) (.cons (.c (.int 1)) .nil))) .nil))) .nil)))) (.cons (.set 2 (.call 89 (.cons (.s 2) (.cons (.s 6) .nil)))) .nil)))
def d_tail_sum : Def := ⟨2, 7, (.cons (.par [2, 3] (.cons (.call 89 (.cons (.c (.tup [(.int 1), (.int 1)])) (.cons (.s 1) .nil))) (.cons (.c (.tup [(.int 0), (.int 1)])) .nil))) (.cons (.set 4 (.pr .sum (.cons (.s 0) .nil))) (.cons (.for (.n 5) (.rangeD (.pr .len (.cons (.s 0) .nil)) (.c (.int 0)) (.neg (.c (.int 1)))) b_tail_sum_1) (.cons (.ret (.s 3)) .nil))))⟩
def d_tail_mean : Def := ⟨2, 2, (.cons (.expr (.call 4 (.cons (.s 0) .nil))) (.cons (.ite (.not (.call 327 (.cons (.s 1) .nil))) (.cons (.raise 0 none) .nil) .nil) (.cons (.ret (.call 91 (.cons (.call 330 (.cons (.s 0) (.cons (.s 1) .nil))) (.cons (.call 89 (.cons (.c (.tup [(.int 1), (.int 1)])) (.cons (.s 1) .nil))) .nil)))) .nil)))⟩
def c_is_point_1 : E := (.lc [1] (.n 1) (.e (.s 0)) .nil (.and (.call 87 (.cons (.s 1) .nil)) (.cmp (.c (.int 0)) (.cons .le (.ix (.s 1) (.c (.int 0))) (.one .le (.ix (.s 1) (.c (.int 1))))))))
def d_is_point : Def := ⟨1, 2, (.cons (.ite (.or (.not (.isi (.s 0) [.tuple])) (.cmp (.pr .len (.cons (.s 0) .nil)) (.one .ne (.c (.int 2))))) (.cons (.ret (.c (.bl false))) .nil) .nil) (.cons (.ret (.pr .all (.cons c_is_point_1 .nil))) .nil))⟩
def c_is_bend_1 : E := (.lc [5] (.n 5) (.e (.s 0)) .nil (.call 332 (.cons (.s 5) .nil)))
def b_is_bend_1 : Sts := (.cons (.ite (.or (.not (.call 92 (.cons (.s 1) (.cons (.s 3) .nil)))) (.call 92 (.cons (.s 4) (.cons (.s 2) .nil)))) (.cons (.ret (.c (.bl false))) .nil) .nil) .nil)
def d_is_bend : Def := ⟨1, 6, (.cons (.ite (.or (.not (.isi (.s 0) [.tuple])) (.not (.cmp (.c (.int 2)) (.cons .le (.pr .len (.cons (.s 0) .nil)) (.one .le (.c (.int 20))))))) (.cons (.ret (.c (.bl false))) .nil) .nil) (.cons (.ite (.not (.pr .all (.cons c_is_bend_1 .nil))) (.cons (.ret (.c (.bl false))) .nil) .nil) (.cons (.ite (.or (.cmp (.ix (.s 0) (.c (.int 0))) (.one .ne (.tup (.cons (.c (.tup [(.int 0), (.int 1)])) (.cons (.c (.tup [(.int 0), (.int 1)])) .nil))))) (.cmp (.ix (.s 0) (.neg (.c (.int 1)))) (.one .ne (.tup (.cons (.c (.tup [(.int 1), (.int 1)])) (.cons (.c (.tup [(.int 1), (.int 1)])) .nil)))))) (.cons (.ret (.c (.bl false))) .nil) .nil) (.cons (.for (.t (.cons (.t (.cons (.n 1) (.cons (.n 2) .nil))) (.cons (.t (.cons (.n 3) (.cons (.n 4) .nil))) .nil))) (.zip (.e (.s 0)) (.e (.sl (.s 0) (.of (.c (.int 1))) .no))) b_is_bend_1) (.cons (.ret (.c (.bl true))) .nil)))))⟩
def d_check_bend : Def := ⟨1, 1, (.cons (.ite (.not (.call 333 (.cons (.s 0) .nil))) (.cons (.raise 0 none) .nil) .nil) .nil)⟩
def b_height_1 : Sts := (.cons (.ite (.not (.call 92 (.cons (.s 4) (.cons (.s 1) .nil)))) (.cons (.ret (.call 88 (.cons (.s 3) (.cons (.call 91 (.cons (.call 90 (.cons (.call 89 (.cons (.s 5) (.cons (.s 3) .nil))) (.cons (.call 89 (.cons (.s 1) (.cons (.s 2) .nil))) .nil))) (.cons (.call 89 (.cons (.s 4) (.cons (.s 2) .nil))) .nil))) .nil)))) .nil) .nil) .nil)
def d_height : Def := ⟨2, 6, (.cons (.for (.t (.cons (.t (.cons (.n 2) (.cons (.n 3) .nil))) (.cons (.t (.cons (.n 4) (.cons (.n 5) .nil))) .nil))) (.zip (.e (.s 0)) (.e (.sl (.s 0) (.of (.c (.int 1))) .no))) b_height_1) (.cons (.ret (.c (.tup [(.int 1), (.int 1)]))) .nil))⟩
def d_bend_at : Def := ⟨2, 2, (.cons (.expr (.call 334 (.cons (.s 0) .nil))) (.cons (.ite (.or (.not (.call 87 (.cons (.s 1) .nil))) (.not (.cmp (.c (.int 0)) (.cons .le (.ix (.s 1) (.c (.int 0))) (.one .le (.ix (.s 1) (.c (.int 1)))))))) (.cons (.raise 0 none) .nil) .nil) (.cons (.ret (.call 335 (.cons (.s 0) (.cons (.s 1) .nil)))) .nil)))⟩
def b_premium_of_1 : Sts := (.cons (.set 2 (.call 88 (.cons (.s 2) (.cons (.call 335 (.cons (.s 1) (.cons (.call 2 (.cons (.s 4) (.cons (.s 3) .nil))) .nil))) .nil)))) .nil)
def d_premium_of : Def := ⟨2, 5, (.cons (.set 2 (.c (.tup [(.int 0), (.int 1)]))) (.cons (.set 3 (.pr .sum (.cons (.s 0) .nil))) (.cons (.for (.n 4) (.e (.call 43 (.cons (.s 0) .nil))) b_premium_of_1) (.cons (.ret (.s 2)) .nil))))⟩
def d_premium : Def := ⟨2, 2, (.cons (.expr (.call 4 (.cons (.s 0) .nil))) (.cons (.expr (.call 334 (.cons (.s 1) .nil))) (.cons (.ret (.call 337 (.cons (.s 0) (.cons (.s 1) .nil)))) .nil)))⟩
def c_law_bend_1 : E := (.lc [8] (.n 8) (.range2 (.c (.int 1)) (.s 2)) (.cons (.cmp (.call 17 (.cons (.s 0) (.cons (.s 2) .nil))) (.one .lt (.bin .add (.c (.int 2)) (.s 1)))) .nil) (.s 8))
def b_law_bend_1 : Sts := (.cons (.set 6 (.bin .add (.s 6) (.call 17 (.cons (.s 0) (.cons (.bin .add (.bin .sub (.s 4) (.s 6)) (.c (.int 1))) .nil))))) (.cons (.app 5 (.tup (.cons (.call 20 (.cons (.s 7) (.cons (.s 2) .nil))) (.cons (.call 20 (.cons (.s 6) (.cons (.s 4) .nil))) .nil)))) .nil))
def d_law_bend : Def := ⟨1, 9, (.cons (.set 1 (.call 17 (.cons (.s 0) (.cons (.c (.int 4)) .nil)))) (.cons (.set 2 (.bin .add (.c (.int 4)) (.call 17 (.cons (.s 0) (.cons (.c (.int 5)) .nil))))) (.cons (.set 3 (.sl c_law_bend_1 .no (.of (.c (.int 4))))) (.cons (.set 4 (.bin .add (.c (.int 3)) (.call 17 (.cons (.s 0) (.cons (.c (.int 6)) .nil))))) (.cons (.set 5 (.lst (.cons (.tup (.cons (.tup (.cons (.c (.int 0)) (.cons (.c (.int 1)) .nil))) (.cons (.tup (.cons (.c (.int 0)) (.cons (.c (.int 1)) .nil))) .nil))) .nil))) (.cons (.set 6 (.c (.int 0))) (.cons (.for (.n 7) (.e (.s 3)) b_law_bend_1) (.cons (.ret (.pr .tuple (.cons (.bin .add (.s 5) (.lst (.cons (.tup (.cons (.tup (.cons (.c (.int 1)) (.cons (.c (.int 1)) .nil))) (.cons (.tup (.cons (.c (.int 1)) (.cons (.c (.int 1)) .nil))) .nil))) .nil))) .nil))) .nil))))))))⟩
def b_law_height_1 : Sts := (.cons (.unp (.cons (.n 4) (.cons (.n 5) .nil)) (.ix (.s 0) (.bin .sub (.s 3) (.c (.int 1))))) (.cons (.unp (.cons (.n 6) (.cons (.n 7) .nil)) (.ix (.s 0) (.s 3))) (.cons (.ite (.cmp (.bin .mul (.s 1) (.ix (.s 6) (.c (.int 1)))) (.one .le (.bin .mul (.ix (.s 6) (.c (.int 0))) (.s 2)))) (.cons (.set 8 (.bin .mul (.bin .mul (.bin .mul (.bin .sub (.bin .mul (.s 1) (.ix (.s 4) (.c (.int 1)))) (.bin .mul (.ix (.s 4) (.c (.int 0))) (.s 2))) (.bin .sub (.bin .mul (.ix (.s 7) (.c (.int 0))) (.ix (.s 5) (.c (.int 1)))) (.bin .mul (.ix (.s 5) (.c (.int 0))) (.ix (.s 7) (.c (.int 1)))))) (.ix (.s 6) (.c (.int 1)))) (.ix (.s 4) (.c (.int 1))))) (.cons (.set 9 (.bin .mul (.bin .mul (.bin .mul (.bin .mul (.s 2) (.ix (.s 4) (.c (.int 1)))) (.ix (.s 7) (.c (.int 1)))) (.ix (.s 5) (.c (.int 1)))) (.bin .sub (.bin .mul (.ix (.s 6) (.c (.int 0))) (.ix (.s 4) (.c (.int 1)))) (.bin .mul (.ix (.s 4) (.c (.int 0))) (.ix (.s 6) (.c (.int 1))))))) (.cons (.ret (.call 20 (.cons (.bin .add (.bin .mul (.ix (.s 5) (.c (.int 0))) (.s 9)) (.bin .mul (.s 8) (.ix (.s 5) (.c (.int 1))))) (.cons (.bin .mul (.ix (.s 5) (.c (.int 1))) (.s 9)) .nil)))) .nil))) .nil) .nil)))
def d_law_height : Def := ⟨3, 10, (.cons (.for (.n 3) (.range2 (.c (.int 1)) (.pr .len (.cons (.s 0) .nil))) b_law_height_1) (.cons (.ret (.tup (.cons (.c (.int 1)) (.cons (.c (.int 1)) .nil)))) .nil))⟩
def c_law_premium_1 : E := (.lc [2] (.n 2) (.range1 (.pr .len (.cons (.s 0) .nil))) .nil (.call 340 (.cons (.s 1) (.cons (.pr .sum (.cons (.sl (.s 0) (.of (.s 2)) .no) .nil)) (.cons (.pr .sum (.cons (.s 0) .nil)) .nil)))))
def d_law_premium : Def := ⟨2, 3, (.cons (.ret (.call 105 (.cons c_law_premium_1 .nil))) .nil)⟩
def c_law_is_frac_2_1 : E := (.lc [1] (.n 1) (.e (.s 0)) .nil (.and (.isi (.s 1) [.int]) (.not (.isi (.s 1) [.bool]))))
def d_law_is_frac_2 : Def := ⟨1, 2, (.cons (.ite (.or (.not (.isi (.s 0) [.tuple])) (.or (.cmp (.pr .len (.cons (.s 0) .nil)) (.one .ne (.c (.int 2)))) (.not (.pr .all (.cons c_law_is_frac_2_1 .nil))))) (.cons (.ret (.c (.bl false))) .nil) .nil) (.cons (.ret (.and (.cmp (.ix (.s 0) (.c (.int 1))) (.one .gt (.c (.int 0)))) (.cmp (.call 20 (.cons (.ix (.s 0) (.c (.int 0))) (.cons (.ix (.s 0) (.c (.int 1))) .nil))) (.one .eq (.s 0))))) .nil))⟩
def c_law_is_bend_1 : E := (.lc [2] (.n 2) (.e (.s 1)) .nil (.and (.call 342 (.cons (.s 2) .nil)) (.cmp (.c (.int 0)) (.cons .le (.ix (.s 2) (.c (.int 0))) (.one .le (.ix (.s 2) (.c (.int 1))))))))
def b_law_is_bend_1 : Sts := (.cons (.ite (.or (.not (.isi (.s 1) [.tuple])) (.or (.cmp (.pr .len (.cons (.s 1) .nil)) (.one .ne (.c (.int 2)))) (.not (.pr .all (.cons c_law_is_bend_1 .nil))))) (.cons (.ret (.c (.bl false))) .nil) .nil) .nil)
def c_law_is_bend_2 : E := (.lc [3] (.n 3) (.range2 (.c (.int 1)) (.pr .len (.cons (.s 0) .nil))) .nil (.and (.call 191 (.cons (.ix (.ix (.s 0) (.bin .sub (.s 3) (.c (.int 1)))) (.c (.int 0))) (.cons (.ix (.ix (.s 0) (.s 3)) (.c (.int 0))) .nil))) (.not (.call 191 (.cons (.ix (.ix (.s 0) (.s 3)) (.c (.int 1))) (.cons (.ix (.ix (.s 0) (.bin .sub (.s 3) (.c (.int 1)))) (.c (.int 1))) .nil))))))
def d_law_is_bend : Def := ⟨1, 4, (.cons (.ite (.or (.not (.isi (.s 0) [.tuple])) (.not (.cmp (.c (.int 2)) (.cons .le (.pr .len (.cons (.s 0) .nil)) (.one .le (.c (.int 20))))))) (.cons (.ret (.c (.bl false))) .nil) .nil) (.cons (.for (.n 1) (.e (.s 0)) b_law_is_bend_1) (.cons (.ite (.or (.cmp (.ix (.s 0) (.c (.int 0))) (.one .ne (.tup (.cons (.tup (.cons (.c (.int 0)) (.cons (.c (.int 1)) .nil))) (.cons (.tup (.cons (.c (.int 0)) (.cons (.c (.int 1)) .nil))) .nil))))) (.cmp (.ix (.s 0) (.neg (.c (.int 1)))) (.one .ne (.tup (.cons (.tup (.cons (.c (.int 1)) (.cons (.c (.int 1)) .nil))) (.cons (.tup (.cons (.c (.int 1)) (.cons (.c (.int 1)) .nil))) .nil)))))) (.cons (.ret (.c (.bl false))) .nil) .nil) (.cons (.ret (.pr .all (.cons c_law_is_bend_2 .nil))) .nil))))⟩
def b_law_tail_2_1 : Sts := (.cons (.set 7 (.pr .min (.cons (.s 4) (.cons (.bin .mul (.ix (.s 0) (.s 6)) (.s 2)) .nil)))) (.cons (.set 5 (.bin .add (.s 5) (.bin .mul (.s 7) (.bin .add (.s 6) (.c (.int 1)))))) (.cons (.set 4 (.bin .sub (.s 4) (.s 7))) .nil)))
def d_law_tail_2 : Def := ⟨3, 8, (.cons (.set 3 (.pr .sum (.cons (.s 0) .nil))) (.cons (.par [4, 5] (.cons (.bin .mul (.bin .sub (.s 2) (.s 1)) (.s 3)) (.cons (.c (.int 0)) .nil))) (.cons (.for (.n 6) (.rangeD (.bin .sub (.pr .len (.cons (.s 0) .nil)) (.c (.int 1))) (.neg (.c (.int 1))) (.neg (.c (.int 1)))) b_law_tail_2_1) (.cons (.ret (.call 20 (.cons (.s 5) (.cons (.bin .mul (.bin .sub (.s 2) (.s 1)) (.s 3)) .nil)))) .nil))))⟩
def d_law_told_13 : Def := ⟨3, 4, (.cons (.tr (.cons (.ite (.cmp (.s 0) (.one .lt (.c (.int 2)))) (.cons (.ret (.ite (.cmp (.s 0) (.one .eq (.c (.int 0)))) (.call 329 (.cons (.s 1) (.cons (.s 2) .nil))) (.call 331 (.cons (.s 1) (.cons (.s 2) .nil))))) .nil) .nil) (.cons (.ret (.ite (.cmp (.s 0) (.one .eq (.c (.int 2)))) (.call 338 (.cons (.s 1) (.cons (.s 2) .nil))) (.call 336 (.cons (.s 1) (.cons (.s 2) .nil))))) .nil)) (.cons 0 (some 3) (.one (.c (.str (PySem.Str.ofString "malformed")))) .nil)) .nil)⟩
def c_law_26_1 : E := (.lc [14] (.n 14) (.range1 (.pr .len (.cons (.s 3) .nil))) (.cons (.cmp (.bin .mul (.pr .sum (.cons (.sl (.s 3) .no (.of (.bin .add (.s 14) (.c (.int 1))))) .nil)) (.ix (.s 5) (.c (.int 1)))) (.one .ge (.bin .mul (.ix (.s 5) (.c (.int 0))) (.pr .sum (.cons (.s 3) .nil))))) .nil) (.bin .add (.s 14) (.c (.int 1))))
def c_law_26_2 : E := (.lc [15] (.n 15) (.e (.s 7)) .nil (.pr .list (.cons (.s 15) .nil)))
def b_law_26_1 : Sts := (.cons (.ite (.or (.not (.call 18 (.cons (.call 333 (.cons (.s 12) .nil)) (.cons (.call 343 (.cons (.s 12) .nil)) .nil)))) (.and (.not (.call 343 (.cons (.s 12) .nil))) (.cmp (.call 461 (.cons (.c (.int 2)) (.cons (.s 3) (.cons (.s 12) .nil)))) (.one .ne (.c (.str (PySem.Str.ofString "malformed"))))))) (.cons (.ret (.c (.bl false))) .nil) .nil) .nil)
def b_law_26_2 : Sts := (.cons (.set 3 (.call 19 (.cons (.s 1) (.cons (.c (.int 7)) (.cons (.ix (.lst (.cons (.c (.int 9)) (.cons (.c (.int 300000)) .nil))) (.call 17 (.cons (.s 1) (.cons (.c (.int 2)) .nil)))) .nil))))) (.cons (.set 4 (.ix (.lst (.cons (.c (.int 2)) (.cons (.c (.int 7)) (.cons (.pr .sum (.cons (.s 3) .nil)) .nil)))) (.call 17 (.cons (.s 1) (.cons (.c (.int 3)) .nil))))) (.cons (.set 5 (.call 20 (.cons (.bin .add (.c (.int 1)) (.call 17 (.cons (.s 1) (.cons (.s 4) .nil)))) (.cons (.s 4) .nil)))) (.cons (.ite (.cmp (.call 461 (.cons (.c (.int 0)) (.cons (.s 3) (.cons (.s 5) .nil)))) (.one .ne (.pr .min (.cons c_law_26_1 .nil)))) (.cons (.ret (.c (.bl false))) .nil) .nil) (.cons (.set 6 (.call 20 (.cons (.call 17 (.cons (.s 1) (.cons (.s 4) .nil))) (.cons (.s 4) .nil)))) (.cons (.ite (.cmp (.call 461 (.cons (.c (.int 1)) (.cons (.s 3) (.cons (.s 6) .nil)))) (.one .ne (.call 346 (.cons (.s 3) (.cons (.ix (.s 6) (.c (.int 0))) (.cons (.ix (.s 6) (.c (.int 1))) .nil)))))) (.cons (.ret (.c (.bl false))) .nil) .nil) (.cons (.set 7 (.call 339 (.cons (.s 1) .nil))) (.cons (.set 4 (.bin .add (.c (.int 1)) (.call 17 (.cons (.s 1) (.cons (.c (.int 12)) .nil))))) (.cons (.set 8 (.call 20 (.cons (.call 17 (.cons (.s 1) (.cons (.bin .add (.s 4) (.c (.int 1))) .nil))) (.cons (.s 4) .nil)))) (.cons (.ite (.or (.not (.call 18 (.cons (.call 333 (.cons (.s 7) .nil)) (.cons (.c (.bl true)) .nil)))) (.cmp (.call 461 (.cons (.c (.int 3)) (.cons (.s 7) (.cons (.s 8) .nil)))) (.one .ne (.call 340 (.cons (.s 7) (.cons (.ix (.s 8) (.c (.int 0))) (.cons (.ix (.s 8) (.c (.int 1))) .nil))))))) (.cons (.ret (.c (.bl false))) .nil) .nil) (.cons (.ite (.cmp (.call 461 (.cons (.c (.int 2)) (.cons (.s 3) (.cons (.s 7) .nil)))) (.one .ne (.call 341 (.cons (.s 3) (.cons (.s 7) .nil))))) (.cons (.ret (.c (.bl false))) .nil) .nil) (.cons (.set 9 (.call 17 (.cons (.s 1) (.cons (.pr .len (.cons (.s 7) .nil)) .nil)))) (.cons (.set 10 (.bin .add (.bin .add (.sl (.s 7) .no (.of (.s 9))) (.tup (.cons (.tup (.cons (.ix (.ix (.s 7) (.s 9)) (.c (.int 0))) (.cons (.ix (.lst (.cons (.tup (.cons (.c (.int 1)) (.cons (.c (.int 2)) .nil))) (.cons (.tup (.cons (.c (.int 0)) (.cons (.c (.int 1)) .nil))) (.cons (.tup (.cons (.c (.int 3)) (.cons (.c (.int 2)) .nil))) (.cons (.tup (.cons (.c (.int 2)) (.cons (.c (.int 4)) .nil))) (.cons (.c .non) .nil)))))) (.call 17 (.cons (.s 1) (.cons (.c (.int 5)) .nil)))) .nil))) .nil))) (.sl (.s 7) (.of (.bin .add (.s 9) (.c (.int 1)))) .no))) (.cons (.set 11 (.lst (.cons (.s 10) (.cons (.sl (.s 7) .no (.of (.neg (.c (.int 1))))) (.cons (.sl (.s 7) (.of (.c (.int 1))) .no) (.cons (.bin .add (.s 7) (.sl (.s 7) (.of (.neg (.c (.int 1)))) .no)) (.cons (.pr .list (.cons (.s 7) .nil)) (.cons (.c .non) (.cons (.tup .nil) (.cons (.bin .add (.sl (.s 7) .no (.of (.c (.int 1)))) (.s 7)) (.cons (.pr .tuple (.cons c_law_26_2 .nil)) (.cons (.tup (.cons (.tup (.cons (.tup (.cons (.c (.int 0)) (.cons (.c (.int 1)) .nil))) (.cons (.tup (.cons (.c (.int 0)) (.cons (.c (.int 1)) .nil))) .nil))) .nil)) (.cons (.rev (.s 7)) (.cons (.s 10) (.cons (.s 10) .nil))))))))))))))) (.cons (.for (.n 12) (.e (.lst (.cons (.s 10) (.cons (.ix (.s 11) (.call 17 (.cons (.s 1) (.cons (.c (.int 13)) .nil)))) .nil)))) b_law_26_1) (.cons (.ite (.cmp (.call 461 (.cons (.call 17 (.cons (.s 1) (.cons (.c (.int 3)) .nil))) (.cons (.ix (.lst (.cons (.c .non) (.cons (.tup (.cons (.c (.int 0)) .nil)) (.cons (.pr .list (.cons (.s 3) .nil)) (.cons (.tup .nil) .nil))))) (.call 17 (.cons (.s 1) (.cons (.c (.int 4)) .nil)))) (.cons (.ix (.lst (.cons (.tup (.cons (.c (.int 1)) (.cons (.c (.int 2)) .nil))) (.cons (.tup (.cons (.c (.int 1)) (.cons (.c (.int 2)) .nil))) (.cons (.s 7) .nil)))) (.call 17 (.cons (.s 1) (.cons (.c (.int 3)) .nil)))) .nil)))) (.one .ne (.c (.str (PySem.Str.ofString "malformed"))))) (.cons (.ret (.c (.bl false))) .nil) .nil) (.cons (.set 13 (.ix (.lst (.cons (.c .non) (.cons (.tup (.cons (.c (.int 2)) (.cons (.c (.int 4)) .nil))) (.cons (.tup (.cons (.neg (.c (.int 1))) (.cons (.c (.int 2)) .nil))) (.cons (.tup (.cons (.c (.int 3)) (.cons (.c (.int 2)) .nil))) (.cons (.tup (.cons (.c (.bl true)) (.cons (.c (.int 1)) .nil))) (.cons (.c (.int 1)) .nil))))))) (.call 17 (.cons (.s 1) (.cons (.c (.int 6)) .nil))))) (.cons (.ite (.cmp (.lst (.cons (.call 461 (.cons (.c (.int 0)) (.cons (.s 3) (.cons (.s 13) .nil)))) (.cons (.call 461 (.cons (.c (.int 1)) (.cons (.s 3) (.cons (.s 13) .nil)))) (.cons (.call 461 (.cons (.c (.int 3)) (.cons (.s 7) (.cons (.s 13) .nil)))) (.cons (.call 461 (.cons (.c (.int 0)) (.cons (.s 3) (.cons (.tup (.cons (.c (.int 0)) (.cons (.c (.int 1)) .nil))) .nil)))) (.cons (.call 461 (.cons (.c (.int 1)) (.cons (.s 3) (.cons (.tup (.cons (.c (.int 1)) (.cons (.c (.int 1)) .nil))) .nil)))) .nil)))))) (.one .ne (.bin .mul (.lst (.cons (.c (.str (PySem.Str.ofString "malformed"))) .nil)) (.c (.int 5))))) (.cons (.ret (.c (.bl false))) .nil) .nil) .nil))))))))))))))))))
def d_law_26 : Def := ⟨1, 16, (.cons (.set 1 (.call 16 (.cons (.s 0) .nil))) (.cons (.for (.n 2) (.range1 (.c (.int 3))) b_law_26_2) (.cons (.ret (.c (.bl true))) .nil)))⟩
def Pp : Nat → Option Def
  | 0 => some d_is_whole
  | 1 => some d_common
  | 2 => some d_lowest
  | 3 => some d_is_draw
  | 4 => some d_check_draw
  | 16 => some d_law_draw
  | 17 => some d_law_take
  | 18 => some d_law_says
  | 19 => some d_law_some
  | 20 => some d_law_frac
  | 26 => some d_common_rows
  | 43 => some d_tails
  | 44 => some d_heads
  | 49 => some d_wins
  | 63 => some d_law_near
  | 64 => some d_law_pair
  | 65 => some d_law_both
  | 66 => some d_law_list
  | 68 => some d_law_fails
  | 74 => some d_law
  | 79 => some d_law_tail
  | 87 => some d_is_ratio
  | 88 => some d_plus
  | 89 => some d_minus
  | 90 => some d_times
  | 91 => some d_over
  | 92 => some d_below
  | 93 => some d_total
  | 94 => some d_lesser
  | 95 => some d_chances_of
  | 96 => some d_has_shape
  | 98 => some d_distance_of
  | 99 => some d_distance
  | 100 => some d_least_parts
  | 101 => some d_left_over
  | 102 => some d_meeting
  | 104 => some d_law_is_fraction
  | 105 => some d_law_sum
  | 142 => some d_are_players
  | 143 => some d_check_players
  | 144 => some d_padded
  | 145 => some d_ahead
  | 146 => some d_sign
  | 147 => some d_round_of
  | 191 => some d_law_less
  | 198 => some d_law_is_frac
  | 201 => some d_check_number
  | 202 => some d_excess
  | 217 => some d_lack
  | 218 => some d_service_gap
  | 219 => some d_gap_service
  | 220 => some d_law_wait
  | 221 => some d_law_point
  | 326 => some d_is_level
  | 327 => some d_is_part
  | 328 => some d_number_at
  | 329 => some d_value_at
  | 330 => some d_tail_sum
  | 331 => some d_tail_mean
  | 332 => some d_is_point
  | 333 => some d_is_bend
  | 334 => some d_check_bend
  | 335 => some d_height
  | 336 => some d_bend_at
  | 337 => some d_premium_of
  | 338 => some d_premium
  | 339 => some d_law_bend
  | 340 => some d_law_height
  | 341 => some d_law_premium
  | 342 => some d_law_is_frac_2
  | 343 => some d_law_is_bend
  | 346 => some d_law_tail_2
  | 461 => some d_law_told_13
  | 462 => some d_law_26
  | _ => none
end Py
end

section
set_option Elab.async false
set_option linter.all false
set_option maxRecDepth 100000
set_option maxHeartbeats 0
namespace Py
namespace L84
open PySem
def top (i : Nat) : Stmt := PySem.Challenge.pw_drawnfurther_k84_prices.main.body.getD i (.Pass ⟨0, 0, 0, 0⟩)
def dd (x : PySem.Str) (i : Nat) : He.DefD := ⟨(x, none), x, x, L2.defArgs (top i), L2.defBody (top i), L2.defScope (top i), [], []⟩
def p0 : PD := ⟨dd "is_whole" 6, 0, ["value"], ["value"], d_is_whole⟩
def p1 : PD := ⟨dd "common" 7, 1, ["a", "b"], ["a", "b"], d_common⟩
def p2 : PD := ⟨dd "lowest" 8, 2, ["n", "d", "g"], ["n", "d"], d_lowest⟩
def p3 : PD := ⟨dd "is_ratio" 9, 87, ["value"], ["value"], d_is_ratio⟩
def p4 : PD := ⟨dd "plus" 10, 88, ["a", "b"], ["a", "b"], d_plus⟩
def p5 : PD := ⟨dd "minus" 11, 89, ["a", "b"], ["a", "b"], d_minus⟩
def p6 : PD := ⟨dd "times" 12, 90, ["a", "b"], ["a", "b"], d_times⟩
def p7 : PD := ⟨dd "over" 13, 91, ["a", "b"], ["a", "b"], d_over⟩
def p8 : PD := ⟨dd "below" 14, 92, ["a", "b"], ["a", "b"], d_below⟩
def p9 : PD := ⟨dd "lesser" 15, 94, ["a", "b"], ["a", "b"], d_lesser⟩
def p10 : PD := ⟨dd "is_draw" 19, 3, ["value", "item"], ["value"], d_is_draw⟩
def p11 : PD := ⟨dd "check_draw" 20, 4, ["value"], ["value"], d_check_draw⟩
def p12 : PD := ⟨dd "tails" 22, 43, ["row", "found", "total", "item"], ["row"], d_tails⟩
def p13 : PD := ⟨dd "heads" 23, 44, ["row", "found", "total", "item"], ["row"], d_heads⟩
def p14 : PD := ⟨dd "is_level" 26, 326, ["value"], ["value"], d_is_level⟩
def p15 : PD := ⟨dd "is_part" 27, 327, ["value"], ["value"], d_is_part⟩
def p16 : PD := ⟨dd "number_at" 28, 328, ["draw", "level", "whole", "number", "item"], ["draw", "level"], d_number_at⟩
def p17 : PD := ⟨dd "value_at" 29, 329, ["draw", "level"], ["draw", "level"], d_value_at⟩
def p18 : PD := ⟨dd "tail_sum" 30, 330, ["draw", "part", "left", "found", "whole", "number", "taken"], ["draw", "part"], d_tail_sum⟩
def p19 : PD := ⟨dd "tail_mean" 31, 331, ["draw", "part"], ["draw", "part"], d_tail_mean⟩
def p20 : PD := ⟨dd "is_point" 32, 332, ["value", "item"], ["value"], d_is_point⟩
def p21 : PD := ⟨dd "is_bend" 33, 333, ["value", "a", "b", "c", "d", "item"], ["value"], d_is_bend⟩
def p22 : PD := ⟨dd "check_bend" 34, 334, ["value"], ["value"], d_check_bend⟩
def p23 : PD := ⟨dd "height" 35, 335, ["bend", "chance", "a", "b", "c", "d"], ["bend", "chance"], d_height⟩
def p24 : PD := ⟨dd "bend_at" 36, 336, ["bend", "chance"], ["bend", "chance"], d_bend_at⟩
def p25 : PD := ⟨dd "premium_of" 37, 337, ["draw", "bend", "found", "whole", "item"], ["draw", "bend"], d_premium_of⟩
def p26 : PD := ⟨dd "premium" 38, 338, ["draw", "bend"], ["draw", "bend"], d_premium⟩
def p27 : PD := ⟨dd "_law_draw" 40, 16, ["script", "seed", "cell"], ["script"], d_law_draw⟩
def p28 : PD := ⟨dd "_law_take" 41, 17, ["draw", "many", "found"], ["draw", "many"], d_law_take⟩
def p29 : PD := ⟨dd "_law_says" 42, 18, ["value", "due"], ["value", "due"], d_law_says⟩
def p30 : PD := ⟨dd "_law_some" 43, 19, ["draw", "numbers", "most", "top", "row", "k"], ["draw", "numbers", "most"], d_law_some⟩
def p31 : PD := ⟨dd "_law_frac" 44, 20, ["n", "d", "a", "b"], ["n", "d"], d_law_frac⟩
def p32 : PD := ⟨dd "_law_bend" 45, 339, ["draw", "many", "bottom", "places", "top", "found", "height_v", "place", "k"], ["draw"], d_law_bend⟩
def p33 : PD := ⟨dd "_law_height" 46, 340, ["bend", "n", "d", "k", "a", "b", "c", "e", "up", "down"], ["bend", "n", "d"], d_law_height⟩
def p34 : PD := ⟨dd "_law_sum" 47, 105, ["items", "n", "d", "item"], ["items"], d_law_sum⟩
def p35 : PD := ⟨dd "_law_premium" 48, 341, ["one", "bend", "k"], ["one", "bend"], d_law_premium⟩
def p36 : PD := ⟨dd "_law_less" 49, 191, ["a", "b"], ["a", "b"], d_law_less⟩
def p37 : PD := ⟨dd "_law_is_frac" 50, 342, ["value", "item"], ["value"], d_law_is_frac_2⟩
def p38 : PD := ⟨dd "_law_is_bend" 51, 343, ["value", "item", "part", "k"], ["value"], d_law_is_bend⟩
def p39 : PD := ⟨dd "_law_told" 54, 461, ["kind", "a", "b", "e"], ["kind", "a", "b"], d_law_told_13⟩
def p40 : PD := ⟨dd "_law_tail" 55, 346, ["one", "n", "d", "whole", "left", "found", "k", "taken"], ["one", "n", "d"], d_law_tail_2⟩
def p41 : PD := ⟨dd "law" 56, 462, ["script", "draw", "turn", "one", "bottom", "level", "part", "bend", "at", "i", "changed", "others", "value", "wrong", "k", "item"], ["script"], d_law_26⟩
def T : Tops := ⟨["abs", "all", "bool", "enumerate", "int", "isinstance", "len", "list", "min", "range", "sum", "tuple", "zip"], [("MOST_NUMBER", (.int 30)), ("MOST_POINTS", (.int 20)), ("MOST_WEIGHT", (.int 1000000)), ("ONE", (.tup [(.int 1), (.int 1)])), ("ZERO", (.tup [(.int 0), (.int 1)]))], [p0, p1, p2, p3, p4, p5, p6, p7, p8, p9, p10, p11, p12, p13, p14, p15, p16, p17, p18, p19, p20, p21, p22, p23, p24, p25, p26, p27, p28, p29, p30, p31, p32, p33, p34, p35, p36, p37, p38, p39, p40, p41], [0], ["Fault"]⟩
theorem ck : T.L.all (ckDef T.gt T.bi) = true := by decide +kernel
theorem hP : ∀ p ∈ T.L, Pp p.f = some p.d := by
  intro p hp
  simp only [T, List.mem_cons, List.not_mem_nil, or_false] at hp
  rcases hp with rfl | rfl | rfl | rfl | rfl | rfl | rfl | rfl | rfl | rfl | rfl | rfl | rfl | rfl | rfl | rfl | rfl | rfl | rfl | rfl | rfl | rfl | rfl | rfl | rfl | rfl | rfl | rfl | rfl | rfl | rfl | rfl | rfl | rfl | rfl | rfl | rfl | rfl | rfl | rfl | rfl | rfl <;> rfl
theorem hd : ∀ p ∈ T.L, p.dd.dfl = [] ∧ p.dd.kwd = [] ∧ p.dd.at_ = (p.dd.name, none) := by
  intro p hp
  simp only [T, List.mem_cons, List.not_mem_nil, or_false] at hp
  rcases hp with rfl | rfl | rfl | rfl | rfl | rfl | rfl | rfl | rfl | rfl | rfl | rfl | rfl | rfl | rfl | rfl | rfl | rfl | rfl | rfl | rfl | rfl | rfl | rfl | rfl | rfl | rfl | rfl | rfl | rfl | rfl | rfl | rfl | rfl | rfl | rfl | rfl | rfl | rfl | rfl | rfl | rfl <;> exact ⟨rfl, rfl, rfl⟩
theorem b0 : BindOk p0 := fun _ _ _ _ _ _ us hl => match us, hl with | [_], _ => rfl
theorem b1 : BindOk p1 := fun _ _ _ _ _ _ us hl => match us, hl with | [_, _], _ => rfl
theorem b2 : BindOk p2 := fun _ _ _ _ _ _ us hl => match us, hl with | [_, _], _ => rfl
theorem b3 : BindOk p3 := fun _ _ _ _ _ _ us hl => match us, hl with | [_], _ => rfl
theorem b4 : BindOk p4 := fun _ _ _ _ _ _ us hl => match us, hl with | [_, _], _ => rfl
theorem b5 : BindOk p5 := fun _ _ _ _ _ _ us hl => match us, hl with | [_, _], _ => rfl
theorem b6 : BindOk p6 := fun _ _ _ _ _ _ us hl => match us, hl with | [_, _], _ => rfl
theorem b7 : BindOk p7 := fun _ _ _ _ _ _ us hl => match us, hl with | [_, _], _ => rfl
theorem b8 : BindOk p8 := fun _ _ _ _ _ _ us hl => match us, hl with | [_, _], _ => rfl
theorem b9 : BindOk p9 := fun _ _ _ _ _ _ us hl => match us, hl with | [_, _], _ => rfl
theorem b10 : BindOk p10 := fun _ _ _ _ _ _ us hl => match us, hl with | [_], _ => rfl
theorem b11 : BindOk p11 := fun _ _ _ _ _ _ us hl => match us, hl with | [_], _ => rfl
theorem b12 : BindOk p12 := fun _ _ _ _ _ _ us hl => match us, hl with | [_], _ => rfl
theorem b13 : BindOk p13 := fun _ _ _ _ _ _ us hl => match us, hl with | [_], _ => rfl
theorem b14 : BindOk p14 := fun _ _ _ _ _ _ us hl => match us, hl with | [_], _ => rfl
theorem b15 : BindOk p15 := fun _ _ _ _ _ _ us hl => match us, hl with | [_], _ => rfl
theorem b16 : BindOk p16 := fun _ _ _ _ _ _ us hl => match us, hl with | [_, _], _ => rfl
theorem b17 : BindOk p17 := fun _ _ _ _ _ _ us hl => match us, hl with | [_, _], _ => rfl
theorem b18 : BindOk p18 := fun _ _ _ _ _ _ us hl => match us, hl with | [_, _], _ => rfl
theorem b19 : BindOk p19 := fun _ _ _ _ _ _ us hl => match us, hl with | [_, _], _ => rfl
theorem b20 : BindOk p20 := fun _ _ _ _ _ _ us hl => match us, hl with | [_], _ => rfl
theorem b21 : BindOk p21 := fun _ _ _ _ _ _ us hl => match us, hl with | [_], _ => rfl
theorem b22 : BindOk p22 := fun _ _ _ _ _ _ us hl => match us, hl with | [_], _ => rfl
theorem b23 : BindOk p23 := fun _ _ _ _ _ _ us hl => match us, hl with | [_, _], _ => rfl
theorem b24 : BindOk p24 := fun _ _ _ _ _ _ us hl => match us, hl with | [_, _], _ => rfl
theorem b25 : BindOk p25 := fun _ _ _ _ _ _ us hl => match us, hl with | [_, _], _ => rfl
theorem b26 : BindOk p26 := fun _ _ _ _ _ _ us hl => match us, hl with | [_, _], _ => rfl
theorem b27 : BindOk p27 := fun _ _ _ _ _ _ us hl => match us, hl with | [_], _ => rfl
theorem b28 : BindOk p28 := fun _ _ _ _ _ _ us hl => match us, hl with | [_, _], _ => rfl
theorem b29 : BindOk p29 := fun _ _ _ _ _ _ us hl => match us, hl with | [_, _], _ => rfl
theorem b30 : BindOk p30 := fun _ _ _ _ _ _ us hl => match us, hl with | [_, _, _], _ => rfl
theorem b31 : BindOk p31 := fun _ _ _ _ _ _ us hl => match us, hl with | [_, _], _ => rfl
theorem b32 : BindOk p32 := fun _ _ _ _ _ _ us hl => match us, hl with | [_], _ => rfl
theorem b33 : BindOk p33 := fun _ _ _ _ _ _ us hl => match us, hl with | [_, _, _], _ => rfl
theorem b34 : BindOk p34 := fun _ _ _ _ _ _ us hl => match us, hl with | [_], _ => rfl
theorem b35 : BindOk p35 := fun _ _ _ _ _ _ us hl => match us, hl with | [_, _], _ => rfl
theorem b36 : BindOk p36 := fun _ _ _ _ _ _ us hl => match us, hl with | [_, _], _ => rfl
theorem b37 : BindOk p37 := fun _ _ _ _ _ _ us hl => match us, hl with | [_], _ => rfl
theorem b38 : BindOk p38 := fun _ _ _ _ _ _ us hl => match us, hl with | [_], _ => rfl
theorem b39 : BindOk p39 := fun _ _ _ _ _ _ us hl => match us, hl with | [_, _, _], _ => rfl
theorem b40 : BindOk p40 := fun _ _ _ _ _ _ us hl => match us, hl with | [_, _, _], _ => rfl
theorem b41 : BindOk p41 := fun _ _ _ _ _ _ us hl => match us, hl with | [_], _ => rfl
theorem hB : AllB T.L := ⟨b0, b1, b2, b3, b4, b5, b6, b7, b8, b9, b10, b11, b12, b13, b14, b15, b16, b17, b18, b19, b20, b21, b22, b23, b24, b25, b26, b27, b28, b29, b30, b31, b32, b33, b34, b35, b36, b37, b38, b39, b40, b41, trivial⟩
abbrev R : PySem.W.OpenRow := PySem.W.OpenLaw.row PySem.Challenge.rw_drawnfurther_k84_prices
def ob (s : PySem.W.SharedT) : He.AlD := obsKG 4 T (HandSHeadRun.getT s)
theorem ob_eq (s : PySem.W.SharedT) : ob s = (hookK 4 T).obs s.abs := obsKG_eq (HandSHeadRun.getT_eq s)
theorem run (w : World) : HandSHeadRun.RunEq R (PySem.W.view R.prog [56]) (hookK 4 T) ob 4000 ((["Fault", "Malformed", "ZERO", "ONE", "is_whole", "common", "lowest", "is_ratio", "plus", "minus", "times", "over", "below", "lesser", "MOST_NUMBER", "MOST_WEIGHT", "is_draw", "check_draw", "tails", "heads", "MOST_POINTS", "is_level", "is_part", "number_at", "value_at", "tail_sum", "tail_mean", "is_point", "is_bend", "check_bend"] : List PySem.Str) ++ (["height", "bend_at", "premium_of", "premium", "_law_draw", "_law_take", "_law_says", "_law_some", "_law_frac", "_law_bend", "_law_height", "_law_sum", "_law_premium", "_law_less", "_law_is_frac", "_law_is_bend", "_law_slopes", "_law_opens", "_law_told", "_law_tail"] : List PySem.Str)) w := by
  intro os
  kernel_rfl
end L84
end Py
open PySem PySem.W PySem.Calls PyProof.Rows in
theorem k84_of (hlaw : ∀ ns : List Int, ns.length ≤ 63 → ∃ m', Py.callK Py.Pp 40 462 [.scr (ns.map .int)] [] = some (.ok (.val (.bl true)) m')) : PySem.Challenge.rw_drawnfurther_k84_prices.Holds := by
  w_on; o_law
  refine HandSHeadRun.head_any (r := OpenLaw.row PySem.Challenge.rw_drawnfurther_k84_prices) (q := view (OpenLaw.row PySem.Challenge.rw_drawnfurther_k84_prices).prog [56]) (H := Py.hookK 4 Py.L84.T) (ob := Py.L84.ob) (M := 4000) (loose := (["Fault", "Malformed", "ZERO", "ONE", "is_whole", "common", "lowest", "is_ratio", "plus", "minus", "times", "over", "below", "lesser", "MOST_NUMBER", "MOST_WEIGHT", "is_draw", "check_draw", "tails", "heads", "MOST_POINTS", "is_level", "is_part", "number_at", "value_at", "tail_sum", "tail_mean", "is_point", "is_bend", "check_bend"] : List PySem.Str) ++ (["height", "bend_at", "premium_of", "premium", "_law_draw", "_law_take", "_law_says", "_law_some", "_law_frac", "_law_bend", "_law_height", "_law_sum", "_law_premium", "_law_less", "_law_is_frac", "_law_is_bend", "_law_slopes", "_law_opens", "_law_told", "_law_tail"] : List PySem.Str)) (d := HandSHeadRun.topDef (OpenLaw.row PySem.Challenge.rw_drawnfurther_k84_prices).prog 56) (kwd := []) Py.L84.ob_eq
    (by kernel_rfl) (fun s => by kernel_rfl) Py.L84.run (by kernel_rfl) (by kernel_rfl) (by kernel_rfl) (by rfl) (by first | assumption | decide +kernel) (by decide +kernel) ⟨rfl, rfl, rfl, rfl, rfl, by decide +kernel⟩ ?hw ?hc
  case hw => w_witness2
  case hc =>
    refine L2.walk_ofE (l := PySem.Challenge.rw_drawnfurther_k84_prices) (n := 63) (k := 40) (x := "script") (CX := L2.CX0) rfl (by decide) (by kernel_rfl) ⟨rfl, by decide, by decide⟩ ?F (fun _ _ _ _ z => z)
    intro w mg fa h Y G hmg0
    have hmg : mg ("law" : PySem.Str) = some (.ref fa) := by
      have e : (HandSHeadRun.topDef (OpenLaw.row PySem.Challenge.rw_drawnfurther_k84_prices).prog 56).name = ("law" : PySem.Str) := by kernel_rfl
      rw [← e]
      exact hmg0
    exact Py.law_F (T := Py.L84.T) (P := Py.Pp) (k := 40) Py.L84.p41 (x := "script") (by simp [Py.L84.T]) rfl Py.L84.ck Py.L84.hP Py.L84.hB Py.L84.hd hlaw mg fa h Y G hmg
end

section
set_option autoImplicit false
set_option linter.all false
set_option Elab.async false
set_option maxRecDepth 100000
set_option maxHeartbeats 4000000
/-! Running the evaluator by rewriting: no model in sight. -/
namespace Py
/-- a def's call: its body run in its frame -/
theorem call_eq {P : Nat → Option Def} {k f : Nat} {d : Def} {vs : List Val} {m : Mem} (h : P f = some d) (hl : vs.length = d.np) : callK P (k + 1) f vs m = leave m (exs (callK P k) d.body ⟨frame d vs, m⟩) := by
  show (match P f with
    | none => none
    | some d => if vs.length = d.np then leave m (exs (callK P k) d.body ⟨frame d vs, m⟩) else none) = _
  rw [h]
  exact if_pos hl
/-- a loop as a fold: st the state by the fold's value, one turn by hs -/
theorem forM_fold {α β : Type} {tg : Tg} {body : M Fl} {v : α → Val} {st : β → S} {f : β → α → β} (Pv : List α → β → Prop)
    (hs : ∀ x r b, Pv (x :: r) b → M.bind (asg tg (v x)) (fun _ => body) (st b) = some (.ok .nx (st (f b x))) ∧ Pv r (f b x)) :
    ∀ (xs : List α) (b : β), Pv xs b → forM tg body (xs.map v) (st b) = some (.ok .nx (st (xs.foldl f b)))
  | [], b, _ => rfl
  | x :: xs, b, h => by
    obtain ⟨h1, h2⟩ := hs x xs b h
    have ih := forM_fold Pv hs xs (f b x) h2
    show M.bind (asg tg (v x)) (fun _ => M.bind body fun fl => match fl with
      | .nx => forM tg body (xs.map v)
      | .rt w => M.pure (.rt w)) (st b) = _
    unfold M.bind at h1 ⊢
    cases e1 : asg tg (v x) (st b) with
    | none => rw [e1] at h1; cases h1
    | some r =>
      rw [e1] at h1
      cases r with
      | ex x s => cases h1
      | ok a s =>
        dsimp only at h1 ⊢
        rw [h1]
        exact ih
/-- a loop that may end by a return -/
theorem forM_cons {tg : Tg} {body : M Fl} {x : Val} {xs : List Val} {s : S} : forM tg body (x :: xs) s = M.bind (asg tg x) (fun _ => M.bind body fun fl => match fl with
      | .nx => forM tg body xs
      | .rt w => M.pure (.rt w)) s := rfl
theorem forM_nil {tg : Tg} {body : M Fl} {s : S} : forM tg body [] s = some (.ok .nx s) := rfl
theorem bind_ok {α β : Type} {x : M α} {f : α → M β} {s s' : S} {a : α} (h : x s = some (.ok a s')) : M.bind x f s = f a s' := by
  unfold M.bind
  rw [h]
/-! ### comprehensions -/
theorem set_self_none {α : Type} : ∀ (e : List α) (i : Nat) (x : α), e[i]? = some x → e.set i x = e
  | [], i, x, h => rfl
  | y :: e, 0, x, h => by simp at h; rw [h]; rfl
  | y :: e, i + 1, x, h => by simp at h; rw [List.set_cons_succ, set_self_none e i x h]
theorem wipe_length {α : Type} : ∀ (own : List Nat) (e : List (Option α)), (wipe own e).length = e.length
  | [], e => rfl
  | v :: vs, e => by unfold wipe; rw [List.length_set, wipe_length vs e]
theorem back_length (e0 : List (Option SV)) : ∀ (own : List Nat) (e : List (Option SV)), (back own e0 e).length = e.length
  | [], e => rfl
  | v :: vs, e => by unfold back; rw [List.length_set, back_length e0 vs e]
theorem wipe_get {α : Type} (j : Nat) : ∀ (own : List Nat) (e : List (Option α)), (wipe own e)[j]? = if j ∈ own then (e[j]?).map fun _ => none else e[j]?
  | [], e => by simp [wipe]
  | v :: vs, e => by
    unfold wipe
    by_cases hv : v = j
    · subst hv
      rw [List.getElem?_set]
      simp only [if_true, List.mem_cons, true_or]
      rw [wipe_length]
      by_cases h : v < e.length
      · simp [h]
      · simp [h]
    · rw [List.getElem?_set_ne hv, wipe_get j vs e]
      simp [List.mem_cons, Ne.symm hv]
theorem back_get (j : Nat) (e0 : List (Option SV)) : ∀ (own : List Nat) (e : List (Option SV)), e.length = e0.length → (back own e0 e)[j]? = if j ∈ own then e0[j]? else e[j]?
  | [], e, _ => by simp [back]
  | v :: vs, e, h => by
    unfold back
    by_cases hv : v = j
    · subst hv
      rw [List.getElem?_set]
      simp only [if_true, List.mem_cons, true_or]
      rw [back_length, h]
      by_cases hj : v < e0.length
      · simp [hj]
      · simp [hj]
    · rw [List.getElem?_set_ne hv, back_get j e0 vs e h]
      simp [List.mem_cons, Ne.symm hv]
/-- behind a comprehension the slots are as they were -/
theorem back_wiped {own : List Nat} {e e' : List (Option SV)} (h : wipe own e' = wipe own e) : back own e e' = e := by
  have hl : e'.length = e.length := by rw [← wipe_length own e', h, wipe_length]
  refine List.ext_getElem? fun j => ?_
  rw [back_get j e own e' hl]
  split
  · rfl
  · rename_i hj
    have : (wipe own e')[j]? = (wipe own e)[j]? := by rw [h]
    rw [wipe_get, wipe_get, if_neg hj, if_neg hj] at this
    exact this
/-- one turn of a comprehension: the item, if the test lets it by -/
def turnM (tg : Tg) (test : M Bool) (elt : M Val) (x : Val) : M (Option Val) := M.bind (asg tg x) fun _ => M.bind test fun b => if b then M.bind elt fun v => M.pure (some v) else M.pure none
theorem compL_eq {α : Type} {own : List Nat} {tg : Tg} {test : M Bool} {elt : M Val} {s0 : S} {v : α → Val} (f : α → Option Val) : ∀ (xs : List α) (s : S), wiped own s = s0 →
    (∀ x ∈ xs, ∃ s', turnM tg test elt (v x) s0 = some (.ok (f x) s') ∧ wiped own s' = s0) → ∃ s', compL own tg test elt (xs.map v) s = some (.ok (xs.filterMap f) s') ∧ wiped own s' = s0
  | [], s, hs, _ => ⟨s, rfl, hs⟩
  | x :: xs, s, hs, h => by
    obtain ⟨s1, h1, h2⟩ := h x List.mem_cons_self
    obtain ⟨s2, h3, h4⟩ := compL_eq f xs s1 h2 fun y hy => h y (List.mem_cons_of_mem _ hy)
    refine ⟨s2, ?_, h4⟩
    rw [List.map_cons]
    unfold compL
    rw [hs]
    unfold turnM at h1
    unfold M.bind at h1 ⊢
    cases e1 : asg tg (v x) s0 with
    | none => rw [e1] at h1; cases h1
    | some r1 =>
      rw [e1] at h1
      cases r1 with
      | ex _ _ => cases h1
      | ok a1 t1 =>
        dsimp only at h1 ⊢
        cases e2 : test t1 with
        | none => rw [e2] at h1; cases h1
        | some r2 =>
          rw [e2] at h1
          cases r2 with
          | ex _ _ => cases h1
          | ok b t2 =>
            dsimp only at h1 ⊢
            cases b with
            | false =>
              have h1 : some (Res.ok none t2) = some (.ok (f x) s1) := h1
              have e5 : f x = none ∧ s1 = t2 := by
                injection h1 with h
                injection h with h h'
                exact ⟨h.symm, h'.symm⟩
              obtain ⟨e5, rfl⟩ := e5
              rw [List.filterMap_cons, e5]
              exact h3
            | true =>
              rw [if_pos rfl] at h1 ⊢
              cases e3 : elt t2 with
              | none => rw [e3] at h1; cases h1
              | some r3 =>
                rw [e3] at h1
                cases r3 with
                | ex _ _ => cases h1
                | ok w t3 =>
                  have h1 : some (Res.ok (some w) t3) = some (.ok (f x) s1) := h1
                  have e5 : f x = some w ∧ s1 = t3 := by
                    injection h1 with h
                    injection h with h h'
                    exact ⟨h.symm, h'.symm⟩
                  obtain ⟨e5, rfl⟩ := e5
                  rw [List.filterMap_cons, e5]
                  dsimp only
                  rw [h3]
                  rfl
/-- a comprehension that leaves the cells -/
theorem ev_lc {α : Type} {K : Kn} {own : List Nat} {tg : Tg} {it : It} {ifs : Es} {e : E} {t : Bool} {s : S} {v : α → Val} {xs : List α} (f : α → Option Val) (hi : evi K it false s = some (.ok (xs.map v) s))
    (h : ∀ x ∈ xs, ∃ s', turnM tg (evt K ifs) (M.bind (ev K e true) asV) (v x) (wiped own s) = some (.ok (f x) s') ∧ wiped own s' = wiped own s) (hz : fits (xs.filterMap f) = true) :
    ev K (.lc own tg it ifs e) t s = some (.ok (.own (xs.filterMap f)) s) := by
  show noX (M.bind (evi K it false) (fun xs => M.bind (within own (compL own tg (evt K ifs) (M.bind (ev K e true) asV) xs)) fun ys => M.of (ownl ys))) s = _
  refine noX_ok ?_ (fun e s' z => nomatch z)
  rw [bind_ok hi]
  obtain ⟨s', h1, h2⟩ := compL_eq f xs s rfl h
  have hw : within own (compL own tg (evt K ifs) (M.bind (ev K e true) asV) (xs.map v)) s = some (.ok (xs.filterMap f) s) := by
    unfold within
    rw [h1]
    dsimp only
    have e1 : wipe own s'.e = wipe own s.e := congrArg S.e h2
    have e2 : s'.m = s.m := show (wiped own s').m = (wiped own s).m by rw [h2]
    rw [back_wiped e1, e2]
  rw [bind_ok hw]
  unfold ownl
  rw [if_pos hz]
  rfl
theorem filterMap_some {α β : Type} (g : α → β) (xs : List α) : xs.filterMap (fun x => some (g x)) = xs.map g := by
  induction xs with
  | nil => rfl
  | cons x xs ih => simp [ih]
/-! ### while -/
theorem whileM_eq (c : M Bool) (b : M Fl) (s : S) : whileM c b s = match c s with
  | none => none
  | some (.ex x s') => some (.ex x s')
  | some (.ok false s') => some (.ok .nx s')
  | some (.ok true s') => match b s' with
    | none => none
    | some (.ex x s'') => some (.ex x s'')
    | some (.ok (.rt v) s'') => some (.ok (.rt v) s'')
    | some (.ok .nx s'') => whileM c b s'' := by
  rw [whileM]
  all_goals rfl
/-- a while that goes down: st the state by a value, c the test, f the next value -/
theorem whileM_run {β : Type} {c : M Bool} {b : M Fl} {st : β → S} {test : β → Bool} {f : β → β} (Pv : β → Prop) (μ : β → Nat) (hc : ∀ x, Pv x → c (st x) = some (.ok (test x) (st x)))
    (hb : ∀ x, Pv x → test x = true → b (st x) = some (.ok .nx (st (f x))) ∧ Pv (f x) ∧ μ (f x) < μ x) (R : β → β → Prop) (hr0 : ∀ x, Pv x → test x = false → R x x) (hr : ∀ x y, Pv x → test x = true → R (f x) y → R x y) :
    ∀ (n : Nat) (x : β), Pv x → μ x ≤ n → ∃ y, whileM c b (st x) = some (.ok .nx (st y)) ∧ R x y
  | n, x, hp, hn => by
    rw [whileM_eq, hc x hp]
    cases ht : test x with
    | false => exact ⟨x, rfl, hr0 x hp ht⟩
    | true =>
      obtain ⟨h1, h2, h3⟩ := hb x hp ht
      dsimp only
      rw [h1]
      cases n with
      | zero => omega
      | succ n =>
        obtain ⟨y, h4, h5⟩ := whileM_run Pv μ hc hb R hr0 hr n (f x) h2 (by omega)
        exact ⟨y, h4, hr x y hp ht h5⟩
end Py
namespace Py
/-- the value of a turn, and the rest -/
theorem compL_turn {own : List Nat} {tg : Tg} {test : M Bool} {elt : M Val} {x : Val} {xs : List Val} {s s1 s2 : S} {o : Option Val} {ys : List Val} (h1 : turnM tg test elt x (wiped own s) = some (.ok o s1)) (h2 : compL own tg test elt xs s1 = some (.ok ys s2)) :
    compL own tg test elt (x :: xs) s = some (.ok (match o with | some y => y :: ys | none => ys) s2) := by
  unfold compL
  unfold turnM at h1
  unfold M.bind at h1 ⊢
  cases e1 : asg tg x (wiped own s) with
  | none => rw [e1] at h1; cases h1
  | some r1 =>
    rw [e1] at h1
    cases r1 with
    | ex _ _ => cases h1
    | ok a1 t1 =>
      dsimp only at h1 ⊢
      cases e2 : test t1 with
      | none => rw [e2] at h1; cases h1
      | some r2 =>
        rw [e2] at h1
        cases r2 with
        | ex _ _ => cases h1
        | ok b t2 =>
          dsimp only at h1 ⊢
          cases b with
          | false =>
            have h1 : some (Res.ok none t2) = some (.ok o s1) := h1
            cases h1
            exact h2
          | true =>
            rw [if_pos rfl] at h1 ⊢
            cases e3 : elt t2 with
            | none => rw [e3] at h1; cases h1
            | some r3 =>
              rw [e3] at h1
              cases r3 with
              | ex _ _ => cases h1
              | ok w t3 =>
                have h1 : some (Res.ok (some w) t3) = some (.ok o s1) := h1
                cases h1
                dsimp only
                rw [h2]
                rfl
/-- a comprehension whose turns may change the cells: J of the state ahead of each turn, R of each item -/
theorem compL_ex {α : Type} {own : List Nat} {tg : Tg} {test : M Bool} {elt : M Val} {v : α → Val} (J : S → Prop) (R : Val → Prop) : ∀ (xs : List α), (∀ x ∈ xs, ∀ s, J s → ∃ y s', turnM tg test elt (v x) (wiped own s) = some (.ok (some y) s') ∧ J s' ∧ R y) →
    ∀ s, J s → ∃ ys s', compL own tg test elt (xs.map v) s = some (.ok ys s') ∧ J s' ∧ (∀ y ∈ ys, R y) ∧ ys.length = xs.length
  | [], _, s, hs => ⟨[], s, rfl, hs, fun _ h => absurd h (by simp), rfl⟩
  | x :: xs, h, s, hs => by
    obtain ⟨y, s1, h1, h2, h3⟩ := h x List.mem_cons_self s hs
    obtain ⟨ys, s2, h4, h5, h6, h7⟩ := compL_ex J R xs (fun z hz => h z (List.mem_cons_of_mem _ hz)) s1 h2
    exact ⟨y :: ys, s2, compL_turn h1 h4, h5, fun z hz => (List.mem_cons.mp hz).elim (fun e => e ▸ h3) (h6 z), by simp [h7]⟩
/-- the whole of it: J must tell the slots off own -/
theorem ev_lc_ex {α : Type} {K : Kn} {own : List Nat} {tg : Tg} {it : It} {ifs : Es} {e : E} {t : Bool} {s s1 : S} {v : α → Val} {xs : List α} (J : S → Prop) (R : Val → Prop) (hi : evi K it false s = some (.ok (xs.map v) s1)) (h0 : J s1)
    (hJ : ∀ s', J s' → wipe own s'.e = wipe own s1.e)
    (h : ∀ x ∈ xs, ∀ s, J s → ∃ y s', turnM tg (evt K ifs) (M.bind (ev K e true) asV) (v x) (wiped own s) = some (.ok (some y) s') ∧ J s' ∧ R y) (hz : xs.length ≤ 16777216) :
    ∃ ys m, ev K (.lc own tg it ifs e) t s = some (.ok (.own ys) { s1 with m := m }) ∧ (∃ e', J ⟨e', m⟩) ∧ (∀ y ∈ ys, R y) ∧ ys.length = xs.length := by
  obtain ⟨ys, s2, h1, h2, h3, h4⟩ := compL_ex (own := own) J R xs h s1 h0
  refine ⟨ys, s2.m, ?_, ⟨s2.e, h2⟩, h3, h4⟩
  show noX (M.bind (evi K it false) (fun xs => M.bind (within own (compL own tg (evt K ifs) (M.bind (ev K e true) asV) xs)) fun ys => M.of (ownl ys))) s = _
  refine noX_ok ?_ (fun e s' z => nomatch z)
  rw [bind_ok hi]
  have hw : within own (compL own tg (evt K ifs) (M.bind (ev K e true) asV) (xs.map v)) s1 = some (.ok ys { s1 with m := s2.m }) := by
    unfold within
    rw [h1]
    dsimp only
    rw [back_wiped (hJ s2 h2)]
  rw [bind_ok hw]
  unfold ownl
  rw [if_pos (by unfold fits szl; exact decide_eq_true (by rw [h4]; exact hz))]
  rfl
end Py
end

section
set_option autoImplicit false
set_option linter.all false
set_option Elab.async false
set_option maxRecDepth 100000
set_option maxHeartbeats 4000000
/-! Running the evaluator by simp: every rule's left side is applied to a state, so that nothing is opened ahead of its turn. -/
namespace Py.Q
/-- what stands behind a result -/
def rb {α β : Type} (r : Option (Res α)) (f : α → M β) : Option (Res β) :=
  match r with
  | none => none
  | some (.ok a s) => f a s
  | some (.ex x s) => some (.ex x s)
theorem rb_congr {α β : Type} {r r' : Option (Res α)} {f : α → M β} (h : r = r') : rb r f = rb r' f := by rw [h]
@[simp] theorem rb_ok {α β : Type} {a : α} {s : S} {f : α → M β} : rb (some (.ok a s)) f = f a s := by rfl
@[simp] theorem rb_ex {α β : Type} {x : Ex} {s : S} {f : α → M β} : rb (some (.ex x s)) f = some (.ex x s) := by rfl
@[simp] theorem rb_none {α β : Type} {f : α → M β} : rb none f = none := by rfl
@[simp] theorem r_bind {α β : Type} {x : M α} {f : α → M β} {s : S} : M.bind x f s = rb (x s) f := by rfl
@[simp] theorem r_pure {α : Type} {a : α} {s : S} : M.pure a s = some (.ok a s) := by rfl
@[simp] theorem r_of {α : Type} {a : α} {s : S} : M.of (some a) s = some (.ok a s) := by rfl
@[simp] theorem r_ofn {α : Type} {s : S} : M.of (none : Option α) s = none := by rfl
@[simp] theorem exh_nil {x : Ex} {s : S} : exh .nil x s = some (.ex x s) := by rfl
theorem exh_cons {c : Nat} {i : Option Nat} {r : HR} {hs : Hs} {x : Ex} {s : S} : exh (.cons c i r hs) x s = if x.cls = c then (hrV x r).map fun v => .ok (.rt v) (gone i s) else exh hs x s := by rfl
@[simp] theorem exh_yes {c : Nat} {a : Option Str} {i : Option Nat} {r : HR} {hs : Hs} {s : S} : exh (.cons c i r hs) ⟨c, a⟩ s = (hrV ⟨c, a⟩ r).map fun v => .ok (.rt v) (gone i s) := by rw [exh_cons, if_pos rfl]
@[simp] theorem exh_01 {a : Option Str} {i : Option Nat} {r : HR} {hs : Hs} {s : S} : exh (.cons 1 i r hs) ⟨0, a⟩ s = exh hs ⟨0, a⟩ s := by rw [exh_cons]; exact if_neg (fun h => nomatch h)
@[simp] theorem exh_10 {a : Option Str} {i : Option Nat} {r : HR} {hs : Hs} {s : S} : exh (.cons 0 i r hs) ⟨1, a⟩ s = exh hs ⟨1, a⟩ s := by rw [exh_cons]; exact if_neg (fun h => nomatch h)
@[simp] theorem hrV_c {x : Ex} {v : Val} : hrV x (.one (.c v)) = some (.val v) := by rfl
@[simp] theorem hrV_r {c : Nat} {a : Str} : hrV ⟨c, some a⟩ (.one .reason) = some (.val (.str a)) := by rfl
@[simp] theorem hrV_cc {x : Ex} {u v : Val} : hrV x (.two (.c u) (.c v)) = some (.own [u, v]) := by rfl
@[simp] theorem hrV_cr {c : Nat} {a : Str} {u : Val} : hrV ⟨c, some a⟩ (.two (.c u) .reason) = some (.own [u, .str a]) := by rfl
@[simp] theorem gone_none {s : S} : gone none s = s := by rfl
@[simp] theorem gone_some {i : Nat} {s : S} : gone (some i) s = { s with e := s.e.set i none } := by rfl
section
variable (K : Kn) (t : Bool) (s : S)
@[simp] theorem r_s {i : Nat} : ev K (.s i) t s = slot i t s := by rfl
@[simp] theorem r_c {v : Val} : ev K (.c v) t s = some (.ok (.val v) s) := by rfl
@[simp] theorem r_tup {es : Es} : ev K (.tup es) t s = rb (evs K es s) fun vs => M.of (tupl vs) := by rfl
@[simp] theorem r_lst {es : Es} : ev K (.lst es) t s = rb (evs K es s) fun vs => M.of (ownl vs) := by rfl
@[simp] theorem r_mk {e : E} : ev K (.mk e) t s = rb (ev K e true s) newLoc := by rfl
@[simp] theorem r_bin {o : BO} {a b : E} : ev K (.bin o a b) t s = rb (ev K a false s) fun x => M.bind (ev K b false) fun y => fun s => M.of (binop s.m o x y) s := by rfl
def negR : SV → M SV
  | .val (.int i) => M.pure (.val (.int (-i)))
  | _ => M.fail
@[simp] theorem negR_i {i : Int} : negR (.val (.int i)) s = some (.ok (.val (.int (-i))) s) := by rfl
@[simp] theorem r_neg {a : E} : ev K (.neg a) t s = rb (ev K a false s) negR := by
  show M.bind _ _ s = rb _ _
  rw [r_bind]
  congr 1
@[simp] theorem r_not {a : E} : ev K (.not a) t s = rb (ev K a false s) fun x => fun s => M.of ((truth s.m x).map fun b => .val (.bl (!b))) s := by rfl
def andR (K : Kn) (b : E) (t : Bool) : SV → M SV
  | .val (.bl true) => ev K b t
  | .val (.bl false) => M.pure (.val (.bl false))
  | _ => M.fail
def orR (K : Kn) (b : E) (t : Bool) : SV → M SV
  | .val (.bl true) => M.pure (.val (.bl true))
  | .val (.bl false) => ev K b t
  | _ => M.fail
@[simp] theorem r_and {a b : E} : ev K (.and a b) t s = rb (ev K a false s) (andR K b t) := by
  show M.bind _ _ s = rb _ _
  rw [r_bind]
  congr 1
@[simp] theorem r_or {a b : E} : ev K (.or a b) t s = rb (ev K a false s) (orR K b t) := by
  show M.bind _ _ s = rb _ _
  rw [r_bind]
  congr 1
@[simp] theorem andR_t {b : E} : andR K b t (.val (.bl true)) s = ev K b t s := by rfl
@[simp] theorem andR_f {b : E} : andR K b t (.val (.bl false)) s = some (.ok (.val (.bl false)) s) := by rfl
@[simp] theorem orR_t {b : E} : orR K b t (.val (.bl true)) s = some (.ok (.val (.bl true)) s) := by rfl
@[simp] theorem orR_f {b : E} : orR K b t (.val (.bl false)) s = ev K b t s := by rfl
def iteR (o : Option Bool) (a b : M SV) : M SV := fun s =>
  match o with
  | some true => a s
  | some false => b s
  | none => none
@[simp] theorem iteR_t {a b : M SV} : iteR (some true) a b s = a s := by rfl
@[simp] theorem iteR_f {a b : M SV} : iteR (some false) a b s = b s := by rfl
@[simp] theorem r_ite {c a b : E} : ev K (.ite c a b) t s = rb (ev K c false s) fun x => fun s => iteR (truth s.m x) (ev K a t) (ev K b t) s := by rfl
@[simp] theorem r_cmp {a : E} {cs : Cs} : ev K (.cmp a cs) t s = rb (ev K a false s) fun x => M.bind (evc K cs x) fun b => M.pure (.val (.bl b)) := by rfl
@[simp] theorem r_call {f : Nat} {es : Es} : ev K (.call f es) t s = rb (evs K es s) fun vs => callM K f vs := by rfl
@[simp] theorem r_pr {p : Pr} {es : Es} : ev K (.pr p es) t s = rb (evp K es s) fun vs => fun s => M.of (prim s.m p vs) s := by rfl
def ixR (o : Option (List Val)) (j : Int) : M SV := fun s =>
  match o with
  | some xs => M.of ((getI xs j).map .val) s
  | none => none
@[simp] theorem ixR_some {xs : List Val} {j : Int} : ixR (some xs) j s = M.of ((getI xs j).map .val) s := by rfl
@[simp] theorem r_ix {a i : E} : ev K (.ix a i) t s = rb (ev K a false s) fun x => M.bind (ev K i false) fun y => M.bind (asInt y) fun j => fun s => ixR (items s.m x) j s := by rfl
def slR (o : Option (List Val)) (b : Bool) (l h : Option Int) : M SV := fun s =>
  match o with
  | some xs => M.pure (if b then .val (.tup (cut xs l h)) else .own (cut xs l h)) s
  | none => none
@[simp] theorem slR_some {xs : List Val} {b : Bool} {l h : Option Int} : slR (some xs) b l h s = some (.ok (if b then .val (.tup (cut xs l h)) else .own (cut xs l h)) s) := by rfl
@[simp] theorem r_sl {a : E} {lo hi : Oe} : ev K (.sl a lo hi) t s = rb (ev K a false s) fun x => M.bind (evo K lo) fun l => M.bind (evo K hi) fun h => fun s => slR (items s.m x) (isTup x) l h s := by rfl
def revR (o : Option (List Val)) (b : Bool) : M SV := fun s =>
  match o with
  | some xs => M.pure (if b then .val (.tup xs.reverse) else .own xs.reverse) s
  | none => none
@[simp] theorem revR_some {xs : List Val} {b : Bool} : revR (some xs) b s = some (.ok (if b then .val (.tup xs.reverse) else .own xs.reverse) s) := by rfl
@[simp] theorem r_rev {a : E} : ev K (.rev a) t s = rb (ev K a false s) fun x => fun s => revR (items s.m x) (isTup x) s := by rfl
@[simp] theorem r_isi {a : E} {ts : List Ty} : ev K (.isi a ts) t s = rb (ev K a false s) fun x => M.pure (.val (.bl (ts.any (isTy x)))) := by rfl
@[simp] theorem r_lit {it : It} : ev K (.lit it) t s = rb (evi K it false s) fun xs => M.of (ownl xs) := by rfl
@[simp] theorem r_tit {it : It} : ev K (.tit it) t s = rb (evi K it false s) fun xs => M.of (tupl xs) := by rfl
@[simp] theorem r_evs0 : evs K .nil s = some (.ok [] s) := by rfl
@[simp] theorem r_evs1 {e : E} {es : Es} : evs K (.cons e es) s = rb (rb (ev K e true s) asV) fun v => M.bind (evs K es) fun vs => M.pure (v :: vs) := by rfl
@[simp] theorem r_evw0 : evw K .nil s = some (.ok [] s) := by rfl
@[simp] theorem r_evw1 {e : E} {es : Es} : evw K (.cons e es) s = rb (ev K e true s) fun v => M.bind (evw K es) fun vs => M.pure (v :: vs) := by rfl
@[simp] theorem r_evp0 : evp K .nil s = some (.ok [] s) := by rfl
@[simp] theorem r_evp1 {e : E} {es : Es} : evp K (.cons e es) s = rb (ev K e false s) fun v => M.bind (evp K es) fun vs => M.pure (v :: vs) := by rfl
def bR (o : Option Bool) (a : M Bool) : M Bool := fun s =>
  match o with
  | some true => a s
  | some false => some (.ok false s)
  | none => none
@[simp] theorem bR_t {a : M Bool} : bR (some true) a s = a s := by rfl
@[simp] theorem bR_f {a : M Bool} : bR (some false) a s = some (.ok false s) := by rfl
@[simp] theorem r_evt0 : evt K .nil s = some (.ok true s) := by rfl
@[simp] theorem r_evt1 {e : E} {es : Es} : evt K (.cons e es) s = rb (ev K e false s) fun x => fun s => bR (truth s.m x) (evt K es) s := by rfl
@[simp] theorem r_evc1 {o : CO} {e : E} {x : SV} : evc K (.one o e) x s = rb (ev K e false s) fun y => fun s => M.of (cmpop s.m o x y) s := by rfl
@[simp] theorem r_evc2 {o : CO} {e : E} {cs : Cs} {x : SV} : evc K (.cons o e cs) x s = rb (ev K e false s) fun y => fun s => bR (cmpop s.m o x y) (evc K cs y) s := by rfl
@[simp] theorem r_evo0 : evo K .no s = some (.ok none s) := by rfl
@[simp] theorem r_evo1 {e : E} : evo K (.of e) s = rb (ev K e false s) fun x => M.bind (asInt x) fun i => M.pure (some i) := by rfl
@[simp] theorem r_iE {a : E} : evi K (.e a) t s = rb (ev K a t s) fun x => M.of (srcs t x) := by rfl
@[simp] theorem r_iR1 {a : E} : evi K (.range1 a) t s = rb (ev K a false s) fun x => M.bind (asInt x) fun i => if rOk i then M.pure (rng 0 i) else M.fail := by rfl
@[simp] theorem r_iR2 {a b : E} : evi K (.range2 a b) t s = rb (ev K a false s) fun x => M.bind (asInt x) fun i => M.bind (ev K b false) fun y => M.bind (asInt y) fun j => if rOk i && rOk j then M.pure (rng i j) else M.fail := by rfl
@[simp] theorem r_iRD {a b c : E} : evi K (.rangeD a b c) t s = rb (ev K a false s) fun x => M.bind (asInt x) fun i => M.bind (ev K b false) fun y => M.bind (asInt y) fun j => M.bind (ev K c false) fun z => M.bind (asInt z) fun k => if rOk i && rOk j && k == -1 then M.pure (rngD i j k) else M.fail := by rfl
@[simp] theorem r_iEn {a : It} {k : Oe} : evi K (.enum a k) t s = rb (evi K a t s) fun xs => M.bind (evo K k) fun o => if oOk o then M.pure (enumL (o.getD 0) xs) else M.fail := by rfl
@[simp] theorem r_iZ {a b : It} : evi K (.zip a b) t s = rb (evi K a t s) fun xs => M.bind (evi K b t) fun ys => M.pure (zipL xs ys) := by rfl
@[simp] theorem r_iZ3 {a b c : It} : evi K (.zip3 a b c) t s = rb (evi K a t s) fun xs => M.bind (evi K b t) fun ys => M.bind (evi K c t) fun zs => M.pure (zipL3 xs ys zs) := by rfl
/-! ### statements -/
@[simp] theorem r_exp {e : E} : ex K (.expr e) s = rb (ev K e false s) fun _ => M.pure .nx := by rfl
@[simp] theorem r_set {i : Nat} {e : E} : ex K (.set i e) s = rb (ev K e true s) fun v => nxt (store i v) := by rfl
def unpR (ts : Tgs) (o : Option (List Val)) : M Fl := fun s =>
  match o with
  | some xs => nxt (asgs ts xs) s
  | none => none
@[simp] theorem unpR_some {ts : Tgs} {xs : List Val} : unpR ts (some xs) s = nxt (asgs ts xs) s := by rfl
@[simp] theorem r_unp {ts : Tgs} {e : E} : ex K (.unp ts e) s = rb (ev K e false s) fun x => fun s => unpR ts (items s.m x) s := by rfl
@[simp] theorem r_par {is : List Nat} {es : Es} : ex K (.par is es) s = rb (evw K es s) fun vs => nxt (stores is vs) := by rfl
@[simp] theorem r_put {i : Nat} {ix e : E} : ex K (.put i ix e) s = rb (rb (ev K e true s) asV) fun v => M.bind (lslot i) fun _ => M.bind (M.bind (ev K ix false) asInt) fun j => nxt (change i (putL j v) v.pure) := by rfl
def putR (j : Int) (v : Val) (o : SV) : M Fl := fun s =>
  match o with
  | .val (.loc n) => (s.m[n]?).bind fun xs => (putL j v xs).bind fun ys => if v.pure then some (.ok .nx { s with m := s.m.set n ys }) else none
  | _ => none
@[simp] theorem putR_loc {j : Int} {v : Val} {n : Nat} : putR j v (.val (.loc n)) s = (s.m[n]?).bind fun xs => (putL j v xs).bind fun ys => if v.pure then some (.ok .nx { s with m := s.m.set n ys }) else none := by rfl
@[simp] theorem r_putE {b ix e : E} : ex K (.putE b ix e) s = rb (rb (ev K e true s) asV) fun v => M.bind (ev K b false) fun o => M.bind (M.bind (ev K ix false) asInt) fun j => putR j v o := by rfl
@[simp] theorem r_aug {i : Nat} {o : BO} {e : E} : ex K (.aug i o e) s = rb (slot i false s) fun x => M.bind (ev K e false) fun y => M.bind (M.of (augop o x y)) fun z => nxt (store i z) := by rfl
def lsR (x : SV) (j : Int) : M Val := fun s =>
  match lists s.m x with
  | some xs => M.of (getI xs j) s
  | none => none
@[simp] theorem r_augS {i : Nat} {ix : E} {o : BO} {e : E} : ex K (.augS i ix o e) s = rb (slot i false s) fun x => M.bind (M.bind (ev K ix false) asInt) fun j => M.bind (lsR x j) fun old => M.bind (ev K e false) fun y => M.bind (M.of (augop o (.val old) y)) fun z => M.bind (asV z) fun v => nxt (change i (putL j v) v.pure) := by rfl
@[simp] theorem r_app {i : Nat} {e : E} : ex K (.app i e) s = rb (lslot i s) fun _ => M.bind (M.bind (ev K e true) asV) fun v => nxt (change i (fun xs => if decide (xs.length < szl) then some (xs ++ [v]) else none) v.pure) := by rfl
@[simp] theorem r_ext {i : Nat} {e : E} : ex K (.ext i e) s = rb (lslot i s) fun _ => M.bind (M.bind (ev K e false) fun x => fun s => M.of (lists s.m x) s) fun vs => nxt (change i (fun xs => if fits (xs ++ vs) then some (xs ++ vs) else none) (pureL vs)) := by rfl
@[simp] theorem r_pop {i : Nat} : ex K (.pop i) s = rb (lslot i s) fun _ => nxt (change i (fun xs => if xs.isEmpty then none else some xs.dropLast) true) := by rfl
@[simp] theorem r_if {c : E} {a b : Sts} : ex K (.ite c a b) s = rb (testM K c s) fun t => if t then exs K a else exs K b := by rfl
@[simp] theorem r_wh {c : E} {b : Sts} : ex K (.wh c b) s = whileM (testM K c) (exs K b) s := by rfl
@[simp] theorem r_for {tg : Tg} {it : It} {b : Sts} : ex K (.for tg it b) s = rb (evi K it true s) fun xs => forM tg (exs K b) xs := by rfl
def retR : SV → M Fl
  | .pk _ => M.fail
  | v => M.pure (.rt v)
@[simp] theorem retR_v {v : Val} : retR (.val v) s = some (.ok (.rt (.val v)) s) := by rfl
@[simp] theorem retR_o {xs : List Val} : retR (.own xs) s = some (.ok (.rt (.own xs)) s) := by rfl
def retS (i : Nat) : M Fl := fun s => match s.e[i]? with
    | some (some v) => some (.ok (.rt v) s)
    | _ => none
@[simp] theorem r_retS {i : Nat} : ex K (.ret (.s i)) s = retS i s := by
  unfold retS
  show (match s.e[i]? with
    | some (some v) => some (Res.ok (Fl.rt v) s)
    | _ => none) = _
  rfl
def E.isS : E → Bool
  | .s _ => true
  | _ => false
theorem r_ret {e : E} (h : E.isS e = false) : ex K (.ret e) s = rb (ev K e true s) retR := by
  cases e with
  | s i => cases h
  | c v => rfl
  | _ =>
    show rb (ev K _ true s) (fun v : SV => match v with
      | .pk _ => (M.fail : M Fl)
      | v => M.pure (.rt v)) = rb _ _
    congr 1
@[simp] theorem ret_c {v : Val} : ex K (.ret (.c v)) s = rb (ev K (.c v) true s) retR := r_ret K s rfl
@[simp] theorem ret_tup {es : Es} : ex K (.ret (.tup es)) s = rb (ev K (.tup es) true s) retR := r_ret K s rfl
@[simp] theorem ret_lst {es : Es} : ex K (.ret (.lst es)) s = rb (ev K (.lst es) true s) retR := r_ret K s rfl
@[simp] theorem ret_mk {e : E} : ex K (.ret (.mk e)) s = rb (ev K (.mk e) true s) retR := r_ret K s rfl
@[simp] theorem ret_bin {o : BO} {a b : E} : ex K (.ret (.bin o a b)) s = rb (ev K (.bin o a b) true s) retR := r_ret K s rfl
@[simp] theorem ret_neg {a : E} : ex K (.ret (.neg a)) s = rb (ev K (.neg a) true s) retR := r_ret K s rfl
@[simp] theorem ret_not {a : E} : ex K (.ret (.not a)) s = rb (ev K (.not a) true s) retR := r_ret K s rfl
@[simp] theorem ret_and {a b : E} : ex K (.ret (.and a b)) s = rb (ev K (.and a b) true s) retR := r_ret K s rfl
@[simp] theorem ret_or {a b : E} : ex K (.ret (.or a b)) s = rb (ev K (.or a b) true s) retR := r_ret K s rfl
@[simp] theorem ret_ite {a b c : E} : ex K (.ret (.ite a b c)) s = rb (ev K (.ite a b c) true s) retR := r_ret K s rfl
@[simp] theorem ret_cmp {a : E} {cs : Cs} : ex K (.ret (.cmp a cs)) s = rb (ev K (.cmp a cs) true s) retR := r_ret K s rfl
@[simp] theorem ret_call {f : Nat} {es : Es} : ex K (.ret (.call f es)) s = rb (ev K (.call f es) true s) retR := r_ret K s rfl
@[simp] theorem ret_pr {p : Pr} {es : Es} : ex K (.ret (.pr p es)) s = rb (ev K (.pr p es) true s) retR := r_ret K s rfl
@[simp] theorem ret_ix {a b : E} : ex K (.ret (.ix a b)) s = rb (ev K (.ix a b) true s) retR := r_ret K s rfl
@[simp] theorem ret_sl {a : E} {b c : Oe} : ex K (.ret (.sl a b c)) s = rb (ev K (.sl a b c) true s) retR := r_ret K s rfl
@[simp] theorem ret_rev {a : E} : ex K (.ret (.rev a)) s = rb (ev K (.rev a) true s) retR := r_ret K s rfl
@[simp] theorem ret_isi {a : E} {ts : List Ty} : ex K (.ret (.isi a ts)) s = rb (ev K (.isi a ts) true s) retR := r_ret K s rfl
@[simp] theorem ret_lc {own : List Nat} {tg : Tg} {it : It} {ifs : Es} {e : E} : ex K (.ret (.lc own tg it ifs e)) s = rb (ev K (.lc own tg it ifs e) true s) retR := r_ret K s rfl
@[simp] theorem ret_lc2 {own own2 : List Nat} {tg : Tg} {it : It} {ifs : Es} {tg2 : Tg} {it2 : It} {ifs2 : Es} {e : E} : ex K (.ret (.lc2 own own2 tg it ifs tg2 it2 ifs2 e)) s = rb (ev K (.lc2 own own2 tg it ifs tg2 it2 ifs2 e) true s) retR := r_ret K s rfl
@[simp] theorem ret_lit {it : It} : ex K (.ret (.lit it)) s = rb (ev K (.lit it) true s) retR := r_ret K s rfl
@[simp] theorem ret_tit {it : It} : ex K (.ret (.tit it)) s = rb (ev K (.tit it) true s) retR := r_ret K s rfl
@[simp] theorem r_retN : ex K .retN s = some (.ok (.rt (.val .non)) s) := by rfl
/-- behind a try's body -/
def trR (hs : Hs) : Option (Res Fl) → Option (Res Fl)
  | some (.ex x s') => exh hs x s'
  | r => r
@[simp] theorem trR_ok {hs : Hs} {a : Fl} {s' : S} : trR hs (some (.ok a s')) = some (.ok a s') := by rfl
@[simp] theorem trR_ex {hs : Hs} {x : Ex} {s' : S} : trR hs (some (.ex x s')) = exh hs x s' := by rfl
@[simp] theorem r_tr {b : Sts} {hs : Hs} : ex K (.tr b hs) s = trR hs (exs K b s) := by
  cases h : exs K b s with
  | none => unfold ex; rw [h]; rfl
  | some r => cases r <;> (unfold ex; rw [h]; rfl)
@[simp] theorem r_raise {c : Nat} {a : Option Str} : ex K (.raise c a) s = some (.ex ⟨c, a⟩ s) := by rfl
@[simp] theorem r_pass : ex K .pass s = some (.ok .nx s) := by rfl
def seqF (b : M Fl) : Fl → M Fl
  | .nx => b
  | .rt v => M.pure (.rt v)
@[simp] theorem seqF_nx {b : M Fl} : seqF b .nx s = b s := by rfl
@[simp] theorem seqF_rt {b : M Fl} {v : SV} : seqF b (.rt v) s = some (.ok (.rt v) s) := by rfl
@[simp] theorem r_exs0 : exs K .nil s = some (.ok .nx s) := by rfl
@[simp] theorem r_exs1 {a : St} {b : Sts} : exs K (.cons a b) s = rb (ex K a s) (seqF (exs K b)) := by
  show M.bind _ _ s = rb _ _
  rw [r_bind]
  congr 1
@[simp] theorem r_testM {c : E} : testM K c s = rb (ev K c false s) fun x => fun s => M.of (truth s.m x) s := by rfl
@[simp] theorem r_nxt {x : M Unit} : nxt x s = rb (x s) fun _ => M.pure .nx := by rfl
/-! ### the state -/
def cres (e : List (Option SV)) : Option CRes → Option (Res SV)
  | none => none
  | some (.ok v m) => some (.ok v ⟨e, m⟩)
  | some (.ex x m) => some (.ex x ⟨e, m⟩)
@[simp] theorem cres_ok {e : List (Option SV)} {v : SV} {m : Mem} : cres e (some (.ok v m)) = some (.ok v ⟨e, m⟩) := by rfl
@[simp] theorem cres_ex {e : List (Option SV)} {x : Ex} {m : Mem} : cres e (some (.ex x m)) = some (.ex x ⟨e, m⟩) := by rfl
@[simp] theorem r_callM {f : Nat} {vs : List Val} : callM K f vs s = cres s.e (K f vs s.m) := by
  unfold callM cres
  cases K f vs s.m with
  | none => rfl
  | some r => cases r <;> rfl
def slotR (i : Nat) (t : Bool) (o : Option (Option SV)) : M SV := fun s =>
  match o with
  | some (some (.val v)) => some (.ok (.val v) s)
  | some (some (.own xs)) => if t then some (.ok (.val (.lst xs)) { s with e := s.e.set i (some (.val (.lst xs))) }) else some (.ok (.pk xs) s)
  | _ => none
@[simp] theorem slotR_v {i : Nat} {v : Val} : slotR i t (some (some (.val v))) s = some (.ok (.val v) s) := by rfl
@[simp] theorem slotR_o {i : Nat} {xs : List Val} : slotR i false (some (some (.own xs))) s = some (.ok (.pk xs) s) := by rfl
@[simp] theorem slotR_ot {i : Nat} {xs : List Val} : slotR i true (some (some (.own xs))) s = some (.ok (.val (.lst xs)) { s with e := s.e.set i (some (.val (.lst xs))) }) := by rfl
@[simp] theorem r_slot {i : Nat} : slot i t s = slotR i t s.e[i]? s := by rfl
def storeR (i : Nat) (v : SV) (s : S) : Option (Res Unit) := if i < s.e.length then some (.ok () { s with e := s.e.set i (some v) }) else none
@[simp] theorem r_storev {i : Nat} {v : Val} : store i (.val v) s = if i < s.e.length then some (.ok () { s with e := s.e.set i (some (.val v)) }) else none := by rfl
@[simp] theorem r_storeo {i : Nat} {xs : List Val} : store i (.own xs) s = if i < s.e.length then some (.ok () { s with e := s.e.set i (some (.own xs)) }) else none := by rfl
@[simp] theorem r_newLoc {xs : List Val} : newLoc (.own xs) s = some (.ok (.val (.loc s.m.length)) { s with m := s.m ++ [xs] }) := by rfl
@[simp] theorem r_asg {i : Nat} {v : Val} : asg (.n i) v s = store i (.val v) s := by rfl
def asgR (ts : Tgs) (o : Option (List Val)) : M Unit := fun s =>
  match o with
  | some xs => asgs ts xs s
  | none => none
@[simp] theorem asgR_some {ts : Tgs} {xs : List Val} : asgR ts (some xs) s = asgs ts xs s := by rfl
@[simp] theorem r_asgt {ts : Tgs} {v : Val} : asg (.t ts) v s = asgR ts (items s.m (.val v)) s := by rfl
@[simp] theorem r_asgs0 : asgs .nil [] s = some (.ok () s) := by rfl
@[simp] theorem r_asgs1 {tg : Tg} {ts : Tgs} {x : Val} {xs : List Val} : asgs (.cons tg ts) (x :: xs) s = rb (asg tg x s) fun _ => asgs ts xs := by rfl
@[simp] theorem r_stores0 : stores [] [] s = some (.ok () s) := by rfl
@[simp] theorem r_stores1 {i : Nat} {is : List Nat} {v : SV} {vs : List SV} : stores (i :: is) (v :: vs) s = rb (store i v s) fun _ => stores is vs := by rfl
def changeR (i : Nat) (f : List Val → Option (List Val)) (chk : Bool) (o : Option (Option SV)) (s : S) : Option (Res Unit) :=
  match o with
  | some (some (.own xs)) => (f xs).bind fun ys => some (.ok () { s with e := s.e.set i (some (.own ys)) })
  | some (some (.val (.loc n))) => (s.m[n]?).bind fun xs => (f xs).bind fun ys => if chk then some (.ok () { s with m := s.m.set n ys }) else none
  | _ => none
@[simp] theorem r_change {i : Nat} {f : List Val → Option (List Val)} {chk : Bool} : change i f chk s = changeR i f chk s.e[i]? s := by rfl
@[simp] theorem changeR_o {i : Nat} {f : List Val → Option (List Val)} {chk : Bool} {xs : List Val} : changeR i f chk (some (some (.own xs))) s = (f xs).bind fun ys => some (.ok () { s with e := s.e.set i (some (.own ys)) }) := by rfl
@[simp] theorem changeR_l {i : Nat} {f : List Val → Option (List Val)} {chk : Bool} {n : Nat} : changeR i f chk (some (some (.val (.loc n)))) s = (s.m[n]?).bind fun xs => (f xs).bind fun ys => if chk then some (.ok () { s with m := s.m.set n ys }) else none := by rfl
def lslotR (o : Option (Option SV)) (s : S) : Option (Res Unit) :=
  match o with
  | some (some (.own _)) => some (.ok () s)
  | some (some (.val (.loc n))) => if n < s.m.length then some (.ok () s) else none
  | _ => none
@[simp] theorem r_lslot {i : Nat} : lslot i s = lslotR s.e[i]? s := by rfl
@[simp] theorem lslotR_o {xs : List Val} : lslotR (some (some (.own xs))) s = some (.ok () s) := by rfl
@[simp] theorem lslotR_l {n : Nat} : lslotR (some (some (.val (.loc n)))) s = if n < s.m.length then some (.ok () s) else none := by rfl
def retSR (o : Option (Option SV)) (s : S) : Option (Res Fl) :=
  match o with
  | some (some v) => some (.ok (.rt v) s)
  | _ => none
@[simp] theorem r_retS2 {i : Nat} : retS i s = retSR s.e[i]? s := by rfl
@[simp] theorem retSR_s {v : SV} : retSR (some (some v)) s = some (.ok (.rt v) s) := by rfl
@[simp] theorem lsR_pk {xs : List Val} {j : Int} : lsR (.pk xs) j s = M.of (getI xs j) s := by rfl
@[simp] theorem lsR_own {xs : List Val} {j : Int} : lsR (.own xs) j s = M.of (getI xs j) s := by rfl
@[simp] theorem lsR_lst {xs : List Val} {j : Int} : lsR (.val (.lst xs)) j s = M.of (getI xs j) s := by rfl
@[simp] theorem r_asInt {i : Int} : asInt (.val (.int i)) s = some (.ok i s) := by rfl
@[simp] theorem r_asV {v : Val} : asV (.val v) s = some (.ok v s) := by rfl
@[simp] theorem r_asVo {xs : List Val} : asV (.own xs) s = some (.ok (.lst xs) s) := by rfl
@[simp] theorem r_turnM {tg : Tg} {test : M Bool} {elt : M Val} {x : Val} : turnM tg test elt x s = rb (asg tg x s) fun _ => M.bind test fun b => if b then M.bind elt fun v => M.pure (some v) else M.pure none := by rfl
end
/-! ### values -/
section
variable {m : Mem}
@[simp] theorem items_own {xs : List Val} : items m (.own xs) = some xs := by rfl
@[simp] theorem items_pk {xs : List Val} : items m (.pk xs) = some xs := by rfl
@[simp] theorem items_tup {xs : List Val} : items m (.val (.tup xs)) = some xs := by rfl
@[simp] theorem items_lst {xs : List Val} : items m (.val (.lst xs)) = some xs := by rfl
@[simp] theorem items_loc {n : Nat} : items m (.val (.loc n)) = m[n]? := by rfl
@[simp] theorem items_int {n : Int} : items m (.val (.int n)) = none := by rfl
@[simp] theorem srcs_own {t : Bool} {xs : List Val} : srcs t (.own xs) = some xs := by rfl
@[simp] theorem srcs_pk {xs : List Val} : srcs false (.pk xs) = some xs := by rfl
@[simp] theorem srcs_tup {t : Bool} {xs : List Val} : srcs t (.val (.tup xs)) = some xs := by rfl
@[simp] theorem srcs_lst {t : Bool} {xs : List Val} : srcs t (.val (.lst xs)) = some xs := by rfl
@[simp] theorem srcs_scr {t : Bool} {xs : List Val} : srcs t (.val (.scr xs)) = some xs := by rfl
@[simp] theorem isTup_own {xs : List Val} : isTup (.own xs) = false := by rfl
@[simp] theorem isTup_pk {xs : List Val} : isTup (.pk xs) = false := by rfl
@[simp] theorem isTup_tup {xs : List Val} : isTup (.val (.tup xs)) = true := by rfl
@[simp] theorem isTup_lst {xs : List Val} : isTup (.val (.lst xs)) = false := by rfl
@[simp] theorem isTup_loc {n : Nat} : isTup (.val (.loc n)) = false := by rfl
@[simp] theorem isTup_int {n : Int} : isTup (.val (.int n)) = false := by rfl
@[simp] theorem tree_own {xs : List Val} : tree m (.own xs) = some (.lst xs) := by rfl
@[simp] theorem tree_pk {xs : List Val} : tree m (.pk xs) = some (.lst xs) := by rfl
@[simp] theorem tree_tup {xs : List Val} : tree m (.val (.tup xs)) = some (.tup xs) := by rfl
@[simp] theorem tree_lst {xs : List Val} : tree m (.val (.lst xs)) = some (.lst xs) := by rfl
@[simp] theorem tree_int {i : Int} : tree m (.val (.int i)) = some (.int i) := by rfl
@[simp] theorem tree_bl {i : Bool} : tree m (.val (.bl i)) = some (.bl i) := by rfl
@[simp] theorem tree_non : tree m (.val .non) = some .non := by rfl
@[simp] theorem tree_str {i : Str} : tree m (.val (.str i)) = some (.str i) := by rfl
@[simp] theorem truth_bl {b : Bool} : truth m (.val (.bl b)) = some b := by rfl
@[simp] theorem truth_int {i : Int} : truth m (.val (.int i)) = some (i != 0) := by rfl
@[simp] theorem truth_non : truth m (.val .non) = some false := by rfl
@[simp] theorem tupl_ok {xs : List Val} (h : xs.length ≤ 16777216) : tupl xs = some (.val (.tup xs)) := if_pos (decide_eq_true h)
@[simp] theorem ownl_ok {xs : List Val} (h : xs.length ≤ 16777216) : ownl xs = some (.own xs) := if_pos (decide_eq_true h)
@[simp] theorem binop_add {a b : SV} : binop m .add a b = binAdd m a b := by rfl
@[simp] theorem binop_sub {a b : SV} : binop m .sub a b = binSub a b := by rfl
@[simp] theorem binop_mul {a b : SV} : binop m .mul a b = binMul m a b := by rfl
@[simp] theorem binop_div {a b : SV} : binop m .fdiv a b = binDiv a b := by rfl
@[simp] theorem binop_mod {a b : SV} : binop m .mod a b = binMod a b := by rfl
@[simp] theorem add_i {i j : Int} : binAdd m (.val (.int i)) (.val (.int j)) = some (.val (.int (i + j))) := by rfl
@[simp] theorem add_tt {xs ys : List Val} : binAdd m (.val (.tup xs)) (.val (.tup ys)) = tupl (xs ++ ys) := by rfl
@[simp] theorem add_oo {xs ys : List Val} : binAdd m (.own xs) (.own ys) = ownl (xs ++ ys) := by rfl
@[simp] theorem add_po {xs ys : List Val} : binAdd m (.pk xs) (.own ys) = ownl (xs ++ ys) := by rfl
@[simp] theorem add_op {xs ys : List Val} : binAdd m (.own xs) (.pk ys) = ownl (xs ++ ys) := by rfl
@[simp] theorem add_pp {xs ys : List Val} : binAdd m (.pk xs) (.pk ys) = ownl (xs ++ ys) := by rfl
@[simp] theorem add_lo {xs ys : List Val} : binAdd m (.val (.lst xs)) (.own ys) = ownl (xs ++ ys) := by rfl
@[simp] theorem add_ol {xs ys : List Val} : binAdd m (.own xs) (.val (.lst ys)) = ownl (xs ++ ys) := by rfl
@[simp] theorem add_ll {xs ys : List Val} : binAdd m (.val (.lst xs)) (.val (.lst ys)) = ownl (xs ++ ys) := by rfl
@[simp] theorem add_pl {xs ys : List Val} : binAdd m (.pk xs) (.val (.lst ys)) = ownl (xs ++ ys) := by rfl
@[simp] theorem add_lp {xs ys : List Val} : binAdd m (.val (.lst xs)) (.pk ys) = ownl (xs ++ ys) := by rfl
@[simp] theorem sub_i {i j : Int} : binSub (.val (.int i)) (.val (.int j)) = some (.val (.int (i - j))) := by rfl
@[simp] theorem mul_i {i j : Int} (h1 : small i = true) (h2 : small j = true) : binMul m (.val (.int i)) (.val (.int j)) = some (.val (.int (i * j))) := by
  show (if small i && small j then _ else _) = _
  rw [h1, h2]; rfl
theorem flat_one {α : Type} (n : Nat) (x : α) : (List.replicate n [x]).flatten = List.replicate n x := by
  induction n with
  | zero => rfl
  | succ n ih => rw [List.replicate_succ, List.flatten_cons, ih, List.replicate_succ]; rfl
theorem mul_t1 {x : Val} {j : Int} (h1 : rOk j = true) : binMul m (.val (.tup [x])) (.val (.int j)) = tupl (List.replicate j.toNat x) := by
  show (if rOk j then tupl (List.replicate j.toNat [x]).flatten else _) = _
  rw [h1, flat_one]; rfl
theorem mul_o1 {x : Val} {j : Int} (h1 : rOk j = true) : binMul m (.own [x]) (.val (.int j)) = ownl (List.replicate j.toNat x) := by
  show (if rOk j then ownl (List.replicate j.toNat [x]).flatten else _) = _
  rw [h1, flat_one]; rfl
@[simp] theorem div_i {i j : Int} (h0 : j ≠ 0) (h1 : small j = true) : binDiv (.val (.int i)) (.val (.int j)) = some (.val (.int (i.fdiv j))) := by
  show (if j != 0 && small j then _ else _) = _
  rw [h1]; simp [h0]
@[simp] theorem mod_i {i j : Int} (h0 : j ≠ 0) : binMod (.val (.int i)) (.val (.int j)) = some (.val (.int (i.fmod j))) := by
  show (if j != 0 then _ else _) = _
  simp [h0]
@[simp] theorem aug_add {i j : Int} : augop .add (.val (.int i)) (.val (.int j)) = some (.val (.int (i + j))) := by rfl
@[simp] theorem aug_sub {i j : Int} : augop .sub (.val (.int i)) (.val (.int j)) = some (.val (.int (i - j))) := by rfl
@[simp] theorem aug_mul {i j : Int} (h1 : small i = true) (h2 : small j = true) : augop .mul (.val (.int i)) (.val (.int j)) = some (.val (.int (i * j))) := by
  show (if small i && small j then _ else _) = _
  rw [h1, h2]; rfl
@[simp] theorem cmp_lt {i j : Int} : cmpop m .lt (.val (.int i)) (.val (.int j)) = some (decide (i < j)) := by rfl
@[simp] theorem cmp_le {i j : Int} : cmpop m .le (.val (.int i)) (.val (.int j)) = some (decide (i ≤ j)) := by rfl
@[simp] theorem cmp_gt {i j : Int} : cmpop m .gt (.val (.int i)) (.val (.int j)) = some (decide (j < i)) := by rfl
@[simp] theorem cmp_ge {i j : Int} : cmpop m .ge (.val (.int i)) (.val (.int j)) = some (decide (j ≤ i)) := by rfl
@[simp] theorem cmp_eq {a b : SV} : cmpop m .eq a b = eqS m a b := by rfl
@[simp] theorem cmp_ne {a b : SV} : cmpop m .ne a b = (eqS m a b).map not := by rfl
@[simp] theorem eqS_i {i j : Int} : eqS m (.val (.int i)) (.val (.int j)) = some (decide (i = j)) := by
  show (if Val.pure (.int i) && Val.pure (.int j) then some (i == j) else none) = _
  rfl
@[simp] theorem eqS_b {i j : Bool} : eqS m (.val (.bl i)) (.val (.bl j)) = some (i == j) := by rfl
@[simp] theorem cmp_isn {a : SV} : cmpop m .is a (.val .non) = some (isNon a) := by rfl
@[simp] theorem cmp_isnn {a : SV} : cmpop m .isnot a (.val .non) = some (!isNon a) := by rfl
@[simp] theorem isNon_non : isNon (.val .non) = true := by rfl
@[simp] theorem isNon_tup {xs : List Val} : isNon (.val (.tup xs)) = false := by rfl
@[simp] theorem isNon_int {i : Int} : isNon (.val (.int i)) = false := by rfl
@[simp] theorem p_abs {i : Int} : prim m .abs [.val (.int i)] = some (.val (.int (i.natAbs : Int))) := by
  show some (SV.val (.int (if i < 0 then -i else i))) = _
  have : (if i < 0 then -i else i) = (i.natAbs : Int) := by split <;> omega
  rw [this]
@[simp] theorem p_int {i : Int} : prim m .int [.val (.int i)] = some (.val (.int i)) := by rfl
@[simp] theorem p_intb {b : Bool} : prim m .int [.val (.bl b)] = some (.val (.int (b2i b))) := by rfl
@[simp] theorem p_len {xs : List Val} {a : SV} (h : items m a = some xs) : prim m .len [a] = some (.val (.int xs.length)) := by
  show (match items m a with | some xs => some (SV.val (.int xs.length)) | none => none) = _
  rw [h]
@[simp] theorem intsV_map : ∀ xs : List Int, intsV (xs.map .int) = some xs
  | [] => rfl
  | x :: xs => by rw [List.map_cons]; show (intsV (xs.map .int)).map (x :: ·) = _; rw [intsV_map xs]; rfl
@[simp] theorem boolsV_map : ∀ xs : List Bool, boolsV (xs.map .bl) = some xs
  | [] => rfl
  | x :: xs => by rw [List.map_cons]; show (boolsV (xs.map .bl)).map (x :: ·) = _; rw [boolsV_map xs]; rfl
@[simp] theorem p_sum {xs : List Int} {a : SV} (h : items m a = some (xs.map .int)) : prim m .sum [a] = some (.val (.int xs.sum)) := by
  show ((items m a).bind fun xs => (intsV xs).map fun is => SV.val (.int is.sum)) = _
  rw [h]; simp
@[simp] theorem p_max2 {i j : Int} : prim m .max [.val (.int i), .val (.int j)] = some (.val (.int (imax i j))) := by rfl
@[simp] theorem p_min2 {i j : Int} : prim m .min [.val (.int i), .val (.int j)] = some (.val (.int (imin i j))) := by rfl
@[simp] theorem p_tuple {xs : List Val} {a : SV} (h : items m a = some xs) : prim m .tuple [a] = some (.val (.tup xs)) := by
  show (match items m a with | some xs => some (SV.val (.tup xs)) | none => none) = _
  rw [h]
@[simp] theorem p_list {xs : List Val} {a : SV} (h : items m a = some xs) : prim m .list [a] = some (.own xs) := by
  show (match items m a with | some xs => some (SV.own xs) | none => none) = _
  rw [h]
@[simp] theorem p_all {xs : List Bool} {a : SV} (ht : isTup a = false) (h : items m a = some (xs.map .bl)) : prim m .all [a] = some (.val (.bl (xs.all id))) := by
  show (if isTup a then none else (items m a).bind fun xs => (boolsV xs).map fun bs => SV.val (.bl (bs.all id))) = _
  rw [h, ht]; simp
@[simp] theorem p_any {xs : List Bool} {a : SV} (ht : isTup a = false) (h : items m a = some (xs.map .bl)) : prim m .any [a] = some (.val (.bl (xs.any id))) := by
  show (if isTup a then none else (items m a).bind fun xs => (boolsV xs).map fun bs => SV.val (.bl (bs.any id))) = _
  rw [h, ht]; simp
@[simp] theorem trim_self {v : SV} : trim m v m = m := by
  unfold trim
  split
  · exact List.take_length
  · rfl
@[simp] theorem leave_nx {s : S} : leave m (some (.ok .nx s)) = some (.ok (.val .non) (s.m.take m.length)) := by rfl
@[simp] theorem leave_v {v : Val} {s : S} : leave m (some (.ok (.rt (.val v)) s)) = some (.ok (.val v) (trim m (.val v) s.m)) := by rfl
@[simp] theorem leave_o {xs : List Val} {s : S} : leave m (some (.ok (.rt (.own xs)) s)) = some (.ok (.own xs) (trim m (.own xs) s.m)) := by rfl
@[simp] theorem leave_ex {x : Ex} {s : S} : leave m (some (.ex x s)) = some (.ex x (s.m.take m.length)) := by rfl
@[simp] theorem leave_none : leave m none = none := by rfl
end
/-- an index into a list as a number -/
theorem getI_at {xs : List Val} {k : Nat} (h : k < xs.length) : getI xs (k : Int) = some xs[k] := by
  unfold getI place
  rw [if_pos (by omega), if_pos (by omega)]
  simp [h]
@[simp] theorem getI_0 {x : Val} {xs : List Val} : getI (x :: xs) 0 = some x := by
  have := getI_at (xs := x :: xs) (k := 0) (by simp)
  exact this
@[simp] theorem getI_1 {x y : Val} {xs : List Val} : getI (x :: y :: xs) 1 = some y := getI_at (xs := x :: y :: xs) (k := 1) (by simp)
@[simp] theorem getI_2 {x y z : Val} {xs : List Val} : getI (x :: y :: z :: xs) 2 = some z := getI_at (xs := x :: y :: z :: xs) (k := 2) (by simp)
@[simp] theorem getI_3 {x y z u : Val} {xs : List Val} : getI (x :: y :: z :: u :: xs) 3 = some u := getI_at (xs := x :: y :: z :: u :: xs) (k := 3) (by simp)
@[simp] theorem getI_4 {x y z u v : Val} {xs : List Val} : getI (x :: y :: z :: u :: v :: xs) 4 = some v := getI_at (xs := x :: y :: z :: u :: v :: xs) (k := 4) (by simp)
@[simp] theorem getI_int {xs : List Int} {k : Nat} (h : k < xs.length) : getI (xs.map .int) (k : Int) = some (.int xs[k]) := by
  rw [getI_at (by simpa using h)]; simp
/-- a list's item is put -/
theorem putL_at {xs : List Val} {k : Nat} {v : Val} (h : k < xs.length) : putL (k : Int) v xs = some (xs.set k v) := by
  unfold putL place
  rw [if_pos (by omega), if_pos (by omega)]
  simp
theorem whileM_f {c : M Bool} {b : M Fl} {s s1 : S} (h : c s = some (.ok false s1)) : whileM c b s = some (.ok .nx s1) := by
  rw [whileM_eq, h]
theorem whileM_t {c : M Bool} {b : M Fl} {s s1 s2 : S} (h : c s = some (.ok true s1)) (h2 : b s1 = some (.ok .nx s2)) : whileM c b s = whileM c b s2 := by
  rw [whileM_eq, h]
  dsimp only
  rw [h2]
theorem forM_step {tg : Tg} {body : M Fl} {x : Val} {xs : List Val} {s s1 s2 : S} (h : asg tg x s = some (.ok () s1)) (h2 : body s1 = some (.ok .nx s2)) : forM tg body (x :: xs) s = forM tg body xs s2 := by
  rw [forM_cons, bind_ok h, bind_ok h2]
theorem forM_ret {tg : Tg} {body : M Fl} {x : Val} {xs : List Val} {s s1 s2 : S} {v : SV} (h : asg tg x s = some (.ok () s1)) (h2 : body s1 = some (.ok (.rt v) s2)) : forM tg body (x :: xs) s = some (.ok (.rt v) s2) := by
  rw [forM_cons, bind_ok h, bind_ok h2]
  rfl
/-- a loop: I of the fold's value and the state, P of the fold's value and what is left -/
theorem forM_go {α β : Type} {tg : Tg} {body : M Fl} {v : α → Val} (I : β → S → Prop) (f : β → α → β) (P : β → List α → Prop)
    (step : ∀ b x r s, P b (x :: r) → I b s → ∃ s1 s2, asg tg (v x) s = some (.ok () s1) ∧ body s1 = some (.ok .nx s2) ∧ I (f b x) s2 ∧ P (f b x) r) :
    ∀ (xs : List α) (b : β) (s : S), P b xs → I b s → ∃ s', forM tg body (xs.map v) s = some (.ok .nx s') ∧ I (xs.foldl f b) s' ∧ P (xs.foldl f b) []
  | [], b, s, hp, hi => ⟨s, rfl, hi, hp⟩
  | x :: xs, b, s, hp, hi => by
    obtain ⟨s1, s2, h1, h2, h3, h4⟩ := step b x xs s hp hi
    obtain ⟨s', h5, h6, h7⟩ := forM_go I f P step xs (f b x) s2 h4 h3
    exact ⟨s', by rw [List.map_cons, forM_step h1 h2]; exact h5, h6, h7⟩
/-- a loop that may hand back: all items pass (T), or the first that does not hands v back -/
theorem forM_all {α : Type} {tg : Tg} {body : M Fl} {v : α → Val} (I : S → Prop) (T : α → Bool) (w : SV)
    (step : ∀ x s, I s → ∃ s1 s2, asg tg (v x) s = some (.ok () s1) ∧ I s2 ∧ body s1 = some (.ok (if T x then .nx else .rt w) s2)) :
    ∀ (xs : List α) (s : S), I s → ∃ s', I s' ∧ forM tg body (xs.map v) s = some (.ok (if xs.all T then .nx else .rt w) s')
  | [], s, hi => ⟨s, hi, rfl⟩
  | x :: xs, s, hi => by
    obtain ⟨s1, s2, h1, h2, h3⟩ := step x s hi
    cases ht : T x with
    | false =>
      rw [ht] at h3
      exact ⟨s2, h2, by rw [List.map_cons, forM_ret h1 h3]; simp [ht]⟩
    | true =>
      rw [ht] at h3
      obtain ⟨s', h4, h5⟩ := forM_all I T w step xs s2 h2
      exact ⟨s', h4, by rw [List.map_cons, forM_step h1 h3, h5]; simp [ht]⟩
/-- a loop: I of what is left and the state -/
theorem forM_inv {α : Type} {tg : Tg} {body : M Fl} {v : α → Val} (I : List α → S → Prop)
    (step : ∀ x r s, I (x :: r) s → ∃ s1 s2, asg tg (v x) s = some (.ok () s1) ∧ body s1 = some (.ok .nx s2) ∧ I r s2) :
    ∀ (xs : List α) (s : S), I xs s → ∃ s', forM tg body (xs.map v) s = some (.ok .nx s') ∧ I [] s'
  | [], s, hi => ⟨s, rfl, hi⟩
  | x :: xs, s, hi => by
    obtain ⟨s1, s2, h1, h2, h3⟩ := step x xs s hi
    obtain ⟨s', h5, h6⟩ := forM_inv I step xs s2 h3
    exact ⟨s', by rw [List.map_cons, forM_step h1 h2]; exact h5, h6⟩
theorem small_le {i : Int} (h : i.natAbs < 2 ^ 1000) : small i = true := by
  unfold small lim
  exact decide_eq_true (Nat.lt_of_lt_of_le h (Nat.pow_le_pow_right (by decide) (by decide)))
@[simp] theorem rOk_len {n : Nat} (h : n ≤ 16777216) : rOk (n : Int) = true := by
  unfold rOk
  exact decide_eq_true ⟨by omega, by omega⟩
end Py.Q
end

section
set_option autoImplicit false
/-! Fractions in lowest terms as pairs of integers. -/
namespace Py.Q
/-- the greatest common divisor, as an integer -/
def gc (a b : Int) : Int := (Int.gcd a b : Int)
/-- the fraction n / d in lowest terms -/
def fr (n d : Int) : Int × Int := (n / gc n d, d / gc n d)
/-- a pair in lowest terms -/
def isFr (p : Int × Int) : Prop := 0 < p.2 ∧ gc p.1 p.2 = 1
theorem gc_pos {a b : Int} (h : b ≠ 0) : 0 < gc a b := by
  unfold gc
  have := Int.gcd_pos_of_ne_zero_right a h
  omega
theorem gc_le {a b : Int} (h : 0 < b) : gc a b ≤ b := Int.le_of_dvd h (Int.gcd_dvd_right ..)
theorem fr_of {n d p q : Int} (hd : 0 < d) (hq : 0 < q) (hg : gc p q = 1) (h : p * d = n * q) : fr n d = (p, q) := by
  have hg2 : Int.gcd q p = 1 := by
    unfold gc at hg
    rw [Int.gcd_comm]
    omega
  have h1 : q ∣ d := by
    have : q ∣ p * d := ⟨n, by rw [h, Int.mul_comm]⟩
    have h2 : q ∣ (Int.gcd q p : Int) * d := Int.dvd_gcd_mul_iff_dvd_mul.mpr this
    rw [hg2] at h2
    simpa using h2
  obtain ⟨c, rfl⟩ := h1
  have hc : 0 < c := Int.pos_of_mul_pos_right hd hq
  have hn : n = p * c := by
    have : q * n = q * (p * c) := by
      have : p * (q * c) = q * (p * c) := by grind
      rw [← this, h, Int.mul_comm]
    exact Int.eq_of_mul_eq_mul_left (by omega) this
  subst hn
  have g : gc (p * c) (q * c) = c := by
    unfold gc at *
    rw [Int.gcd_mul_right]
    have : Int.gcd p q = 1 := by omega
    rw [this]
    omega
  unfold fr
  rw [g, Int.mul_ediv_cancel _ (by omega), Int.mul_ediv_cancel _ (by omega)]
theorem fr_isFr {n d : Int} (hd : 0 < d) : isFr (fr n d) := by
  have g0 := gc_pos (a := n) (b := d) (by omega)
  refine ⟨?_, ?_⟩
  · show 0 < d / gc n d
    exact Int.ediv_pos_of_pos_of_dvd hd (by omega) (Int.gcd_dvd_right ..)
  · unfold fr gc
    dsimp only
    rw [Int.gcd_ediv_gcd_ediv_gcd (by unfold gc at g0; omega)]
    rfl
theorem fr_cross {n d : Int} (hd : 0 < d) : (fr n d).1 * d = n * (fr n d).2 := by
  have g0 := gc_pos (a := n) (b := d) (by omega)
  obtain ⟨a, ha⟩ : gc n d ∣ n := Int.gcd_dvd_left ..
  obtain ⟨b, hb⟩ : gc n d ∣ d := Int.gcd_dvd_right ..
  show n / gc n d * d = n * (d / gc n d)
  generalize hg : gc n d = g at *
  subst ha hb
  rw [Int.mul_ediv_cancel_left _ (by omega), Int.mul_ediv_cancel_left _ (by omega)]
  grind
theorem fr_self {p : Int × Int} (h : isFr p) : fr p.1 p.2 = p := by
  rw [fr_of h.1 h.1 h.2 rfl]
theorem fr_eq {n d n' d' : Int} (hd : 0 < d) (hd' : 0 < d') : fr n d = fr n' d' ↔ n * d' = n' * d := by
  constructor
  · intro h
    have h1 := fr_cross (n := n) hd
    have h2 := fr_cross (n := n') hd'
    have h3 := (fr_isFr (n := n) hd).1
    rw [← h] at h2
    have : (fr n d).2 * (n * d') = (fr n d).2 * (n' * d) := by grind
    exact Int.eq_of_mul_eq_mul_left (by omega) this
  · intro h
    have h1 := fr_cross (n := n) hd
    have q := fr_isFr (n := n) hd
    have : fr n' d' = ((fr n d).1, (fr n d).2) := fr_of hd' q.1 q.2 (by
      have : d * ((fr n d).1 * d') = d * (n' * (fr n d).2) := by grind
      exact Int.eq_of_mul_eq_mul_left (by omega) this)
    rw [this]
theorem fr_den_le {n d : Int} (hd : 0 < d) : (fr n d).2 ≤ d := Int.ediv_le_self _ (by omega)
theorem fr_num_le {n d : Int} (hd : 0 < d) : (fr n d).1.natAbs ≤ n.natAbs := by
  obtain ⟨a, ha⟩ : gc n d ∣ n := Int.gcd_dvd_left ..
  have g0 := gc_pos (a := n) (b := d) (by omega)
  show (n / gc n d).natAbs ≤ n.natAbs
  generalize hg : gc n d = g at *
  subst ha
  rw [Int.mul_ediv_cancel_left _ (by omega), Int.natAbs_mul]
  exact Nat.le_mul_of_pos_left _ (by omega)
theorem fr_den_pos {n d : Int} (hd : 0 < d) : 0 < (fr n d).2 := (fr_isFr hd).1
/-- sums, differences, products of fractions -/
theorem fr_add {a b c d : Int} (hb : 0 < b) (hd : 0 < d) : fr ((fr a b).1 * (fr c d).2 + (fr c d).1 * (fr a b).2) ((fr a b).2 * (fr c d).2) = fr (a * d + c * b) (b * d) := by
  have h1 := fr_cross (n := a) hb
  have h2 := fr_cross (n := c) hd
  have h3 := fr_den_pos (n := a) hb
  have h4 := fr_den_pos (n := c) hd
  refine (fr_eq (Int.mul_pos h3 h4) (Int.mul_pos hb hd)).mpr ?_
  grind
theorem fr_sub {a b c d : Int} (hb : 0 < b) (hd : 0 < d) : fr ((fr a b).1 * (fr c d).2 - (fr c d).1 * (fr a b).2) ((fr a b).2 * (fr c d).2) = fr (a * d - c * b) (b * d) := by
  have h1 := fr_cross (n := a) hb
  have h2 := fr_cross (n := c) hd
  have h3 := fr_den_pos (n := a) hb
  have h4 := fr_den_pos (n := c) hd
  refine (fr_eq (Int.mul_pos h3 h4) (Int.mul_pos hb hd)).mpr ?_
  grind
theorem fr_mul {a b c d : Int} (hb : 0 < b) (hd : 0 < d) : fr ((fr a b).1 * (fr c d).1) ((fr a b).2 * (fr c d).2) = fr (a * c) (b * d) := by
  have h1 := fr_cross (n := a) hb
  have h2 := fr_cross (n := c) hd
  have h3 := fr_den_pos (n := a) hb
  have h4 := fr_den_pos (n := c) hd
  refine (fr_eq (Int.mul_pos h3 h4) (Int.mul_pos hb hd)).mpr ?_
  grind
theorem fr_lt {a b c d : Int} (hb : 0 < b) (hd : 0 < d) : (fr a b).1 * (fr c d).2 < (fr c d).1 * (fr a b).2 ↔ a * d < c * b := by
  have h1 := fr_cross (n := a) hb
  have h2 := fr_cross (n := c) hd
  have h3 := fr_den_pos (n := a) hb
  have h4 := fr_den_pos (n := c) hd
  have e1 : (fr a b).1 * (fr c d).2 * (b * d) = (a * d) * ((fr a b).2 * (fr c d).2) := by grind
  have e2 : (fr c d).1 * (fr a b).2 * (b * d) = (c * b) * ((fr a b).2 * (fr c d).2) := by grind
  have p1 : 0 < b * d := Int.mul_pos hb hd
  have p2 : 0 < (fr a b).2 * (fr c d).2 := Int.mul_pos h3 h4
  constructor
  · intro h
    have := Int.mul_lt_mul_of_pos_right h p1
    rw [e1, e2] at this
    exact Int.lt_of_mul_lt_mul_right this (Int.le_of_lt p2)
  · intro h
    have := Int.mul_lt_mul_of_pos_right h p2
    rw [← e1, ← e2] at this
    exact Int.lt_of_mul_lt_mul_right this (Int.le_of_lt p1)
theorem fr_scale {n d c : Int} (hd : 0 < d) (hc : 0 < c) : fr (n * c) (d * c) = fr n d := (fr_eq (Int.mul_pos hd hc) hd).mpr (by grind)
theorem fr_zero {d : Int} (hd : 0 < d) : fr 0 d = (0, 1) := fr_of hd (by decide) (by decide) (by simp)
theorem fr_one {d : Int} (hd : 0 < d) : fr d d = (1, 1) := fr_of hd (by decide) (by decide) (by simp)
theorem fr_num_zero {n d : Int} (hd : 0 < d) : (fr n d).1 = 0 ↔ n = 0 := by
  have h1 := fr_cross (n := n) hd
  have h3 := fr_den_pos (n := n) hd
  constructor
  · intro h
    rw [h, Int.zero_mul] at h1
    rcases Int.mul_eq_zero.mp h1.symm with z | z <;> omega
  · intro h
    rw [h, Int.zero_mul] at h1
    rcases Int.mul_eq_zero.mp h1 with z | z
    · rw [h]; exact z
    · omega
end Py.Q
end

section
set_option autoImplicit false
set_option linter.all false
set_option Elab.async false
set_option maxRecDepth 100000
set_option maxHeartbeats 4000000
set_option exponentiation.threshold 5000
namespace Py.Q
def vfr (p : Int × Int) : Val := .tup [.int p.1, .int p.2]
theorem gcd_step (a b : Nat) : Nat.gcd a b = Nat.gcd b (a % b) := by
  rw [Nat.gcd_comm, Nat.gcd_rec, Nat.gcd_comm]
theorem fmod_nat (a b : Nat) : (a : Int).fmod b = ((a % b : Nat) : Int) := by
  rw [Int.fmod_eq_emod_of_nonneg _ (Int.natCast_nonneg b), Int.natCast_emod]
theorem common_loop (K : Kn) (m : Mem) : ∀ (b a : Nat), whileM (testM K (.cmp (.s 1) (.one .ne (.c (.int 0))))) (exs K b_common_1) ⟨[some (.val (.int a)), some (.val (.int b))], m⟩ = some (.ok .nx ⟨[some (.val (.int (Nat.gcd a b))), some (.val (.int 0))], m⟩) := by
  intro b
  induction b using Nat.strongRecOn with
  | ind b ih =>
    intro a
    by_cases hb : b = 0
    · subst hb
      rw [whileM_f (s1 := ⟨[some (.val (.int a)), some (.val (.int 0))], m⟩) (by simp)]
      simp
    · have h1 : exs K b_common_1 ⟨[some (.val (.int a)), some (.val (.int b))], m⟩ = some (.ok .nx ⟨[some (.val (.int b)), some (.val (.int ((a % b : Nat) : Int)))], m⟩) := by
        simp [b_common_1, hb, fmod_nat]
      have h2 := ih (a % b) (Nat.mod_lt _ (by omega)) b
      rw [← gcd_step] at h2
      rw [whileM_t (by simp [hb]) h1]
      exact h2
@[simp] theorem common_ok (k : Nat) (a b : Int) (m : Mem) : callK Pp (k + 1) 1 [.int a, .int b] m = some (.ok (.val (.int (gc a b))) m) := by
  rw [call_eq rfl rfl]
  have h := common_loop (callK Pp k) m b.natAbs a.natAbs
  simp [d_common, h, gc, Int.gcd, frame]
theorem fdiv_eq {a b : Int} (h : 0 < b) : a.fdiv b = a / b := Int.fdiv_eq_ediv_of_nonneg _ (by omega)
/-- numbers far below the limit -/
def Sm (i : Int) : Prop := i.natAbs < 2 ^ 1900
theorem Sm.small {i : Int} (h : Sm i) : small i = true := by
  unfold Sm at h
  unfold Py.small lim
  exact decide_eq_true (Nat.lt_of_lt_of_le h (Nat.pow_le_pow_right (by decide) (by decide)))
theorem sm2 {i j : Int} (h : Sm i) (h2 : Sm j) : small (i * j) = true := by
  unfold Sm at h h2
  unfold Py.small lim
  refine decide_eq_true ?_
  rw [Int.natAbs_mul]
  refine Nat.lt_of_lt_of_le (Nat.mul_lt_mul'' h h2) ?_
  rw [← Nat.pow_add]
  exact Nat.pow_le_pow_right (by decide) (by decide)
theorem Sm.le {i j : Int} (h : Sm j) (h1 : i.natAbs ≤ j.natAbs) : Sm i := Nat.lt_of_le_of_lt h1 h
theorem small_lt {i j : Int} (h : small j = true) (h0 : 0 ≤ i) (h1 : i ≤ j) : small i = true := by
  unfold small at *
  have := of_decide_eq_true h
  exact decide_eq_true (by omega)
theorem lowest_ok (k : Nat) (n d : Int) (m : Mem) (h : 0 < d) (hs : small d = true) : callK Pp (k + 2) 2 [.int n, .int d] m = some (.ok (.val (vfr (fr n d))) m) := by
  have g0 := gc_pos (a := n) (b := d) (by omega)
  have g1 := small_lt hs (by omega) (gc_le (a := n) h)
  have g2 : ¬ d < 0 := by omega
  have g3 : gc n d ≠ 0 := by omega
  rw [call_eq rfl rfl]
  simp [d_lowest, frame, g2, g1, g3, fdiv_eq g0, vfr, fr]
theorem plus_ok (k : Nat) {a b c d : Int} (m : Mem) (hb : 0 < b) (hd : 0 < d) (sa : Sm a) (sb : Sm b) (sc : Sm c) (sd : Sm d) : callK Pp (k + 3) 88 [vfr (fr a b), vfr (fr c d)] m = some (.ok (.val (vfr (fr (a * d + c * b) (b * d)))) m) := by
  have p1 := fr_den_pos (n := a) hb
  have p2 := fr_den_pos (n := c) hd
  have q1 : Sm (fr a b).2 := sb.le (by have := fr_den_le (n := a) hb; omega)
  have q2 : Sm (fr c d).2 := sd.le (by have := fr_den_le (n := c) hd; omega)
  have r1 : Sm (fr a b).1 := sa.le (fr_num_le hb)
  have r2 : Sm (fr c d).1 := sc.le (fr_num_le hd)
  rw [call_eq rfl rfl, ← fr_add hb hd]
  simp [d_plus, frame, vfr, q1.small, q2.small, r1.small, r2.small, lowest_ok, Int.mul_pos p1 p2, sm2 q1 q2]
theorem minus_ok (k : Nat) {a b c d : Int} (m : Mem) (hb : 0 < b) (hd : 0 < d) (sa : Sm a) (sb : Sm b) (sc : Sm c) (sd : Sm d) : callK Pp (k + 3) 89 [vfr (fr a b), vfr (fr c d)] m = some (.ok (.val (vfr (fr (a * d - c * b) (b * d)))) m) := by
  have p1 := fr_den_pos (n := a) hb
  have p2 := fr_den_pos (n := c) hd
  have q1 : Sm (fr a b).2 := sb.le (by have := fr_den_le (n := a) hb; omega)
  have q2 : Sm (fr c d).2 := sd.le (by have := fr_den_le (n := c) hd; omega)
  have r1 : Sm (fr a b).1 := sa.le (fr_num_le hb)
  have r2 : Sm (fr c d).1 := sc.le (fr_num_le hd)
  rw [call_eq rfl rfl, ← fr_sub hb hd]
  simp [d_minus, frame, vfr, q1.small, q2.small, r1.small, r2.small, lowest_ok, Int.mul_pos p1 p2, sm2 q1 q2]
theorem times_ok (k : Nat) {a b c d : Int} (m : Mem) (hb : 0 < b) (hd : 0 < d) (sa : Sm a) (sb : Sm b) (sc : Sm c) (sd : Sm d) : callK Pp (k + 3) 90 [vfr (fr a b), vfr (fr c d)] m = some (.ok (.val (vfr (fr (a * c) (b * d)))) m) := by
  have p1 := fr_den_pos (n := a) hb
  have p2 := fr_den_pos (n := c) hd
  have q1 : Sm (fr a b).2 := sb.le (by have := fr_den_le (n := a) hb; omega)
  have q2 : Sm (fr c d).2 := sd.le (by have := fr_den_le (n := c) hd; omega)
  have r1 : Sm (fr a b).1 := sa.le (fr_num_le hb)
  have r2 : Sm (fr c d).1 := sc.le (fr_num_le hd)
  rw [call_eq rfl rfl, ← fr_mul hb hd]
  simp [d_times, frame, vfr, q1.small, q2.small, r1.small, r2.small, lowest_ok, Int.mul_pos p1 p2, sm2 q1 q2]
theorem below_ok (k : Nat) {a b c d : Int} (m : Mem) (hb : 0 < b) (hd : 0 < d) (sa : Sm a) (sb : Sm b) (sc : Sm c) (sd : Sm d) : callK Pp (k + 3) 92 [vfr (fr a b), vfr (fr c d)] m = some (.ok (.val (.bl (decide (a * d < c * b)))) m) := by
  have p1 := fr_den_pos (n := a) hb
  have p2 := fr_den_pos (n := c) hd
  have q1 : Sm (fr a b).2 := sb.le (by have := fr_den_le (n := a) hb; omega)
  have q2 : Sm (fr c d).2 := sd.le (by have := fr_den_le (n := c) hd; omega)
  have r1 : Sm (fr a b).1 := sa.le (fr_num_le hb)
  have r2 : Sm (fr c d).1 := sc.le (fr_num_le hd)
  rw [call_eq rfl rfl]
  simp [d_below, frame, vfr, q1.small, q2.small, r1.small, r2.small, fr_lt hb hd]
/-! ### the law's own fraction -/
theorem frac_loop (K : Kn) (v0 v1 : Option SV) (m : Mem) : ∀ (b a : Nat), whileM (testM K (.cmp (.s 3) (.one .gt (.c (.int 0))))) (exs K b_law_frac_1) ⟨[v0, v1, some (.val (.int a)), some (.val (.int b))], m⟩ = some (.ok .nx ⟨[v0, v1, some (.val (.int (Nat.gcd a b))), some (.val (.int 0))], m⟩) := by
  intro b
  induction b using Nat.strongRecOn with
  | ind b ih =>
    intro a
    by_cases hb : b = 0
    · subst hb
      rw [whileM_f (s1 := ⟨[v0, v1, some (.val (.int a)), some (.val (.int 0))], m⟩) (by simp)]
      simp
    · have h1 : exs K b_law_frac_1 ⟨[v0, v1, some (.val (.int a)), some (.val (.int b))], m⟩ = some (.ok .nx ⟨[v0, v1, some (.val (.int b)), some (.val (.int ((a % b : Nat) : Int)))], m⟩) := by
        simp [b_law_frac_1, hb, fmod_nat]
      have h2 := ih (a % b) (Nat.mod_lt _ (by omega)) b
      rw [← gcd_step] at h2
      have hb' : 0 < b := by omega
      rw [whileM_t (by simp [hb']) h1]
      exact h2
theorem law_frac_ok (k : Nat) (n d : Int) (m : Mem) (h : 0 < d) (hs : small d = true) : callK Pp (k + 1) 20 [.int n, .int d] m = some (.ok (.val (vfr (fr n d))) m) := by
  have g0 := gc_pos (a := n) (b := d) (by omega)
  have g1 := small_lt hs (by omega) (gc_le (a := n) h)
  have g3 : gc n d ≠ 0 := by omega
  rw [call_eq rfl rfl]
  have e := frac_loop (callK Pp k) (some (.val (.int n))) (some (.val (.int d))) m d.natAbs n.natAbs
  have e2 : ((d.natAbs : Nat) : Int) = d := by omega
  have e3 : ((n.natAbs.gcd d.natAbs : Nat) : Int) = gc n d := rfl
  rw [e2, e3] at e
  simp [d_law_frac, frame, e, g1, g3, fdiv_eq g0, vfr, fr]
end Py.Q
end

section
set_option autoImplicit false
set_option linter.all false
set_option Elab.async false
set_option maxRecDepth 100000
set_option maxHeartbeats 4000000
set_option exponentiation.threshold 5000
/-! The numbers that the laws draw. -/
namespace Py.Q
structure Drw where
  xs : List Int
  pos : Int
  cur : Int
  seed : Int
def Drw.v (d : Drw) : List Val := [.lst (d.xs.map .int), .int d.pos, .int d.cur, .int d.seed]
structure Drw.Ok (d : Drw) : Prop where
  xs : ∀ x ∈ d.xs, 0 ≤ x
  pos : -1 ≤ d.pos
  cur : 0 ≤ d.cur
  seed : 0 ≤ d.seed ∧ d.seed < 2147483647
/-- the first cell is a state to draw from -/
def DOk (m : Mem) (r : Mem) : Prop := ∃ d : Drw, d.Ok ∧ m = d.v :: r
theorem sm_lit {i : Int} (h : i.natAbs < 2 ^ 64) : small i = true := Sm.small (Nat.lt_of_lt_of_le h (Nat.pow_le_pow_right (by decide) (by decide)))
def nextSeed (s : Int) : Int := (s * 48271 + 11).fmod 2147483647
def Drw.load (d : Drw) : Drw :=
  if d.cur ≠ 0 then d
  else if h : (d.pos + 1).toNat < d.xs.length then
    (if d.xs[(d.pos + 1).toNat] = 0 then { d with pos := d.pos + 1, seed := nextSeed d.seed, cur := nextSeed d.seed } else { d with pos := d.pos + 1, cur := d.xs[(d.pos + 1).toNat] })
  else { d with pos := d.pos + 1, seed := nextSeed d.seed, cur := nextSeed d.seed }
theorem nextSeed_ok (s : Int) : 0 ≤ nextSeed s ∧ nextSeed s < 2147483647 := ⟨Int.fmod_nonneg_of_pos _ (by decide), Int.fmod_lt_of_pos _ (by decide)⟩
theorem Drw.load_ok {d : Drw} (h : d.Ok) : d.load.Ok := by
  have n := nextSeed_ok d.seed
  have p := h.pos
  unfold Drw.load
  split
  · exact h
  · split
    · split
      · exact ⟨h.xs, by show -1 ≤ d.pos + 1; omega, n.1, n⟩
      · exact ⟨h.xs, by show -1 ≤ d.pos + 1; omega, h.xs _ (List.getElem_mem _), h.seed⟩
    · exact ⟨h.xs, by show -1 ≤ d.pos + 1; omega, n.1, n⟩
theorem putL_0 {v a : Val} {xs : List Val} : putL 0 v (a :: xs) = some (v :: xs) := putL_at (xs := a :: xs) (k := 0) (by simp)
theorem putL_1 {v a b : Val} {xs : List Val} : putL 1 v (a :: b :: xs) = some (a :: v :: xs) := putL_at (xs := a :: b :: xs) (k := 1) (by simp)
theorem putL_2 {v a b c : Val} {xs : List Val} : putL 2 v (a :: b :: c :: xs) = some (a :: b :: v :: xs) := putL_at (xs := a :: b :: c :: xs) (k := 2) (by simp)
theorem putL_3 {v a b c d : Val} {xs : List Val} : putL 3 v (a :: b :: c :: d :: xs) = some (a :: b :: c :: v :: xs) := putL_at (xs := a :: b :: c :: d :: xs) (k := 3) (by simp)
@[simp] theorem pure_int {i : Int} : (Val.int i).pure = true := by rfl
theorem trim_p {v : Val} {m m' : Mem} (h : v.pure = true) (hl : m'.length ≤ m.length) : trim m (.val v) m' = m' := by
  unfold trim
  have : SV.pure (.val v) = true := h
  rw [this, if_pos rfl]
  exact List.take_of_length_le hl
theorem take1 (k : Nat) (d : Drw) (many : Int) (r : Mem) (hc : d.cur ≠ 0) (h0 : 0 < many) (h1 : many < 2 ^ 64) :
    callK Pp (k + 1) 17 [.loc 0, .int many] (d.v :: r) = some (.ok (.val (.int (d.cur.fmod many))) ({ d with cur := d.cur.fdiv many }.v :: r)) := by
  rw [call_eq rfl rfl]
  have hs : small many = true := sm_lit (by omega)
  have hz : many ≠ 0 := by omega
  unfold Drw.v
  simp [d_law_take, frame, hc, hs, hz, putL_0, putL_1, putL_2, putL_3, trim_p]
theorem take2 (k : Nat) (d : Drw) (many : Int) (r : Mem) (ok : d.Ok) (h0 : 0 < many) (h1 : many < 2 ^ 64) :
    callK Pp (k + 1) 17 [.loc 0, .int many] (d.v :: r) = some (.ok (.val (.int (d.load.cur.fmod many))) ({ d.load with cur := d.load.cur.fdiv many }.v :: r)) := by
  by_cases hc : d.cur ≠ 0
  · have e : d.load = d := by unfold Drw.load; rw [if_pos hc]
    rw [e]
    exact take1 k d many r hc h0 h1
  · have hs : small many = true := sm_lit (by omega)
    have hz : many ≠ 0 := by omega
    have hc : d.cur = 0 := by omega
    have sd : small d.seed = true := sm_lit (by have := ok.seed; omega)
    have sc : small 48271 = true := sm_lit (by decide)
    have hp := ok.pos
    rw [call_eq rfl rfl]
    by_cases hl : (d.pos + 1).toNat < d.xs.length
    · have hl2 : d.pos + 1 < d.xs.length := by omega
      have gx : getI (d.xs.map .int) (d.pos + 1) = some (.int d.xs[(d.pos + 1).toNat]) := by
        have := getI_int hl
        rw [show (((d.pos + 1).toNat : Nat) : Int) = d.pos + 1 by omega] at this
        exact this
      generalize hx : d.xs[(d.pos + 1).toNat] = x at gx
      by_cases hx0 : x = 0
      · have e : d.load = { d with pos := d.pos + 1, seed := nextSeed d.seed, cur := nextSeed d.seed } := by unfold Drw.load; rw [if_neg (by omega), dif_pos hl, if_pos (by rw [hx]; exact hx0)]
        rw [e]
        subst hx0
        unfold Drw.v
        simp [d_law_take, frame, hc, hs, hz, hl2, gx, sd, sc, nextSeed, putL_0, putL_1, putL_2, putL_3, trim_p]
      · have e : d.load = { d with pos := d.pos + 1, cur := x } := by unfold Drw.load; rw [if_neg (by omega), dif_pos hl, if_neg (by rw [hx]; exact hx0), hx]
        rw [e]
        unfold Drw.v
        simp [d_law_take, frame, hc, hs, hz, hl2, gx, sd, sc, nextSeed, hx0, putL_0, putL_1, putL_2, putL_3, trim_p]
    · have hl2 : ¬ d.pos + 1 < d.xs.length := by omega
      have e : d.load = { d with pos := d.pos + 1, seed := nextSeed d.seed, cur := nextSeed d.seed } := by unfold Drw.load; rw [if_neg (by omega), dif_neg hl]
      rw [e]
      unfold Drw.v
      simp [d_law_take, frame, hc, hs, hz, hl2, sd, sc, nextSeed, putL_0, putL_1, putL_2, putL_3, trim_p]
/-- a number is drawn -/
theorem take_ok (k : Nat) (many : Int) {m r : Mem} (hm : DOk m r) (h0 : 0 < many) (h1 : many < 2 ^ 64) :
    ∃ n m', 0 ≤ n ∧ n < many ∧ DOk m' r ∧ callK Pp (k + 1) 17 [.loc 0, .int many] m = some (.ok (.val (.int n)) m') := by
  obtain ⟨d, ok, rfl⟩ := hm
  have q := Drw.load_ok ok
  refine ⟨_, _, Int.fmod_nonneg_of_pos _ h0, Int.fmod_lt_of_pos _ h0, ⟨{ d.load with cur := d.load.cur.fdiv many }, ⟨q.xs, q.pos, ?_, q.seed⟩, rfl⟩, take2 k d many r ok h0 h1⟩
  show 0 ≤ d.load.cur.fdiv many
  rw [fdiv_eq h0]
  exact Int.ediv_nonneg q.cur (by omega)
def seedStep (s c : Int) : Int := (s * 48271 + (c.natAbs : Int).fmod 65521 + 1).fmod 2147483647
theorem draw_loop (K : Kn) (v0 : Option SV) (m : Mem) (ns : List Int) (o : Option SV) : ∃ s' o', 0 ≤ s' ∧ s' < 2147483647 ∧ forM (.n 2) (exs K b_law_draw_1) (ns.map .int) ⟨[v0, some (.val (.int 7)), o], m⟩ = some (.ok .nx ⟨[v0, some (.val (.int s')), o'], m⟩) := by
  obtain ⟨s', h, ⟨a, o', h1, h2, rfl⟩⟩ := forM_inv (tg := .n 2) (body := exs K b_law_draw_1) (v := Val.int) (fun r s => ∃ a o, 0 ≤ a ∧ a < 2147483647 ∧ s = (⟨[v0, some (.val (.int a)), o], m⟩ : S))
    (by
      rintro c r s ⟨a, o, h0, h1, rfl⟩
      have s1 : small a = true := sm_lit (by omega)
      have s2 : small 48271 = true := sm_lit (by decide)
      exact ⟨_, _, rfl, (by simp [b_law_draw_1, s1, s2]; rfl : exs K b_law_draw_1 ⟨[v0, some (.val (.int a)), some (.val (.int c))], m⟩ = some (.ok .nx ⟨[v0, some (.val (.int (seedStep a c))), some (.val (.int c))], m⟩)), _, _, Int.fmod_nonneg_of_pos _ (by decide), Int.fmod_lt_of_pos _ (by decide), rfl⟩)
    ns ⟨[v0, some (.val (.int 7)), o], m⟩ ⟨7, o, by decide, by decide, rfl⟩
  exact ⟨a, o', h1, h2, h⟩
theorem draw_ok (k : Nat) (ns : List Int) (h : ns.length ≤ 63) : ∃ m, DOk m [] ∧ callK Pp (k + 1) 16 [.scr (ns.map .int)] [] = some (.ok (.val (.loc 0)) m) := by
  obtain ⟨s', o', g1, g2, e⟩ := draw_loop (callK Pp k) (some (.val (.scr (ns.map .int)))) [] ns none
  refine ⟨_, ⟨⟨ns.map fun c => (c.natAbs : Int), -1, 0, s'⟩, ⟨fun x hx => ?_, Int.le_refl _, Int.le_refl _, g1, g2⟩, rfl⟩, ?_⟩
  · obtain ⟨c, _, rfl⟩ := List.mem_map.mp hx
    omega
  · rw [call_eq rfl rfl]
    have c : ∀ t, ev (callK Pp k) c_law_draw_1 t ⟨[some (.val (.scr (ns.map .int))), some (.val (.int s')), o'], []⟩ = some (.ok (.own ((ns.map fun c => (c.natAbs : Int)).map .int)) ⟨[some (.val (.scr (ns.map .int))), some (.val (.int s')), o'], []⟩) := fun t => by
      have q := ev_lc (K := callK Pp k) (own := [2]) (tg := .n 2) (it := .e (.s 0)) (ifs := .nil) (e := .pr .abs (.cons (.pr .int (.cons (.s 2) .nil)) .nil)) (t := t) (s := ⟨[some (.val (.scr (ns.map .int))), some (.val (.int s')), o'], []⟩) (v := Val.int) (xs := ns) (fun c => some (.int (c.natAbs : Int))) (by simp) (fun c hc => ⟨⟨[some (.val (.scr (ns.map .int))), some (.val (.int s')), some (.val (.int c))], []⟩, by simp [wiped, wipe], by simp [wiped, wipe]⟩) (by simp [filterMap_some, fits, szl]; omega)
      rw [filterMap_some] at q
      rw [List.map_map]
      exact q
    simp [d_law_draw, frame, e, c, Drw.v, trim, SV.pure, Val.pure, Val.flat]
end Py.Q
end

section
set_option autoImplicit false
set_option linter.all false
set_option Elab.async false
set_option maxRecDepth 100000
set_option maxHeartbeats 4000000
/-! Lists as functions of the place. -/
namespace Py.Q
def arr {α : Type} (n : Nat) (f : Nat → α) : List α := (List.range n).map f
section
variable {α β : Type}
@[simp] theorem arr_length {n : Nat} {f : Nat → α} : (arr n f).length = n := by simp [arr]
theorem arr_get {n : Nat} {f : Nat → α} {k : Nat} (h : k < n) : (arr n f)[k]? = some (f k) := by simp [arr, h]
@[simp] theorem arr_getE {n : Nat} {f : Nat → α} {k : Nat} (h : k < (arr n f).length) : (arr n f)[k] = f k := by simp [arr]
@[simp] theorem arr_map {n : Nat} {f : Nat → α} {g : α → β} : (arr n f).map g = arr n fun i => g (f i) := by simp [arr]
theorem arr_congr {n : Nat} {f g : Nat → α} (h : ∀ i, i < n → f i = g i) : arr n f = arr n g := by
  unfold arr
  exact List.map_congr_left fun i hi => h i (List.mem_range.mp hi)
theorem arr_inj {n : Nat} {f g : Nat → α} (h : arr n f = arr n g) : ∀ i, i < n → f i = g i := fun i hi => by
  have : (arr n f)[i]? = (arr n g)[i]? := by rw [h]
  rw [arr_get hi, arr_get hi] at this
  exact Option.some.inj this
theorem arr_of (xs : List α) (f : Nat → α) (h : ∀ i, i < xs.length → xs[i]? = some (f i)) : xs = arr xs.length f := by
  refine List.ext_getElem? fun i => ?_
  by_cases hi : i < xs.length
  · rw [h i hi, arr_get hi]
  · rw [List.getElem?_eq_none (by omega), List.getElem?_eq_none (by simp; omega)]
/-- the item at a place, d beyond the end -/
def gD (xs : List α) (d : α) (i : Nat) : α := xs.getD i d
theorem gD_get {xs : List α} {d : α} {i : Nat} (h : i < xs.length) : xs[i]? = some (gD xs d i) := by simp [gD, List.getD_eq_getElem?_getD, h]
theorem arr_gD (xs : List α) (d : α) : xs = arr xs.length (gD xs d) := arr_of xs _ fun i hi => gD_get hi
theorem gD_mem {xs : List α} {d : α} {i : Nat} (h : i < xs.length) : gD xs d i ∈ xs := List.mem_of_getElem? (gD_get h)
theorem gD_map {xs : List α} {d : α} {g : α → β} {i : Nat} : gD (xs.map g) (g d) i = g (gD xs d i) := by
  unfold gD
  rw [List.getD_eq_getElem?_getD, List.getD_eq_getElem?_getD, List.getElem?_map]
  cases xs[i]? <;> rfl
@[simp] theorem gD_arr {n i : Nat} {f : Nat → α} {d : α} (h : i < n) : gD (arr n f) d i = f i := by
  have h1 := arr_get (f := f) h
  rw [gD_get (d := d) (by simpa using h)] at h1
  exact Option.some.inj h1
theorem gD_snoc {xs : List α} {d x : α} : gD (xs ++ [x]) d xs.length = x := by simp [gD, List.getD_eq_getElem?_getD]
theorem gD_left {xs ys : List α} {d : α} {i : Nat} (h : i < xs.length) : gD (xs ++ ys) d i = gD xs d i := by
  unfold gD
  rw [List.getD_eq_getElem?_getD, List.getD_eq_getElem?_getD, List.getElem?_append_left h]
@[simp] theorem gD_cons0 {x d : α} {xs : List α} : gD (x :: xs) d 0 = x := by rfl
@[simp] theorem gD_cons {x d : α} {xs : List α} {i : Nat} : gD (x :: xs) d (i + 1) = gD xs d i := by rfl
theorem ext_arr {xs : List α} {n : Nat} {f : Nat → α} (hl : xs.length = n) (h : ∀ i, i < n → xs[i]? = some (f i)) : xs = arr n f := by
  subst hl
  exact arr_of xs f h
@[simp] theorem arr_zero {f : Nat → α} : arr 0 f = [] := rfl
theorem arr_succ {n : Nat} {f : Nat → α} : arr (n + 1) f = arr n f ++ [f n] := by simp [arr, List.range_succ]
theorem arr_cons {n : Nat} {f : Nat → α} : arr (n + 1) f = f 0 :: arr n fun i => f (i + 1) := by
  refine (ext_arr (by simp) fun i hi => ?_).symm
  cases i with
  | zero => rfl
  | succ i => simp [arr_get (show i < n by omega)]
theorem arr_rep {n : Nat} {x : α} : List.replicate n x = arr n fun _ => x := ext_arr (by simp) fun i hi => by simp [hi]
@[simp] theorem arr_set {n k : Nat} {f : Nat → α} {v : α} : (arr n f).set k v = arr n fun i => if i = k then v else f i := by
  refine ext_arr (by simp) fun i hi => ?_
  rw [List.getElem?_set]
  by_cases h : k = i
  · subst h; simp [hi]
  · rw [if_neg h, arr_get hi, if_neg (Ne.symm h)]
theorem arr_app {n m : Nat} {f g : Nat → α} : arr n f ++ arr m g = arr (n + m) fun i => if i < n then f i else g (i - n) := by
  refine ext_arr (by simp) fun i hi => ?_
  by_cases h : i < n
  · rw [List.getElem?_append_left (by simpa using h), arr_get h, if_pos h]
  · rw [List.getElem?_append_right (by simp; omega), if_neg h, arr_length, arr_get (by omega)]
theorem arr_snoc {n : Nat} {f : Nat → α} {v : α} : arr n f ++ [v] = arr (n + 1) fun i => if i < n then f i else v := by
  rw [arr_succ]
  simp only [Nat.lt_irrefl, if_false]
  congr 1
  exact arr_congr fun i hi => by simp [hi]
theorem arr_take {n k : Nat} {f : Nat → α} : (arr n f).take k = arr (min k n) f := by
  refine ext_arr (by simp) fun i hi => ?_
  rw [List.getElem?_take_of_lt (by omega), arr_get (by omega)]
theorem arr_drop {n k : Nat} {f : Nat → α} : (arr n f).drop k = arr (n - k) fun i => f (k + i) := by
  refine ext_arr (by simp) fun i hi => ?_
  rw [List.getElem?_drop, arr_get (by omega)]
theorem arr_rev {n : Nat} {f : Nat → α} : (arr n f).reverse = arr n fun i => f (n - 1 - i) := by
  refine ext_arr (by simp) fun i hi => ?_
  rw [List.getElem?_reverse (by simpa using hi), arr_length, arr_get (by omega)]
theorem arr_filterMap {n : Nat} {f : Nat → α} : (List.range n).filterMap (fun i => some (f i)) = arr n f := by
  rw [filterMap_some]; rfl
theorem arr_all {n : Nat} {b : Nat → Bool} : ((arr n b).all id = true) ↔ ∀ i, i < n → b i = true := by simp [arr]
theorem arr_any {n : Nat} {b : Nat → Bool} : ((arr n b).any id = true) ↔ ∃ i, i < n ∧ b i = true := by simp [arr]
end
/-- the sum of f over the places below n -/
def sm : Nat → (Nat → Int) → Int
  | 0, _ => 0
  | n + 1, f => sm n f + f n
@[simp] theorem sum_arr {f : Nat → Int} : ∀ {n : Nat}, (arr n f).sum = sm n f
  | 0 => rfl
  | n + 1 => by rw [arr_succ, List.sum_append, sum_arr]; simp [sm]
theorem sm_succ {n : Nat} {f : Nat → Int} : sm (n + 1) f = sm n f + f n := rfl
theorem sm_congr {f g : Nat → Int} : ∀ {n : Nat}, (∀ i, i < n → f i = g i) → sm n f = sm n g
  | 0, _ => rfl
  | n + 1, h => by unfold sm; rw [sm_congr fun i hi => h i (by omega), h n (by omega)]
theorem sm_add {f g : Nat → Int} : ∀ {n : Nat}, sm n (fun i => f i + g i) = sm n f + sm n g
  | 0 => rfl
  | n + 1 => by
    show sm n (fun i => f i + g i) + (f n + g n) = (sm n f + f n) + (sm n g + g n)
    rw [sm_add]; omega
theorem sm_sub {f g : Nat → Int} : ∀ {n : Nat}, sm n (fun i => f i - g i) = sm n f - sm n g
  | 0 => rfl
  | n + 1 => by
    show sm n (fun i => f i - g i) + (f n - g n) = (sm n f + f n) - (sm n g + g n)
    rw [sm_sub]; omega
theorem sm_mul {f : Nat → Int} {c : Int} : ∀ {n : Nat}, sm n (fun i => c * f i) = c * sm n f
  | 0 => by simp [sm]
  | n + 1 => by unfold sm; rw [sm_mul]; grind
theorem sm_mulr {f : Nat → Int} {c : Int} {n : Nat} : sm n (fun i => f i * c) = sm n f * c := by
  rw [Int.mul_comm, ← sm_mul]; exact sm_congr fun i _ => Int.mul_comm ..
theorem sm_zero : ∀ {n : Nat}, sm n (fun _ => 0) = 0
  | 0 => rfl
  | n + 1 => by unfold sm; rw [sm_zero]; rfl
theorem sm_const {c : Int} : ∀ {n : Nat}, sm n (fun _ => c) = n * c
  | 0 => by simp [sm]
  | n + 1 => by unfold sm; rw [sm_const, Int.natCast_add]; grind
theorem sm_nonneg {f : Nat → Int} : ∀ {n : Nat}, (∀ i, i < n → 0 ≤ f i) → 0 ≤ sm n f
  | 0, _ => Int.le_refl _
  | n + 1, h => by unfold sm; exact Int.add_nonneg (sm_nonneg fun i hi => h i (by omega)) (h n (by omega))
theorem sm_le {f g : Nat → Int} : ∀ {n : Nat}, (∀ i, i < n → f i ≤ g i) → sm n f ≤ sm n g
  | 0, _ => Int.le_refl _
  | n + 1, h => by unfold sm; exact Int.add_le_add (sm_le fun i hi => h i (by omega)) (h n (by omega))
theorem sm_split {f : Nat → Int} {n : Nat} : ∀ {k : Nat}, sm (n + k) f = sm n f + sm k fun i => f (n + i)
  | 0 => by simp [sm]
  | k + 1 => by
    show sm (n + k) f + f (n + k) = sm n f + (sm k (fun i => f (n + i)) + f (n + k))
    rw [sm_split]; omega
theorem sm_first {f : Nat → Int} {n : Nat} : sm (n + 1) f = f 0 + sm n fun i => f (i + 1) := by
  rw [Nat.add_comm, sm_split]
  show 0 + f 0 + sm n (fun i => f (1 + i)) = _
  rw [Int.zero_add]
  congr 1
  exact sm_congr fun i _ => by rw [Nat.add_comm]
theorem sm_swap {f : Nat → Nat → Int} {m : Nat} : ∀ {n : Nat}, sm n (fun i => sm m fun j => f i j) = sm m fun j => sm n fun i => f i j
  | 0 => by simp [sm, sm_zero]
  | n + 1 => by
    show sm n (fun i => sm m fun j => f i j) + sm m (fun j => f n j) = sm m fun j => (sm n fun i => f i j) + f n j
    rw [sm_add, sm_swap]
theorem sm_bound {f : Nat → Int} {B : Nat} : ∀ {n : Nat}, (∀ i, i < n → (f i).natAbs ≤ B) → (sm n f).natAbs ≤ n * B
  | 0, _ => by simp [sm]
  | n + 1, h => by
    have h1 := sm_bound (B := B) (n := n) fun i hi => h i (by omega)
    have h2 := h n (by omega)
    unfold sm
    rw [Nat.succ_mul]
    omega
theorem sm_pos {f : Nat → Int} {n k : Nat} (h : ∀ i, i < n → 0 ≤ f i) (hk : k < n) (hp : 0 < f k) : 0 < sm n f := by
  induction n with
  | zero => omega
  | succ n ih =>
    unfold sm
    have h1 : 0 ≤ sm n f := sm_nonneg fun i hi => h i (by omega)
    have h2 := h n (by omega)
    by_cases e : k = n
    · subst e; omega
    · have := ih (fun i hi => h i (by omega)) (by omega); omega
theorem sm_one {f : Nat → Int} {n k : Nat} (hk : k < n) (h : ∀ i, i < n → i ≠ k → f i = 0) : sm n f = f k := by
  induction n with
  | zero => omega
  | succ n ih =>
    unfold sm
    by_cases e : k = n
    · subst e
      rw [sm_congr (g := fun _ => 0) fun i hi => h i (by omega) (by omega), sm_zero]; omega
    · rw [ih (by omega) fun i hi hne => h i (by omega) hne, h n (by omega) (Ne.symm e)]; omega
theorem sum_sm {xs : List Int} : xs.sum = sm xs.length (gD xs 0) := by
  rw [← sum_arr, ← arr_gD]
/-! ### the evaluator's lists -/
@[simp] theorem mul_t1a {m : Mem} {x : Val} {j : Int} (h1 : rOk j = true) : binMul m (.val (.tup [x])) (.val (.int j)) = tupl (arr j.toNat fun _ => x) := by rw [mul_t1 h1, arr_rep]
@[simp] theorem mul_o1a {m : Mem} {x : Val} {j : Int} (h1 : rOk j = true) : binMul m (.own [x]) (.val (.int j)) = ownl (arr j.toNat fun _ => x) := by rw [mul_o1 h1, arr_rep]
@[simp] theorem getI_arr {n k : Nat} {f : Nat → Val} (h : k < n) : getI (arr n f) (k : Int) = some (f k) := by
  rw [getI_at (by simpa using h), arr_getE]
@[simp] theorem getI_s {n k : Nat} {f : Nat → Val} (h : k + 1 < n) : getI (arr n f) ((k : Int) + 1) = some (f (k + 1)) := getI_arr (k := k + 1) h
@[simp] theorem getI_s' {n k : Nat} {f : Nat → Val} (h : k + 1 < n) : getI (arr n f) (1 + (k : Int)) = some (f (k + 1)) := by rw [Int.add_comm]; exact getI_s h
theorem getI_arrI {n : Nat} {j : Int} {f : Nat → Val} (h0 : 0 ≤ j) (h : j < n) : getI (arr n f) j = some (f j.toNat) := by
  have := getI_arr (f := f) (k := j.toNat) (n := n) (by omega)
  rwa [show ((j.toNat : Nat) : Int) = j by omega] at this
theorem getI_last {n : Nat} {f : Nat → Val} (h : 0 < n) : getI (arr n f) (-1) = some (f (n - 1)) := by
  unfold getI place
  rw [if_neg (by omega), if_pos (by simp; omega), arr_length]
  show (arr n f)[(-1 + (n : Int)).toNat]? = _
  rw [show (-1 + (n : Int)).toNat = n - 1 by omega, arr_get (by omega)]
@[simp] theorem putL_arr {n k : Nat} {f : Nat → Val} {v : Val} (h : k < n) : putL (k : Int) v (arr n f) = some (arr n fun i => if i = k then v else f i) := by
  rw [putL_at (by simpa using h), arr_set]
@[simp] theorem putL_s {n k : Nat} {f : Nat → Val} {v : Val} (h : k + 1 < n) : putL ((k : Int) + 1) v (arr n f) = some (arr n fun i => if i = k + 1 then v else f i) := putL_arr (k := k + 1) h
@[simp] theorem putL_s' {n k : Nat} {f : Nat → Val} {v : Val} (h : k + 1 < n) : putL (1 + (k : Int)) v (arr n f) = some (arr n fun i => if i = k + 1 then v else f i) := by rw [Int.add_comm]; exact putL_s h
theorem enumL_eq : ∀ (xs : List Val) (k : Int), enumL k xs = arr xs.length fun i => .tup [.int (k + i), gD xs .non i]
  | [], k => rfl
  | x :: xs, k => by
    show _ = arr (xs.length + 1) _
    rw [arr_cons, enumL, enumL_eq xs (k + 1)]
    simp
    exact arr_congr fun i _ => by simp; omega
@[simp] theorem enumL_arr {n : Nat} {f : Nat → Val} {k : Int} : enumL k (arr n f) = arr n fun i => .tup [.int (k + i), f i] := by
  rw [enumL_eq, arr_length]
  exact arr_congr fun i hi => by rw [gD_arr hi]
theorem zipL_len : ∀ xs ys : List Val, (zipL xs ys).length = min xs.length ys.length
  | [], ys => by simp [zipL]
  | x :: xs, [] => by simp [zipL]
  | x :: xs, y :: ys => by simp [zipL, zipL_len xs ys]
theorem zipL_get : ∀ (xs ys : List Val) (i : Nat) (a b : Val), xs[i]? = some a → ys[i]? = some b → (zipL xs ys)[i]? = some (.tup [a, b])
  | [], ys, i, a, b, h, _ => by simp at h
  | x :: xs, [], i, a, b, _, h => by simp at h
  | x :: xs, y :: ys, 0, a, b, h, h2 => by simp at h h2; subst h h2; rfl
  | x :: xs, y :: ys, i + 1, a, b, h, h2 => by simp at h h2; show (zipL xs ys)[i]? = _; exact zipL_get xs ys i a b h h2
@[simp] theorem zipL_arr {n m : Nat} {f g : Nat → Val} : zipL (arr n f) (arr m g) = arr (min n m) fun i => .tup [f i, g i] :=
  ext_arr (by simp [zipL_len]) fun i hi => zipL_get _ _ _ _ _ (arr_get (by omega)) (arr_get (by omega))
@[simp] theorem rng_arr {a b : Int} : rng a b = arr (b - a).toNat fun i => .int (a + i) := rfl
@[simp] theorem rngD_arr {a b c : Int} : rngD a b c = arr (a - b).toNat fun i => .int (a - i) := rfl
@[simp] theorem intsV_arr {n : Nat} {f : Nat → Int} : intsV (arr n fun i => .int (f i)) = some (arr n f) := by
  have := intsV_map (arr n f)
  rwa [arr_map] at this
@[simp] theorem boolsV_arr {n : Nat} {f : Nat → Bool} : boolsV (arr n fun i => .bl (f i)) = some (arr n f) := by
  have := boolsV_map (arr n f)
  rwa [arr_map] at this
@[simp] theorem psum_arr {m : Mem} {n : Nat} {f : Nat → Int} {a : SV} (h : items m a = some (arr n fun i => .int (f i))) : prim m .sum [a] = some (.val (.int (sm n f))) := by
  show ((items m a).bind fun xs => (intsV xs).map fun is => SV.val (.int is.sum)) = _
  rw [h]; simp
@[simp] theorem pall_arr {m : Mem} {n : Nat} {f : Nat → Bool} {a : SV} (ht : isTup a = false) (h : items m a = some (arr n fun i => .bl (f i))) : prim m .all [a] = some (.val (.bl ((arr n f).all id))) := by
  show (if isTup a then none else (items m a).bind fun xs => (boolsV xs).map fun bs => SV.val (.bl (bs.all id))) = _
  rw [h, ht]; simp
@[simp] theorem pany_arr {m : Mem} {n : Nat} {f : Nat → Bool} {a : SV} (ht : isTup a = false) (h : items m a = some (arr n fun i => .bl (f i))) : prim m .any [a] = some (.val (.bl ((arr n f).any id))) := by
  show (if isTup a then none else (items m a).bind fun xs => (boolsV xs).map fun bs => SV.val (.bl (bs.any id))) = _
  rw [h, ht]; simp
theorem sum_filterI (n : Nat) (p : Nat → Bool) (h : Nat → Int) : (((List.range n).filter p).map h).sum = sm n fun i => if p i then h i else 0 := by
  induction n with
  | zero => rfl
  | succ n ih =>
    rw [List.range_succ, List.filter_append, List.map_append, List.sum_append, ih, sm_succ]
    by_cases hp : p n <;> simp [hp]
@[simp] theorem psum_filter {m : Mem} {n : Nat} {p : Nat → Bool} {h : Nat → Int} : prim m .sum [.own (((List.range n).filter p).map fun i => .int (h i))] = some (.val (.int (sm n fun i => if p i then h i else 0))) := by
  have := p_sum (m := m) (xs := ((List.range n).filter p).map h) (a := .own (((List.range n).filter p).map fun i => Val.int (h i))) (by rw [items_own, List.map_map]; rfl)
  rw [this, sum_filterI]
/-- the greatest of some values -/
def mxf (f : Nat → Int) : Nat → Int
  | 0 => f 0
  | n + 1 => let a := mxf f n; let b := f (n + 1); if b > a then b else a
theorem maxI_arr {f : Nat → Int} : ∀ {n : Nat}, maxI (arr (n + 1) f) = some (mxf f n)
  | 0 => rfl
  | n + 1 => by
    have ih := maxI_arr (f := f) (n := n)
    rw [arr_cons] at ih
    rw [arr_succ, arr_cons]
    show some (((arr n fun i => f (i + 1)) ++ [f (n + 1)]).foldl _ (f 0)) = _
    rw [List.foldl_append]
    have ih : (arr n fun i => f (i + 1)).foldl (fun a b => if b > a then b else a) (f 0) = mxf f n := Option.some.inj ih
    rw [ih]
    rfl
@[simp] theorem pmax_arr {m : Mem} {n : Nat} {f : Nat → Int} {a : SV} (h : items m a = some (arr (n + 1) fun i => .int (f i))) : prim m .max [a] = some (.val (.int (mxf f n))) := by
  show prMax m [a] = _
  have : prMax m [a] = (items m a).bind fun xs => (intsV xs).bind fun is => vint (maxI is) := by
    cases a <;> rfl
  rw [this, h]
  simp [maxI_arr, vint]
@[simp] theorem psum_o {m : Mem} {n : Nat} {f : Nat → Int} : prim m .sum [(.own (arr (n) fun i => .int (f i)))] = some (.val (.int (sm n f))) := psum_arr (by rfl)
@[simp] theorem pall_o {m : Mem} {n : Nat} {f : Nat → Bool} : prim m .all [(.own (arr (n) fun i => .bl (f i)))] = some (.val (.bl ((arr n f).all id))) := pall_arr (by rfl) (by rfl)
@[simp] theorem pany_o {m : Mem} {n : Nat} {f : Nat → Bool} : prim m .any [(.own (arr (n) fun i => .bl (f i)))] = some (.val (.bl ((arr n f).any id))) := pany_arr (by rfl) (by rfl)
@[simp] theorem pmax_o {m : Mem} {n : Nat} {f : Nat → Int} : prim m .max [(.own (arr (n + 1) fun i => .int (f i)))] = some (.val (.int (mxf f n))) := pmax_arr (by rfl)
@[simp] theorem psum_p {m : Mem} {n : Nat} {f : Nat → Int} : prim m .sum [(.pk (arr (n) fun i => .int (f i)))] = some (.val (.int (sm n f))) := psum_arr (by rfl)
@[simp] theorem pall_p {m : Mem} {n : Nat} {f : Nat → Bool} : prim m .all [(.pk (arr (n) fun i => .bl (f i)))] = some (.val (.bl ((arr n f).all id))) := pall_arr (by rfl) (by rfl)
@[simp] theorem pany_p {m : Mem} {n : Nat} {f : Nat → Bool} : prim m .any [(.pk (arr (n) fun i => .bl (f i)))] = some (.val (.bl ((arr n f).any id))) := pany_arr (by rfl) (by rfl)
@[simp] theorem pmax_p {m : Mem} {n : Nat} {f : Nat → Int} : prim m .max [(.pk (arr (n + 1) fun i => .int (f i)))] = some (.val (.int (mxf f n))) := pmax_arr (by rfl)
@[simp] theorem psum_l {m : Mem} {n : Nat} {f : Nat → Int} : prim m .sum [(.val (.lst (arr (n) fun i => .int (f i))))] = some (.val (.int (sm n f))) := psum_arr (by rfl)
@[simp] theorem pall_l {m : Mem} {n : Nat} {f : Nat → Bool} : prim m .all [(.val (.lst (arr (n) fun i => .bl (f i))))] = some (.val (.bl ((arr n f).all id))) := pall_arr (by rfl) (by rfl)
@[simp] theorem pany_l {m : Mem} {n : Nat} {f : Nat → Bool} : prim m .any [(.val (.lst (arr (n) fun i => .bl (f i))))] = some (.val (.bl ((arr n f).any id))) := pany_arr (by rfl) (by rfl)
@[simp] theorem pmax_l {m : Mem} {n : Nat} {f : Nat → Int} : prim m .max [(.val (.lst (arr (n + 1) fun i => .int (f i))))] = some (.val (.int (mxf f n))) := pmax_arr (by rfl)
@[simp] theorem psum_t {m : Mem} {n : Nat} {f : Nat → Int} : prim m .sum [(.val (.tup (arr (n) fun i => .int (f i))))] = some (.val (.int (sm n f))) := psum_arr (by rfl)
@[simp] theorem pmax_t {m : Mem} {n : Nat} {f : Nat → Int} : prim m .max [(.val (.tup (arr (n + 1) fun i => .int (f i))))] = some (.val (.int (mxf f n))) := pmax_arr (by rfl)
theorem mxf_ge {f : Nat → Int} : ∀ {n i : Nat}, i ≤ n → f i ≤ mxf f n
  | 0, i, h => by have : i = 0 := by omega
                  subst this; exact Int.le_refl _
  | n + 1, i, h => by
    unfold mxf
    by_cases e : i = n + 1
    · subst e; dsimp only; split <;> omega
    · have := mxf_ge (f := f) (n := n) (i := i) (by omega)
      dsimp only; split <;> omega
theorem mxf_mem {f : Nat → Int} : ∀ {n : Nat}, ∃ i, i ≤ n ∧ mxf f n = f i
  | 0 => ⟨0, by omega, rfl⟩
  | n + 1 => by
    obtain ⟨i, h1, h2⟩ := mxf_mem (f := f) (n := n)
    unfold mxf
    dsimp only
    split
    · exact ⟨n + 1, by omega, rfl⟩
    · exact ⟨i, by omega, h2⟩
/-- a loop over places -/
theorem forM_arr {tg : Tg} {body : M Fl} {v : Nat → Val} {n : Nat} (I : Nat → S → Prop)
    (step : ∀ j s, j < n → I j s → ∃ s1 s2, asg tg (v j) s = some (.ok () s1) ∧ body s1 = some (.ok .nx s2) ∧ I (j + 1) s2)
    (s : S) (h0 : I 0 s) : ∃ s', forM tg body (arr n v) s = some (.ok .nx s') ∧ I n s' := by
  obtain ⟨s', h1, h2⟩ := forM_inv (tg := tg) (body := body) (v := v) (fun r s => ∃ j, j ≤ n ∧ r = List.range' j (n - j) ∧ I j s)
    (by
      rintro x r s ⟨j, hj, hr, hi⟩
      have hlt : j < n := by
        refine Decidable.byContradiction fun h => ?_
        rw [show n - j = 0 by omega] at hr
        simp at hr
      rw [show n - j = (n - (j + 1)) + 1 by omega, List.range'_succ] at hr
      injection hr with e1 e2
      subst e1
      obtain ⟨s1, s2, g1, g2, g3⟩ := step x s hlt hi
      exact ⟨s1, s2, g1, g2, x + 1, by omega, e2, g3⟩)
    (List.range n) s ⟨0, by omega, by rw [List.range_eq_range']; rfl, h0⟩
  obtain ⟨j, hj, hr, hi⟩ := h2
  have : j = n := by
    refine Decidable.byContradiction fun h => ?_
    rw [show n - j = (n - j - 1) + 1 by omega, List.range'_succ] at hr
    simp at hr
  subst this
  exact ⟨s', h1, hi⟩
/-- a loop over places that may hand back: w at the first place that does not pass -/
theorem forM_arr_all {tg : Tg} {body : M Fl} {v : Nat → Val} {n : Nat} (I : S → Prop) (T : Nat → Bool) (w : SV)
    (step : ∀ j s, j < n → I s → ∃ s1 s2, asg tg (v j) s = some (.ok () s1) ∧ I s2 ∧ body s1 = some (.ok (if T j then .nx else .rt w) s2))
    (s : S) (h0 : I s) : ∃ s', I s' ∧ forM tg body (arr n v) s = some (.ok (if (arr n T).all id then .nx else .rt w) s') := by
  induction n generalizing v T s with
  | zero => exact ⟨s, h0, rfl⟩
  | succ n ih =>
    obtain ⟨s1, s2, h1, h2, h3⟩ := step 0 s (by omega) h0
    rw [arr_cons, arr_cons]
    cases ht : T 0 with
    | false =>
      rw [ht] at h3
      exact ⟨s2, h2, by rw [forM_ret h1 h3]; simp⟩
    | true =>
      rw [ht] at h3
      obtain ⟨s', h4, h5⟩ := ih (v := fun i => v (i + 1)) (T := fun i => T (i + 1)) (fun j s hj hi => step (j + 1) s (by omega) hi) s2 h2
      exact ⟨s', h4, by rw [forM_step h1 h3, h5]; simp⟩
/-- a loop that hands back at the first place where p holds -/
theorem forM_arr_find {tg : Tg} {body : M Fl} {v : Nat → Val} {n : Nat} (I : S → Prop) (p : Nat → Bool) (w : Nat → SV)
    (step : ∀ j s, j < n → I s → ∃ s1 s2, asg tg (v j) s = some (.ok () s1) ∧ I s2 ∧ body s1 = some (.ok (if p j then .rt (w j) else .nx) s2))
    (s : S) (h0 : I s) : ∃ s', I s' ∧ forM tg body (arr n v) s = some (.ok (match (List.range n).find? p with | some j => .rt (w j) | none => .nx) s') := by
  have key : ∀ (r : List Nat) (s : S), (∀ j ∈ r, j < n) → I s → ∃ s', I s' ∧ forM tg body (r.map v) s = some (.ok (match r.find? p with | some j => .rt (w j) | none => .nx) s') := by
    intro r
    induction r with
    | nil => intro s _ h; exact ⟨s, h, rfl⟩
    | cons x r ih =>
      intro s hr h
      obtain ⟨s1, s2, h1, h2, h3⟩ := step x s (hr x List.mem_cons_self) h
      rw [List.map_cons]
      cases hp : p x with
      | true =>
        rw [hp] at h3
        exact ⟨s2, h2, by rw [forM_ret h1 h3]; simp [hp]⟩
      | false =>
        rw [hp] at h3
        obtain ⟨s', h4, h5⟩ := ih s2 (fun j hj => hr j (List.mem_cons_of_mem _ hj)) h2
        exact ⟨s', h4, by rw [forM_step h1 h3, h5]; simp [hp]⟩
  exact key (List.range n) s (fun j hj => List.mem_range.mp hj) h0
/-- a comprehension over places -/
theorem ev_lc_arr {K : Kn} {own : List Nat} {tg : Tg} {it : It} {ifs : Es} {e : E} {t : Bool} {s : S} {v : Nat → Val} {n : Nat} (g : Nat → Val) (hi : evi K it false s = some (.ok (arr n v) s))
    (h : ∀ i, i < n → ∃ s', turnM tg (evt K ifs) (M.bind (ev K e true) asV) (v i) (wiped own s) = some (.ok (some (g i)) s') ∧ wiped own s' = wiped own s) (hz : n ≤ 16777216) :
    ev K (.lc own tg it ifs e) t s = some (.ok (.own (arr n g)) s) := by
  have q := ev_lc (K := K) (own := own) (tg := tg) (it := it) (ifs := ifs) (e := e) (t := t) (s := s) (v := v) (xs := List.range n) (fun i => some (g i)) hi (fun i hi => h i (List.mem_range.mp hi)) (by rw [arr_filterMap]; simp [fits, szl, hz])
  rw [arr_filterMap] at q
  exact q
/-- .. with a test -/
theorem ev_lc_if {K : Kn} {own : List Nat} {tg : Tg} {it : It} {ifs : Es} {e : E} {t : Bool} {s : S} {v : Nat → Val} {n : Nat} (p : Nat → Bool) (g : Nat → Val) (hi : evi K it false s = some (.ok (arr n v) s))
    (h : ∀ i, i < n → ∃ s', turnM tg (evt K ifs) (M.bind (ev K e true) asV) (v i) (wiped own s) = some (.ok (if p i then some (g i) else none) s') ∧ wiped own s' = wiped own s) (hz : n ≤ 16777216) :
    ev K (.lc own tg it ifs e) t s = some (.ok (.own (((List.range n).filter p).map g)) s) := by
  have e1 : (List.range n).filterMap (fun i => if p i then some (g i) else none) = ((List.range n).filter p).map g := by
    induction (List.range n) with
    | nil => rfl
    | cons x xs ih => by_cases hp : p x <;> simp [hp, ih]
  have q := ev_lc (K := K) (own := own) (tg := tg) (it := it) (ifs := ifs) (e := e) (t := t) (s := s) (v := v) (xs := List.range n) (fun i => if p i then some (g i) else none) hi (fun i hi => h i (List.mem_range.mp hi)) (by
    rw [e1]
    unfold fits szl
    rw [List.length_map]
    have := List.length_filter_le p (List.range n)
    simp at this
    exact decide_eq_true (by omega))
  rw [e1] at q
  exact q
/-! ### two clauses -/
theorem wipe_app {α : Type} : ∀ (a b : List Nat) (e : List (Option α)), wipe (a ++ b) e = wipe a (wipe b e)
  | [], b, e => rfl
  | x :: a, b, e => by
    show (wipe (a ++ b) e).set x none = (wipe a (wipe b e)).set x none
    rw [wipe_app a b e]
theorem compF_eq {α : Type} {own : List Nat} {tg : Tg} {test : M Bool} {inner : M (List Val)} {s0 : S} {v : α → Val} (f : α → List Val) : ∀ (xs : List α) (s : S), wiped own s = s0 →
    (∀ x ∈ xs, ∃ s1 s', (rb (asg tg (v x) s0) fun _ => test) = some (.ok true s1) ∧ inner s1 = some (.ok (f x) s') ∧ wiped own s' = s0) → ∃ s', compF own tg test inner (xs.map v) s = some (.ok (xs.flatMap f) s') ∧ wiped own s' = s0
  | [], s, hs, _ => ⟨s, rfl, hs⟩
  | x :: xs, s, hs, h => by
    obtain ⟨s1, s2, h1, h2, h3⟩ := h x List.mem_cons_self
    obtain ⟨s3, h4, h5⟩ := compF_eq f xs s2 h3 fun y hy => h y (List.mem_cons_of_mem _ hy)
    refine ⟨s3, ?_, h5⟩
    rw [List.map_cons]
    unfold compF
    rw [hs]
    cases e1 : asg tg (v x) s0 with
    | none => rw [e1] at h1; cases h1
    | some r1 =>
      rw [e1] at h1
      cases r1 with
      | ex _ _ => cases h1
      | ok a1 t1 =>
        have h1 : test t1 = some (.ok true s1) := h1
        rw [bind_ok e1, bind_ok h1, if_pos rfl, bind_ok h2, bind_ok h4]
        rfl
theorem ev_lc2_arr {K : Kn} {own1 own2 : List Nat} {tg tg2 : Tg} {it it2 : It} {ifs ifs2 : Es} {e : E} {t : Bool} {s : S} {v : Nat → Val} {n : Nat} (w : Nat → Nat) (u g : Nat → Nat → Val) (hi : evi K it false s = some (.ok (arr n v) s))
    (h : ∀ i, i < n → ∃ s1, (rb (asg tg (v i) (wiped (own1 ++ own2) s)) fun _ => evt K ifs) = some (.ok true s1) ∧ wiped (own1 ++ own2) s1 = wiped (own1 ++ own2) s ∧ evi K it2 true s1 = some (.ok (arr (w i) (u i)) s1) ∧
      ∀ j, j < w i → ∃ s', turnM tg2 (evt K ifs2) (M.bind (ev K e true) asV) (u i j) (wiped own2 s1) = some (.ok (some (g i j)) s') ∧ wiped own2 s' = wiped own2 s1)
    (hz : ((List.range n).flatMap fun i => arr (w i) (g i)).length ≤ 16777216) :
    ev K (.lc2 (own1 ++ own2) own2 tg it ifs tg2 it2 ifs2 e) t s = some (.ok (.own ((List.range n).flatMap fun i => arr (w i) (g i))) s) := by
  show noX (M.bind (evi K it false) (fun xs => M.bind (within (own1 ++ own2) (compF (own1 ++ own2) tg (evt K ifs) (M.bind (evi K it2 true) fun ys => compL own2 tg2 (evt K ifs2) (M.bind (ev K e true) asV) ys) xs)) fun ys => M.of (ownl ys))) s = _
  refine noX_ok ?_ (fun e s' z => nomatch z)
  rw [bind_ok hi]
  obtain ⟨s', h1, h2⟩ := compF_eq (own := own1 ++ own2) (tg := tg) (test := evt K ifs) (inner := M.bind (evi K it2 true) fun ys => compL own2 tg2 (evt K ifs2) (M.bind (ev K e true) asV) ys) (v := v) (fun i => arr (w i) (g i)) (List.range n) s rfl (by
    intro i hi
    obtain ⟨s1, g1, g2, g3, g4⟩ := h i (List.mem_range.mp hi)
    obtain ⟨s2, q1, q2⟩ := compL_eq (own := own2) (tg := tg2) (test := evt K ifs2) (elt := M.bind (ev K e true) asV) (v := u i) (fun j => some (g i j)) (List.range (w i)) s1 rfl (fun j hj => g4 j (List.mem_range.mp hj))
    rw [arr_filterMap] at q1
    refine ⟨s1, s2, g1, by rw [bind_ok g3]; exact q1, ?_⟩
    have e1 : wipe own2 s2.e = wipe own2 s1.e := congrArg S.e q2
    have e2 : s2.m = s1.m := show (wiped own2 s2).m = (wiped own2 s1).m by rw [q2]
    rw [← g2]
    unfold wiped
    rw [wipe_app, wipe_app, e1, e2])
  have hw : within (own1 ++ own2) (compF (own1 ++ own2) tg (evt K ifs) (M.bind (evi K it2 true) fun ys => compL own2 tg2 (evt K ifs2) (M.bind (ev K e true) asV) ys) (arr n v)) s = some (.ok ((List.range n).flatMap fun i => arr (w i) (g i)) s) := by
    unfold within arr
    unfold arr at h1
    rw [h1]
    dsimp only
    have e1 : wipe (own1 ++ own2) s'.e = wipe (own1 ++ own2) s.e := congrArg S.e h2
    have e2 : s'.m = s.m := show (wiped (own1 ++ own2) s').m = (wiped (own1 ++ own2) s).m by rw [h2]
    rw [back_wiped e1, e2]
  rw [bind_ok hw]
  unfold ownl
  rw [if_pos (show fits _ = true from decide_eq_true hz)]
  rfl
theorem flatMap_len {α : Type} (f : Nat → List α) (B : Nat) : ∀ n, (∀ i, i < n → (f i).length ≤ B) → ((List.range n).flatMap f).length ≤ n * B
  | 0, _ => by simp
  | n + 1, h => by
    have ih := flatMap_len f B n fun i hi => h i (by omega)
    have := h n (by omega)
    rw [List.range_succ, List.flatMap_append, List.length_append, Nat.succ_mul]
    have e : [n].flatMap f = f n := by simp
    rw [e]
    omega
theorem pall_fm {m : Mem} {n : Nat} {w : Nat → Nat} {b : Nat → Nat → Bool} : prim m .all [.own ((List.range n).flatMap fun i => arr (w i) fun j => .bl (b i j))] = some (.val (.bl ((arr n fun i => (arr (w i) (b i)).all id).all id))) := by
  have e : ((List.range n).flatMap fun i => arr (w i) fun j => Val.bl (b i j)) = ((List.range n).flatMap fun i => arr (w i) (b i)).map .bl := by
    rw [List.map_flatMap]
    congr 1
    funext i
    rw [arr_map]
  rw [e, p_all rfl rfl]
  congr 3
  rw [List.all_flatMap]
  unfold arr
  rw [List.all_map]
  rfl
/-- a comprehension over places that changes the cells: J of the place and the state -/
theorem compL_idx {own : List Nat} {tg : Tg} {test : M Bool} {elt : M Val} {v g : Nat → Val} {n : Nat} (J : Nat → S → Prop) (h : ∀ i, i < n → ∀ s, J i s → ∃ s', turnM tg test elt (v i) (wiped own s) = some (.ok (some (g i)) s') ∧ J (i + 1) s') (s : S) (h0 : J 0 s) :
    ∃ s', compL own tg test elt (arr n v) s = some (.ok (arr n g) s') ∧ J n s' := by
  induction n generalizing v g J s with
  | zero => exact ⟨s, rfl, h0⟩
  | succ n ih =>
    obtain ⟨s1, h1, h2⟩ := h 0 (by omega) s h0
    obtain ⟨s2, h3, h4⟩ := ih (v := fun i => v (i + 1)) (g := fun i => g (i + 1)) (fun i => J (i + 1)) (fun i hi => h (i + 1) (by omega)) s1 h2
    rw [arr_cons, arr_cons]
    exact ⟨s2, compL_turn h1 h3, h4⟩
theorem ev_lc_idx {K : Kn} {own : List Nat} {tg : Tg} {it : It} {ifs : Es} {e : E} {t : Bool} {s s1 : S} {v g : Nat → Val} {n : Nat} (J : Nat → S → Prop) (hi : evi K it false s = some (.ok (arr n v) s1)) (h0 : J 0 s1)
    (hJ : ∀ s', J n s' → wipe own s'.e = wipe own s1.e)
    (h : ∀ i, i < n → ∀ s, J i s → ∃ s', turnM tg (evt K ifs) (M.bind (ev K e true) asV) (v i) (wiped own s) = some (.ok (some (g i)) s') ∧ J (i + 1) s') (hz : n ≤ 16777216) :
    ∃ s2, ev K (.lc own tg it ifs e) t s = some (.ok (.own (arr n g)) { s1 with m := s2.m }) ∧ J n s2 := by
  obtain ⟨s2, h1, h2⟩ := compL_idx (own := own) J h s1 h0
  refine ⟨s2, ?_, h2⟩
  show noX (M.bind (evi K it false) (fun xs => M.bind (within own (compL own tg (evt K ifs) (M.bind (ev K e true) asV) xs)) fun ys => M.of (ownl ys))) s = _
  refine noX_ok ?_ (fun e s' z => nomatch z)
  rw [bind_ok hi]
  have hw : within own (compL own tg (evt K ifs) (M.bind (ev K e true) asV) (arr n v)) s1 = some (.ok (arr n g) { s1 with m := s2.m }) := by
    unfold within
    rw [h1]
    dsimp only
    rw [back_wiped (hJ s2 h2)]
  rw [bind_ok hw]
  unfold ownl
  rw [if_pos (show fits _ = true from decide_eq_true (by rw [arr_length]; exact hz))]
  rfl
theorem conv_list {α : Type} {v : α → Val} {P : α → Prop} : ∀ {ys : List Val}, (∀ y ∈ ys, ∃ a, y = v a ∧ P a) → ∃ as : List α, ys = as.map v ∧ ∀ a ∈ as, P a
  | [], _ => ⟨[], rfl, fun _ h => absurd h (by simp)⟩
  | y :: ys, h => by
    obtain ⟨as, e, ha⟩ := conv_list fun z hz => h z (List.mem_cons_of_mem _ hz)
    obtain ⟨a, e2, h2⟩ := h y List.mem_cons_self
    exact ⟨a :: as, by rw [e, e2]; rfl, fun x hx => (List.mem_cons.mp hx).elim (fun e => e ▸ h2) (ha x)⟩
/-- the product of f over the places below n -/
def pr : Nat → (Nat → Int) → Int
  | 0, _ => 1
  | n + 1, f => pr n f * f n
theorem pr_succ {n : Nat} {f : Nat → Int} : pr (n + 1) f = pr n f * f n := rfl
theorem pr_congr {f g : Nat → Int} : ∀ {n : Nat}, (∀ i, i < n → f i = g i) → pr n f = pr n g
  | 0, _ => rfl
  | n + 1, h => by unfold pr; rw [pr_congr fun i hi => h i (by omega), h n (by omega)]
theorem pr_nonneg {f : Nat → Int} : ∀ {n : Nat}, (∀ i, i < n → 0 ≤ f i) → 0 ≤ pr n f
  | 0, _ => by show (0 : Int) ≤ 1; decide
  | n + 1, h => by unfold pr; exact Int.mul_nonneg (pr_nonneg fun i hi => h i (by omega)) (h n (by omega))
theorem pr_pos {f : Nat → Int} : ∀ {n : Nat}, (∀ i, i < n → 0 < f i) → 0 < pr n f
  | 0, _ => by show (0 : Int) < 1; decide
  | n + 1, h => by unfold pr; exact Int.mul_pos (pr_pos fun i hi => h i (by omega)) (h n (by omega))
theorem pr_le {f : Nat → Int} {B : Int} (hB : 0 ≤ B) : ∀ {n : Nat}, (∀ i, i < n → 0 ≤ f i ∧ f i ≤ B) → pr n f ≤ B ^ n
  | 0, _ => by simp [pr]
  | n + 1, h => by
    unfold pr
    rw [Int.pow_succ]
    have h1 := pr_le hB (n := n) fun i hi => h i (by omega)
    have h2 := h n (by omega)
    exact Int.mul_le_mul h1 h2.2 h2.1 (Int.pow_nonneg hB)
end Py.Q
end

section
set_option autoImplicit false
set_option linter.all false
set_option Elab.async false
set_option maxRecDepth 100000
set_option maxHeartbeats 4000000
set_option exponentiation.threshold 5000
/-! Shared: values equal to themselves, whole numbers, draws. -/
namespace Py.Q
theorem trim_len {v : SV} {m m' : Mem} (hl : m'.length ≤ m.length) : trim m v m' = m' := by
  unfold trim
  split
  · exact List.take_of_length_le hl
  · rfl
theorem DOk.len {m r : Mem} (h : DOk m r) : m.length = r.length + 1 := by
  obtain ⟨d, _, rfl⟩ := h
  rfl
theorem DOk.tl {m m' r : Mem} (h : DOk m r) (h' : DOk m' r) : ∀ v, trim m v m' = m' := fun v => trim_len (by rw [h.len, h'.len]; exact Nat.le_refl _)
theorem getI_map {α : Type} {xs : List α} {f : α → Val} {d : α} {k : Nat} (h : k < xs.length) : getI (xs.map f) (k : Int) = some (f (gD xs d k)) := by
  have e := congrArg (List.map f) (arr_gD xs d)
  rw [arr_map] at e
  rw [e, getI_arr h]
theorem getI_gD {xs : List Val} {j : Int} (h0 : 0 ≤ j) (h : j < xs.length) : getI xs j = some (gD xs .non j.toNat) := by
  have := getI_arrI (f := gD xs .non) (n := xs.length) h0 h
  rwa [← arr_gD] at this
theorem fr_ok (n d : Int) (h0 : 0 ≤ n) (h1 : n ≤ d) (hd : 0 < d) : 0 ≤ (fr n d).1 ∧ (fr n d).1 ≤ (fr n d).2 := by
  have c := fr_cross (n := n) hd
  have p := fr_den_pos (n := n) hd
  constructor
  · refine Decidable.byContradiction fun h => ?_
    have : (fr n d).1 * d < 0 := Int.mul_neg_of_neg_of_pos (by omega) hd
    have : 0 ≤ n * (fr n d).2 := Int.mul_nonneg h0 (by omega)
    omega
  · refine Int.le_of_mul_le_mul_right (a := d) ?_ hd
    rw [c, Int.mul_comm (fr n d).2]
    exact Int.mul_le_mul_of_nonneg_right h1 (by omega)
theorem rev_ind {α : Type} {P : List α → Prop} (h0 : P []) (h1 : ∀ xs x, P xs → P (xs ++ [x])) : ∀ xs, P xs := fun xs => by
  rw [← List.reverse_reverse xs]
  induction xs.reverse with
  | nil => exact h0
  | cons x xs ih => rw [List.reverse_cons]; exact h1 _ _ ih
theorem map_fm {α : Type} (xs : List α) (g : α → Val) : xs.filterMap (fun x => some (g x)) = xs.map g := filterMap_some g xs
theorem take_snoc {α : Type} {xs : List α} {d : α} {j : Nat} (h : j < xs.length) : xs.take (j + 1) = xs.take j ++ [gD xs d j] := by
  rw [List.take_succ, gD_get (d := d) h]; rfl
theorem map_arr {α β : Type} (xs : List α) (d : α) (f : α → β) : xs.map f = arr xs.length fun i => f (gD xs d i) := by
  have := congrArg (List.map f) (arr_gD xs d)
  rwa [arr_map] at this
theorem all_gD {xs : List Val} {p : Val → Bool} : ((arr xs.length fun i => p (gD xs .non i)).all id) = xs.all p := by
  have := arr_map (n := xs.length) (f := gD xs .non) (g := p)
  rw [← this, ← arr_gD, List.all_map]
  rfl
/-! ### values are equal to themselves -/
theorem flat_tup {n : Nat} {xs : List Val} : Val.flat (n + 1) (.tup xs) = xs.all fun x => x.flat n := by simp only [Val.flat]
theorem flat_lst {n : Nat} {xs : List Val} : Val.flat (n + 1) (.lst xs) = xs.all fun x => x.flat n := by simp only [Val.flat]
mutual
theorem eqv_self : ∀ (v : Val) (n : Nat), v.flat n = true → eqv v v = true
  | .non, _, _ => by unfold eqv; rfl
  | .bl b, _, _ => by unfold eqv; simp
  | .int b, _, _ => by unfold eqv; simp
  | .str b, _, _ => by unfold eqv; simp
  | .tup xs, n, h => by
    unfold eqv
    cases n with
    | zero => unfold Val.flat at h; cases h
    | succ n => rw [flat_tup] at h; exact eqvL_self xs n h
  | .lst xs, n, h => by
    unfold eqv
    cases n with
    | zero => unfold Val.flat at h; cases h
    | succ n => rw [flat_lst] at h; exact eqvL_self xs n h
  | .loc _, n, h => by unfold Val.flat at h; cases h
  | .scr _, n, h => by unfold Val.flat at h; cases h
theorem eqvL_self : ∀ (xs : List Val) (n : Nat), (xs.all fun x => x.flat n) = true → eqvL xs xs = true
  | [], _, _ => by unfold eqvL; rfl
  | x :: xs, n, h => by
    simp only [List.all_cons, Bool.and_eq_true] at h
    unfold eqvL
    rw [eqv_self x n h.1, eqvL_self xs n h.2]
    rfl
end
theorem eqS_self {m : Mem} {a : SV} {v : Val} (h : tree m a = some v) (p : v.pure = true) {b : SV} (h2 : tree m b = some v) : eqS m a b = some true := by
  unfold eqS
  rw [h, h2]
  simp only [p, Bool.and_self, if_true]
  rw [eqv_self v 20 p]
theorem eqS_tup {m : Mem} {xs : List Val} (p : (Val.tup xs).pure = true) : eqS m (.val (.tup xs)) (.val (.tup xs)) = some true := eqS_self rfl p rfl
theorem eqS_val {m : Mem} {a b : SV} {v w : Val} (h : tree m a = some v) (h2 : tree m b = some w) (p : v.pure = true) (q : w.pure = true) : eqS m a b = some (eqv v w) := by
  unfold eqS
  rw [h, h2]
  simp only [p, q, Bool.and_self, if_true]
theorem pure_tup {xs : List Val} (h : ∀ x ∈ xs, x.flat 19 = true) : (Val.tup xs).pure = true := by
  show Val.flat (19 + 1) (.tup xs) = true
  rw [flat_tup, List.all_eq_true]
  exact h
theorem flat_ints {α : Type} {n : Nat} {xs : List α} {f : α → Int} : Val.flat (n + 1) (.tup (xs.map fun x => .int (f x))) = true := by
  rw [flat_tup, List.all_eq_true]
  intro x hx
  obtain ⟨i, hi, rfl⟩ := List.mem_map.mp hx
  simp only [Val.flat]
theorem flat_arr {n k : Nat} {f : Nat → Val} (h : ∀ i, i < k → (f i).flat n = true) : Val.flat (n + 1) (.tup (arr k f)) = true := by
  rw [flat_tup, List.all_eq_true]
  intro x hx
  obtain ⟨i, hi, rfl⟩ := List.mem_map.mp hx
  exact h i (List.mem_range.mp hi)
theorem pure_arr {n : Nat} {f : Nat → Val} (h : ∀ i, i < n → (f i).flat 19 = true) : (Val.tup (arr n f)).pure = true := flat_arr (n := 19) h
theorem pure_ints {α : Type} {xs : List α} {f : α → Int} : (Val.tup (xs.map fun x => .int (f x))).pure = true := flat_ints (n := 19)
theorem flat_int {n : Nat} {i : Int} : Val.flat n (.int i) = true := by simp only [Val.flat]
mutual
/-- equality of tuples of whole numbers -/
theorem eqvL_ints : ∀ xs ys : List Int, eqvL (xs.map .int) (ys.map .int) = decide (xs = ys)
  | [], [] => by unfold eqvL; rfl
  | [], y :: ys => by unfold eqvL; rfl
  | x :: xs, [] => by unfold eqvL; rfl
  | x :: xs, y :: ys => by
    rw [List.map_cons, List.map_cons]
    unfold eqvL
    rw [eqvL_ints xs ys]
    unfold eqv
    by_cases h : x = y <;> by_cases h2 : xs = ys <;> simp [h, h2]
end
/-! ### whole numbers, what the law says -/
def isW : Val → Bool
  | .int _ => true
  | _ => false
@[simp] theorem is_whole_ok (k : Nat) (v : Val) (m : Mem) : callK Pp (k + 1) 0 [v] m = some (.ok (.val (.bl (isW v))) m) := by
  rw [call_eq rfl rfl]
  cases v <;> simp [d_is_whole, frame, isTy, isW]
theorem law_says_ok (k : Nat) (a b : Bool) (m : Mem) : callK Pp (k + 1) 18 [.bl a, .bl b] m = some (.ok (.val (.bl (a == b))) m) := by
  rw [call_eq rfl rfl]
  simp [d_law_says, frame, isTy]
/-! ### draws -/
def okWt : Val → Bool
  | .int n => decide (0 ≤ n) && decide (n ≤ 1000000)
  | _ => false
def posI : Val → Bool
  | .int n => decide (0 < n)
  | _ => false
/-- a draw -/
def isDr : Val → Bool
  | .tup xs => decide (1 ≤ xs.length) && decide (xs.length ≤ 30) && xs.all okWt && posI (gD xs .non (xs.length - 1))
  | _ => false
theorem getI_lastV {xs : List Val} (h : 0 < xs.length) : getI xs (-1) = some (gD xs .non (xs.length - 1)) := by
  have := getI_last (f := gD xs .non) h
  rwa [← arr_gD] at this
theorem isdr_comp (K : Kn) (hw : ∀ v m, K 0 [v] m = some (.ok (.val (.bl (isW v))) m)) (xs : List Val) (m : Mem) (h2 : xs.length ≤ 30) (t : Bool) :
    ev K c_is_draw_1 t ⟨[some (.val (.tup xs)), none], m⟩ = some (.ok (.own (arr xs.length fun i => .bl (okWt (gD xs .non i)))) ⟨[some (.val (.tup xs)), none], m⟩) := by
  refine ev_lc_arr (v := gD xs .non) _ (by simp [← arr_gD xs .non]) (fun i hi => ⟨⟨[some (.val (.tup xs)), some (.val (gD xs .non i))], m⟩, ?_, by simp [wiped, wipe]⟩) (by omega)
  generalize gD xs .non i = v
  cases v with
  | int n =>
    by_cases a1 : 0 ≤ n
    · simp [wiped, wipe, hw, okWt, a1, isW]
    · simp [wiped, wipe, hw, okWt, a1, isW]
  | _ => simp [wiped, wipe, hw, okWt, isW]
@[simp] theorem is_draw_ok (k : Nat) (v : Val) (m : Mem) : callK Pp (k + 2) 3 [v] m = some (.ok (.val (.bl (isDr v))) m) := by
  rw [call_eq rfl rfl]
  cases v with
  | tup xs =>
    by_cases h1 : 1 ≤ xs.length
    · have i1 : (1 : Int) ≤ xs.length := by omega
      by_cases h2 : xs.length ≤ 30
      · have i2 : (xs.length : Int) ≤ 30 := by omega
        have c := isdr_comp (callK Pp (k + 1)) (fun v m => is_whole_ok k v m) xs m h2
        have g := getI_lastV (xs := xs) (by omega)
        cases ha : xs.all okWt with
        | false => simp [d_is_draw, frame, isTy, i1, i2, c, isDr, h1, h2, all_gD, ha]
        | true =>
          have hm := List.all_eq_true.mp ha _ (gD_mem (d := Val.non) (show xs.length - 1 < xs.length by omega))
          cases hv : gD xs .non (xs.length - 1) with
          | int n => rw [hv] at g; simp [d_is_draw, frame, isTy, i1, i2, c, isDr, h1, h2, all_gD, ha, g, hv, posI]
          | _ => rw [hv] at hm; cases hm
      · have i2 : ¬ (xs.length : Int) ≤ 30 := by omega
        simp [d_is_draw, frame, isTy, i1, i2, isDr, h1, h2]
    · have i1 : ¬ (1 : Int) ≤ xs.length := by omega
      simp [d_is_draw, frame, isTy, i1, isDr, h1]
  | _ => simp [d_is_draw, frame, isTy, isDr]
/-- a tuple of whole numbers -/
def vI (xs : List Int) : Val := .tup (xs.map .int)
theorem vI_arr (xs : List Int) : vI xs = .tup (arr xs.length fun i => .int (gD xs 0 i)) := by unfold vI; rw [map_arr xs 0]
/-- a draw of weights up to B, of up to n numbers -/
structure DrOk (n : Nat) (B : Int) (xs : List Int) : Prop where
  pos : 1 ≤ xs.length
  len : xs.length ≤ n
  le : ∀ x ∈ xs, 0 ≤ x ∧ x ≤ B
  last : 0 < gD xs 0 (xs.length - 1)
theorem DrOk.mono {n n' : Nat} {B B' : Int} {xs : List Int} (h : DrOk n B xs) (hn : n ≤ n') (hB : B ≤ B') : DrOk n' B' xs :=
  ⟨h.pos, Nat.le_trans h.len hn, fun x hx => ⟨(h.le x hx).1, Int.le_trans (h.le x hx).2 hB⟩, h.last⟩
theorem isDr_ok {n : Nat} {B : Int} {xs : List Int} (h : DrOk n B xs) (hn : n ≤ 30) (hB : B ≤ 1000000) : isDr (vI xs) = true := by
  have h1 := h.pos
  have h2 := h.len
  have ha : (xs.map Val.int).all okWt = true := by
    rw [List.all_map, List.all_eq_true]
    intro x hx
    have := h.le x hx
    simp [okWt]; omega
  have hl : posI (gD (xs.map Val.int) .non (xs.length - 1)) = true := by
    rw [map_arr xs 0, gD_arr (by omega)]
    simp [posI]; exact h.last
  simp [vI, isDr, ha, hl, h1]; omega
/-- .. and back -/
theorem isDr_of {v : Val} (h : isDr v = true) : ∃ xs : List Int, v = vI xs ∧ DrOk 30 1000000 xs := by
  cases v with
  | tup ys =>
    simp only [isDr, Bool.and_eq_true, decide_eq_true_eq] at h
    obtain ⟨⟨⟨h1, h2⟩, h3⟩, h4⟩ := h
    have conv : ∀ ys : List Val, ys.all okWt = true → ∃ xs : List Int, ys = xs.map .int ∧ ∀ x ∈ xs, 0 ≤ x ∧ x ≤ 1000000 := by
      intro ys
      induction ys with
      | nil => intro _; exact ⟨[], rfl, fun _ h => absurd h (by simp)⟩
      | cons y ys ih =>
        intro h
        simp only [List.all_cons, Bool.and_eq_true] at h
        obtain ⟨xs, e, hx⟩ := ih h.2
        cases y with
        | int n =>
          have := h.1
          simp [okWt] at this
          exact ⟨n :: xs, by rw [e]; rfl, fun x hx' => (List.mem_cons.mp hx').elim (fun e => e ▸ this) (hx x)⟩
        | _ => exact absurd h.1 (by simp [okWt])
    obtain ⟨xs, rfl, hx⟩ := conv ys h3
    rw [List.length_map] at *
    refine ⟨xs, rfl, h1, h2, hx, ?_⟩
    rw [map_arr xs 0, gD_arr (by omega)] at h4
    simpa [posI] using h4
  | _ => cases h
end Py.Q
end

section
set_option autoImplicit false
set_option linter.all false
set_option Elab.async false
set_option maxRecDepth 100000
set_option maxHeartbeats 4000000
set_option exponentiation.threshold 5000
/-! _law_some: a draw. -/
namespace Py.Q
/-- zeros at the end taken away -/
def SomeP (K : Kn) (v0 v1 v2 v3 v5 : Option SV) (m : Mem) (xs : List Int) : Prop := ∃ ys, ys.length ≤ xs.length ∧ (∀ y ∈ ys, y ∈ xs) ∧ (ys = [] ∨ gD ys 0 (ys.length - 1) ≠ 0) ∧
    whileM (testM K (.and (.cmp (.s 4) (.one .ne (.lst .nil))) (.cmp (.ix (.s 4) (.neg (.c (.int 1)))) (.one .eq (.c (.int 0)))))) (exs K b_law_some_1) ⟨[v0, v1, v2, v3, some (.own (xs.map .int)), v5], m⟩ = some (.ok .nx ⟨[v0, v1, v2, v3, some (.own (ys.map .int)), v5], m⟩)
theorem some_loop (K : Kn) (v0 v1 v2 v3 v5 : Option SV) (m : Mem) (xs : List Int) (h : xs.length ≤ 1000) : SomeP K v0 v1 v2 v3 v5 m xs := by
  have pu : ∀ xs : List Int, (Val.lst (xs.map .int)).pure = true := fun xs => by
    show Val.flat (19 + 1) (.lst (xs.map .int)) = true
    rw [flat_lst, List.all_eq_true]
    intro x hx
    obtain ⟨i, hi, rfl⟩ := List.mem_map.mp hx
    rfl
  have q : ∀ xs : List Int, eqS m (.pk (xs.map .int)) (.own []) = some (decide (xs = [])) := fun xs => by
    rw [eqS_val (v := .lst (xs.map .int)) (w := .lst []) rfl rfl (pu xs) (by rfl)]
    unfold eqv
    have := eqvL_ints xs []
    rw [List.map_nil] at this
    rw [this]
  refine rev_ind (P := fun xs => xs.length ≤ 1000 → SomeP K v0 v1 v2 v3 v5 m xs) (fun h => ?_) (fun xs x ih h => ?_) xs h
  · have e := q []
    simp at e
    exact ⟨[], Nat.le_refl _, fun _ h => h, .inl rfl, whileM_f (by simp [e])⟩
  · have e := q (xs ++ [x])
    have hne : ¬ xs ++ [x] = [] := by simp
    have g : getI ((xs ++ [x]).map .int) (-1) = some (.int x) := by
      rw [getI_lastV (by simp), map_arr _ 0, arr_length, gD_arr (by simp)]
      congr 2
      have : (xs ++ [x])[xs.length]? = some x := by simp
      simp [gD, List.getD_eq_getElem?_getD]
    rw [decide_eq_false hne] at e
    by_cases hx : x = 0
    · subst hx
      simp at h
      obtain ⟨ys, h1, h2, h3, h4⟩ := ih (by omega)
      refine ⟨ys, by simp; omega, fun y hy => by simp [h2 y hy], h3, ?_⟩
      rw [whileM_t (s1 := ⟨[v0, v1, v2, v3, some (.own ((xs ++ [0]).map .int)), v5], m⟩) (s2 := ⟨[v0, v1, v2, v3, some (.own (xs.map .int)), v5], m⟩) (by
        simp only [List.map_append, List.map_cons, List.map_nil] at e g ⊢
        simp [e, g]) (by simp [b_law_some_1])]
      exact h4
    · refine ⟨xs ++ [x], Nat.le_refl _, fun y hy => hy, .inr ?_, whileM_f (by
        simp only [List.map_append, List.map_cons, List.map_nil] at e g ⊢
        simp [e, g, hx])⟩
      simp [gD, List.getD_eq_getElem?_getD]
      exact hx
theorem law_some_ok (k : Nat) {m r : Mem} (numbers : Nat) (most : Int) (hm : DOk m r) (h1 : 1 ≤ numbers) (h2 : numbers ≤ 1000) (h3 : 0 ≤ most) (h4 : most < 2 ^ 60) :
    ∃ xs m', DrOk numbers (imax 9 most) xs ∧ DOk m' r ∧ callK Pp (k + 2) 19 [.loc 0, .int numbers, .int most] m = some (.ok (.val (vI xs)) m') := by
  obtain ⟨a, m1, a0, a4, hm1, e1⟩ := take_ok k 4 hm (by decide) (by decide)
  have hb : ∃ b : Int, 1 ≤ b + 1 ∧ b ≤ imax 9 most ∧ getI [.int 2, .int 4, .int 9, .int most] a = some (.int b) := by
    have mx : 9 ≤ imax 9 most ∧ most ≤ imax 9 most := by unfold imax; split <;> omega
    have : a = 0 ∨ a = 1 ∨ a = 2 ∨ a = 3 := by omega
    rcases this with rfl | rfl | rfl | rfl
    · exact ⟨2, by decide, by omega, rfl⟩
    · exact ⟨4, by decide, by omega, rfl⟩
    · exact ⟨9, by decide, by omega, rfl⟩
    · exact ⟨most, by omega, by omega, rfl⟩
  obtain ⟨b, b1, b2, e2⟩ := hb
  have bm : imax 9 most < 2 ^ 60 := by unfold imax; split <;> omega
  obtain ⟨n, m2, n0, n1, hm2, e3⟩ := take_ok k numbers hm1 (by omega) (by omega)
  have B0 : 0 ≤ imax 9 most := by unfold imax; split <;> omega
  -- the row
  have ro : rOk (1 + n) = true := by unfold rOk; simp; omega
  have ht : (1 + n).toNat = n.toNat + 1 := by omega
  have comp : ∃ ys m3, ev (callK Pp (k + 1)) c_law_some_1 true ⟨[some (.val (.loc 0)), some (.val (.int numbers)), some (.val (.int most)), some (.val (.int b)), none, none], m1⟩ = some (.ok (.own ys) ⟨[some (.val (.loc 0)), some (.val (.int numbers)), some (.val (.int most)), some (.val (.int b)), none, none], m3⟩) ∧
      DOk m3 r ∧ (∀ y ∈ ys, ∃ i : Int, y = .int i ∧ 0 ≤ i ∧ i ≤ imax 9 most) ∧ ys.length = n.toNat + 1 := by
    obtain ⟨ys, m3, q1, ⟨e', o, q2, q3⟩, q4, q5⟩ := ev_lc_ex (K := callK Pp (k + 1)) (own := [5]) (tg := .n 5) (it := .range1 (.bin .add (.c (.int 1)) (.call 17 (.cons (.s 0) (.cons (.s 1) .nil))))) (ifs := .nil) (e := .ite (.cmp (.call 17 (.cons (.s 0) (.cons (.c (.int 4)) .nil))) (.one .gt (.c (.int 0)))) (.call 17 (.cons (.s 0) (.cons (.bin .add (.s 3) (.c (.int 1))) .nil))) (.c (.int 0))) (t := true)
      (s := ⟨[some (.val (.loc 0)), some (.val (.int numbers)), some (.val (.int most)), some (.val (.int b)), none, none], m1⟩) (s1 := ⟨[some (.val (.loc 0)), some (.val (.int numbers)), some (.val (.int most)), some (.val (.int b)), none, none], m2⟩) (v := fun i : Nat => .int (i : Int)) (xs := List.range (n.toNat + 1))
      (fun s => ∃ o, DOk s.m r ∧ s.e = [some (.val (.loc 0)), some (.val (.int numbers)), some (.val (.int most)), some (.val (.int b)), none, o]) (fun y => ∃ i : Int, y = .int i ∧ 0 ≤ i ∧ i ≤ imax 9 most)
      (by simp [e3, ro, ht]; rfl) ⟨none, hm2, rfl⟩ (by rintro ⟨e, m⟩ ⟨o, h, rfl⟩; rfl)
      (by
        rintro i hi ⟨e, m⟩ ⟨o, h, rfl⟩
        obtain ⟨c, m4, c0, c4, hm4, e4⟩ := take_ok k 4 h (by decide) (by decide)
        by_cases hc : 0 < c
        · obtain ⟨d, m5, d0, d1, hm5, e5⟩ := take_ok k (b + 1) hm4 (by omega) (by omega)
          exact ⟨.int d, ⟨[some (.val (.loc 0)), some (.val (.int numbers)), some (.val (.int most)), some (.val (.int b)), none, some (.val (.int i))], m5⟩, by
            simp at e4
            simp [wiped, wipe, e4, e5, hc], ⟨_, hm5, rfl⟩, d, rfl, d0, by omega⟩
        · exact ⟨.int 0, ⟨[some (.val (.loc 0)), some (.val (.int numbers)), some (.val (.int most)), some (.val (.int b)), none, some (.val (.int i))], m4⟩, by
            simp at e4
            simp [wiped, wipe, e4, hc], ⟨_, hm4, rfl⟩, 0, rfl, by omega, by omega⟩)
      (by simp; omega)
    exact ⟨ys, m3, q1, q2, q4, by rw [q5]; simp⟩
  obtain ⟨ys, m3, c1, hm3, hy, hyl⟩ := comp
  have conv : ∃ xs : List Int, ys = xs.map .int ∧ ∀ x ∈ xs, 0 ≤ x ∧ x ≤ imax 9 most := by
    clear c1 hyl
    induction ys with
    | nil => exact ⟨[], rfl, fun _ h => absurd h (by simp)⟩
    | cons y ys ih =>
      obtain ⟨xs, e, hx⟩ := ih fun z hz => hy z (List.mem_cons_of_mem _ hz)
      obtain ⟨i, e2, hi⟩ := hy y List.mem_cons_self
      exact ⟨i :: xs, by rw [e, e2]; rfl, fun x hx' => (List.mem_cons.mp hx').elim (fun e => e ▸ hi) (hx x)⟩
  obtain ⟨xs, rfl, hx⟩ := conv
  rw [List.length_map] at hyl
  obtain ⟨zs, z1, z2, z3, z4⟩ := some_loop (callK Pp (k + 1)) (some (.val (.loc 0))) (some (.val (.int numbers))) (some (.val (.int most))) (some (.val (.int b))) none m3 xs (by omega)
  have pu : ∀ xs : List Int, (Val.lst (xs.map .int)).pure = true := fun xs => by
    show Val.flat (19 + 1) (.lst (xs.map .int)) = true
    rw [flat_lst, List.all_eq_true]
    intro x hx
    obtain ⟨i, hi, rfl⟩ := List.mem_map.mp hx
    rfl
  have q : eqS m3 (.pk (zs.map .int)) (.own []) = some (decide (zs = [])) := by
    rw [eqS_val (v := .lst (zs.map .int)) (w := .lst []) rfl rfl (pu zs) (by rfl)]
    unfold eqv
    have := eqvL_ints zs []
    rw [List.map_nil] at this
    rw [this]
  by_cases hz : zs = []
  · obtain ⟨d, m4, d0, d3, hm4, e5⟩ := take_ok k 3 hm3 (by decide) (by decide)
    have mx : 9 ≤ imax 9 most := by unfold imax; split <;> omega
    refine ⟨[1 + d], m4, ⟨by simp, by simpa using h1, fun x hx => ?_, by simp [gD]; omega⟩, hm4, ?_⟩
    · simp at hx; subst hx; omega
    · rw [call_eq rfl rfl]
      subst hz
      simp at q
      simp only [List.map_nil] at z4
      simp [d_law_some, frame, e1, e2, c1, z4, q, e5, hm.tl hm4, vI]
  · refine ⟨zs, m3, ⟨by cases zs with | nil => exact absurd rfl hz | cons => simp, by omega, fun x hx' => hx x (z2 x hx'), ?_⟩, hm3, ?_⟩
    · have zl : 0 < zs.length := by cases zs with | nil => exact absurd rfl hz | cons => simp
      have := hx _ (z2 _ (gD_mem (d := 0) (show zs.length - 1 < zs.length by omega)))
      rcases z3 with z | z
      · exact absurd z hz
      · omega
    · rw [call_eq rfl rfl]
      rw [decide_eq_false hz] at q
      simp [d_law_some, frame, e1, e2, c1, z4, q, hm.tl hm3, vI]
end Py.Q
end

section
set_option autoImplicit false
set_option linter.all false
set_option Elab.async false
set_option maxRecDepth 100000
set_option maxHeartbeats 4000000
set_option exponentiation.threshold 5000
/-! Rounds: who wins over whom. -/
namespace Py.Q
theorem gD_ge {α : Type} {xs : List α} {d : α} {i : Nat} (h : xs.length ≤ i) : gD xs d i = d := by
  simp [gD, List.getD_eq_getElem?_getD, List.getElem?_eq_none h]
/-- bounds of the numbers at all places -/
theorem gD_bd {xs : List Int} {B : Int} (h : ∀ x ∈ xs, 0 ≤ x ∧ x ≤ B) (hB : 0 ≤ B) (i : Nat) : 0 ≤ gD xs 0 i ∧ gD xs 0 i ≤ B := by
  by_cases hi : i < xs.length
  · exact h _ (gD_mem hi)
  · rw [gD_ge (by omega)]; exact ⟨Int.le_refl _, hB⟩
theorem sm_bd {f : Nat → Int} {B : Int} (h : ∀ i, 0 ≤ f i ∧ f i ≤ B) (n : Nat) : 0 ≤ sm n f ∧ sm n f ≤ n * B := by
  refine ⟨sm_nonneg fun i _ => (h i).1, ?_⟩
  have := sm_le (f := f) (g := fun _ => B) (n := n) fun i _ => (h i).2
  rwa [sm_const] at this
theorem heads_ok (k : Nat) (v : Val) (n : Nat) (f : Nat → Int) (m : Mem) (hv : v = .lst (arr n fun i => .int (f i)) ∨ v = .tup (arr n fun i => .int (f i))) (hn : n ≤ 16777216) :
    callK Pp (k + 1) 44 [v] m = some (.ok (.own (arr n fun i => .int (sm (i + 1) f))) m) := by
  rw [call_eq rfl rfl]
  obtain ⟨s', hl, o, rfl⟩ := forM_arr (tg := .n 3) (body := exs (callK Pp k) b_heads_1) (v := fun i => .int (f i)) (n := n)
    (fun j s => ∃ o, s = (⟨[some (.val v), some (.own (arr j fun i => .int (sm (i + 1) f))), some (.val (.int (sm j f))), o], m⟩ : S))
    (by
      rintro j s hj ⟨o, rfl⟩
      have e : (arr j fun i => Val.int (sm (i + 1) f)) ++ [.int (sm j f + f j)] = arr (j + 1) fun i => .int (sm (i + 1) f) := by rw [arr_succ]; rfl
      have hz : j < szl := by unfold szl; omega
      exact ⟨_, ⟨[some (.val v), some (.own (arr (j + 1) fun i => .int (sm (i + 1) f))), some (.val (.int (sm (j + 1) f))), some (.val (.int (f j)))], m⟩, rfl, by simp [b_heads_1, hz, e]; rfl, _, rfl⟩)
    ⟨[some (.val v), some (.own []), some (.val (.int 0)), none], m⟩ ⟨none, rfl⟩
  rcases hv with rfl | rfl <;> simp [d_heads, frame, hl]
/-- the weight with which x is greater, less that with which it is less: over n places -/
def gapW (n : Nat) (x y : Nat → Int) : Int := sm n fun k => y k * (sm k x - (sm n x - sm (k + 1) x))
def moreW (n : Nat) (x y : Nat → Int) : Int := sm n fun k => x k * sm k y
theorem gapW_eq (n : Nat) (x y : Nat → Int) : gapW n x y = moreW n y x - moreW n x y := by
  have T : ∀ n, sm n (fun k => y k * (sm n x - sm (k + 1) x)) = moreW n x y := by
    intro n
    induction n with
    | zero => rfl
    | succ n ih =>
      unfold moreW at *
      show sm n (fun k => y k * (sm n x + x n - sm (k + 1) x)) + y n * (sm (n + 1) x - sm (n + 1) x) = sm n (fun k => x k * sm k y) + x n * sm n y
      rw [sm_congr (g := fun k => y k * (sm n x - sm (k + 1) x) + x n * y k) fun i _ => by grind, sm_add, ih, sm_mul]
      grind
  unfold gapW
  rw [sm_congr (g := fun k => y k * sm k x - y k * (sm n x - sm (k + 1) x)) fun i _ => by grind, sm_sub, T]
  rfl
theorem wins_ok (k : Nat) (n l : Nat) (x y : Nat → Int) (m : Mem) (hx : ∀ i, 0 ≤ x i ∧ x i ≤ 1000000) (hy : ∀ i, 0 ≤ y i ∧ y i ≤ 1000000) (hn : n ≤ 1000) (h0 : 1 ≤ n) :
    callK Pp (k + 2) 49 [.lst (arr n fun i => .int (x i)), .lst (arr n fun i => .int (y i))] m = some (.ok (.val (.int (gapW n x y))) m) := by
  rw [call_eq rfl rfl]
  have hh := heads_ok k _ n x m (.inl rfl) (by omega)
  obtain ⟨s', hl, o4, o5, rfl⟩ := forM_arr (tg := .t (.cons (.n 4) (.cons (.n 5) .nil))) (body := exs (callK Pp (k + 1)) b_wins_1) (v := fun i : Nat => .tup [.int (i : Int), .int (y i)]) (n := n)
    (fun j s => ∃ o4 o5, s = (⟨[some (.val (.lst (arr n fun i => .int (x i)))), some (.val (.lst (arr n fun i => .int (y i)))), some (.val (.int (sm j fun k => y k * (sm k x - (sm n x - sm (k + 1) x))))), some (.own (arr n fun i => .int (sm (i + 1) x))), o4, o5], m⟩ : S))
    (by
      rintro j s hj ⟨o4, o5, rfl⟩
      have b1 := sm_bd hx j
      have b2 := sm_bd hx n
      have b3 := sm_bd hx (j + 1)
      have by1 := hy j
      have hc : (n : Int) * 1000000 ≤ 1000 * 1000000 := Int.mul_le_mul_of_nonneg_right (by omega) (by decide)
      have hc1 : (j : Int) * 1000000 ≤ 1000 * 1000000 := Int.mul_le_mul_of_nonneg_right (by omega) (by decide)
      have hc2 : ((j + 1 : Nat) : Int) * 1000000 ≤ 1000 * 1000000 := Int.mul_le_mul_of_nonneg_right (by omega) (by decide)
      have s1 : small (y j) = true := sm_lit (by omega)
      have s2 : small (sm j x - (sm n x - sm (j + 1) x)) = true := sm_lit (by omega)
      have gl : getI (arr n fun i => Val.int (sm (i + 1) x)) (-1) = some (.int (sm n x)) := by
        rw [getI_last (by omega), show n - 1 + 1 = n by omega]
      refine ⟨_, ⟨[some (.val (.lst (arr n fun i => .int (x i)))), some (.val (.lst (arr n fun i => .int (y i)))), some (.val (.int (sm (j + 1) fun k => y k * (sm k x - (sm n x - sm (k + 1) x))))), some (.own (arr n fun i => .int (sm (i + 1) x))), some (.val (.int j)), some (.val (.int (y j)))], m⟩, rfl, ?_, _, _, rfl⟩
      by_cases hj0 : 0 < j
      · have g : getI (arr n fun i => Val.int (sm (i + 1) x)) ((j : Int) - 1) = some (.int (sm j x)) := by
          rw [show (j : Int) - 1 = ((j - 1 : Nat) : Int) by omega, getI_arr (by omega), show j - 1 + 1 = j by omega]
        simp [b_wins_1, hj0, g, gl, hj, s1, s2]
        rfl
      · have : j = 0 := by omega
        subst this
        have g0 : getI (arr n fun i => Val.int (sm (i + 1) x)) 0 = some (.int (sm 1 x)) := getI_arr (k := 0) (by omega)
        have s2' : small (-(sm n x - sm 1 x)) = true := by
          have : (0 : Int) - (sm n x - sm 1 x) = -(sm n x - sm 1 x) := by omega
          rw [← this]; exact s2
        simp [b_wins_1, g0, gl, s1, s2']
        simp [sm])
    ⟨[some (.val (.lst (arr n fun i => .int (x i)))), some (.val (.lst (arr n fun i => .int (y i)))), some (.val (.int 0)), some (.own (arr n fun i => .int (sm (i + 1) x))), none, none], m⟩ ⟨_, _, rfl⟩
  simp [d_wins, frame, hh, oOk, hl, gapW]
def mx (a b : Nat) : Nat := if b > a then b else a
theorem imax_nat (a b : Nat) : imax (a : Int) (b : Int) = (mx a b : Nat) := by
  unfold imax mx
  by_cases h : b > a
  · rw [if_pos h, if_pos (by omega)]
  · rw [if_neg h, if_neg (by omega)]
theorem le_mx (a b : Nat) : a ≤ mx a b ∧ b ≤ mx a b := by unfold mx; split <;> omega
theorem padA (xs : List Int) (n : Nat) (h : xs.length ≤ n) : xs.map Val.int ++ (arr (n - xs.length) fun _ => Val.int 0) = arr n fun i => .int (gD xs 0 i) := by
  rw [map_arr xs 0, arr_app, show xs.length + (n - xs.length) = n by omega]
  refine arr_congr fun i hi => ?_
  by_cases h : i < xs.length
  · rw [if_pos h]
  · rw [if_neg h, gD_ge (by omega)]
theorem padded_ok (k : Nat) (xs ys : List Int) (m : Mem) (hx : xs.length ≤ 1000) (hy : ys.length ≤ 1000) :
    callK Pp (k + 1) 144 [vI xs, vI ys] m = some (.ok (.val (.tup [.lst (arr (mx xs.length ys.length) fun i => .int (gD xs 0 i)), .lst (arr (mx xs.length ys.length) fun i => .int (gD ys 0 i))])) m) := by
  rw [call_eq rfl rfl]
  have hm := le_mx xs.length ys.length
  have hm2 : mx xs.length ys.length ≤ 1000 := by unfold mx; split <;> omega
  have hn := imax_nat xs.length ys.length
  rw [← padA xs _ hm.1, ← padA ys _ hm.2]
  generalize mx xs.length ys.length = n at *
  have e1 : ((n : Int) - xs.length).toNat = n - xs.length := by omega
  have e2 : ((n : Int) - ys.length).toNat = n - ys.length := by omega
  have r1 : rOk ((n : Int) - xs.length) = true := by unfold rOk; simp; omega
  have r2 : rOk ((n : Int) - ys.length) = true := by unfold rOk; simp; omega
  have z1 : n - xs.length ≤ 16777216 := by omega
  have z2 : n - ys.length ≤ 16777216 := by omega
  have z3 : xs.length + (n - xs.length) ≤ 16777216 := by omega
  have z4 : ys.length + (n - ys.length) ≤ 16777216 := by omega
  simp [d_padded, frame, vI, hn, r1, r2, e1, e2, z1, z2, z3, z4]
theorem ahead_ok (k : Nat) (xs ys : List Int) (m : Mem) (hx : DrOk 1000 1000000 xs) (hy : DrOk 1000 1000000 ys) :
    callK Pp (k + 3) 145 [vI xs, vI ys] m = some (.ok (.val (.int (moreW (mx xs.length ys.length) (gD xs 0) (gD ys 0) - moreW (mx xs.length ys.length) (gD ys 0) (gD xs 0)))) m) := by
  rw [call_eq rfl rfl]
  have h1 := padded_ok (k + 1) xs ys m hx.len hy.len
  have hm := le_mx xs.length ys.length
  have hm2 : mx xs.length ys.length ≤ 1000 := by have := hx.len; have := hy.len; unfold mx; split <;> omega
  have h2 := wins_ok k (mx xs.length ys.length) 0 (gD ys 0) (gD xs 0) m (gD_bd hy.le (by decide)) (gD_bd hx.le (by decide)) hm2 (by have := hx.pos; omega)
  rw [gapW_eq] at h2
  simp [d_ahead, frame, h1, h2]
theorem moreW_len (xs ys : List Int) {n : Nat} (h : xs.length ≤ n) : moreW n (gD xs 0) (gD ys 0) = moreW xs.length (gD xs 0) (gD ys 0) := by
  unfold moreW
  rw [show n = xs.length + (n - xs.length) by omega, sm_split, sm_congr (n := n - xs.length) (g := fun _ => 0) fun i _ => by rw [gD_ge (by omega), Int.zero_mul], sm_zero]
  omega
def sgn (i : Int) : Int := if 0 < i then 1 else if i < 0 then -1 else 0
theorem sign_ok (k : Nat) (i : Int) (m : Mem) : callK Pp (k + 1) 146 [.int i] m = some (.ok (.val (.int (sgn i))) m) := by
  rw [call_eq rfl rfl]
  by_cases h : 0 < i
  · have h2 : ¬ i < 0 := by omega
    simp [d_sign, frame, sgn, h, h2, b2i]
  · by_cases h2 : i < 0
    · simp [d_sign, frame, sgn, h, h2, b2i]
    · simp [d_sign, frame, sgn, h, h2, b2i]
def more (xs ys : List Int) : Int := moreW xs.length (gD xs 0) (gD ys 0)
def gap (xs ys : List Int) : Int := more xs ys - more ys xs
theorem ahead_ok2 (k : Nat) (xs ys : List Int) (m : Mem) (hx : DrOk 1000 1000000 xs) (hy : DrOk 1000 1000000 ys) : callK Pp (k + 3) 145 [vI xs, vI ys] m = some (.ok (.val (.int (gap xs ys))) m) := by
  have hm := le_mx xs.length ys.length
  rw [ahead_ok k xs ys m hx hy, moreW_len xs ys hm.1, moreW_len ys xs hm.2]
  rfl
/-- players -/
def arePl : Val → Bool
  | .tup xs => decide (2 ≤ xs.length) && decide (xs.length ≤ 8) && xs.all isDr
  | _ => false
theorem are_players_ok (k : Nat) (v : Val) (m : Mem) : callK Pp (k + 3) 142 [v] m = some (.ok (.val (.bl (arePl v))) m) := by
  rw [call_eq rfl rfl]
  cases v with
  | tup xs =>
    by_cases h1 : 2 ≤ xs.length
    · have i1 : (2 : Int) ≤ xs.length := by omega
      by_cases h2 : xs.length ≤ 8
      · have i2 : (xs.length : Int) ≤ 8 := by omega
        have c : ∀ t, ev (callK Pp (k + 2)) c_are_players_1 t ⟨[some (.val (.tup xs)), none], m⟩ = some (.ok (.own (arr xs.length fun i => .bl (isDr (gD xs .non i)))) ⟨[some (.val (.tup xs)), none], m⟩) := fun t =>
          ev_lc_arr (v := gD xs .non) _ (by simp [← arr_gD xs .non]) (fun i hi => ⟨⟨[some (.val (.tup xs)), some (.val (gD xs .non i))], m⟩, by simp [wiped, wipe], by simp [wiped, wipe]⟩) (by omega)
        simp [d_are_players, frame, isTy, i1, i2, c, arePl, h1, h2, all_gD]
      · have i2 : ¬ (xs.length : Int) ≤ 8 := by omega
        simp [d_are_players, frame, isTy, i1, i2, arePl, h1, h2]
    · have i1 : ¬ (2 : Int) ≤ xs.length := by omega
      simp [d_are_players, frame, isTy, i1, arePl, h1]
  | _ => simp [d_are_players, frame, isTy, arePl]
theorem check_players_ok (k : Nat) (v : Val) (m : Mem) (h : arePl v = true) : callK Pp (k + 4) 143 [v] m = some (.ok (.val .non) m) := by
  rw [call_eq rfl rfl]
  simp [d_check_players, frame, are_players_ok, h]
/-- rows of draws -/
abbrev Drs := List (List Int)
def vD (ds : Drs) : Val := .tup (ds.map vI)
@[simp] theorem items_vI {m : Mem} {xs : List Int} : items m (.val (vI xs)) = some (xs.map .int) := by rfl
@[simp] theorem items_vD {m : Mem} {xs : Drs} : items m (.val (vD xs)) = some (xs.map vI) := by rfl
@[simp] theorem srcs_vI {t : Bool} {xs : List Int} : srcs t (.val (vI xs)) = some (xs.map .int) := by rfl
@[simp] theorem srcs_vD {t : Bool} {xs : Drs} : srcs t (.val (vD xs)) = some (xs.map vI) := by rfl
@[simp] theorem isTup_vI {xs : List Int} : isTup (.val (vI xs)) = true := by rfl
@[simp] theorem isTup_vD {xs : Drs} : isTup (.val (vD xs)) = true := by rfl
structure PlOk (ds : Drs) : Prop where
  two : 2 ≤ ds.length
  len : ds.length ≤ 8
  ok : ∀ d ∈ ds, DrOk 30 1000000 d
theorem arePl_ok {ds : Drs} (h : PlOk ds) : arePl (vD ds) = true := by
  have h1 := h.two
  have h2 := h.len
  have : (ds.map vI).all isDr = true := by
    rw [List.all_map, List.all_eq_true]
    exact fun d hd => isDr_ok (h.ok d hd) (Nat.le_refl _) (Int.le_refl _)
  simp [arePl, vD, this, h1, h2]
theorem arePl_of {v : Val} (h : arePl v = true) : ∃ ds, v = vD ds ∧ PlOk ds := by
  cases v with
  | tup xs =>
    simp only [arePl, Bool.and_eq_true, decide_eq_true_eq] at h
    obtain ⟨⟨h1, h2⟩, h3⟩ := h
    have conv : ∀ ys : List Val, ys.all isDr = true → ∃ ds : Drs, ys = ds.map vI ∧ ∀ d ∈ ds, DrOk 30 1000000 d := by
      intro ys
      induction ys with
      | nil => intro _; exact ⟨[], rfl, fun _ h => absurd h (by simp)⟩
      | cons y ys ih =>
        intro h
        simp only [List.all_cons, Bool.and_eq_true] at h
        obtain ⟨ds, e, hd⟩ := ih h.2
        obtain ⟨d, rfl, hd2⟩ := isDr_of h.1
        exact ⟨d :: ds, by rw [e]; rfl, fun x hx => (List.mem_cons.mp hx).elim (fun e => e ▸ hd2) (hd x)⟩
    obtain ⟨ds, rfl, hd⟩ := conv xs h3
    rw [List.length_map] at h1 h2
    exact ⟨ds, rfl, h1, h2, hd⟩
  | _ => cases h
/-- the table of who wins over whom -/
def tbl (ds : Drs) (i j : Nat) : Int := sgn (gap (gD ds [] i) (gD ds [] j))
def vT (n : Nat) (t : Nat → Nat → Int) : Val := .tup (arr n fun i => .tup (arr n fun j => .int (t i j)))
theorem DrOk.k {xs : List Int} (h : DrOk 30 1000000 xs) : DrOk 1000 1000000 xs := h.mono (by decide) (Int.le_refl _)
theorem round_of_ok (k : Nat) {ds : Drs} (m : Mem) (h : PlOk ds) : callK Pp (k + 5) 147 [vD ds] m = some (.ok (.val (vT ds.length (tbl ds))) m) := by
  rw [call_eq rfl rfl]
  have hc := check_players_ok k (vD ds) m (arePl_ok h)
  have hl := h.len
  have z : ds.length ≤ 16777216 := by omega
  have e : vD ds = .tup (arr ds.length fun i => vI (gD ds [] i)) := by unfold vD; rw [map_arr ds []]
  have inner : ∀ i, i < ds.length → ∀ t o, ev (callK Pp (k + 4)) c_round_of_1 t ⟨[some (.val (vD ds)), some (.val (vI (gD ds [] i))), o], m⟩ = some (.ok (.own (arr ds.length fun j => .int (tbl ds i j))) ⟨[some (.val (vD ds)), some (.val (vI (gD ds [] i))), o], m⟩) := fun i hi t o =>
    ev_lc_arr (v := fun j => vI (gD ds [] j)) _ (by simp [e]) (fun j hj => ⟨⟨[some (.val (vD ds)), some (.val (vI (gD ds [] i))), some (.val (vI (gD ds [] j)))], m⟩, by
      have q := ahead_ok2 (k + 1) (gD ds [] i) (gD ds [] j) m (h.ok _ (gD_mem hi)).k (h.ok _ (gD_mem hj)).k
      simp [wiped, wipe, q, sign_ok, tbl], by simp [wiped, wipe]⟩) z
  have outer : ∀ t, ev (callK Pp (k + 4)) c_round_of_2 t ⟨[some (.val (vD ds)), none, none], m⟩ = some (.ok (.own (arr ds.length fun i => .tup (arr ds.length fun j => .int (tbl ds i j)))) ⟨[some (.val (vD ds)), none, none], m⟩) := fun t =>
    ev_lc_arr (v := fun j => vI (gD ds [] j)) _ (by simp [e]) (fun i hi => ⟨⟨[some (.val (vD ds)), some (.val (vI (gD ds [] i))), none], m⟩, by simp [wiped, wipe, inner i hi], by simp [wiped, wipe]⟩) z
  simp [d_round_of, frame, hc, outer, vT]
end Py.Q
end

section
set_option autoImplicit false
set_option linter.all false
set_option Elab.async false
set_option maxRecDepth 100000
set_option maxHeartbeats 4000000
set_option exponentiation.threshold 5000
/-! Fractions as rationals. -/
namespace Py.Q
/-- a fraction's value -/
def vq (q : Rat) : Val := .tup [.int q.num, .int q.den]
theorem fr_rat {n d : Int} (hd : 0 < d) : fr n d = ((Rat.divInt n d).num, ((Rat.divInt n d).den : Int)) := by
  have e := Rat.num_divInt_den (Rat.divInt n d)
  have p := (Rat.divInt n d).den_pos
  have h := (Rat.divInt_eq_divInt_iff (d₁ := (((Rat.divInt n d).den : Nat) : Int)) (d₂ := d) (n₁ := (Rat.divInt n d).num) (n₂ := n) (by omega) (by omega)).mp e
  refine fr_of hd (by omega) ?_ h
  have r := (Rat.divInt n d).reduced
  show ((Int.gcd _ _ : Nat) : Int) = 1
  have : Int.gcd (Rat.divInt n d).num ((Rat.divInt n d).den : Int) = 1 := by
    show Nat.gcd (Rat.divInt n d).num.natAbs ((Rat.divInt n d).den : Int).natAbs = 1
    rw [Int.natAbs_natCast]
    exact r
  rw [this]
  rfl
theorem vfr_q {n d : Int} (hd : 0 < d) : vfr (fr n d) = vq (Rat.divInt n d) := by rw [fr_rat hd]; rfl
theorem vq_inj {a b : Rat} : vq a = vq b ↔ a = b := by
  constructor
  · intro h
    unfold vq at h
    injection h with h
    injection h with h1 h2
    injection h1 with h1
    injection h2 with h2
    injection h2 with h2
    exact Rat.ext h1 (by exact_mod_cast h2)
  · intro h; rw [h]
@[simp] theorem items_vq {m : Mem} {q : Rat} : items m (.val (vq q)) = some [.int q.num, .int q.den] := by rfl
@[simp] theorem isTup_vq {q : Rat} : isTup (.val (vq q)) = true := by rfl
theorem flat_vq (q : Rat) (n : Nat) : (vq q).flat (n + 1) = true := by simp [vq, Val.flat]
theorem pure_vq (q : Rat) : (vq q).pure = true := flat_vq q 19
theorem eqv_vq (a b : Rat) : eqv (vq a) (vq b) = decide (a = b) := by
  by_cases h : a = b
  · subst h
    rw [decide_eq_true rfl]
    exact eqv_self _ 20 (pure_vq a)
  · rw [decide_eq_false h]
    have hn : ¬ (a.num = b.num ∧ (a.den : Int) = b.den) := fun ⟨h1, h2⟩ => h (Rat.ext h1 (by exact_mod_cast h2))
    unfold vq
    simp [eqv, eqvL]
    intro h1 h2
    exact hn ⟨h1, by exact_mod_cast h2⟩
theorem eqS_vq (m : Mem) (a b : Rat) : eqS m (.val (vq a)) (.val (vq b)) = some (decide (a = b)) := by rw [eqS_val rfl rfl (pure_vq a) (pure_vq b), eqv_vq]
/-- of small parts -/
structure Qb (k : Nat) (q : Rat) : Prop where
  num : q.num.natAbs ≤ 2 ^ k
  den : q.den ≤ 2 ^ k
theorem Qb.mono {k l : Nat} {q : Rat} (h : Qb k q) (hl : k ≤ l) : Qb l q := ⟨Nat.le_trans h.num (pow_mono' hl), Nat.le_trans h.den (pow_mono' hl)⟩
  where pow_mono' {k l : Nat} (h : k ≤ l) : 2 ^ k ≤ 2 ^ l := Nat.pow_le_pow_right (by decide) h
theorem Qb.sn {k : Nat} {q : Rat} (h : Qb k q) (hk : k ≤ 1800) : Sm q.num := Nat.lt_of_le_of_lt h.num (Nat.pow_lt_pow_right (by decide) (by omega))
theorem Qb.sd {k : Nat} {q : Rat} (h : Qb k q) (hk : k ≤ 1800) : Sm (q.den : Int) := Nat.lt_of_le_of_lt (show ((q.den : Int)).natAbs ≤ 2 ^ k by rw [Int.natAbs_natCast]; exact h.den) (Nat.pow_lt_pow_right (by decide) (by omega))
theorem divInt_bd {n d : Int} (hd : 0 < d) {k : Nat} (hn : n.natAbs ≤ 2 ^ k) (hk : d.natAbs ≤ 2 ^ k) : Qb k (Rat.divInt n d) := by
  have e := fr_rat (n := n) hd
  have h1 := fr_num_le (n := n) hd
  have h2 := fr_den_le (n := n) hd
  rw [e] at h1 h2
  exact ⟨Nat.le_trans h1 hn, by omega⟩
theorem add_divInt (a b : Rat) : a + b = Rat.divInt (a.num * b.den + b.num * a.den) (a.den * b.den) := by
  conv => lhs; rw [← Rat.num_divInt_den a, ← Rat.num_divInt_den b]
  exact Rat.divInt_add_divInt _ _ (by have := a.den_pos; omega) (by have := b.den_pos; omega)
theorem sub_divInt (a b : Rat) : a - b = Rat.divInt (a.num * b.den - b.num * a.den) (a.den * b.den) := by
  conv => lhs; rw [← Rat.num_divInt_den a, ← Rat.num_divInt_den b]
  exact Rat.divInt_sub_divInt _ _ (by have := a.den_pos; omega) (by have := b.den_pos; omega)
theorem mul_divInt (a b : Rat) : a * b = Rat.divInt (a.num * b.num) (a.den * b.den) := by
  conv => lhs; rw [← Rat.num_divInt_den a, ← Rat.num_divInt_den b]
  exact Rat.divInt_mul_divInt _ _
theorem den_mul_pos (a b : Rat) : (0 : Int) < (a.den : Int) * b.den := Int.mul_pos (by have := a.den_pos; omega) (by have := b.den_pos; omega)
theorem nat_mul_le {a b k l : Nat} (h1 : a ≤ 2 ^ k) (h2 : b ≤ 2 ^ l) : a * b ≤ 2 ^ (k + l) := by
  rw [Nat.pow_add]
  exact Nat.mul_le_mul h1 h2
theorem Qb.add {k l : Nat} {a b : Rat} (h1 : Qb k a) (h2 : Qb l b) : Qb (k + l + 1) (a + b) := by
  rw [add_divInt]
  refine divInt_bd (den_mul_pos a b) ?_ ?_
  · have e1 : (a.num * b.den).natAbs ≤ 2 ^ (k + l) := by rw [Int.natAbs_mul, Int.natAbs_natCast]; exact nat_mul_le h1.num h2.den
    have e2 : (b.num * a.den).natAbs ≤ 2 ^ (k + l) := by rw [Int.natAbs_mul, Int.natAbs_natCast, Nat.mul_comm]; exact nat_mul_le h1.den h2.num
    have := Int.natAbs_add_le (a.num * b.den) (b.num * a.den)
    rw [Nat.pow_succ]
    omega
  · rw [Int.natAbs_mul, Int.natAbs_natCast, Int.natAbs_natCast]
    exact Nat.le_trans (nat_mul_le h1.den h2.den) (Nat.pow_le_pow_right (by decide) (by omega))
theorem Qb.neg {k : Nat} {a : Rat} (h : Qb k a) : Qb k (-a) := ⟨by rw [Rat.neg_num, Int.natAbs_neg]; exact h.num, by rw [Rat.neg_den]; exact h.den⟩
theorem Qb.sub {k l : Nat} {a b : Rat} (h1 : Qb k a) (h2 : Qb l b) : Qb (k + l + 1) (a - b) := by rw [Rat.sub_eq_add_neg]; exact h1.add h2.neg
theorem Qb.mul {k l : Nat} {a b : Rat} (h1 : Qb k a) (h2 : Qb l b) : Qb (k + l) (a * b) := by
  rw [mul_divInt]
  refine divInt_bd (den_mul_pos a b) ?_ ?_
  · rw [Int.natAbs_mul]; exact nat_mul_le h1.num h2.num
  · rw [Int.natAbs_mul, Int.natAbs_natCast, Int.natAbs_natCast]; exact nat_mul_le h1.den h2.den
section
variable {a b : Rat} {i j : Nat}
theorem lowest_q (k : Nat) (n d : Int) (m : Mem) (h : 0 < d) (hs : small d = true) : callK Pp (k + 2) 2 [.int n, .int d] m = some (.ok (.val (vq (Rat.divInt n d))) m) := by rw [lowest_ok k n d m h hs, vfr_q h]
theorem frac_q (k : Nat) (n d : Int) (m : Mem) (h : 0 < d) (hs : small d = true) : callK Pp (k + 1) 20 [.int n, .int d] m = some (.ok (.val (vq (Rat.divInt n d))) m) := by rw [law_frac_ok k n d m h hs, vfr_q h]
theorem plus_q (k : Nat) (m : Mem) (ha : Qb i a) (hb : Qb j b) (h1 : i ≤ 900) (h2 : j ≤ 900) : callK Pp (k + 3) 88 [vq a, vq b] m = some (.ok (.val (vq (a + b))) m) := by
  have p := den_mul_pos a b
  have s := sm2 (ha.sd (by omega)) (hb.sd (by omega))
  rw [call_eq rfl rfl, add_divInt]
  simp [d_plus, frame, vq, (ha.sn (by omega)).small, (hb.sn (by omega)).small, (ha.sd (by omega)).small, (hb.sd (by omega)).small, lowest_q, p, s]
theorem minus_q (k : Nat) (m : Mem) (ha : Qb i a) (hb : Qb j b) (h1 : i ≤ 900) (h2 : j ≤ 900) : callK Pp (k + 3) 89 [vq a, vq b] m = some (.ok (.val (vq (a - b))) m) := by
  have p := den_mul_pos a b
  have s := sm2 (ha.sd (by omega)) (hb.sd (by omega))
  rw [call_eq rfl rfl, sub_divInt]
  simp [d_minus, frame, vq, (ha.sn (by omega)).small, (hb.sn (by omega)).small, (ha.sd (by omega)).small, (hb.sd (by omega)).small, lowest_q, p, s]
theorem times_q (k : Nat) (m : Mem) (ha : Qb i a) (hb : Qb j b) (h1 : i ≤ 900) (h2 : j ≤ 900) : callK Pp (k + 3) 90 [vq a, vq b] m = some (.ok (.val (vq (a * b))) m) := by
  have p := den_mul_pos a b
  have s := sm2 (ha.sd (by omega)) (hb.sd (by omega))
  rw [call_eq rfl rfl, mul_divInt]
  simp [d_times, frame, vq, (ha.sn (by omega)).small, (hb.sn (by omega)).small, (ha.sd (by omega)).small, (hb.sd (by omega)).small, lowest_q, p, s]
theorem below_q (k : Nat) (m : Mem) (ha : Qb i a) (hb : Qb j b) (h1 : i ≤ 1800) (h2 : j ≤ 1800) : callK Pp (k + 1) 92 [vq a, vq b] m = some (.ok (.val (.bl (decide (a < b)))) m) := by
  rw [call_eq rfl rfl]
  have e : decide (a < b) = decide (a.num * b.den < b.num * a.den) := decide_eq_decide.mpr (Rat.lt_iff a b)
  rw [e]
  simp [d_below, frame, vq, (ha.sn h1).small, (hb.sn h2).small, (ha.sd h1).small, (hb.sd h2).small]
theorem lesser_q (k : Nat) (m : Mem) (ha : Qb i a) (hb : Qb j b) (h1 : i ≤ 1800) (h2 : j ≤ 1800) : callK Pp (k + 2) 94 [vq a, vq b] m = some (.ok (.val (vq (if b < a then b else a))) m) := by
  rw [call_eq rfl rfl]
  have e := below_q k m hb ha h2 h1
  by_cases h : b < a
  · simp [d_lesser, frame, e, h]
  · simp [d_lesser, frame, e, h]
end
end Py.Q
end

section
set_option autoImplicit false
set_option linter.all false
set_option Elab.async false
set_option maxRecDepth 100000
set_option maxHeartbeats 4000000
set_option exponentiation.threshold 5000
/-! Sums of fractions. -/
namespace Py.Q
def qs : Nat → (Nat → Rat) → Rat
  | 0, _ => 0
  | n + 1, f => qs n f + f n
theorem qs_congr {f g : Nat → Rat} : ∀ {n : Nat}, (∀ i, i < n → f i = g i) → qs n f = qs n g
  | 0, _ => rfl
  | n + 1, h => by unfold qs; rw [qs_congr fun i hi => h i (by omega), h n (by omega)]
theorem qs_add {f g : Nat → Rat} : ∀ {n : Nat}, qs n (fun i => f i + g i) = qs n f + qs n g
  | 0 => by show (0 : Rat) = 0 + 0; grind
  | n + 1 => by unfold qs; rw [qs_add]; grind
theorem qs_sub {f g : Nat → Rat} : ∀ {n : Nat}, qs n (fun i => f i - g i) = qs n f - qs n g
  | 0 => by show (0 : Rat) = 0 - 0; grind
  | n + 1 => by unfold qs; rw [qs_sub]; grind
theorem qs_mul {f : Nat → Rat} {c : Rat} : ∀ {n : Nat}, qs n (fun i => c * f i) = c * qs n f
  | 0 => by show (0 : Rat) = c * 0; grind
  | n + 1 => by unfold qs; rw [qs_mul]; grind
theorem qs_zero : ∀ {n : Nat}, qs n (fun _ => 0) = 0
  | 0 => rfl
  | n + 1 => by unfold qs; rw [qs_zero]; grind
theorem qs_nonneg {f : Nat → Rat} : ∀ {n : Nat}, (∀ i, i < n → 0 ≤ f i) → 0 ≤ qs n f
  | 0, _ => by show (0 : Rat) ≤ 0; grind
  | n + 1, h => by
    have h1 := qs_nonneg (n := n) fun i hi => h i (by omega)
    have h2 := h n (by omega)
    unfold qs
    grind
theorem qs_le {f g : Nat → Rat} : ∀ {n : Nat}, (∀ i, i < n → f i ≤ g i) → qs n f ≤ qs n g
  | 0, _ => by show (0 : Rat) ≤ 0; grind
  | n + 1, h => by
    have h1 := qs_le (n := n) fun i hi => h i (by omega)
    have h2 := h n (by omega)
    unfold qs
    grind
theorem qs_swap {f : Nat → Nat → Rat} {m : Nat} : ∀ {n : Nat}, qs n (fun i => qs m fun j => f i j) = qs m fun j => qs n fun i => f i j
  | 0 => by show (0 : Rat) = qs m fun _ => 0; rw [qs_zero]
  | n + 1 => by
    show qs n (fun i => qs m fun j => f i j) + qs m (fun j => f n j) = qs m fun j => qs n (fun i => f i j) + f n j
    rw [qs_swap, ← qs_add]
/-- sums of fractions of one denominator -/
theorem divInt_sum (f : Nat → Int) (d : Int) (hd : d ≠ 0) : ∀ n, qs n (fun i => Rat.divInt (f i) d) = Rat.divInt (sm n f) d
  | 0 => by show (0 : Rat) = Rat.divInt 0 d; simp
  | n + 1 => by
    unfold qs
    rw [divInt_sum f d hd n, Rat.divInt_add_divInt _ _ hd hd, sm_succ]
    refine (Rat.divInt_eq_divInt_iff (Int.mul_ne_zero hd hd) hd).mpr ?_
    grind
theorem num_zero {a : Rat} : a.num = 0 ↔ a = 0 := Rat.num_eq_zero
theorem total_q (k : Nat) (v : Val) (n : Nat) (f : Nat → Rat) (m : Mem) (hv : ∀ t, srcs t (.val v) = some (arr n fun i => vq (f i))) (hs : ∀ j, j ≤ n → Qb 900 (qs j f)) (hf : ∀ j, j < n → Qb 900 (f j)) :
    callK Pp (k + 4) 93 [v] m = some (.ok (.val (vq (qs n f))) m) := by
  obtain ⟨s', l, o2, rfl⟩ := forM_arr (tg := .n 2) (body := exs (callK Pp (k + 3)) b_total_1) (v := fun i => vq (f i)) (n := n)
    (fun j t => ∃ o2, t = (⟨[some (.val v), some (.val (vq (qs j f))), o2], m⟩ : S))
    (by
      rintro j t hj ⟨o2, rfl⟩
      refine ⟨_, ⟨[some (.val v), some (.val (vq (qs (j + 1) f))), some (.val (vq (f j)))], m⟩, rfl, ?_, _, rfl⟩
      by_cases h : (f j).num = 0
      · have e : qs (j + 1) f = qs j f := by
          have := num_zero.mp h
          show qs j f + f j = qs j f
          rw [this]
          exact Rat.add_zero _
        have g : getI [Val.int (f j).num, .int (f j).den] 0 = some (.int (f j).num) := rfl
        rw [e]
        simp [b_total_1, g, h]
      · have g : getI [Val.int (f j).num, .int (f j).den] 0 = some (.int (f j).num) := rfl
        have p := plus_q k m (hs j (by omega)) (hf j hj) (by omega) (by omega)
        simp [b_total_1, g, h, p]
        rfl)
    ⟨[some (.val v), some (.val (vq 0)), none], m⟩ ⟨none, rfl⟩
  rw [call_eq rfl rfl]
  have e0 : Val.tup [.int 0, .int 1] = vq 0 := rfl
  simp [d_total, frame, hv, e0, l]
theorem over_q (k : Nat) {a b : Rat} {i j : Nat} (m : Mem) (ha : Qb i a) (hb : Qb j b) (h1 : i ≤ 900) (h2 : j ≤ 900) (hp : 0 < b) : callK Pp (k + 3) 91 [vq a, vq b] m = some (.ok (.val (vq (a / b))) m) := by
  have bn : 0 < b.num := by
    have h := (Rat.lt_iff 0 b).mp hp
    have e1 : (0 : Rat).num = 0 := rfl
    have e2 : (0 : Rat).den = 1 := rfl
    rw [e1, e2] at h
    simpa using h
  have da := a.den_pos
  have p : 0 < (a.den : Int) * b.num := Int.mul_pos (by omega) bn
  have s := sm2 (ha.sd (by omega)) (hb.sn (by omega))
  have e : a / b = Rat.divInt (a.num * b.den) (a.den * b.num) := by
    rw [Rat.div_def, Rat.inv_def]
    conv => lhs; rw [← Rat.num_divInt_den a]
    exact Rat.divInt_mul_divInt _ _
  have g0 : getI [Val.int a.num, .int a.den] 0 = some (.int a.num) := rfl
  have g1 : getI [Val.int a.num, .int a.den] 1 = some (.int a.den) := rfl
  have h0 : getI [Val.int b.num, .int b.den] 0 = some (.int b.num) := rfl
  have h1' : getI [Val.int b.num, .int b.den] 1 = some (.int b.den) := rfl
  have ne : ¬ b.num = 0 := by omega
  rw [call_eq rfl rfl, e]
  simp [d_over, frame, g0, g1, h0, h1', ne, (ha.sn (by omega)).small, (hb.sn (by omega)).small, (ha.sd (by omega)).small, (hb.sd (by omega)).small, lowest_q, p, s]
end Py.Q
end

section
set_option autoImplicit false
set_option linter.all false
set_option Elab.async false
set_option maxRecDepth 100000
set_option maxHeartbeats 4000000
set_option exponentiation.threshold 5000
/-! Draws near one another, pairs, rows of one sum. -/
namespace Py.Q
/-! ### zeros at the end -/
def tz (xs : List Int) : List Int := (xs.reverse.dropWhile fun x => decide (x = 0)).reverse
theorem tz_nil : tz [] = [] := rfl
theorem tz_zero (xs : List Int) : tz (xs ++ [0]) = tz xs := by simp [tz]
theorem tz_ne (xs : List Int) {x : Int} (h : x ≠ 0) : tz (xs ++ [x]) = xs ++ [x] := by simp [tz, h]
theorem tz_gD (xs : List Int) : ∀ i, gD (tz xs) 0 i = gD xs 0 i := by
  refine rev_ind (P := fun xs => ∀ i, gD (tz xs) 0 i = gD xs 0 i) (fun _ => rfl) (fun xs x ih i => ?_) xs
  by_cases h : x = 0
  · subst h
    rw [tz_zero, ih]
    by_cases hi : i < xs.length
    · rw [gD_left hi]
    · rw [gD_ge (by omega)]
      by_cases hi2 : i = xs.length
      · subst hi2; rw [gD_snoc]
      · rw [gD_ge (by simp; omega)]
  · rw [tz_ne xs h]
theorem tz_len (xs : List Int) : (tz xs).length ≤ xs.length := by
  unfold tz
  rw [List.length_reverse]
  have := (List.dropWhile_suffix (fun x => decide (x = 0)) (l := xs.reverse)).length_le
  simpa using this
theorem tz_last (xs : List Int) (h : ∃ x ∈ xs, x ≠ 0) : 1 ≤ (tz xs).length ∧ gD (tz xs) 0 ((tz xs).length - 1) ≠ 0 := by
  refine rev_ind (P := fun xs => (∃ x ∈ xs, x ≠ 0) → 1 ≤ (tz xs).length ∧ gD (tz xs) 0 ((tz xs).length - 1) ≠ 0) (fun ⟨x, h, _⟩ => by cases h) (fun xs x ih h => ?_) xs h
  by_cases hx : x = 0
  · subst hx
    rw [tz_zero]
    obtain ⟨y, hy, hne⟩ := h
    rcases List.mem_append.mp hy with z | z
    · exact ih ⟨y, z, hne⟩
    · simp at z; exact absurd z hne
  · rw [tz_ne xs hx]
    refine ⟨by simp, ?_⟩
    rw [show (xs ++ [x]).length - 1 = xs.length by simp, gD_snoc]
    exact hx
theorem tz_mem (xs : List Int) : ∀ x ∈ tz xs, x ∈ xs := fun x hx => by
  unfold tz at hx
  rw [List.mem_reverse] at hx
  have := (List.dropWhile_suffix (fun x => decide (x = 0)) (l := xs.reverse)).subset hx
  simpa using this
/-- a loop that takes zeros away -/
theorem tz_loop {c : M Bool} {b : M Fl} (st : List Int → S) (hc : ∀ xs x, c (st (xs ++ [x])) = some (.ok (decide (x = 0)) (st (xs ++ [x])))) (hb : ∀ xs x, b (st (xs ++ [x])) = some (.ok .nx (st xs))) (xs : List Int) (h : ∃ x ∈ xs, x ≠ 0) :
    whileM c b (st xs) = some (.ok .nx (st (tz xs))) := by
  refine rev_ind (P := fun xs => (∃ x ∈ xs, x ≠ 0) → whileM c b (st xs) = some (.ok .nx (st (tz xs)))) (fun ⟨x, h, _⟩ => by cases h) (fun xs x ih h => ?_) xs h
  have hc' := hc xs x
  by_cases hx : x = 0
  · subst hx
    obtain ⟨y, hy, hne⟩ := h
    have hy' : y ∈ xs := by
      rcases List.mem_append.mp hy with z | z
      · exact z
      · simp at z; exact absurd z hne
    rw [whileM_t hc' (hb xs 0), tz_zero]
    exact ih ⟨y, hy', hne⟩
  · rw [decide_eq_false hx] at hc'
    rw [whileM_f hc', tz_ne xs hx]
theorem getI_snoc (xs : List Int) (x : Int) : getI ((xs ++ [x]).map .int) (-1) = some (.int x) := by
  rw [getI_lastV (by simp), map_arr _ 0, arr_length, gD_arr (by simp), show (xs ++ [x]).length - 1 = xs.length by simp, gD_snoc]
theorem getI_snoc' (xs : List Int) (x : Int) : getI (xs.map .int ++ [.int x]) (-1) = some (.int x) := by
  have := getI_snoc xs x
  simpa using this
/-! ### rows whose weights are moved -/
def upd (f : Nat → Int) (i : Nat) (v : Int) : Nat → Int := fun x => if x = i then v else f x
theorem sm_upd {f : Nat → Int} {i : Nat} {v : Int} : ∀ {n : Nat}, i < n → sm n (upd f i v) = sm n f - f i + v
  | 0, h => by omega
  | n + 1, h => by
    rw [sm_succ, sm_succ]
    by_cases e : i = n
    · subst e
      rw [sm_congr (g := f) fun x hx => by unfold upd; rw [if_neg (by omega)]]
      unfold upd
      rw [if_pos rfl]; omega
    · rw [sm_upd (by omega)]
      unfold upd
      rw [if_neg (Ne.symm e)]; omega
def wT (N : Nat) (T : Nat → Bool) (f : Nat → Int) : Int := sm N fun x => if T x then f x else 0
theorem wT_upd {N : Nat} {T : Nat → Bool} {f : Nat → Int} {i : Nat} {v : Int} (hi : i < N) : wT N T (upd f i v) = wT N T f + if T i then v - f i else 0 := by
  unfold wT
  have e : (fun x => if T x then upd f i v x else 0) = upd (fun x => if T x then f x else 0) i (if T i then v else 0) := by
    funext x
    unfold upd
    by_cases h : x = i
    · subst h; simp
    · simp [h]
  rw [e, sm_upd hi]
  by_cases h : T i
  · simp [h]; omega
  · simp [h]
theorem wT_add {N : Nat} {T : Nat → Bool} {f : Nat → Int} {i : Nat} (hi : i < N) (h : T i = false) : wT N (fun x => T x || decide (x = i)) f = wT N T f + f i := by
  unfold wT
  have e : (fun x => if (T x || decide (x = i)) = true then f x else 0) = upd (fun x => if T x then f x else 0) i (f i) := by
    funext x
    unfold upd
    by_cases hx : x = i
    · subst hx; simp
    · simp [hx]
  rw [e, sm_upd hi]
  simp [h]
def cT (N : Nat) (T : Nat → Bool) : Int := wT N T fun _ => 1
/-- rows as they are behind s moves -/
structure NearI (N : Nat) (B S : Int) (s : Nat) (f : Nat → Int) : Prop where
  nn : ∀ x, x < N → 0 ≤ f x
  sum : sm N f = S
  few : ∀ T, wT N T f ≤ (cT N T + s) * B
theorem NearI.le {N : Nat} {B S : Int} {s : Nat} {f : Nat → Int} (h : NearI N B S s f) {x : Nat} (hx : x < N) : f x ≤ S ∧ f x ≤ (s + 1) * B := by
  have h1 := h.few fun y => decide (y = x)
  have e : ∀ g : Nat → Int, wT N (fun y => decide (y = x)) g = g x := fun g => by
    unfold wT
    rw [sm_one hx fun i _ hne => by simp [hne]]
    simp
  unfold cT at h1
  rw [e, e] at h1
  refine ⟨?_, by rw [Int.add_comm (s : Int)]; exact h1⟩
  rw [← h.sum]
  have := sm_upd (f := f) (v := 0) hx
  have h2 : 0 ≤ sm N (upd f x 0) := sm_nonneg fun i hi => by
    unfold upd
    split
    · exact Int.le_refl _
    · exact h.nn i hi
  omega
theorem NearI.move {N : Nat} {B S : Int} {s : Nat} {f : Nat → Int} (hB : 0 ≤ B) (h : NearI N B S s f) {i k : Nat} (hi : i < N) (hk : k < N) {p : Int} (h0 : 0 ≤ p) (h1 : p ≤ f i) :
    NearI N B S (s + 1) (upd (upd f i (f i - p)) k (upd f i (f i - p) k + p)) := by
  have hn := h.nn
  refine ⟨fun x hx => ?_, ?_, fun T => ?_⟩
  · have := hn x hx
    have := hn k hk
    unfold upd
    split
    · split <;> omega
    · split
      · rename_i e; subst e; omega
      · omega
  · rw [sm_upd hk, sm_upd hi, h.sum]; omega
  · rw [wT_upd hk, wT_upd hi]
    have hf := h.few T
    have e2 : (cT N T + ((s + 1 : Nat) : Int)) * B = (cT N T + s) * B + B := by rw [Int.natCast_add]; grind
    rw [e2]
    cases ti : T i with
    | true =>
      cases tk : T k with
      | true => simp; omega
      | false => simp; omega
    | false =>
      have ha := wT_add (f := f) hi ti
      have hc := wT_add (f := fun _ => (1 : Int)) hi ti
      have hf2 := h.few fun x => T x || decide (x = i)
      unfold cT at hf2 hf ⊢
      rw [ha, hc] at hf2
      have e3 : (wT N T (fun _ => 1) + 1 + (s : Int)) * B = (wT N T (fun _ => 1) + s) * B + B := by grind
      rw [e3] at hf2
      cases tk : T k with
      | true => simp; omega
      | false => simp; omega
theorem NearI.part {N : Nat} {B S : Int} {s : Nat} {f : Nat → Int} (hB : 0 ≤ B) (h : NearI N B S s f) {i : Nat} (hi0 : 0 < i) (hi : i + 1 < N) {p : Int} (h0 : 0 ≤ p) (h1 : 2 * p ≤ f i) :
    NearI N B S (s + 1) (upd (upd (upd f i (f i - 2 * p)) (i - 1) (f (i - 1) + p)) (i + 1) (f (i + 1) + p)) := by
  have hn := h.nn
  have u1 : ∀ x, x ≠ i → upd f i (f i - 2 * p) x = f x := fun x hx => by unfold upd; rw [if_neg hx]
  have u2 : upd (upd f i (f i - 2 * p)) (i - 1) (f (i - 1) + p) (i + 1) = f (i + 1) := by
    unfold upd
    rw [if_neg (by omega), if_neg (by omega)]
  refine ⟨fun x hx => ?_, ?_, fun T => ?_⟩
  · have := hn x hx
    have := hn (i + 1) hi
    have := hn (i - 1) (by omega)
    unfold upd
    split
    · omega
    · split
      · omega
      · split
        · omega
        · omega
  · rw [sm_upd hi, sm_upd (by omega), sm_upd (by omega), h.sum, u2, u1 _ (by omega)]; omega
  · rw [wT_upd hi, wT_upd (by omega), wT_upd (by omega), u2, u1 _ (by omega)]
    have hf := h.few T
    have e2 : (cT N T + ((s + 1 : Nat) : Int)) * B = (cT N T + s) * B + B := by rw [Int.natCast_add]; grind
    rw [e2]
    cases ti : T i with
    | true =>
      cases ta : T (i - 1) <;> cases tb : T (i + 1) <;> simp <;> omega
    | false =>
      have ha := wT_add (f := f) (show i < N by omega) ti
      have hc := wT_add (f := fun _ => (1 : Int)) (show i < N by omega) ti
      have hf2 := h.few fun x => T x || decide (x = i)
      unfold cT at hf2 hf ⊢
      rw [ha, hc] at hf2
      have e3 : (wT N T (fun _ => 1) + 1 + (s : Int)) * B = (wT N T (fun _ => 1) + s) * B + B := by grind
      rw [e3] at hf2
      cases ta : T (i - 1) <;> cases tb : T (i + 1) <;> simp <;> omega
end Py.Q
end

section
set_option autoImplicit false
set_option linter.all false
set_option Elab.async false
set_option maxRecDepth 100000
set_option maxHeartbeats 4000000
set_option exponentiation.threshold 5000
namespace Py.Q
theorem arr_upd {n i : Nat} {f : Nat → Int} {v : Int} : (arr n fun x => if x = i then Val.int v else .int (f x)) = arr n fun x => .int (upd f i v x) := arr_congr fun x _ => by
  unfold upd
  split <;> rfl
theorem putL_int {n : Nat} {j : Int} {i : Nat} {f : Nat → Int} {v : Int} (hj : j = (i : Int)) (hi : i < n) : putL j (.int v) (arr n fun x => .int (f x)) = some (arr n fun x => .int (upd f i v x)) := by
  subst hj
  rw [putL_arr hi, arr_upd]
theorem getI_intA {n : Nat} {j : Int} {i : Nat} {f : Nat → Int} (hj : j = (i : Int)) (hi : i < n) : getI (arr n fun x => .int (f x)) j = some (.int (f i)) := by
  subst hj
  exact getI_arr hi
theorem near_step (k : Nat) {m r : Mem} (hm : DOk m r) {N s : Nat} {B S : Int} {f : Nat → Int} (h : NearI N B S s f) (hN0 : 2 ≤ N) (hN : N ≤ 1000) (hB : 0 ≤ B) (hS : S < 2 ^ 60) (v1 v3 v4 v5 v6 v7 : Option SV) :
    ∃ m' f' u4 u5 u6 u7, DOk m' r ∧ NearI N B S (s + 1) f' ∧ exs (callK Pp (k + 1)) b_law_near_1 ⟨[some (.val (.loc 0)), v1, some (.own (arr N fun x => .int (f x))), v3, v4, v5, v6, v7], m⟩ =
      some (.ok .nx ⟨[some (.val (.loc 0)), v1, some (.own (arr N fun x => .int (f' x))), v3, u4, u5, u6, u7], m'⟩) := by
  obtain ⟨i, m1, i0, i1, hm1, e1⟩ := take_ok k N hm (by omega) (by omega)
  obtain ⟨j, m2, j0, j1, hm2, e2⟩ := take_ok k N hm1 (by omega) (by omega)
  obtain ⟨a, rfl⟩ : ∃ a : Nat, i = (a : Int) := ⟨i.toNat, by omega⟩
  obtain ⟨b, rfl⟩ : ∃ b : Nat, j = (b : Int) := ⟨j.toNat, by omega⟩
  have ha : a < N := by omega
  have hb : b < N := by omega
  have fa := h.nn a ha
  have fl := (h.le ha).1
  have ga := getI_intA (n := N) (f := f) (j := (a : Int)) rfl ha
  obtain ⟨p, m3, p0, p1, hm3, e3⟩ := take_ok k (f a + 1) hm2 (by omega) (by omega)
  obtain ⟨c, m4, c0, c3, hm4, e4⟩ := take_ok k 3 hm3 (by decide) (by decide)
  have s2 : small 2 = true := sm_lit (by decide)
  by_cases hc : c = 0 ∧ 0 < a ∧ a + 1 < N
  · obtain ⟨hc, h1, h2⟩ := hc
    subst hc
    have x1 : (0 : Int) < a := by omega
    have x2 : (a : Int) + 1 < N := by omega
    have pd : p.fdiv 2 = p / 2 := fdiv_eq (by decide)
    have sp : small (p / 2) = true := sm_lit (by omega)
    have nn := NearI.part hB h h1 h2 (p := p / 2) (by omega) (by omega)
    have p1' := fun v => putL_int (n := N) (f := f) (j := (a : Int)) (i := a) (v := v) rfl ha
    have g2 := getI_intA (n := N) (f := upd f a (f a - 2 * (p / 2))) (j := (a : Int) - 1) (i := a - 1) (by omega) (by omega)
    have p2' := fun v => putL_int (n := N) (f := upd f a (f a - 2 * (p / 2))) (j := (a : Int) - 1) (i := a - 1) (v := v) (by omega) (by omega)
    have u1 : upd f a (f a - 2 * (p / 2)) (a - 1) = f (a - 1) := by unfold upd; rw [if_neg (by omega)]
    rw [u1] at g2
    have g3 := getI_intA (n := N) (f := upd (upd f a (f a - 2 * (p / 2))) (a - 1) (f (a - 1) + p / 2)) (j := (a : Int) + 1) (i := a + 1) (by omega) h2
    have u2 : upd (upd f a (f a - 2 * (p / 2))) (a - 1) (f (a - 1) + p / 2) (a + 1) = f (a + 1) := by
      unfold upd
      rw [if_neg (by omega), if_neg (by omega)]
    rw [u2] at g3
    have p3' := fun v => putL_int (n := N) (f := upd (upd f a (f a - 2 * (p / 2))) (a - 1) (f (a - 1) + p / 2)) (j := (a : Int) + 1) (i := a + 1) (v := v) (by omega) h2
    refine ⟨m4, _, some (.val (.int a)), some (.val (.int b)), some (.val (.int p)), some (.val (.int (p / 2))), hm4, nn, ?_⟩

    simp [-getI_arr, -putL_arr, -getI_s, -putL_s, b_law_near_1, e1, e2, ga, e3, e4, x1, x2, h1, s2, sp, pd, p1', g2, p2', g3, p3']
  · have cond : ∀ (e : List (Option SV)), e[0]? = some (some (.val (.loc 0))) → e[2]? = some (some (.own (arr N fun x => .int (f x)))) → e[4]? = some (some (.val (.int (a : Int)))) →
        testM (callK Pp (k + 1)) (.and (.cmp (.call 17 (.cons (.s 0) (.cons (.c (.int 3)) .nil))) (.one .eq (.c (.int 0)))) (.and (.cmp (.s 4) (.one .gt (.c (.int 0)))) (.cmp (.bin .add (.s 4) (.c (.int 1))) (.one .lt (.pr .len (.cons (.s 2) .nil)))))) ⟨e, m3⟩ = some (.ok false ⟨e, m4⟩) := fun e h0 h2 h4 => by
      by_cases hc0 : c = 0
      · by_cases h1 : 0 < a
        · have x1 : (0 : Int) < a := by omega
          have x2 : ¬ (a : Int) + 1 < N := by omega
          simp [h0, h2, h4, e4, hc0, h1, x2]
        · have x1 : ¬ (0 : Int) < a := by omega
          simp [h0, h2, h4, e4, hc0, h1]
      · simp [h0, h2, h4, e4, hc0]
    have nm := NearI.move hB h ha hb (p := p) p0 (by omega)
    have p1' := fun v => putL_int (n := N) (f := f) (j := (a : Int)) (i := a) (v := v) rfl ha
    have g2 := getI_intA (n := N) (f := upd f a (f a - p)) (j := (b : Int)) (i := b) rfl hb
    have p2' := fun v => putL_int (n := N) (f := upd f a (f a - p)) (j := (b : Int)) (i := b) (v := v) rfl hb
    have weak : NearI N B S (s + 1) f := ⟨h.nn, h.sum, fun T => by
      have := h.few T
      have e2 : (cT N T + ((s + 1 : Nat) : Int)) * B = (cT N T + s) * B + B := by rw [Int.natCast_add]; grind
      omega⟩

    by_cases hk : (a : Int) ≤ b
    · refine ⟨m4, _, some (.val (.int a)), some (.val (.int b)), some (.val (.int p)), v7, hm4, nm, ?_⟩
      simp [-r_testM, -getI_arr, -putL_arr, b_law_near_1, e1, e2, ga, e3, cond]
      simp [-getI_arr, -putL_arr, hk, ga, p1', g2, p2']
    · obtain ⟨d, m5, d0, d3, hm5, e5⟩ := take_ok k 3 hm4 (by decide) (by decide)
      by_cases hd : d = 0
      · refine ⟨m5, _, some (.val (.int a)), some (.val (.int b)), some (.val (.int p)), v7, hm5, nm, ?_⟩
        simp [-r_testM, -getI_arr, -putL_arr, b_law_near_1, e1, e2, ga, e3, cond]
        simp [-getI_arr, -putL_arr, hk, ga, p1', g2, p2', e5, hd]
      · refine ⟨m5, f, some (.val (.int a)), some (.val (.int b)), some (.val (.int p)), v7, hm5, weak, ?_⟩
        simp [-r_testM, -getI_arr, -putL_arr, b_law_near_1, e1, e2, ga, e3, cond]
        simp [-getI_arr, -putL_arr, hk, e5, hd]
end Py.Q
end

section
set_option autoImplicit false
set_option linter.all false
set_option Elab.async false
set_option maxRecDepth 100000
set_option maxHeartbeats 4000000
set_option exponentiation.threshold 5000
namespace Py.Q
theorem sum_bd' {n : Nat} {B : Int} {d : List Int} (h : DrOk n B d) (hB : 0 ≤ B) : 0 < d.sum ∧ d.sum ≤ n * B := by
  have b := gD_bd h.le hB
  rw [sum_sm]
  constructor
  · exact sm_pos (k := d.length - 1) (fun i _ => (b i).1) (by have := h.pos; omega) h.last
  · have := (sm_bd b d.length).2
    have h2 : (d.length : Int) * B ≤ n * B := Int.mul_le_mul_of_nonneg_right (by have := h.len; omega) hB
    omega
theorem near0 {xs : List Int} {n : Nat} {B : Int} (h : DrOk n B xs) (hB : 0 ≤ B) : NearI (xs.length + 2) B xs.sum 0 (gD xs 0) := by
  have b := gD_bd h.le hB
  refine ⟨fun x _ => (b x).1, ?_, fun T => ?_⟩
  · rw [sm_split, sm_congr (n := 2) (g := fun _ => 0) fun i _ => gD_ge (by omega), sm_zero, sum_sm]; omega
  · unfold cT wT
    have e : ((sm (xs.length + 2) fun x => if T x then (1 : Int) else 0) + ((0 : Nat) : Int)) * B = sm (xs.length + 2) fun x => (if T x then (1 : Int) else 0) * B := by rw [sm_mulr]; simp
    rw [e]
    refine sm_le fun i _ => ?_
    have := b i
    by_cases h : T i <;> simp [h] <;> omega
theorem law_near_ok (k : Nat) {m r : Mem} (hm : DOk m r) {n : Nat} {B : Int} {xs : List Int} (h : DrOk n B xs) (hn : n ≤ 500) (hB : 0 ≤ B) (hS : xs.sum < 2 ^ 60) :
    ∃ ys m', DrOk (n + 2) (4 * B) ys ∧ ys.sum = xs.sum ∧ DOk m' r ∧ callK Pp (k + 2) 63 [.loc 0, vI xs] m = some (.ok (.val (vI ys)) m') := by
  have hl := h.len
  have hp := h.pos
  have sp := sum_bd' h hB
  obtain ⟨c, m1, c0, c3, hm1, e1⟩ := take_ok k 3 hm (by decide) (by decide)
  have e0 : xs.map Val.int ++ [.int 0, .int 0] = arr (xs.length + 2) fun x => .int (gD xs 0 x) := by
    rw [map_arr xs 0, show [Val.int 0, .int 0] = arr 2 fun _ => Val.int 0 from rfl, arr_app]
    exact arr_congr fun i hi => by
      by_cases h : i < xs.length
      · rw [if_pos h]
      · rw [if_neg h, gD_ge (by omega)]
  obtain ⟨s', l, m2, f, o3, o4, o5, o6, o7, hm2, hf, rfl⟩ := forM_arr (tg := .n 3) (body := exs (callK Pp (k + 1)) b_law_near_1) (v := fun i => .int (0 + (i : Int))) (n := c.toNat + 1)
    (fun j s => ∃ m f o3 o4 o5 o6 o7, DOk m r ∧ NearI (xs.length + 2) B xs.sum j f ∧ s = (⟨[some (.val (.loc 0)), some (.val (vI xs)), some (.own (arr (xs.length + 2) fun x => .int (f x))), o3, o4, o5, o6, o7], m⟩ : S))
    (by
      rintro j s hj ⟨m, f, o3, o4, o5, o6, o7, hm, hf, rfl⟩
      obtain ⟨m', f', u4, u5, u6, u7, hm', hf', e⟩ := near_step k hm hf (by omega) (by omega) hB hS (some (.val (vI xs))) (some (.val (.int (0 + (j : Int))))) o4 o5 o6 o7
      exact ⟨_, _, rfl, e, m', f', _, _, _, _, _, hm', hf', rfl⟩)
    ⟨[some (.val (.loc 0)), some (.val (vI xs)), some (.own (arr (xs.length + 2) fun x => .int (gD xs 0 x))), none, none, none, none, none], m1⟩ ⟨m1, gD xs 0, _, _, _, _, _, hm1, near0 h hB, rfl⟩
  have hex : ∃ x ∈ arr (xs.length + 2) f, x ≠ 0 := by
    refine Decidable.byContradiction fun hno => ?_
    have hz : ∀ i, i < xs.length + 2 → f i = 0 := fun i hi => Decidable.byContradiction fun hne => hno ⟨f i, List.mem_map.mpr ⟨i, List.mem_range.mpr hi, rfl⟩, hne⟩
    have := hf.sum
    rw [sm_congr (g := fun _ => 0) hz, sm_zero] at this
    omega
  have wl := tz_loop (c := testM (callK Pp (k + 1)) (.cmp (.ix (.s 2) (.neg (.c (.int 1)))) (.one .eq (.c (.int 0))))) (b := exs (callK Pp (k + 1)) b_law_near_2) (fun xs' => ⟨[some (.val (.loc 0)), some (.val (vI xs)), some (.own (xs'.map .int)), o3, o4, o5, o6, o7], m2⟩)
    (fun ys x => by
      have g := getI_snoc' ys x
      simp [g]) (fun ys x => by simp [b_law_near_2]) (arr (xs.length + 2) f) hex
  have lst := tz_last _ hex
  have ll := tz_len (arr (xs.length + 2) f)
  rw [arr_length] at ll
  have ents : ∀ y ∈ arr (xs.length + 2) f, 0 ≤ y ∧ y ≤ 4 * B := fun y hy => by
    obtain ⟨i, hi, rfl⟩ := List.mem_map.mp hy
    rw [List.mem_range] at hi
    have h1 := (hf.le hi).2
    have h2 : (((c.toNat + 1 : Nat) : Int) + 1) * B ≤ 4 * B := Int.mul_le_mul_of_nonneg_right (by omega) hB
    exact ⟨hf.nn i hi, by omega⟩
  have ents2 := fun y hy => ents y (tz_mem _ y hy)
  refine ⟨tz (arr (xs.length + 2) f), m2, ⟨lst.1, by omega, ents2, ?_⟩, ?_, hm2, ?_⟩
  · have := (ents2 _ (gD_mem (d := 0) (show (tz (arr (xs.length + 2) f)).length - 1 < (tz (arr (xs.length + 2) f)).length by omega))).1
    have := lst.2
    omega
  · have e : sm (xs.length + 2) f = sm (xs.length + 2) (gD (tz (arr (xs.length + 2) f)) 0) := sm_congr fun i hi => by rw [tz_gD, gD_arr hi]
    have e2 : ∀ (T : List Int) (N : Nat), T.length ≤ N → sm N (gD T 0) = T.sum := fun T N hN => by
      rw [show N = T.length + (N - T.length) by omega, sm_split, sm_congr (n := N - T.length) (g := fun _ => 0) fun i _ => gD_ge (by omega), sm_zero, sum_sm, Int.add_zero]
    rw [← hf.sum, e, e2 _ _ ll]
  · rw [call_eq rfl rfl]
    have z : xs.length + 1 + 1 ≤ 16777216 := by omega
    have ro : rOk (1 + c) = true := by unfold rOk; simp; omega
    have tn : (1 + c).toNat = c.toNat + 1 := by omega
    have tl := hm.tl hm2
    rw [arr_map] at wl
    simp at l
    simp [d_law_near, frame, z, e0, e1, ro, tn, l, wl, tl]
    rfl
theorem law_pair_ok (k : Nat) {m r : Mem} (hm : DOk m r) (numbers : Nat) (most : Int) (h1 : 1 ≤ numbers) (h2 : numbers ≤ 40) (h3 : 0 ≤ most) (h4 : most < 2 ^ 30) :
    ∃ xs ys m', DrOk (numbers + 2) (4 * imax 9 most) xs ∧ DrOk (numbers + 2) (4 * imax 9 most) ys ∧ xs.sum ≤ numbers * imax 9 most ∧ ys.sum ≤ numbers * imax 9 most ∧ DOk m' r ∧ callK Pp (k + 3) 64 [.loc 0, .int numbers, .int most] m = some (.ok (.val (.tup [vI xs, vI ys])) m') := by
  have mx : 9 ≤ imax 9 most ∧ imax 9 most < 2 ^ 30 := by unfold imax; split <;> omega
  generalize hM : imax 9 most = M at *
  obtain ⟨xs, m1, hx, hm1, e1⟩ := law_some_ok k numbers most hm h1 (by omega) h3 (by omega)
  rw [hM] at hx
  have sx := sum_bd' hx (by omega)
  have sx2 : (numbers : Int) * M ≤ 40 * M := Int.mul_le_mul_of_nonneg_right (by omega) (by omega)
  obtain ⟨a, m2, a0, a4, hm2, e2⟩ := take_ok (k + 1) 4 hm1 (by decide) (by decide)
  have two : ∃ ys m3, DrOk (numbers + 2) (4 * M) ys ∧ ys.sum ≤ numbers * M ∧ DOk m3 r ∧ ((0 < a ∧ callK Pp (k + 2) 63 [.loc 0, vI xs] m2 = some (.ok (.val (vI ys)) m3)) ∨ (¬ 0 < a ∧ callK Pp (k + 2) 19 [.loc 0, .int numbers, .int most] m2 = some (.ok (.val (vI ys)) m3))) := by
    by_cases ha : 0 < a
    · obtain ⟨ys, m3, hy, hs, hm3, e⟩ := law_near_ok k hm2 hx (by omega) (by omega) (by omega)
      exact ⟨ys, m3, hy, by omega, hm3, .inl ⟨ha, e⟩⟩
    · obtain ⟨ys, m3, hy, hm3, e⟩ := law_some_ok k numbers most hm2 h1 (by omega) h3 (by omega)
      rw [hM] at hy
      exact ⟨ys, m3, hy.mono (by omega) (by omega), (sum_bd' hy (by omega)).2, hm3, .inr ⟨ha, e⟩⟩
  obtain ⟨ys, m3, hy, sy, hm3, two⟩ := two
  obtain ⟨b, m4, b0, b4, hm4, e4⟩ := take_ok (k + 1) 4 hm3 (by decide) (by decide)
  have hx2 := hx.mono (n' := numbers + 2) (B' := 4 * M) (by omega) (by omega)
  have tl := hm.tl hm4
  by_cases hb : 0 < b
  · refine ⟨xs, ys, m4, hx2, hy, sx.2, sy, hm4, ?_⟩
    rw [call_eq rfl rfl]
    rcases two with ⟨ha, e3⟩ | ⟨ha, e3⟩
    · simp [d_law_pair, frame, e1, e2, ha, e3, e4, hb, tl]
    · simp [d_law_pair, frame, e1, e2, ha, e3, e4, hb, tl]
  · refine ⟨ys, xs, m4, hy, hx2, sy, sx.2, hm4, ?_⟩
    rw [call_eq rfl rfl]
    rcases two with ⟨ha, e3⟩ | ⟨ha, e3⟩
    · simp [d_law_pair, frame, e1, e2, ha, e3, e4, hb, tl]
    · simp [d_law_pair, frame, e1, e2, ha, e3, e4, hb, tl]
/-- two rows of one length and one sum -/
theorem law_both_ok (k : Nat) {xs ys : List Int} (m : Mem) (hx : xs.length ≤ 1000) (hy : ys.length ≤ 1000) (bx : ∀ x ∈ xs, Sm x) (by' : ∀ y ∈ ys, Sm y) (sx : Sm xs.sum) (sy : Sm ys.sum) :
    callK Pp (k + 1) 65 [vI xs, vI ys] m = some (.ok (.val (.tup [.lst (arr (mx xs.length ys.length) fun i => .int (gD xs 0 i * ys.sum)), .lst (arr (mx xs.length ys.length) fun i => .int (gD ys 0 i * xs.sum))])) m) := by
  rw [call_eq rfl rfl]
  have hm := le_mx xs.length ys.length
  have hm2 : mx xs.length ys.length ≤ 1000 := by unfold mx; split <;> omega
  have hn := imax_nat xs.length ys.length
  have pad : ∀ (xs : List Int) (c : Int) (n : Nat), xs.length ≤ n → (arr xs.length fun i => Val.int (gD xs 0 i * c)) ++ (arr (n - xs.length) fun _ => Val.int 0) = arr n fun i => .int (gD xs 0 i * c) := fun xs c n h => by
    rw [arr_app, show xs.length + (n - xs.length) = n by omega]
    refine arr_congr fun i hi => ?_
    by_cases h : i < xs.length
    · rw [if_pos h]
    · rw [if_neg h, gD_ge (by omega), Int.zero_mul]
  rw [← pad xs _ _ hm.1, ← pad ys _ _ hm.2]
  generalize mx xs.length ys.length = n at *
  have c1 : ∀ t, ev (callK Pp k) c_law_both_1 t ⟨[some (.val (vI xs)), some (.val (vI ys)), some (.val (.int n)), some (.val (.int xs.sum)), some (.val (.int ys.sum)), none], m⟩ = some (.ok (.own (arr xs.length fun i => .int (gD xs 0 i * ys.sum))) ⟨[some (.val (vI xs)), some (.val (vI ys)), some (.val (.int n)), some (.val (.int xs.sum)), some (.val (.int ys.sum)), none], m⟩) := fun t =>
    ev_lc_arr (v := fun i => .int (gD xs 0 i)) _ (by simp; exact map_arr xs 0 _) (fun i hi => ⟨⟨[some (.val (vI xs)), some (.val (vI ys)), some (.val (.int n)), some (.val (.int xs.sum)), some (.val (.int ys.sum)), some (.val (.int (gD xs 0 i)))], m⟩, by simp [wiped, wipe, (bx _ (gD_mem hi)).small, sy.small], by simp [wiped, wipe]⟩) (by omega)
  have c2 : ∀ t, ev (callK Pp k) c_law_both_2 t ⟨[some (.val (vI xs)), some (.val (vI ys)), some (.val (.int n)), some (.val (.int xs.sum)), some (.val (.int ys.sum)), none], m⟩ = some (.ok (.own (arr ys.length fun i => .int (gD ys 0 i * xs.sum))) ⟨[some (.val (vI xs)), some (.val (vI ys)), some (.val (.int n)), some (.val (.int xs.sum)), some (.val (.int ys.sum)), none], m⟩) := fun t =>
    ev_lc_arr (v := fun i => .int (gD ys 0 i)) _ (by simp; exact map_arr ys 0 _) (fun i hi => ⟨⟨[some (.val (vI xs)), some (.val (vI ys)), some (.val (.int n)), some (.val (.int xs.sum)), some (.val (.int ys.sum)), some (.val (.int (gD ys 0 i)))], m⟩, by simp [wiped, wipe, (by' _ (gD_mem hi)).small, sx.small], by simp [wiped, wipe]⟩) (by omega)
  have e1 : ((n : Int) - xs.length).toNat = n - xs.length := by omega
  have e2 : ((n : Int) - ys.length).toNat = n - ys.length := by omega
  have r1 : rOk ((n : Int) - xs.length) = true := by unfold rOk; simp; omega
  have r2 : rOk ((n : Int) - ys.length) = true := by unfold rOk; simp; omega
  have z1 : n - xs.length ≤ 16777216 := by omega
  have z2 : n - ys.length ≤ 16777216 := by omega
  have z3 : xs.length + (n - xs.length) ≤ 16777216 := by omega
  have z4 : ys.length + (n - ys.length) ≤ 16777216 := by omega
  have p1 : prim m .sum [.val (vI xs)] = some (.val (.int xs.sum)) := p_sum (by rfl)
  have p2 : prim m .sum [.val (vI ys)] = some (.val (.int ys.sum)) := p_sum (by rfl)
  simp [d_law_both, frame, hn, p1, p2, c1, c2, r1, r2, e1, e2, z1, z2, z3, z4]
end Py.Q
end

section
set_option autoImplicit false
set_option linter.all false
set_option Elab.async false
set_option maxRecDepth 100000
set_option maxHeartbeats 4000000
set_option exponentiation.threshold 5000
/-! Chances as rationals; distances. -/
namespace Py.Q
/-- the chance of a place -/
def pc (xs : List Int) (i : Nat) : Rat := Rat.divInt (gD xs 0 i) xs.sum
theorem pc_qb {xs : List Int} (h : DrOk 30 1000000 xs) (i : Nat) : Qb 25 (pc xs i) := by
  have s := sum_bd' h (by decide)
  have b := gD_bd h.le (by decide) i
  exact divInt_bd s.1 (by omega) (by omega)
theorem divInt_nn {n d : Int} (hd : 0 < d) (hn : 0 ≤ n) : 0 ≤ Rat.divInt n d := Rat.divInt_nonneg_iff_of_pos_right hd |>.mpr hn
theorem pc_nn {xs : List Int} (h : DrOk 30 1000000 xs) (i : Nat) : 0 ≤ pc xs i := divInt_nn (sum_bd' h (by decide)).1 (gD_bd h.le (by decide) i).1
theorem pc_ge {xs : List Int} {i : Nat} (h : xs.length ≤ i) : pc xs i = 0 := by unfold pc; rw [gD_ge h]; simp
theorem pc_sum {xs : List Int} (h : DrOk 30 1000000 xs) : qs xs.length (pc xs) = 1 := by
  have s := (sum_bd' h (by decide)).1
  have e : qs xs.length (pc xs) = Rat.divInt (sm xs.length (gD xs 0)) xs.sum := divInt_sum (gD xs 0) xs.sum (by omega) _
  rw [e, ← sum_sm, Rat.divInt_self' (by omega)]
theorem chances_q (k : Nat) (xs : List Int) (m : Mem) (h : DrOk 30 1000000 xs) : callK Pp (k + 3) 95 [vI xs] m = some (.ok (.own (arr xs.length fun i => vq (pc xs i))) m) := by
  rw [call_eq rfl rfl]
  have s := sum_bd' h (by decide)
  have l := h.len
  have c : ∀ t, ev (callK Pp (k + 2)) c_chances_of_1 t ⟨[some (.val (vI xs)), some (.val (.int xs.sum)), none], m⟩ = some (.ok (.own (arr xs.length fun i => vq (pc xs i))) ⟨[some (.val (vI xs)), some (.val (.int xs.sum)), none], m⟩) := fun t =>
    ev_lc_arr (v := fun i => .int (gD xs 0 i)) _ (by simp; exact map_arr xs 0 _) (fun i hi => ⟨⟨[some (.val (vI xs)), some (.val (.int xs.sum)), some (.val (.int (gD xs 0 i)))], m⟩, by
      have lw := lowest_q k (gD xs 0 i) xs.sum m s.1 (sm_lit (by omega))
      simp [wiped, wipe, lw, pc], by simp [wiped, wipe]⟩) (by omega)
  have r0 := fun s => r_ret (callK Pp (k + 2)) s (e := c_chances_of_1) rfl
  have ps : prim m .sum [.val (vI xs)] = some (.val (.int xs.sum)) := p_sum (by rfl)
  simp [d_chances_of, frame, ps, r0, c]
end Py.Q
end

section
set_option autoImplicit false
set_option linter.all false
set_option Elab.async false
set_option maxRecDepth 100000
set_option maxHeartbeats 4000000
set_option exponentiation.threshold 5000
/-! What lies above and below a number. -/
namespace Py.Q
def pz (z : Int) : Int := if 0 < z then z else 0
/-- the sum of what lies above g, and below g -/
def ex (xs : List Int) (g : Int) : Int := sm xs.length fun i => pz ((i : Int) + 1 - g) * gD xs 0 i
def lk (xs : List Int) (g : Int) : Int := sm xs.length fun i => pz (g - ((i : Int) + 1)) * gD xs 0 i
theorem check_draw_ok (k : Nat) (v : Val) (m : Mem) (h : isDr v = true) : callK Pp (k + 3) 4 [v] m = some (.ok (.val .non) m) := by
  rw [call_eq rfl rfl]
  simp [d_check_draw, frame, h]
theorem check_number_ok (k : Nat) (g : Int) (m : Mem) (h : 0 ≤ g) : callK Pp (k + 2) 201 [.int g] m = some (.ok (.val .non) m) := by
  rw [call_eq rfl rfl]
  have : ¬ g < 0 := by omega
  simp [d_check_number, frame, isW, this]
@[simp] theorem psum_vI {m : Mem} (d : List Int) : prim m .sum [.val (vI d)] = some (.val (.int d.sum)) := p_sum (by rfl)
@[simp] theorem enumL_mapI (xs : List Int) (k : Int) : enumL k (xs.map .int) = arr xs.length fun i => .tup [.int (k + i), .int (gD xs 0 i)] := by rw [map_arr xs 0, enumL_arr]
theorem pz_bd (z : Int) (B : Int) (h : z ≤ B) (hB : 0 ≤ B) : 0 ≤ pz z ∧ pz z ≤ B := by
  unfold pz
  split <;> omega
theorem excess_ok (k : Nat) (xs : List Int) (g : Int) (m : Mem) (h : DrOk 30 1000000 xs) (h0 : 0 ≤ g) (h1 : g ≤ 1000) : callK Pp (k + 4) 202 [vI xs, .int g] m = some (.ok (.val (vfr (fr (ex xs g) xs.sum))) m) := by
  rw [call_eq rfl rfl]
  have hc := check_draw_ok k (vI xs) m (isDr_ok h (Nat.le_refl _) (Int.le_refl _))
  have hn := check_number_ok (k + 1) g m h0
  have b := gD_bd h.le (by decide)
  have s := sum_bd' h (by decide)
  have l := h.len
  have c : ∀ t, ev (callK Pp (k + 3)) c_excess_1 t ⟨[some (.val (vI xs)), some (.val (.int g)), none, none], m⟩ = some (.ok (.own (((List.range xs.length).filter fun i : Nat => decide (g < (i : Int) + 1)).map fun i : Nat => .int (gD xs 0 i * ((i : Int) + 1 - g)))) ⟨[some (.val (vI xs)), some (.val (.int g)), none, none], m⟩) := fun t =>
    ev_lc_if (v := fun i : Nat => .tup [.int (1 + (i : Int)), .int (gD xs 0 i)]) _ _ (by simp [oOk, show rOk 1 = true by decide]) (fun i hi => ⟨⟨[some (.val (vI xs)), some (.val (.int g)), some (.val (.int (1 + (i : Int)))), some (.val (.int (gD xs 0 i)))], m⟩, by
      have s1 : small (gD xs 0 i) = true := sm_lit (by have := b i; omega)
      have s2 : small ((1 : Int) + i - g) = true := sm_lit (by omega)
      have e : (i : Int) + 1 - g = 1 + (i : Int) - g := by omega
      by_cases hg : g < (i : Int) + 1
      · have hg' : g < 1 + (i : Int) := by omega
        simp [wiped, wipe, hg, hg', s1, s2, e]
      · have hg' : ¬ g < 1 + (i : Int) := by omega
        simp [wiped, wipe, hg, hg'], by simp [wiped, wipe]⟩) (by omega)
  have e : (sm xs.length fun i : Nat => if decide (g < (i : Int) + 1) = true then gD xs 0 i * ((i : Int) + 1 - g) else 0) = ex xs g := sm_congr fun i _ => by
    unfold pz
    by_cases hg : g < (i : Int) + 1
    · rw [if_pos (decide_eq_true hg), if_pos (by omega), Int.mul_comm]
    · rw [if_neg (by simp [hg]), if_neg (by omega), Int.zero_mul]
  have q := psum_filter (m := m) (n := xs.length) (p := fun i => decide (g < (i : Int) + 1)) (h := fun i => gD xs 0 i * ((i : Int) + 1 - g))
  rw [e] at q
  have lw := lowest_ok (k + 1) (ex xs g) xs.sum m s.1 (sm_lit (by omega))
  simp [d_excess, frame, hc, hn, c, q, lw]
theorem lack_ok (k : Nat) (xs : List Int) (g : Int) (m : Mem) (h : DrOk 30 1000000 xs) (h0 : 0 ≤ g) (h1 : g ≤ 1000) : callK Pp (k + 4) 217 [vI xs, .int g] m = some (.ok (.val (vfr (fr (lk xs g) xs.sum))) m) := by
  rw [call_eq rfl rfl]
  have hc := check_draw_ok k (vI xs) m (isDr_ok h (Nat.le_refl _) (Int.le_refl _))
  have hn := check_number_ok (k + 1) g m h0
  have b := gD_bd h.le (by decide)
  have s := sum_bd' h (by decide)
  have l := h.len
  have c : ∀ t, ev (callK Pp (k + 3)) c_lack_1 t ⟨[some (.val (vI xs)), some (.val (.int g)), none, none], m⟩ = some (.ok (.own (((List.range xs.length).filter fun i : Nat => decide ((i : Int) + 1 < g)).map fun i : Nat => .int (gD xs 0 i * (g - ((i : Int) + 1))))) ⟨[some (.val (vI xs)), some (.val (.int g)), none, none], m⟩) := fun t =>
    ev_lc_if (v := fun i : Nat => .tup [.int (1 + (i : Int)), .int (gD xs 0 i)]) _ _ (by simp [oOk, show rOk 1 = true by decide]) (fun i hi => ⟨⟨[some (.val (vI xs)), some (.val (.int g)), some (.val (.int (1 + (i : Int)))), some (.val (.int (gD xs 0 i)))], m⟩, by
      have s1 : small (gD xs 0 i) = true := sm_lit (by have := b i; omega)
      have s2 : small (g - (1 + (i : Int))) = true := sm_lit (by omega)
      have e : g - ((i : Int) + 1) = g - (1 + (i : Int)) := by omega
      by_cases hg : (i : Int) + 1 < g
      · have hg' : 1 + (i : Int) < g := by omega
        simp [wiped, wipe, hg, hg', s1, s2, e]
      · have hg' : ¬ 1 + (i : Int) < g := by omega
        simp [wiped, wipe, hg, hg'], by simp [wiped, wipe]⟩) (by omega)
  have e : (sm xs.length fun i : Nat => if decide ((i : Int) + 1 < g) = true then gD xs 0 i * (g - ((i : Int) + 1)) else 0) = lk xs g := sm_congr fun i _ => by
    unfold pz
    by_cases hg : (i : Int) + 1 < g
    · rw [if_pos (decide_eq_true hg), if_pos (by omega), Int.mul_comm]
    · rw [if_neg (by simp [hg]), if_neg (by omega), Int.zero_mul]
  have q := psum_filter (m := m) (n := xs.length) (p := fun i => decide ((i : Int) + 1 < g)) (h := fun i => gD xs 0 i * (g - ((i : Int) + 1)))
  rw [e] at q
  have lw := lowest_ok (k + 1) (lk xs g) xs.sum m s.1 (sm_lit (by omega))
  simp [d_lack, frame, hc, hn, c, q, lw]
theorem ex_bd {xs : List Int} (h : DrOk 30 1000000 xs) (g : Int) (h0 : 0 ≤ g) (h1 : g ≤ 1000) : (ex xs g).natAbs ≤ 2 ^ 40 := by
  have b := gD_bd h.le (by decide)
  have l := h.len
  have := sm_bound (n := xs.length) (f := fun i => pz ((i : Int) + 1 - g) * gD xs 0 i) (B := 30 * 1000000) fun i hi => by
    have p := pz_bd ((i : Int) + 1 - g) 30 (by omega) (by decide)
    rw [Int.natAbs_mul]
    exact Nat.mul_le_mul (by omega) (by have := b i; omega)
  have h2 : xs.length * (30 * 1000000) ≤ 30 * (30 * 1000000) := Nat.mul_le_mul_right _ l
  unfold ex
  omega
theorem lk_bd {xs : List Int} (h : DrOk 30 1000000 xs) (g : Int) (h0 : 0 ≤ g) (h1 : g ≤ 1000) : (lk xs g).natAbs ≤ 2 ^ 40 := by
  have b := gD_bd h.le (by decide)
  have l := h.len
  have := sm_bound (n := xs.length) (f := fun i => pz (g - ((i : Int) + 1)) * gD xs 0 i) (B := 1000 * 1000000) fun i hi => by
    have p := pz_bd (g - ((i : Int) + 1)) 1000 (by omega) (by decide)
    rw [Int.natAbs_mul]
    exact Nat.mul_le_mul (by omega) (by have := b i; omega)
  have h2 : xs.length * (1000 * 1000000) ≤ 30 * (1000 * 1000000) := Nat.mul_le_mul_right _ l
  unfold lk
  omega
/-- gaps (1 to 30) behind which one waits longer -/
def longP (xs ys : List Int) (j : Nat) : Bool := decide (ex ys ((j : Int) + 1) * xs.sum < ex xs ((j : Int) + 1) * ys.sum)
def lessP (xs ys : List Int) (j : Nat) : Bool := decide (lk xs ((j : Int) + 1) * ys.sum < lk ys ((j : Int) + 1) * xs.sum)
def firstV (p : Nat → Bool) : Val := match (List.range 30).find? p with
  | some j => .int ((j : Int) + 1)
  | none => .non
theorem Sm40 {i : Int} (h : i.natAbs ≤ 2 ^ 40) : Sm i := Nat.lt_of_le_of_lt h (Nat.pow_lt_pow_right (by decide) (by decide))
theorem service_gap_ok (k : Nat) (xs ys : List Int) (m : Mem) (hx : DrOk 30 1000000 xs) (hy : DrOk 30 1000000 ys) : callK Pp (k + 5) 218 [vI xs, vI ys] m = some (.ok (.val (firstV (longP xs ys))) m) := by
  rw [call_eq rfl rfl]
  have ix := isDr_ok hx (Nat.le_refl _) (Int.le_refl _)
  have iy := isDr_ok hy (Nat.le_refl _) (Int.le_refl _)
  have sx := sum_bd' hx (by decide)
  have sy := sum_bd' hy (by decide)
  obtain ⟨s', ⟨o2, rfl⟩, l⟩ := forM_arr_find (tg := .n 2) (body := exs (callK Pp (k + 4)) b_service_gap_1) (v := fun i : Nat => .int (1 + (i : Int))) (n := 30) (fun s => ∃ o2, s = (⟨[some (.val (vI xs)), some (.val (vI ys)), o2], m⟩ : S)) (longP xs ys) (fun j => .val (.int ((j : Int) + 1)))
    (by
      rintro j s hj ⟨o2, rfl⟩
      have e1 := excess_ok k xs ((j : Int) + 1) m hx (by omega) (by omega)
      have e2 := excess_ok k ys ((j : Int) + 1) m hy (by omega) (by omega)
      have bl := below_ok (k + 1) (a := ex ys ((j : Int) + 1)) (b := ys.sum) (c := ex xs ((j : Int) + 1)) (d := xs.sum) m sy.1 sx.1 (Sm40 (ex_bd hy _ (by omega) (by omega))) (Sm40 (by omega)) (Sm40 (ex_bd hx _ (by omega) (by omega))) (Sm40 (by omega))
      have e3 : decide (ex ys ((j : Int) + 1) * xs.sum < ex xs ((j : Int) + 1) * ys.sum) = longP xs ys j := rfl
      rw [e3] at bl
      rw [show (1 : Int) + j = (j : Int) + 1 by omega]
      refine ⟨_, ⟨[some (.val (vI xs)), some (.val (vI ys)), some (.val (.int ((j : Int) + 1)))], m⟩, rfl, ⟨_, rfl⟩, ?_⟩
      cases hp : longP xs ys j with
      | true => rw [hp] at bl; simp [b_service_gap_1, e1, e2, bl]
      | false => rw [hp] at bl; simp [b_service_gap_1, e1, e2, bl])
    ⟨[some (.val (vI xs)), some (.val (vI ys)), none], m⟩ ⟨none, rfl⟩
  have r1 : rOk 1 = true := by decide
  have r31 : rOk 31 = true := by decide
  unfold firstV
  cases hf : (List.range 30).find? (longP xs ys) with
  | some j => rw [hf] at l; simp [d_service_gap, frame, ix, iy, r1, r31, l]
  | none => rw [hf] at l; simp [d_service_gap, frame, ix, iy, r1, r31, l]
theorem gap_service_ok (k : Nat) (xs ys : List Int) (m : Mem) (hx : DrOk 30 1000000 xs) (hy : DrOk 30 1000000 ys) : callK Pp (k + 5) 219 [vI xs, vI ys] m = some (.ok (.val (firstV (lessP xs ys))) m) := by
  rw [call_eq rfl rfl]
  have ix := isDr_ok hx (Nat.le_refl _) (Int.le_refl _)
  have iy := isDr_ok hy (Nat.le_refl _) (Int.le_refl _)
  have sx := sum_bd' hx (by decide)
  have sy := sum_bd' hy (by decide)
  obtain ⟨s', ⟨o2, rfl⟩, l⟩ := forM_arr_find (tg := .n 2) (body := exs (callK Pp (k + 4)) b_gap_service_1) (v := fun i : Nat => .int (1 + (i : Int))) (n := 30) (fun s => ∃ o2, s = (⟨[some (.val (vI xs)), some (.val (vI ys)), o2], m⟩ : S)) (lessP xs ys) (fun j => .val (.int ((j : Int) + 1)))
    (by
      rintro j s hj ⟨o2, rfl⟩
      have e1 := lack_ok k xs ((j : Int) + 1) m hx (by omega) (by omega)
      have e2 := lack_ok k ys ((j : Int) + 1) m hy (by omega) (by omega)
      have bl := below_ok (k + 1) (a := lk xs ((j : Int) + 1)) (b := xs.sum) (c := lk ys ((j : Int) + 1)) (d := ys.sum) m sx.1 sy.1 (Sm40 (lk_bd hx _ (by omega) (by omega))) (Sm40 (by omega)) (Sm40 (lk_bd hy _ (by omega) (by omega))) (Sm40 (by omega))
      have e3 : decide (lk xs ((j : Int) + 1) * ys.sum < lk ys ((j : Int) + 1) * xs.sum) = lessP xs ys j := rfl
      rw [e3] at bl
      rw [show (1 : Int) + j = (j : Int) + 1 by omega]
      refine ⟨_, ⟨[some (.val (vI xs)), some (.val (vI ys)), some (.val (.int ((j : Int) + 1)))], m⟩, rfl, ⟨_, rfl⟩, ?_⟩
      cases hp : lessP xs ys j with
      | true => rw [hp] at bl; simp [b_gap_service_1, e1, e2, bl]
      | false => rw [hp] at bl; simp [b_gap_service_1, e1, e2, bl])
    ⟨[some (.val (vI xs)), some (.val (vI ys)), none], m⟩ ⟨none, rfl⟩
  have r1 : rOk 1 = true := by decide
  have r31 : rOk 31 = true := by decide
  unfold firstV
  cases hf : (List.range 30).find? (lessP xs ys) with
  | some j => rw [hf] at l; simp [d_gap_service, frame, ix, iy, r1, r31, l]
  | none => rw [hf] at l; simp [d_gap_service, frame, ix, iy, r1, r31, l]
end Py.Q
end

section
set_option autoImplicit false
set_option linter.all false
set_option Elab.async false
set_option maxRecDepth 100000
set_option maxHeartbeats 4000000
set_option exponentiation.threshold 5000
/-! The law's own judge of orders: st, icx, icv. -/
namespace Py.Q
abbrev w_st : Str := PySem.Str.ofString "st"
abbrev w_icx : Str := PySem.Str.ofString "icx"
abbrev w_icv : Str := PySem.Str.ofString "icv"
abbrev w_lr : Str := PySem.Str.ofString "lr"
abbrev w_hr : Str := PySem.Str.ofString "hr"
abbrev w_rh : Str := PySem.Str.ofString "rh"
abbrev w_hmrl : Str := PySem.Str.ofString "hmrl"
def cST (n : Nat) (X : Nat → Int) (k : Nat) : Int := sm (n - k) fun i => X (k + i)
def cIX (n : Nat) (X : Nat → Int) (k : Nat) : Int := sm (n - k) fun i => ((k : Int) + i + 1 - k) * X (k + i)
def cIV (X : Nat → Int) (k : Nat) : Int := sm (k + 1) fun i => ((k : Int) - i + 1) * X i
theorem sEq {m : Mem} {a b : Str} (h : (sOk a && sOk b) = true) : eqS m (.val (.str a)) (.val (.str b)) = some (a == b) := by
  have : eqS m (.val (.str a)) (.val (.str b)) = if (sOk a && sOk b) then some (a == b) else none := rfl
  rw [this, h]
  rfl
theorem sIn {m : Mem} {w : Str} {l : List Str} (h : (sOk w && l.all sOk) = true) : inS m (.val (.str w)) (.own (l.map .str)) = some (l.any fun y => y == w) := by
  have h1 : sOk w = true := by rw [Bool.and_eq_true] at h; exact h.1
  have h2 : l.all sOk = true := by rw [Bool.and_eq_true] at h; exact h.2
  have e : inS m (.val (.str w)) (.own (l.map .str)) = if (Val.str w).pure && pureL (l.map .str) then some ((l.map Val.str).any fun y => eqv y (.str w)) else none := rfl
  have p1 : (Val.str w).pure = true := h1
  have p2 : pureL (l.map .str) = true := by
    unfold pureL
    rw [List.all_map]
    exact h2
  rw [e, p1, p2, List.any_map]
  rfl
section
variable (m : Mem)
theorem q_st_lr : eqS m (.val (.str w_st)) (.val (.str w_lr)) = some false := by
  rw [sEq (by decide +kernel)]
  exact congrArg some (by decide +kernel)
theorem q_icx_lr : eqS m (.val (.str w_icx)) (.val (.str w_lr)) = some false := by
  rw [sEq (by decide +kernel)]
  exact congrArg some (by decide +kernel)
theorem q_icv_lr : eqS m (.val (.str w_icv)) (.val (.str w_lr)) = some false := by
  rw [sEq (by decide +kernel)]
  exact congrArg some (by decide +kernel)
theorem q_icx_rh : eqS m (.val (.str w_icx)) (.val (.str w_rh)) = some false := by
  rw [sEq (by decide +kernel)]
  exact congrArg some (by decide +kernel)
theorem q_icv_rh : eqS m (.val (.str w_icv)) (.val (.str w_rh)) = some false := by
  rw [sEq (by decide +kernel)]
  exact congrArg some (by decide +kernel)
theorem q_icx_icv : eqS m (.val (.str w_icx)) (.val (.str w_icv)) = some false := by
  rw [sEq (by decide +kernel)]
  exact congrArg some (by decide +kernel)
theorem q_icv_icv : eqS m (.val (.str w_icv)) (.val (.str w_icv)) = some true := by
  rw [sEq (by decide +kernel)]
  exact congrArg some (by decide +kernel)
theorem q_st_hmrl : eqS m (.val (.str w_st)) (.val (.str w_hmrl)) = some false := by
  rw [sEq (by decide +kernel)]
  exact congrArg some (by decide +kernel)
theorem q_icx_hmrl : eqS m (.val (.str w_icx)) (.val (.str w_hmrl)) = some false := by
  rw [sEq (by decide +kernel)]
  exact congrArg some (by decide +kernel)
theorem q_icv_hmrl : eqS m (.val (.str w_icv)) (.val (.str w_hmrl)) = some false := by
  rw [sEq (by decide +kernel)]
  exact congrArg some (by decide +kernel)
theorem q_st_in : inS m (.val (.str w_st)) (.own [.str w_hr, .str w_st]) = some true := by
  refine (sIn (l := [w_hr, w_st]) (by decide +kernel)).trans (congrArg some (by decide +kernel))
theorem q_icx_in : inS m (.val (.str w_icx)) (.own [.str w_hr, .str w_st]) = some false := by
  refine (sIn (l := [w_hr, w_st]) (by decide +kernel)).trans (congrArg some (by decide +kernel))
theorem q_icv_in : inS m (.val (.str w_icv)) (.own [.str w_hr, .str w_st]) = some false := by
  refine (sIn (l := [w_hr, w_st]) (by decide +kernel)).trans (congrArg some (by decide +kernel))
theorem q_st_in2 : inS m (.val (.str w_st)) (.own [.str w_st, .str w_icx]) = some true := by
  refine (sIn (l := [w_st, w_icx]) (by decide +kernel)).trans (congrArg some (by decide +kernel))
theorem q_icx_in2 : inS m (.val (.str w_icx)) (.own [.str w_st, .str w_icx]) = some true := by
  refine (sIn (l := [w_st, w_icx]) (by decide +kernel)).trans (congrArg some (by decide +kernel))
theorem q_icv_in2 : inS m (.val (.str w_icv)) (.own [.str w_st, .str w_icx]) = some false := by
  refine (sIn (l := [w_st, w_icx]) (by decide +kernel)).trans (congrArg some (by decide +kernel))
theorem q_one_st : inS m (.val (.str w_st)) (.own [.str (PySem.Str.ofString "mean"), .str (PySem.Str.ofString "pr"), .str (PySem.Str.ofString "median"), .str (PySem.Str.ofString "least"), .str (PySem.Str.ofString "most")]) = some false := by
  refine (sIn (l := [PySem.Str.ofString "mean", PySem.Str.ofString "pr", PySem.Str.ofString "median", PySem.Str.ofString "least", PySem.Str.ofString "most"]) (by decide +kernel)).trans (congrArg some (by decide +kernel))
theorem q_one_icx : inS m (.val (.str w_icx)) (.own [.str (PySem.Str.ofString "mean"), .str (PySem.Str.ofString "pr"), .str (PySem.Str.ofString "median"), .str (PySem.Str.ofString "least"), .str (PySem.Str.ofString "most")]) = some false := by
  refine (sIn (l := [PySem.Str.ofString "mean", PySem.Str.ofString "pr", PySem.Str.ofString "median", PySem.Str.ofString "least", PySem.Str.ofString "most"]) (by decide +kernel)).trans (congrArg some (by decide +kernel))
theorem q_one_icv : inS m (.val (.str w_icv)) (.own [.str (PySem.Str.ofString "mean"), .str (PySem.Str.ofString "pr"), .str (PySem.Str.ofString "median"), .str (PySem.Str.ofString "least"), .str (PySem.Str.ofString "most")]) = some false := by
  refine (sIn (l := [PySem.Str.ofString "mean", PySem.Str.ofString "pr", PySem.Str.ofString "median", PySem.Str.ofString "least", PySem.Str.ofString "most"]) (by decide +kernel)).trans (congrArg some (by decide +kernel))
end
@[simp] theorem cmp_isin {m : Mem} {a b : SV} : cmpop m .isin a b = inS m a b := by rfl
@[simp] theorem rOk_0 : rOk 0 = true := by decide
@[simp] theorem rOk_1 : rOk 1 = true := by decide
theorem cut_from {n k : Nat} {X : Nat → Val} : cut (arr n X) (some (k : Int)) none = arr (n - k) fun i => X (k + i) := by
  show ((arr n X).drop (if (k : Int) < 0 then ((k : Int) + (arr n X).length).toNat else min (k : Int).toNat (arr n X).length)).take ((arr n X).length - (if (k : Int) < 0 then ((k : Int) + (arr n X).length).toNat else min (k : Int).toNat (arr n X).length)) = _
  rw [if_neg (by omega), arr_length]
  by_cases h : k ≤ n
  · rw [show min (k : Int).toNat n = k by omega, arr_drop, arr_take, show min (n - k) (n - k) = n - k by omega]
  · rw [show min (k : Int).toNat n = n by omega, arr_drop, arr_take, show min (n - n) (n - n) = 0 by omega, show n - k = 0 by omega]
    rfl
section
variable (k : Nat) (n : Nat) (X : Nat → Int) (m : Mem) (hn : n ≤ 1000) (hX : ∀ i, Sm (X i))
include hn
theorem law_list_st : callK Pp (k + 1) 66 [.str w_st, .lst (arr n fun i => .int (X i))] m = some (.ok (.own (arr n fun i => .int (cST n X i))) m) := by
  rw [call_eq rfl rfl]
  have ro : rOk (n : Int) = true := rOk_len (by omega)
  have c : ∀ t, ev (callK Pp k) c_law_list_1 t ⟨[some (.val (.str w_st)), some (.val (.lst (arr n fun i => .int (X i)))), some (.val (.int n)), none, none], m⟩ = some (.ok (.own (arr n fun i => .int (cST n X i))) ⟨[some (.val (.str w_st)), some (.val (.lst (arr n fun i => .int (X i)))), some (.val (.int n)), none, none], m⟩) := fun t =>
    ev_lc_arr (v := fun i : Nat => .int (i : Int)) _ (by simp [ro]) (fun i hi => ⟨⟨[some (.val (.str w_st)), some (.val (.lst (arr n fun i => .int (X i)))), some (.val (.int n)), some (.val (.int i)), none], m⟩, by simp [wiped, wipe, cut_from, cST], by simp [wiped, wipe]⟩) (by omega)
  have h1 := q_st_lr m
  have h2 := q_st_in m
  have rt := fun s => r_ret (callK Pp k) s (e := c_law_list_1) rfl
  simp [d_law_list, frame, h1, h2, c, rt]
include hX
theorem law_list_icx : callK Pp (k + 1) 66 [.str w_icx, .lst (arr n fun i => .int (X i))] m = some (.ok (.own (arr n fun i => .int (cIX n X i))) m) := by
  rw [call_eq rfl rfl]
  have ro : rOk (n : Int) = true := rOk_len (by omega)
  have c1 : ∀ t, ∀ j : Nat, j < n → ev (callK Pp k) c_law_list_5 t ⟨[some (.val (.str w_icx)), some (.val (.lst (arr n fun i => .int (X i)))), some (.val (.int n)), some (.val (.int j)), none], m⟩ = some (.ok (.own (arr (n - j) fun i => .int (((j : Int) + i + 1 - j) * X (j + i)))) ⟨[some (.val (.str w_icx)), some (.val (.lst (arr n fun i => .int (X i)))), some (.val (.int n)), some (.val (.int j)), none], m⟩) := fun t j hj =>
    ev_lc_arr (v := fun i : Nat => .int ((j : Int) + i)) _ (by
      have rj : rOk (j : Int) = true := rOk_len (by omega)
      have tn : ((n : Int) - j).toNat = n - j := by omega
      simp [ro, rj, tn]) (fun i hi => ⟨⟨[some (.val (.str w_icx)), some (.val (.lst (arr n fun i => .int (X i)))), some (.val (.int n)), some (.val (.int j)), some (.val (.int ((j : Int) + i)))], m⟩, by
        have s1 : small ((j : Int) + i + 1 - j) = true := sm_lit (by omega)
        have g : getI (arr n fun i => Val.int (X i)) ((j : Int) + i) = some (.int (X (j + i))) := getI_intA (by omega) (by omega)
        simp [wiped, wipe, s1, g, (hX _).small], by simp [wiped, wipe]⟩) (by omega)
  have c : ∀ t, ev (callK Pp k) c_law_list_6 t ⟨[some (.val (.str w_icx)), some (.val (.lst (arr n fun i => .int (X i)))), some (.val (.int n)), none, none], m⟩ = some (.ok (.own (arr n fun i => .int (cIX n X i))) ⟨[some (.val (.str w_icx)), some (.val (.lst (arr n fun i => .int (X i)))), some (.val (.int n)), none, none], m⟩) := fun t =>
    ev_lc_arr (v := fun i : Nat => .int (i : Int)) _ (by simp [ro]) (fun i hi => ⟨⟨[some (.val (.str w_icx)), some (.val (.lst (arr n fun i => .int (X i)))), some (.val (.int n)), some (.val (.int i)), none], m⟩, by simp [wiped, wipe, c1 _ i hi, cIX], by simp [wiped, wipe]⟩) (by omega)
  have h1 := q_icx_lr m
  have h2 := q_icx_in m
  have h3 := q_icx_rh m
  have h4 := q_icx_icv m
  have rt := fun s => r_ret (callK Pp k) s (e := c_law_list_6) rfl
  simp [d_law_list, frame, h1, h2, h3, h4, c, rt]
theorem law_list_icv : callK Pp (k + 1) 66 [.str w_icv, .lst (arr n fun i => .int (X i))] m = some (.ok (.own (arr n fun i => .int (cIV X i))) m) := by
  rw [call_eq rfl rfl]
  have ro : rOk (n : Int) = true := rOk_len (by omega)
  have c1 : ∀ t, ∀ j : Nat, j < n → ev (callK Pp k) c_law_list_3 t ⟨[some (.val (.str w_icv)), some (.val (.lst (arr n fun i => .int (X i)))), some (.val (.int n)), some (.val (.int j)), none], m⟩ = some (.ok (.own (arr (j + 1) fun i => .int (((j : Int) - i + 1) * X i))) ⟨[some (.val (.str w_icv)), some (.val (.lst (arr n fun i => .int (X i)))), some (.val (.int n)), some (.val (.int j)), none], m⟩) := fun t j hj =>
    ev_lc_arr (v := fun i : Nat => .int (i : Int)) _ (by
      have rj : rOk ((j : Int) + 1) = true := by unfold rOk; simp; omega
      have tn : ((j : Int) + 1).toNat = j + 1 := by omega
      simp [rj, tn]) (fun i hi => ⟨⟨[some (.val (.str w_icv)), some (.val (.lst (arr n fun i => .int (X i)))), some (.val (.int n)), some (.val (.int j)), some (.val (.int i))], m⟩, by
        have s1 : small ((j : Int) - i + 1) = true := sm_lit (by omega)
        have hin : i < n := by omega
        simp [wiped, wipe, s1, hin, (hX _).small], by simp [wiped, wipe]⟩) (by omega)
  have c : ∀ t, ev (callK Pp k) c_law_list_4 t ⟨[some (.val (.str w_icv)), some (.val (.lst (arr n fun i => .int (X i)))), some (.val (.int n)), none, none], m⟩ = some (.ok (.own (arr n fun i => .int (cIV X i))) ⟨[some (.val (.str w_icv)), some (.val (.lst (arr n fun i => .int (X i)))), some (.val (.int n)), none, none], m⟩) := fun t =>
    ev_lc_arr (v := fun i : Nat => .int (i : Int)) _ (by simp [ro]) (fun i hi => ⟨⟨[some (.val (.str w_icv)), some (.val (.lst (arr n fun i => .int (X i)))), some (.val (.int n)), some (.val (.int i)), none], m⟩, by simp [wiped, wipe, c1 _ i hi, cIV], by simp [wiped, wipe]⟩) (by omega)
  have h1 := q_icv_lr m
  have h2 := q_icv_in m
  have h3 := q_icv_rh m
  have h4 := q_icv_icv m
  have rt := fun s => r_ret (callK Pp k) s (e := c_law_list_4) rfl
  simp [d_law_list, frame, h1, h2, h3, h4, c, rt]
end
/-- whether an order fails -/
def fST (n : Nat) (X Y : Nat → Int) : Bool := (arr n fun k => decide (cST n Y k < cST n X k)).any id
def fIX (n : Nat) (X Y : Nat → Int) : Bool := (arr n fun k => decide (cIX n Y k < cIX n X k)).any id
def fIV (n : Nat) (X Y : Nat → Int) : Bool := (arr n fun k => decide (cIV X k < cIV Y k)).any id
def lI (n : Nat) (X : Nat → Int) : Val := .lst (arr n fun i => .int (X i))
theorem fails_comp2 (K : Kn) (n : Nat) (A B : Nat → Int) (m : Mem) (hn : n ≤ 1000) (w : Val) (X Y : Nat → Int) (t : Bool) : ev K c_law_fails_2 t ⟨[some (.val (lI n X)), some (.val (lI n Y)), some (.val w), some (.own (arr n fun i => .int (A i))), some (.own (arr n fun i => .int (B i))), none, none], m⟩ =
    some (.ok (.own (arr n fun k => .bl (decide (B k < A k)))) ⟨[some (.val (lI n X)), some (.val (lI n Y)), some (.val w), some (.own (arr n fun i => .int (A i))), some (.own (arr n fun i => .int (B i))), none, none], m⟩) := by
  have ro : rOk (n : Int) = true := rOk_len (by omega)
  exact ev_lc_arr (v := fun i : Nat => .int (i : Int)) _ (by simp [lI, ro]) (fun i hi => ⟨⟨[some (.val (lI n X)), some (.val (lI n Y)), some (.val w), some (.own (arr n fun i => .int (A i))), some (.own (arr n fun i => .int (B i))), some (.val (.int i)), none], m⟩, by simp [wiped, wipe, hi], by simp [wiped, wipe]⟩) (by omega)
theorem fails_comp3 (K : Kn) (n : Nat) (A B : Nat → Int) (m : Mem) (hn : n ≤ 1000) (w : Val) (X Y : Nat → Int) (t : Bool) : ev K c_law_fails_3 t ⟨[some (.val (lI n X)), some (.val (lI n Y)), some (.val w), some (.own (arr n fun i => .int (A i))), some (.own (arr n fun i => .int (B i))), none, none], m⟩ =
    some (.ok (.own (arr n fun k => .bl (decide (A k < B k)))) ⟨[some (.val (lI n X)), some (.val (lI n Y)), some (.val w), some (.own (arr n fun i => .int (A i))), some (.own (arr n fun i => .int (B i))), none, none], m⟩) := by
  have ro : rOk (n : Int) = true := rOk_len (by omega)
  exact ev_lc_arr (v := fun i : Nat => .int (i : Int)) _ (by simp [lI, ro]) (fun i hi => ⟨⟨[some (.val (lI n X)), some (.val (lI n Y)), some (.val w), some (.own (arr n fun i => .int (A i))), some (.own (arr n fun i => .int (B i))), some (.val (.int i)), none], m⟩, by simp [wiped, wipe, hi], by simp [wiped, wipe]⟩) (by omega)
theorem fails_st (k n : Nat) (X Y : Nat → Int) (m : Mem) (hn : n ≤ 1000) : callK Pp (k + 2) 68 [lI n X, lI n Y, .str w_st] m = some (.ok (.val (.bl (fST n X Y))) m) := by
  rw [call_eq rfl rfl]
  have a := law_list_st k n X m hn
  have b := law_list_st k n Y m hn
  have c := fails_comp2 (callK Pp (k + 1)) n (cST n X) (cST n Y) m hn (.str w_st) X Y
  have h1 := q_one_st m
  have h2 := q_st_hmrl m
  have h3 := q_st_in2 m
  simp only [lI] at *
  simp [d_law_fails, frame, h1, a, b, h2, h3, c, fST]
theorem fails_icx (k n : Nat) (X Y : Nat → Int) (m : Mem) (hn : n ≤ 1000) (hX : ∀ i, Sm (X i)) (hY : ∀ i, Sm (Y i)) : callK Pp (k + 2) 68 [lI n X, lI n Y, .str w_icx] m = some (.ok (.val (.bl (fIX n X Y))) m) := by
  rw [call_eq rfl rfl]
  have a := law_list_icx k n X m hn hX
  have b := law_list_icx k n Y m hn hY
  have c := fails_comp2 (callK Pp (k + 1)) n (cIX n X) (cIX n Y) m hn (.str w_icx) X Y
  have h1 := q_one_icx m
  have h2 := q_icx_hmrl m
  have h3 := q_icx_in2 m
  simp only [lI] at *
  simp [d_law_fails, frame, h1, a, b, h2, h3, c, fIX]
theorem fails_icv (k n : Nat) (X Y : Nat → Int) (m : Mem) (hn : n ≤ 1000) (hX : ∀ i, Sm (X i)) (hY : ∀ i, Sm (Y i)) : callK Pp (k + 2) 68 [lI n X, lI n Y, .str w_icv] m = some (.ok (.val (.bl (fIV n X Y))) m) := by
  rw [call_eq rfl rfl]
  have a := law_list_icv k n X m hn hX
  have b := law_list_icv k n Y m hn hY
  have c := fails_comp3 (callK Pp (k + 1)) n (cIV X) (cIV Y) m hn (.str w_icv) X Y
  have h1 := q_one_icv m
  have h2 := q_icv_hmrl m
  have h3 := q_icv_in2 m
  have h4 := q_icv_icv m
  simp only [lI] at *
  simp [d_law_fails, frame, h1, a, b, h2, h3, h4, c, fIV]
end Py.Q
end

section
set_option autoImplicit false
set_option linter.all false
set_option Elab.async false
set_option maxRecDepth 100000
set_option maxHeartbeats 4000000
set_option exponentiation.threshold 5000
namespace Py.Q
/-- above and below a number, rows as functions -/
def EX (X : Nat → Int) (n : Nat) (g : Int) : Int := sm n fun i => pz ((i : Int) + 1 - g) * X i
def LK (X : Nat → Int) (n : Nat) (g : Int) : Int := sm n fun i => pz (g - ((i : Int) + 1)) * X i
theorem sm_more {f : Nat → Int} {n m : Nat} (h : n ≤ m) (hz : ∀ i, n ≤ i → f i = 0) : sm m f = sm n f := by
  rw [show m = n + (m - n) by omega, sm_split, sm_congr (n := m - n) (g := fun _ => 0) fun i _ => hz _ (by omega), sm_zero, Int.add_zero]
theorem ex_EX {xs : List Int} {n : Nat} (h : xs.length ≤ n) (c g : Int) : ex xs g * c = EX (fun i => gD xs 0 i * c) n g := by
  unfold ex EX
  rw [← sm_mulr, sm_more h fun i hi => by simp [gD_ge hi]]
  exact sm_congr fun i _ => by rw [Int.mul_assoc]
theorem lk_LK {xs : List Int} {n : Nat} (h : xs.length ≤ n) (c g : Int) : lk xs g * c = LK (fun i => gD xs 0 i * c) n g := by
  unfold lk LK
  rw [← sm_mulr, sm_more h fun i hi => by simp [gD_ge hi]]
  exact sm_congr fun i _ => by rw [Int.mul_assoc]
theorem cIX_EX (X : Nat → Int) {n k : Nat} (h : k ≤ n) : cIX n X k = EX X n k := by
  unfold cIX EX
  rw [show n = k + (n - k) by omega, sm_split, sm_congr (n := k) (g := fun _ => 0) fun i hi => by
    unfold pz; rw [if_neg (by omega), Int.zero_mul], sm_zero, Int.zero_add, show k + (n - k) - k = n - k by omega]
  refine sm_congr fun i _ => ?_
  unfold pz
  rw [if_pos (by omega)]
  congr 1
theorem cIV_LK (X : Nat → Int) {n k : Nat} (h : k < n) : cIV X k = LK X n ((k : Int) + 2) := by
  unfold cIV LK
  rw [sm_more (n := k + 1) (m := n) (by omega) fun i hi => by unfold pz; rw [if_neg (by omega), Int.zero_mul]]
  refine sm_congr fun i hi => ?_
  unfold pz
  rw [if_pos (by omega)]
  congr 1
  omega
theorem EX_big (X : Nat → Int) (n : Nat) (g : Int) (h : (n : Int) ≤ g) : EX X n g = 0 := by
  unfold EX
  rw [sm_congr (g := fun _ => 0) fun i hi => by unfold pz; rw [if_neg (by omega), Int.zero_mul], sm_zero]
theorem EX_zero (X : Nat → Int) (n : Nat) : EX X n 0 = EX X n 1 + sm n X := by
  unfold EX
  rw [← sm_add]
  refine sm_congr fun i _ => ?_
  unfold pz
  rw [if_pos (by omega)]
  by_cases h : i = 0
  · subst h; simp
  · rw [if_pos (by omega)]; grind
theorem LK_low (X : Nat → Int) (n : Nat) (g : Int) (h : g ≤ 1) : LK X n g = 0 := by
  unfold LK
  rw [sm_congr (g := fun _ => 0) fun i hi => by unfold pz; rw [if_neg (by omega), Int.zero_mul], sm_zero]
theorem LK_big (X : Nat → Int) (n : Nat) (g : Int) (h : (n : Int) + 1 ≤ g) : LK X n g = LK X n ((n : Int) + 1) + (g - (n + 1)) * sm n X := by
  unfold LK
  rw [← sm_mul, ← sm_add]
  refine sm_congr fun i hi => ?_
  unfold pz
  rw [if_pos (by omega), if_pos (by omega)]
  grind
theorem any_iff {n : Nat} {b : Nat → Bool} : (arr n b).any id = false ↔ ∀ i, i < n → b i = false := by
  rw [Bool.eq_false_iff]
  constructor
  · intro h i hi
    exact Bool.eq_false_iff.mpr fun hb => h (arr_any.mpr ⟨i, hi, hb⟩)
  · intro h hb
    obtain ⟨i, hi, hb⟩ := arr_any.mp hb
    rw [h i hi] at hb
    cases hb
theorem fIX_iff {X Y : Nat → Int} {n : Nat} (hs : sm n X = sm n Y) : fIX n X Y = false ↔ ∀ g : Int, 1 ≤ g → EX X n g ≤ EX Y n g := by
  unfold fIX
  rw [any_iff]
  constructor
  · intro h g hg
    by_cases hn : g < n
    · have := of_decide_eq_false (h g.toNat (by omega))
      rw [cIX_EX _ (by omega), cIX_EX _ (by omega), show ((g.toNat : Nat) : Int) = g by omega] at this
      omega
    · rw [EX_big X n g (by omega), EX_big Y n g (by omega)]
      exact Int.le_refl _
  · intro h k hk
    refine decide_eq_false ?_
    rw [cIX_EX _ (by omega), cIX_EX _ (by omega)]
    by_cases h0 : k = 0
    · subst h0
      have := h 1 (by omega)
      rw [show (((0 : Nat) : Int)) = 0 from rfl, EX_zero, EX_zero, hs]
      omega
    · have := h k (by omega)
      omega
theorem fIV_iff {X Y : Nat → Int} {n : Nat} (hs : sm n X = sm n Y) : fIV n X Y = false ↔ ∀ g : Int, 1 ≤ g → LK Y n g ≤ LK X n g := by
  unfold fIV
  rw [any_iff]
  constructor
  · intro h g hg
    by_cases h1 : g ≤ 1
    · rw [LK_low X n g h1, LK_low Y n g h1]; exact Int.le_refl _
    · by_cases hn0 : n = 0
      · subst hn0; exact Int.le_refl _
      have base : ∀ k : Nat, k < n → LK Y n ((k : Int) + 2) ≤ LK X n ((k : Int) + 2) := fun k hk => by
        have := of_decide_eq_false (h k hk)
        rw [cIV_LK _ hk, cIV_LK _ hk] at this
        omega
      by_cases hn : g < (n : Int) + 2
      · have := base (g - 2).toNat (by omega)
        rwa [show (((g - 2).toNat : Nat) : Int) + 2 = g by omega] at this
      · rw [LK_big X n g (by omega), LK_big Y n g (by omega), hs]
        have := base (n - 1) (by omega)
        rw [show (((n - 1 : Nat) : Int)) + 2 = (n : Int) + 1 by omega] at this
        omega
  · intro h k hk
    refine decide_eq_false ?_
    rw [cIV_LK _ hk, cIV_LK _ hk]
    have := h ((k : Int) + 2) (by omega)
    omega
/-- the rows of `both` -/
def bx (xs ys : List Int) (i : Nat) : Int := gD xs 0 i * ys.sum
theorem sm_gD (xs : List Int) {n : Nat} (h : xs.length ≤ n) : sm n (gD xs 0) = xs.sum := by
  rw [sm_more h fun i hi => gD_ge hi, sum_sm]
theorem bx_sum {xs ys : List Int} {n : Nat} (h : xs.length ≤ n) : sm n (bx xs ys) = xs.sum * ys.sum := by
  unfold bx
  rw [sm_mulr, sm_gD xs h]
theorem long_iff {xs ys : List Int} {n : Nat} (hx : xs.length ≤ n) (hy : ys.length ≤ n) (hn : n ≤ 30) : (∀ j, j < 30 → longP xs ys j = false) ↔ fIX n (bx xs ys) (bx ys xs) = false := by
  rw [fIX_iff (by rw [bx_sum hx, bx_sum hy, Int.mul_comm])]
  have e : ∀ j : Nat, longP xs ys j = decide (EX (bx ys xs) n ((j : Int) + 1) < EX (bx xs ys) n ((j : Int) + 1)) := fun j => by
    unfold longP
    rw [ex_EX hy, ex_EX hx]
    rfl
  constructor
  · intro h g hg
    by_cases h30 : g ≤ 30
    · have := h (g - 1).toNat (by omega)
      rw [e, show (((g - 1).toNat : Nat) : Int) + 1 = g by omega] at this
      have := of_decide_eq_false this
      omega
    · rw [EX_big _ n g (by omega), EX_big _ n g (by omega)]; exact Int.le_refl _
  · intro h j hj
    rw [e]
    have := h ((j : Int) + 1) (by omega)
    exact decide_eq_false (by omega)
theorem less_iff {xs ys : List Int} {n : Nat} (hx : xs.length ≤ n) (hy : ys.length ≤ n) (hn : n ≤ 29) : (∀ j, j < 30 → lessP xs ys j = false) ↔ fIV n (bx xs ys) (bx ys xs) = false := by
  have hs : sm n (bx xs ys) = sm n (bx ys xs) := by rw [bx_sum hx, bx_sum hy, Int.mul_comm]
  rw [fIV_iff hs]
  have e : ∀ j : Nat, lessP xs ys j = decide (LK (bx xs ys) n ((j : Int) + 1) < LK (bx ys xs) n ((j : Int) + 1)) := fun j => by
    unfold lessP
    rw [lk_LK hx, lk_LK hy]
    rfl
  constructor
  · intro h g hg
    have base : ∀ g : Int, 1 ≤ g → g ≤ 30 → LK (bx ys xs) n g ≤ LK (bx xs ys) n g := fun g h1 h2 => by
      have := h (g - 1).toNat (by omega)
      rw [e, show (((g - 1).toNat : Nat) : Int) + 1 = g by omega] at this
      have := of_decide_eq_false this
      omega
    by_cases h30 : g ≤ 30
    · exact base g hg h30
    · rw [LK_big _ n g (by omega), LK_big _ n g (by omega), hs]
      have := base ((n : Int) + 1) (by omega) (by omega)
      omega
  · intro h j hj
    rw [e]
    have := h ((j : Int) + 1) (by omega)
    exact decide_eq_false (by omega)
/-! ### the law's waits -/
def ptL (g : Nat) : List Int := arr g fun i => if i + 1 = g then 1 else 0
theorem law_point_ok (k : Nat) (g : Nat) (m : Mem) (h1 : 1 ≤ g) (h2 : g ≤ 1000) : callK Pp (k + 1) 221 [.int g] m = some (.ok (.val (vI (ptL g))) m) := by
  rw [call_eq rfl rfl]
  have ro : rOk ((g : Int) - 1) = true := by unfold rOk; simp; omega
  have tn : ((g : Int) - 1).toNat = g - 1 := by omega
  have z1 : g - 1 ≤ 16777216 := by omega
  have z2 : g - 1 + 1 ≤ 16777216 := by omega
  have z3 : (ptL g).length ≤ 16777216 := by simp [ptL]; omega
  have e : (arr (g - 1) fun _ => Val.int 0) ++ [.int 1] = (ptL g).map .int := by
    unfold ptL
    rw [arr_snoc, arr_map, show g - 1 + 1 = g by omega]
    refine arr_congr fun i hi => ?_
    by_cases h : i < g - 1
    · rw [if_pos h, if_neg (by omega)]
    · rw [if_neg h, if_pos (by omega)]
  simp [d_law_point, frame, ro, tn, z1, z2, z3, e]
  rfl
def wt (xs ys : List Int) : Int := sm xs.length fun k => sm ys.length fun j => pz ((k : Int) - j) * gD xs 0 k * gD ys 0 j
theorem imax_pz (z : Int) : imax z 0 = pz z := by
  unfold imax pz
  split <;> split <;> omega
theorem law_wait_ok (k : Nat) (xs ys : List Int) (m : Mem) (lx : xs.length ≤ 1000) (ly : ys.length ≤ 1000) (hx : ∀ i, 0 ≤ gD xs 0 i ∧ gD xs 0 i ≤ 1000000) (hy : ∀ i, 0 ≤ gD ys 0 i ∧ gD ys 0 i ≤ 1000000) : callK Pp (k + 1) 220 [vI xs, vI ys] m = some (.ok (.val (.int (wt xs ys))) m) := by
  rw [call_eq rfl rfl]
  have rx : rOk (xs.length : Int) = true := rOk_len (by omega)
  have ry : rOk (ys.length : Int) = true := rOk_len (by omega)
  have c1 : ∀ t, ∀ a : Nat, a < xs.length → ∀ o, ev (callK Pp k) c_law_wait_1 t ⟨[some (.val (vI xs)), some (.val (vI ys)), some (.val (.int a)), o], m⟩ = some (.ok (.own (arr ys.length fun j => .int (pz ((a : Int) - j) * gD xs 0 a * gD ys 0 j))) ⟨[some (.val (vI xs)), some (.val (vI ys)), some (.val (.int a)), o], m⟩) := fun t a ha o =>
    ev_lc_arr (v := fun i : Nat => .int (i : Int)) _ (by simp [ry]) (fun j hj => ⟨⟨[some (.val (vI xs)), some (.val (vI ys)), some (.val (.int a)), some (.val (.int j))], m⟩, by
      have gx : getI (xs.map .int) (a : Int) = some (.int (gD xs 0 a)) := getI_map ha
      have gy : getI (ys.map .int) (j : Int) = some (.int (gD ys 0 j)) := getI_map hj
      have pb := pz_bd ((a : Int) - j) 1000 (by omega) (by decide)
      have s1 : small (pz ((a : Int) - j)) = true := sm_lit (by omega)
      have s2 : small (gD xs 0 a) = true := sm_lit (by have := hx a; omega)
      have s3 : small (gD ys 0 j) = true := sm_lit (by have := hy j; omega)
      have s4 : small (pz ((a : Int) - j) * gD xs 0 a) = true := sm_lit (by
        rw [Int.natAbs_mul]
        have : (pz ((a : Int) - j)).natAbs * (gD xs 0 a).natAbs ≤ 1000 * 1000000 := Nat.mul_le_mul (by omega) (by have := hx a; omega)
        omega)
      simp [wiped, wipe, imax_pz, gx, gy, s1, s2, s3, s4], by simp [wiped, wipe]⟩) (by omega)
  have c2 : ∀ t, ev (callK Pp k) c_law_wait_2 t ⟨[some (.val (vI xs)), some (.val (vI ys)), none, none], m⟩ = some (.ok (.own (arr xs.length fun a => .int (sm ys.length fun j => pz ((a : Int) - j) * gD xs 0 a * gD ys 0 j))) ⟨[some (.val (vI xs)), some (.val (vI ys)), none, none], m⟩) := fun t =>
    ev_lc_arr (v := fun i : Nat => .int (i : Int)) _ (by simp [rx]) (fun a ha => ⟨⟨[some (.val (vI xs)), some (.val (vI ys)), some (.val (.int a)), none], m⟩, by simp [wiped, wipe, c1 _ a ha], by simp [wiped, wipe]⟩) (by omega)
  simp [d_law_wait, frame, c2, wt]
theorem ptL_gD {g i : Nat} : gD (ptL g) 0 i = if i + 1 = g then 1 else 0 := by
  by_cases h : i < g
  · unfold ptL; rw [gD_arr h]
  · rw [gD_ge (by simp [ptL]; omega), if_neg (by omega)]
theorem wt_gap (xs : List Int) {g : Nat} (h : 1 ≤ g) : wt xs (ptL g) = ex xs g := by
  unfold wt ex
  refine sm_congr fun a _ => ?_
  rw [show (ptL g).length = g by simp [ptL], sm_one (k := g - 1) (by omega) fun i hi hne => by rw [ptL_gD, if_neg (by omega), Int.mul_zero], ptL_gD, if_pos (by omega), Int.mul_one]
  congr 2
  omega
theorem wt_service (xs : List Int) {g : Nat} (h : 1 ≤ g) : wt (ptL g) xs = lk xs g := by
  unfold wt lk
  rw [show (ptL g).length = g by simp [ptL], sm_one (k := g - 1) (by omega) fun i hi hne => by
    rw [sm_congr (g := fun _ => 0) fun j _ => by rw [ptL_gD, if_neg (by omega), Int.mul_zero, Int.zero_mul], sm_zero]]
  refine sm_congr fun j _ => ?_
  rw [ptL_gD, if_pos (by omega), Int.mul_one]
  congr 2
  omega
theorem ptL_bd (g i : Nat) : 0 ≤ gD (ptL g) 0 i ∧ gD (ptL g) 0 i ≤ 1000000 := by
  rw [ptL_gD]
  split <;> decide
end Py.Q
end

section
set_option autoImplicit false
set_option linter.all false
set_option Elab.async false
set_option maxRecDepth 100000
set_option maxHeartbeats 4000000
set_option exponentiation.threshold 5000
/-! Rows of one sum, distances. -/
namespace Py.Q
theorem common_rows_ok (k : Nat) {xs ys : List Int} (m : Mem) (hx : DrOk 30 1000000 xs) (hy : DrOk 30 1000000 ys) :
    callK Pp (k + 1) 26 [vI xs, vI ys] m = some (.ok (.val (.tup [lI (mx xs.length ys.length) (bx xs ys), lI (mx xs.length ys.length) (bx ys xs)])) m) := by
  have lx := hx.len
  have ly := hy.len
  have sx' := sum_bd' hx (by decide)
  have sy' := sum_bd' hy (by decide)
  have sx : small xs.sum = true := sm_lit (by omega)
  have sy : small ys.sum = true := sm_lit (by omega)
  have ex' : ∀ i, small (gD xs 0 i) = true := fun i => sm_lit (by have := gD_bd hx.le (by decide) i; omega)
  have ey' : ∀ i, small (gD ys 0 i) = true := fun i => sm_lit (by have := gD_bd hy.le (by decide) i; omega)
  rw [call_eq rfl rfl]
  have hm := le_mx xs.length ys.length
  have hm2 : mx xs.length ys.length ≤ 1000 := by unfold mx; split <;> omega
  have hn := imax_nat xs.length ys.length
  have pad : ∀ (xs : List Int) (c : Int) (n : Nat), xs.length ≤ n → (arr xs.length fun i => Val.int (gD xs 0 i * c)) ++ (arr (n - xs.length) fun _ => Val.int 0) = arr n fun i => .int (gD xs 0 i * c) := fun xs c n h => by
    rw [arr_app, show xs.length + (n - xs.length) = n by omega]
    refine arr_congr fun i hi => ?_
    by_cases h : i < xs.length
    · rw [if_pos h]
    · rw [if_neg h, gD_ge (by omega), Int.zero_mul]
  unfold lI bx
  rw [← pad xs _ _ hm.1, ← pad ys _ _ hm.2]
  generalize mx xs.length ys.length = n at *
  have c1 : ∀ v5 v6 t, ev (callK Pp k) c_common_rows_1 t ⟨[some (.val (vI xs)), some (.val (vI ys)), some (.val (.int n)), some (.val (.int xs.sum)), some (.val (.int ys.sum)), v5, v6, none], m⟩ = some (.ok (.own (arr xs.length fun i => .int (gD xs 0 i * ys.sum))) ⟨[some (.val (vI xs)), some (.val (vI ys)), some (.val (.int n)), some (.val (.int xs.sum)), some (.val (.int ys.sum)), v5, v6, none], m⟩) := fun v5 v6 t =>
    ev_lc_arr (v := fun i => .int (gD xs 0 i)) _ (by simp; exact map_arr xs 0 _) (fun i hi => ⟨⟨[some (.val (vI xs)), some (.val (vI ys)), some (.val (.int n)), some (.val (.int xs.sum)), some (.val (.int ys.sum)), v5, v6, some (.val (.int (gD xs 0 i)))], m⟩, by simp [wiped, wipe, ex' i, sy], by simp [wiped, wipe]⟩) (by omega)
  have c2 : ∀ v5 v6 t, ev (callK Pp k) c_common_rows_2 t ⟨[some (.val (vI xs)), some (.val (vI ys)), some (.val (.int n)), some (.val (.int xs.sum)), some (.val (.int ys.sum)), v5, v6, none], m⟩ = some (.ok (.own (arr ys.length fun i => .int (gD ys 0 i * xs.sum))) ⟨[some (.val (vI xs)), some (.val (vI ys)), some (.val (.int n)), some (.val (.int xs.sum)), some (.val (.int ys.sum)), v5, v6, none], m⟩) := fun v5 v6 t =>
    ev_lc_arr (v := fun i => .int (gD ys 0 i)) _ (by simp; exact map_arr ys 0 _) (fun i hi => ⟨⟨[some (.val (vI xs)), some (.val (vI ys)), some (.val (.int n)), some (.val (.int xs.sum)), some (.val (.int ys.sum)), v5, v6, some (.val (.int (gD ys 0 i)))], m⟩, by simp [wiped, wipe, ey' i, sx], by simp [wiped, wipe]⟩) (by omega)
  have e1 : ((n : Int) - xs.length).toNat = n - xs.length := by omega
  have e2 : ((n : Int) - ys.length).toNat = n - ys.length := by omega
  have r1 : rOk ((n : Int) - xs.length) = true := by unfold rOk; simp; omega
  have r2 : rOk ((n : Int) - ys.length) = true := by unfold rOk; simp; omega
  have z1 : n - xs.length ≤ 16777216 := by omega
  have z2 : n - ys.length ≤ 16777216 := by omega
  have z3 : xs.length + (n - xs.length) ≤ 16777216 := by omega
  have z4 : ys.length + (n - ys.length) ≤ 16777216 := by omega
  have p1 : prim m .sum [.val (vI xs)] = some (.val (.int xs.sum)) := p_sum (by rfl)
  have p2 : prim m .sum [.val (vI ys)] = some (.val (.int ys.sum)) := p_sum (by rfl)
  simp [d_common_rows, frame, hn, p1, p2, c1, c2, r1, r2, e1, e2, z1, z2, z3, z4]
/-- the distance of two draws -/
def dst (xs ys : List Int) : Rat := Rat.divInt (sm (mx xs.length ys.length) fun i => pz (bx xs ys i - bx ys xs i)) (xs.sum * ys.sum)
theorem distance_of_ok (k : Nat) {xs ys : List Int} (m : Mem) (hx : DrOk 30 1000000 xs) (hy : DrOk 30 1000000 ys) : callK Pp (k + 3) 98 [vI xs, vI ys] m = some (.ok (.val (vq (dst xs ys))) m) := by
  have sx := sum_bd' hx (by decide)
  have sy := sum_bd' hy (by decide)
  have hp : 0 < xs.sum * ys.sum := Int.mul_pos sx.1 sy.1
  have hs : small (xs.sum * ys.sum) = true := by
    have : xs.sum * ys.sum ≤ 30000000 * 30000000 := Int.mul_le_mul (by omega) (by omega) (by omega) (by decide)
    exact sm_lit (by omega)
  have cr := common_rows_ok (k + 1) m hx hy
  have hm := le_mx xs.length ys.length
  have hm2 : mx xs.length ys.length ≤ 1000 := by have := hx.len; have := hy.len; unfold mx; split <;> omega
  have es : sm (mx xs.length ys.length) (bx xs ys) = xs.sum * ys.sum := bx_sum hm.1
  have lw := lowest_q k (sm (mx xs.length ys.length) fun i => pz (bx xs ys i - bx ys xs i)) (xs.sum * ys.sum) m hp hs
  rw [call_eq rfl rfl]
  unfold lI at cr
  have c : ∀ t, ev (callK Pp (k + 2)) c_distance_of_1 t ⟨[some (.val (vI xs)), some (.val (vI ys)), some (.val (.lst (arr (mx xs.length ys.length) fun i => .int (bx xs ys i)))), some (.val (.lst (arr (mx xs.length ys.length) fun i => .int (bx ys xs i)))), none, none], m⟩ = some (.ok (.own (arr (mx xs.length ys.length) fun i => .int (pz (bx xs ys i - bx ys xs i)))) ⟨[some (.val (vI xs)), some (.val (vI ys)), some (.val (.lst (arr (mx xs.length ys.length) fun i => .int (bx xs ys i)))), some (.val (.lst (arr (mx xs.length ys.length) fun i => .int (bx ys xs i)))), none, none], m⟩) := fun t =>
    ev_lc_arr (v := fun i => .tup [.int (bx xs ys i), .int (bx ys xs i)]) _ (by simp) (fun i hi => ⟨⟨[some (.val (vI xs)), some (.val (vI ys)), some (.val (.lst (arr (mx xs.length ys.length) fun i => .int (bx xs ys i)))), some (.val (.lst (arr (mx xs.length ys.length) fun i => .int (bx ys xs i)))), some (.val (.int (bx xs ys i))), some (.val (.int (bx ys xs i)))], m⟩, by simp [wiped, wipe, imax_pz], by simp [wiped, wipe]⟩) (by omega)
  simp [d_distance_of, frame, cr, c, es, lw, dst]
end Py.Q
end

section
set_option autoImplicit false
set_option linter.all false
set_option Elab.async false
set_option maxRecDepth 100000
set_option maxHeartbeats 4000000
set_option exponentiation.threshold 5000
/-! Least parts, what is left over. -/
namespace Py.Q
def lsr (a b : Rat) : Rat := if b < a then b else a
theorem lsr_qb {k : Nat} {a b : Rat} (ha : Qb k a) (hb : Qb k b) : Qb k (lsr a b) := by unfold lsr; split; exact hb; exact ha
theorem lsr_comm (a b : Rat) : lsr a b = lsr b a := by unfold lsr; grind
theorem lsr_le (a b : Rat) : lsr a b ≤ a ∧ lsr a b ≤ b := by unfold lsr; grind
theorem lsr_z {a : Rat} (h : 0 ≤ a) : lsr a 0 = 0 := by unfold lsr; grind
section
variable {xs ys : List Int}
/-- the lesser chances -/
def pt (xs ys : List Int) (i : Nat) : Rat := lsr (pc xs i) (pc ys i)
theorem pt_comm (i : Nat) : pt xs ys i = pt ys xs i := lsr_comm _ _
theorem pt_far (hx : DrOk 30 1000000 xs) {i : Nat} (h : ys.length ≤ i) : pt xs ys i = 0 := by unfold pt; rw [pc_ge h]; exact lsr_z (pc_nn hx i)
theorem pt_qb (hx : DrOk 30 1000000 xs) (hy : DrOk 30 1000000 ys) (i : Nat) : Qb 25 (pt xs ys i) := lsr_qb (pc_qb hx i) (pc_qb hy i)
def lft (xs ys : List Int) (i : Nat) : Rat := pc xs i - pt xs ys i
theorem lft_qb (hx : DrOk 30 1000000 xs) (hy : DrOk 30 1000000 ys) (i : Nat) : Qb 51 (lft xs ys i) := (pc_qb hx i).sub (pt_qb hx hy i)
theorem lft_nn (i : Nat) : 0 ≤ lft xs ys i := by have := (lsr_le (pc xs i) (pc ys i)).1; unfold lft pt; grind
theorem least_parts_ok (k : Nat) (m : Mem) (hx : DrOk 30 1000000 xs) (hy : DrOk 30 1000000 ys) : callK Pp (k + 4) 100 [vI xs, vI ys] m = some (.ok (.own (arr (min xs.length ys.length) fun i => vq (pt xs ys i))) m) := by
  rw [call_eq rfl rfl]
  have lx := hx.len
  have e1 := chances_q k xs m hx
  have e2 := chances_q k ys m hy
  have c : ∀ t, ev (callK Pp (k + 3)) c_least_parts_1 t ⟨[some (.val (vI xs)), some (.val (vI ys)), none, none], m⟩ = some (.ok (.own (arr (min xs.length ys.length) fun i => vq (pt xs ys i))) ⟨[some (.val (vI xs)), some (.val (vI ys)), none, none], m⟩) := fun t =>
    ev_lc_arr (v := fun i => .tup [vq (pc xs i), vq (pc ys i)]) _ (by simp [e1, e2]) (fun i hi => ⟨⟨[some (.val (vI xs)), some (.val (vI ys)), some (.val (vq (pc xs i))), some (.val (vq (pc ys i)))], m⟩, by
      have l := lesser_q (k + 1) m (pc_qb hx i) (pc_qb hy i) (by decide) (by decide)
      simp [wiped, wipe, l, pt, lsr], by simp [wiped, wipe]⟩) (by omega)
  have r0 := fun s => r_ret (callK Pp (k + 3)) s (e := c_least_parts_1) rfl
  simp [d_least_parts, frame, r0, c]
theorem left_over_ok (k : Nat) (m : Mem) (hx : DrOk 30 1000000 xs) (hy : DrOk 30 1000000 ys) (n : Nat) (hn : n = min xs.length ys.length) : callK Pp (k + 4) 101 [vI xs, .lst (arr n fun i => vq (pt xs ys i))] m = some (.ok (.own (arr xs.length fun i => vq (lft xs ys i))) m) := by
  rw [call_eq rfl rfl]
  have lx := hx.len
  have hnx : n ≤ xs.length := by omega
  have e1 := chances_q k xs m hx
  have e0 : Val.tup [.int 0, .int 1] = vq 0 := rfl
  have pad : (arr n fun i => vq (pt xs ys i)) ++ (arr (xs.length - n) fun _ => vq 0) = arr xs.length fun i => vq (pt xs ys i) := by
    rw [arr_app, show n + (xs.length - n) = xs.length by omega]
    refine arr_congr fun i hi => ?_
    by_cases h : i < n
    · rw [if_pos h]
    · rw [if_neg h, pt_far hx (by omega)]
  have t1 : ((xs.length : Int) - n).toNat = xs.length - n := by omega
  have r1 : rOk ((xs.length : Int) - n) = true := by unfold rOk; simp; omega
  have z1 : xs.length - n ≤ 16777216 := by omega
  have z2 : n + (xs.length - n) ≤ 16777216 := by omega
  have z3 : xs.length ≤ 16777216 := by omega
  have c : ∀ t, ev (callK Pp (k + 3)) c_left_over_1 t ⟨[some (.val (vI xs)), some (.val (.lst (arr n fun i => vq (pt xs ys i)))), some (.own (arr xs.length fun i => vq (pt xs ys i))), none, none], m⟩ = some (.ok (.own (arr xs.length fun i => vq (lft xs ys i))) ⟨[some (.val (vI xs)), some (.val (.lst (arr n fun i => vq (pt xs ys i)))), some (.own (arr xs.length fun i => vq (pt xs ys i))), none, none], m⟩) := fun t =>
    ev_lc_arr (v := fun i => .tup [vq (pc xs i), vq (pt xs ys i)]) _ (by simp [e1]) (fun i hi => ⟨⟨[some (.val (vI xs)), some (.val (.lst (arr n fun i => vq (pt xs ys i)))), some (.own (arr xs.length fun i => vq (pt xs ys i))), some (.val (vq (pc xs i))), some (.val (vq (pt xs ys i)))], m⟩, by
      have l := minus_q k m (pc_qb hx i) (pt_qb hx hy i) (by decide) (by decide)
      simp [wiped, wipe, l, lft], by simp [wiped, wipe]⟩) (by omega)
  have r0 := fun s => r_ret (callK Pp (k + 3)) s (e := c_left_over_1) rfl
  simp [d_left_over, frame, e0, t1, r1, z1, z2, z3, pad, r0, c]
end
end Py.Q
end

section
set_option autoImplicit false
set_option linter.all false
set_option Elab.async false
set_option maxRecDepth 100000
set_option maxHeartbeats 4000000
set_option exponentiation.threshold 5000
/-! The distance is what is left over. -/
namespace Py.Q
section
variable {xs ys : List Int}
theorem pc_bx (hx : DrOk 30 1000000 xs) (hy : DrOk 30 1000000 ys) (i : Nat) : pc xs i = Rat.divInt (bx xs ys i) (xs.sum * ys.sum) := by
  have sx := (sum_bd' hx (by decide)).1
  have sy := (sum_bd' hy (by decide)).1
  have hp := Int.mul_pos sx sy
  unfold pc bx
  exact (Rat.divInt_eq_divInt_iff (by omega) (by omega)).mpr (by grind)
theorem lft_div (hx : DrOk 30 1000000 xs) (hy : DrOk 30 1000000 ys) (i : Nat) : lft xs ys i = Rat.divInt (pz (bx xs ys i - bx ys xs i)) (xs.sum * ys.sum) := by
  have sx := (sum_bd' hx (by decide)).1
  have sy := (sum_bd' hy (by decide)).1
  have hp := Int.mul_pos sx sy
  have e1 := pc_bx hx hy i
  have e2 := pc_bx hy hx i
  rw [Int.mul_comm ys.sum xs.sum] at e2
  have sb : ∀ a b : Int, Rat.divInt a (xs.sum * ys.sum) - Rat.divInt b (xs.sum * ys.sum) = Rat.divInt (a - b) (xs.sum * ys.sum) := fun a b => by
    rw [Rat.divInt_sub_divInt _ _ (by omega) (by omega)]
    refine (Rat.divInt_eq_divInt_iff (Int.mul_ne_zero (by omega) (by omega)) (by omega)).mpr ?_
    grind
  by_cases h : bx ys xs i ≤ bx xs ys i
  · have n := divInt_nn hp (show 0 ≤ bx xs ys i - bx ys xs i by omega)
    rw [← sb, ← e1, ← e2] at n
    have e3 : pz (bx xs ys i - bx ys xs i) = bx xs ys i - bx ys xs i := by unfold pz; split <;> omega
    rw [e3, ← sb, ← e1, ← e2]
    unfold lft pt lsr
    grind
  · have n := divInt_nn hp (show 0 ≤ bx ys xs i - bx xs ys i by omega)
    rw [← sb, ← e1, ← e2] at n
    have e3 : pz (bx xs ys i - bx ys xs i) = 0 := by unfold pz; split <;> omega
    rw [e3, Rat.zero_divInt]
    unfold lft pt lsr
    grind
theorem lft_far (hx : DrOk 30 1000000 xs) {i : Nat} (h : xs.length ≤ i) (hy : DrOk 30 1000000 ys) : lft xs ys i = 0 := by
  unfold lft
  rw [pt_comm, pt_far hy h, pc_ge h]
  grind
theorem qs_more {f : Nat → Rat} {n : Nat} (hz : ∀ i, n ≤ i → f i = 0) : ∀ k, qs (n + k) f = qs n f
  | 0 => rfl
  | k + 1 => by
    show qs (n + k) f + f (n + k) = qs n f
    rw [qs_more hz k, hz _ (by omega)]
    exact Rat.add_zero _
theorem qs_ext {f : Nat → Rat} {n m : Nat} (h : n ≤ m) (hz : ∀ i, n ≤ i → f i = 0) : qs m f = qs n f := by
  have := qs_more hz (m - n)
  rwa [show n + (m - n) = m by omega] at this
theorem lft_part (hx : DrOk 30 1000000 xs) (hy : DrOk 30 1000000 ys) (j : Nat) : qs j (lft xs ys) = Rat.divInt (sm j fun i => pz (bx xs ys i - bx ys xs i)) (xs.sum * ys.sum) := by
  have sx := (sum_bd' hx (by decide)).1
  have sy := (sum_bd' hy (by decide)).1
  have hp := Int.mul_pos sx sy
  rw [qs_congr fun i _ => lft_div hx hy i, divInt_sum _ _ (by omega)]
theorem lft_part_qb (hx : DrOk 30 1000000 xs) (hy : DrOk 30 1000000 ys) {j : Nat} (hj : j ≤ 100) : Qb 60 (qs j (lft xs ys)) := by
  have sx := sum_bd' hx (by decide)
  have sy := sum_bd' hy (by decide)
  have hp := Int.mul_pos sx.1 sy.1
  rw [lft_part hx hy]
  have hT : xs.sum * ys.sum ≤ 30000000 * 30000000 := Int.mul_le_mul (by omega) (by omega) (by omega) (by decide)
  refine divInt_bd hp ?_ (by omega)
  have b : ∀ i, 0 ≤ pz (bx xs ys i - bx ys xs i) ∧ pz (bx xs ys i - bx ys xs i) ≤ 1000000 * 30000000 := fun i => by
    have bx1 := gD_bd hx.le (by decide) i
    have by1 := gD_bd hy.le (by decide) i
    have q1 : bx xs ys i ≤ 1000000 * 30000000 := Int.mul_le_mul bx1.2 (by omega) (by omega) (by decide)
    have q2 : 0 ≤ bx ys xs i := Int.mul_nonneg by1.1 (by omega)
    unfold pz
    split <;> omega
  have := sm_bd b j
  have c : (j : Int) * (1000000 * 30000000) ≤ 100 * (1000000 * 30000000) := Int.mul_le_mul_of_nonneg_right (by omega) (by decide)
  omega
theorem gap_left (hx : DrOk 30 1000000 xs) (hy : DrOk 30 1000000 ys) : qs xs.length (lft xs ys) = dst xs ys := by
  rw [← qs_ext (le_mx xs.length ys.length).1 fun i h => lft_far hx h hy, lft_part hx hy]
  rfl
theorem mx_comm (a b : Nat) : mx a b = mx b a := by unfold mx; split <;> split <;> omega
theorem gap_right (hx : DrOk 30 1000000 xs) (hy : DrOk 30 1000000 ys) : qs ys.length (lft ys xs) = dst xs ys := by
  -- what is left of both is alike
  have h1 : ∀ (a b : List Int), DrOk 30 1000000 a → DrOk 30 1000000 b → ∀ n, a.length ≤ n → b.length ≤ n → qs n (lft a b) = 1 - qs n (pt a b) := fun a b ha hb n h1 h2 => by
    have e : qs n (lft a b) = qs n (pc a) - qs n (pt a b) := qs_sub
    rw [e, qs_ext h1 fun i h => pc_ge h, pc_sum ha]
  have a := h1 ys xs hy hx (mx xs.length ys.length) (le_mx _ _).2 (le_mx _ _).1
  have b := h1 xs ys hx hy (mx xs.length ys.length) (le_mx _ _).1 (le_mx _ _).2
  have c : qs (mx xs.length ys.length) (pt ys xs) = qs (mx xs.length ys.length) (pt xs ys) := qs_congr fun i _ => pt_comm i
  rw [c, ← b] at a
  rw [← qs_ext (le_mx xs.length ys.length).2 fun i h => lft_far hy h hx, a, qs_ext (le_mx xs.length ys.length).1 fun i h => lft_far hx h hy, gap_left hx hy]
theorem same_gap (hx : DrOk 30 1000000 xs) (hy : DrOk 30 1000000 ys) {n : Nat} (h1 : xs.length ≤ n) : qs n (pt xs ys) + dst xs ys = 1 := by
  have e : qs n (lft xs ys) = qs n (pc xs) - qs n (pt xs ys) := qs_sub
  rw [qs_ext h1 fun i h => pc_ge h, pc_sum hx, qs_ext h1 fun i h => lft_far hx h hy, gap_left hx hy] at e
  rw [e]
  grind
end
end Py.Q
end

section
set_option autoImplicit false
set_option linter.all false
set_option Elab.async false
set_option maxRecDepth 100000
set_option maxHeartbeats 4000000
set_option exponentiation.threshold 5000
/-! meeting. -/
namespace Py.Q
theorem Qb.div {k l : Nat} {a b : Rat} (h1 : Qb k a) (h2 : Qb l b) (hp : 0 < b) : Qb (k + l) (a / b) := by
  have bn : 0 < b.num := by
    have h := (Rat.lt_iff 0 b).mp hp
    have e1 : (0 : Rat).num = 0 := rfl
    have e2 : (0 : Rat).den = 1 := rfl
    rw [e1, e2] at h
    simpa using h
  have e : a / b = Rat.divInt (a.num * b.den) (a.den * b.num) := by
    rw [Rat.div_def, Rat.inv_def]
    conv => lhs; rw [← Rat.num_divInt_den a]
    exact Rat.divInt_mul_divInt _ _
  rw [e]
  refine divInt_bd (Int.mul_pos (by have := a.den_pos; omega) bn) ?_ ?_
  · rw [Int.natAbs_mul, Int.natAbs_natCast]; exact nat_mul_le h1.num h2.den
  · rw [Int.natAbs_mul, Int.natAbs_natCast]; exact nat_mul_le h1.den h2.num
theorem Qb.zero (k : Nat) : Qb k 0 := ⟨Nat.zero_le _, Nat.one_le_two_pow⟩
section
variable {xs ys : List Int}
/-- what meets of the rest -/
def mRest (xs ys : List Int) (i j : Nat) : Rat := if dst xs ys = 0 then 0 else lft xs ys i * lft ys xs j / dst xs ys
def mTbl (xs ys : List Int) (i j : Nat) : Rat := if j = i then mRest xs ys i j + pt xs ys i else mRest xs ys i j
def mRow (xs ys : List Int) (i : Nat) : Val := .tup (arr ys.length fun j => vq (mTbl xs ys i j))
theorem dst_qb (hx : DrOk 30 1000000 xs) (hy : DrOk 30 1000000 ys) : Qb 60 (dst xs ys) := by rw [← gap_left hx hy]; exact lft_part_qb hx hy (by have := hx.len; omega)
theorem dst_nn (hx : DrOk 30 1000000 xs) (hy : DrOk 30 1000000 ys) : 0 ≤ dst xs ys := by rw [← gap_left hx hy]; exact qs_nonneg fun i _ => lft_nn i
theorem mRest_qb (hx : DrOk 30 1000000 xs) (hy : DrOk 30 1000000 ys) (i j : Nat) : Qb 162 (mRest xs ys i j) := by
  have h := dst_nn hx hy
  unfold mRest
  split
  · exact Qb.zero _
  · exact ((lft_qb hx hy i).mul (lft_qb hy hx j)).div (dst_qb hx hy) (by grind)
theorem mRest_ok (k : Nat) (m : Mem) (hx : DrOk 30 1000000 xs) (hy : DrOk 30 1000000 ys) (hd : ¬ dst xs ys = 0) (i j : Nat) : callK Pp (k + 3) 90 [vq (lft xs ys i), vq (lft ys xs j)] m = some (.ok (.val (vq (lft xs ys i * lft ys xs j))) m) ∧
    callK Pp (k + 3) 91 [vq (lft xs ys i * lft ys xs j), vq (dst xs ys)] m = some (.ok (.val (vq (mRest xs ys i j))) m) := by
  have h := dst_nn hx hy
  refine ⟨times_q k m (lft_qb hx hy i) (lft_qb hy hx j) (by decide) (by decide), ?_⟩
  have := over_q k m ((lft_qb hx hy i).mul (lft_qb hy hx j)) (dst_qb hx hy) (by decide) (by decide) (by grind)
  unfold mRest
  rw [if_neg hd]
  exact this
theorem meet_turn (k : Nat) (m : Mem) (hx : DrOk 30 1000000 xs) (hy : DrOk 30 1000000 ys) (i : Nat) (hi : i < xs.length) (v9 v10 : Option SV) :
    ∃ u9 u10, exs (callK Pp (k + 3)) b_meeting_1 ⟨[some (.val (vI xs)), some (.val (vI ys)), some (.val (.lst (arr (min xs.length ys.length) fun i => vq (pt xs ys i)))), some (.val (.lst (arr xs.length fun i => vq (lft xs ys i)))), some (.own (arr ys.length fun j => vq (lft ys xs j))), some (.val (vq (dst xs ys))), some (.own (arr i fun a => mRow xs ys a)), some (.val (.int i)), some (.val (vq (lft xs ys i))), v9, v10], m⟩ = some (.ok .nx ⟨[some (.val (vI xs)), some (.val (vI ys)), some (.val (.lst (arr (min xs.length ys.length) fun i => vq (pt xs ys i)))), some (.val (.lst (arr xs.length fun i => vq (lft xs ys i)))), some (.own (arr ys.length fun j => vq (lft ys xs j))), some (.val (vq (dst xs ys))), some (.own (arr (i + 1) fun a => mRow xs ys a)), some (.val (.int i)), some (.val (vq (lft xs ys i))), u9, u10], m⟩) := by
  have lx := hx.len
  have ly := hy.len
  have g5 : getI [Val.int (dst xs ys).num, .int (dst xs ys).den] 0 = some (.int (dst xs ys).num) := rfl
  have e0 : Val.tup [.int 0, .int 1] = vq 0 := rfl
  have ro : rOk (ys.length : Int) = true := rOk_len (by omega)
  have z1 : ys.length ≤ 16777216 := by omega
  have fz : i < szl := by unfold szl; omega
  -- the row ahead of the diagonal
  have row : ∀ t, ev (callK Pp (k + 3)) (.ite (.cmp (.ix (.s 5) (.c (.int 0))) (.one .eq (.c (.int 0)))) (.bin .mul (.lst (.cons (.c (.tup [(.int 0), (.int 1)])) .nil)) (.pr .len (.cons (.s 4) .nil))) c_meeting_1) t ⟨[some (.val (vI xs)), some (.val (vI ys)), some (.val (.lst (arr (min xs.length ys.length) fun i => vq (pt xs ys i)))), some (.val (.lst (arr xs.length fun i => vq (lft xs ys i)))), some (.own (arr ys.length fun j => vq (lft ys xs j))), some (.val (vq (dst xs ys))), some (.own (arr i fun a => mRow xs ys a)), some (.val (.int i)), some (.val (vq (lft xs ys i))), v9, v10], m⟩ =
      some (.ok (.own (arr ys.length fun j => vq (mRest xs ys i j))) ⟨[some (.val (vI xs)), some (.val (vI ys)), some (.val (.lst (arr (min xs.length ys.length) fun i => vq (pt xs ys i)))), some (.val (.lst (arr xs.length fun i => vq (lft xs ys i)))), some (.own (arr ys.length fun j => vq (lft ys xs j))), some (.val (vq (dst xs ys))), some (.own (arr i fun a => mRow xs ys a)), some (.val (.int i)), some (.val (vq (lft xs ys i))), v9, v10], m⟩) := fun t => by
    by_cases hd : dst xs ys = 0
    · have hn : (dst xs ys).num = 0 := num_zero.mpr hd
      have e : (arr ys.length fun j => vq (mRest xs ys i j)) = arr ys.length fun _ => vq 0 := arr_congr fun j _ => by unfold mRest; rw [if_pos hd]
      rw [e]
      simp [g5, hn, e0, ro, z1]
    · have hn : ¬ (dst xs ys).num = 0 := fun h => hd (num_zero.mp h)
      have c := ev_lc_arr (K := callK Pp (k + 3)) (own := [10]) (tg := .n 10) (it := .e (.s 4)) (ifs := .nil) (e := .call 91 (.cons (.call 90 (.cons (.s 8) (.cons (.s 10) .nil))) (.cons (.s 5) .nil))) (t := t) (s := ⟨[some (.val (vI xs)), some (.val (vI ys)), some (.val (.lst (arr (min xs.length ys.length) fun i => vq (pt xs ys i)))), some (.val (.lst (arr xs.length fun i => vq (lft xs ys i)))), some (.own (arr ys.length fun j => vq (lft ys xs j))), some (.val (vq (dst xs ys))), some (.own (arr i fun a => mRow xs ys a)), some (.val (.int i)), some (.val (vq (lft xs ys i))), v9, v10], m⟩) (v := fun j => vq (lft ys xs j)) (n := ys.length) (fun j => vq (mRest xs ys i j)) (by simp)
        (fun j hj => ⟨⟨[some (.val (vI xs)), some (.val (vI ys)), some (.val (.lst (arr (min xs.length ys.length) fun i => vq (pt xs ys i)))), some (.val (.lst (arr xs.length fun i => vq (lft xs ys i)))), some (.own (arr ys.length fun j => vq (lft ys xs j))), some (.val (vq (dst xs ys))), some (.own (arr i fun a => mRow xs ys a)), some (.val (.int i)), some (.val (vq (lft xs ys i))), v9, some (.val (vq (lft ys xs j)))], m⟩, by
          obtain ⟨q1, q2⟩ := mRest_ok k m hx hy hd i j
          simp [wiped, wipe, q1, q2], by simp [wiped, wipe]⟩) z1
      have c : ev (callK Pp (k + 3)) c_meeting_1 t ⟨[some (.val (vI xs)), some (.val (vI ys)), some (.val (.lst (arr (min xs.length ys.length) fun i => vq (pt xs ys i)))), some (.val (.lst (arr xs.length fun i => vq (lft xs ys i)))), some (.own (arr ys.length fun j => vq (lft ys xs j))), some (.val (vq (dst xs ys))), some (.own (arr i fun a => mRow xs ys a)), some (.val (.int i)), some (.val (vq (lft xs ys i))), v9, v10], m⟩ = _ := c
      simp [g5, hn, c]
  have fm : Val.tup (arr ys.length fun j => vq (mTbl xs ys i j)) = mRow xs ys i := rfl
  have d1 : ∀ j, j ≠ i → mTbl xs ys i j = mRest xs ys i j := fun j h => if_neg h
  by_cases hm : i < min xs.length ys.length
  · have hI : (i : Int) < min xs.length ys.length := by omega
    have gi : getI (arr ys.length fun j => vq (mRest xs ys i j)) (i : Int) = some (vq (mRest xs ys i i)) := getI_arr (by omega)
    have gp : getI (arr (min xs.length ys.length) fun i => vq (pt xs ys i)) (i : Int) = some (vq (pt xs ys i)) := getI_arr hm
    have pl := plus_q k m (mRest_qb hx hy i i) (pt_qb hx hy i) (by decide) (by decide)
    have pu : putL (i : Int) (vq (mRest xs ys i i + pt xs ys i)) (arr ys.length fun j => vq (mRest xs ys i j)) = some (arr ys.length fun j => vq (mTbl xs ys i j)) := by
      rw [putL_arr (by omega)]
      refine congrArg some (arr_congr fun j hj => ?_)
      by_cases h : j = i
      · subst h; unfold mTbl; rw [if_pos rfl, if_pos rfl]
      · rw [if_neg h, d1 j h]
    refine ⟨some (.own (arr ys.length fun j => vq (mTbl xs ys i j))), v10, ?_⟩
    rw [arr_succ (n := i)]
    simp [-getI_arr, -putL_arr, b_meeting_1, row, hm, hI, gi, gp, pl, pu, fz, z1, fm]
  · have hI : ¬ (i : Int) < min xs.length ys.length := by omega
    have e : (arr ys.length fun j => vq (mRest xs ys i j)) = arr ys.length fun j => vq (mTbl xs ys i j) := arr_congr fun j hj => by rw [d1 j (by omega)]
    refine ⟨some (.own (arr ys.length fun j => vq (mTbl xs ys i j))), v10, ?_⟩
    rw [e] at row
    rw [arr_succ (n := i)]
    simp [-getI_arr, -putL_arr, b_meeting_1, row, hm, hI, fz, z1, fm]
end
end Py.Q
end

section
set_option autoImplicit false
set_option linter.all false
set_option Elab.async false
set_option maxRecDepth 100000
set_option maxHeartbeats 4000000
set_option exponentiation.threshold 5000
/-! meeting: a joint table with the greatest chance to be the same. -/
namespace Py.Q
/-- a table of fractions -/
def vQ (a b : Nat) (f : Nat → Nat → Rat) : Val := .tup (arr a fun i => .tup (arr b fun j => vq (f i j)))
section
variable {xs ys : List Int}
theorem meeting_ok (k : Nat) (m : Mem) (hx : DrOk 30 1000000 xs) (hy : DrOk 30 1000000 ys) : callK Pp (k + 6) 102 [vI xs, vI ys] m = some (.ok (.val (vQ xs.length ys.length (mTbl xs ys))) m) := by
  have lx := hx.len
  have ly := hy.len
  have c1 := check_draw_ok (k + 2) (vI xs) m (isDr_ok hx (Nat.le_refl _) (Int.le_refl _))
  have c2 := check_draw_ok (k + 2) (vI ys) m (isDr_ok hy (Nat.le_refl _) (Int.le_refl _))
  have lp := least_parts_ok (k + 1) m hx hy
  have l1 := left_over_ok (k + 1) m hx hy _ rfl
  have l2 := left_over_ok (k + 1) m hy hx (min xs.length ys.length) (Nat.min_comm _ _)
  have ep : (arr (min xs.length ys.length) fun i => vq (pt ys xs i)) = arr (min xs.length ys.length) fun i => vq (pt xs ys i) := arr_congr fun i _ => by rw [pt_comm]
  rw [ep] at l2
  have tt := total_q (k + 1) (.lst (arr xs.length fun i => vq (lft xs ys i))) xs.length (lft xs ys) m (fun t => by cases t <;> rfl) (fun j hj => (lft_part_qb hx hy (by omega)).mono (by decide)) (fun j hj => (lft_qb hx hy j).mono (by decide))
  rw [gap_left hx hy] at tt
  obtain ⟨s', l, v7, v8, v9, v10, rfl⟩ := forM_arr (tg := .t (.cons (.n 7) (.cons (.n 8) .nil))) (body := exs (callK Pp (k + 5)) b_meeting_1) (v := fun i : Nat => .tup [.int (i : Int), vq (lft xs ys i)]) (n := xs.length)
    (fun i s => ∃ v7 v8 v9 v10, s = (⟨[some (.val (vI xs)), some (.val (vI ys)), some (.val (.lst (arr (min xs.length ys.length) fun i => vq (pt xs ys i)))), some (.val (.lst (arr xs.length fun i => vq (lft xs ys i)))), some (.own (arr ys.length fun j => vq (lft ys xs j))), some (.val (vq (dst xs ys))), some (.own (arr i fun a => mRow xs ys a)), v7, v8, v9, v10], m⟩ : S))
    (by
      rintro i s hi ⟨v7, v8, v9, v10, rfl⟩
      obtain ⟨u9, u10, e⟩ := meet_turn (k + 2) m hx hy i hi v9 v10
      exact ⟨_, _, rfl, e, _, _, _, _, rfl⟩)
    ⟨[some (.val (vI xs)), some (.val (vI ys)), some (.val (.lst (arr (min xs.length ys.length) fun i => vq (pt xs ys i)))), some (.val (.lst (arr xs.length fun i => vq (lft xs ys i)))), some (.own (arr ys.length fun j => vq (lft ys xs j))), some (.val (vq (dst xs ys))), some (.own []), none, none, none, none], m⟩ ⟨_, _, _, _, rfl⟩
  have z : xs.length ≤ 16777216 := by omega
  rw [call_eq rfl rfl]
  simp [d_meeting, frame, c1, c2, lp, l1, l2, tt, oOk, l, z, vQ, mRow]
/-! ### the table -/
theorem mRest_row (hx : DrOk 30 1000000 xs) (hy : DrOk 30 1000000 ys) (i : Nat) (hi : i < xs.length) : qs ys.length (mRest xs ys i) = lft xs ys i := by
  by_cases hd : dst xs ys = 0
  · have e : qs ys.length (mRest xs ys i) = 0 := by
      rw [qs_congr (g := fun _ => 0) fun j _ => by unfold mRest; rw [if_pos hd], qs_zero]
    rw [e]
    -- nothing is left
    have h : qs xs.length (lft xs ys) = 0 := by rw [gap_left hx hy, hd]
    have le : ∀ n, (∀ j, 0 ≤ lft xs ys j) → ∀ j, j < n → lft xs ys j ≤ qs n (lft xs ys) := fun n h0 => by
      induction n with
      | zero => intro j hj; omega
      | succ n ih =>
        intro j hj
        show lft xs ys j ≤ qs n (lft xs ys) + lft xs ys n
        have h1 := h0 n
        by_cases e : j = n
        · subst e
          have := qs_nonneg (n := j) (f := lft xs ys) fun i _ => h0 i
          grind
        · have := ih j (by omega)
          grind
    have h1 := le xs.length (fun j => lft_nn j) i hi
    have h2 := lft_nn (xs := xs) (ys := ys) i
    grind
  · have e : qs ys.length (mRest xs ys i) = qs ys.length fun j => (lft xs ys i / dst xs ys) * lft ys xs j := qs_congr fun j _ => by
      unfold mRest
      rw [if_neg hd]
      grind
    rw [e, qs_mul, gap_right hx hy]
    grind
theorem mRest_comm (hx : DrOk 30 1000000 xs) (hy : DrOk 30 1000000 ys) (i j : Nat) : mRest xs ys i j = mRest ys xs j i := by
  have e : dst ys xs = dst xs ys := by rw [← gap_left hy hx, gap_right hx hy]
  unfold mRest
  rw [e]
  split
  · rfl
  · grind
theorem qs_ite {f : Nat → Rat} {c : Rat} {i : Nat} : ∀ {n : Nat}, qs n (fun j => if j = i then f j + c else f j) = qs n f + if i < n then c else 0
  | 0 => by show (0 : Rat) = 0 + _; rw [if_neg (by omega)]; grind
  | n + 1 => by
    show qs n _ + (if n = i then f n + c else f n) = qs n f + f n + _
    rw [qs_ite]
    by_cases h : n = i
    · subst h
      rw [if_neg (by omega), if_pos rfl, if_pos (by omega)]
      grind
    · rw [if_neg h]
      by_cases h2 : i < n
      · rw [if_pos h2, if_pos (by omega)]; grind
      · rw [if_neg h2, if_neg (by omega)]; grind
theorem mTbl_row (hx : DrOk 30 1000000 xs) (hy : DrOk 30 1000000 ys) {i : Nat} (hi : i < xs.length) : qs ys.length (mTbl xs ys i) = pc xs i := by
  have e : qs ys.length (mTbl xs ys i) = qs ys.length (mRest xs ys i) + if i < ys.length then pt xs ys i else 0 := qs_ite
  rw [e, mRest_row hx hy i hi]
  by_cases h : i < ys.length
  · rw [if_pos h]; unfold lft; grind
  · rw [if_neg h]
    have := pt_far (ys := ys) hx (i := i) (by omega)
    unfold lft
    rw [this]
    grind
theorem mTbl_comm (hx : DrOk 30 1000000 xs) (hy : DrOk 30 1000000 ys) (i j : Nat) : mTbl xs ys i j = mTbl ys xs j i := by
  unfold mTbl
  rw [mRest_comm hx hy]
  by_cases h : j = i
  · subst h
    rw [if_pos rfl, if_pos rfl, pt_comm]
  · rw [if_neg h, if_neg (Ne.symm h)]
theorem mTbl_col (hx : DrOk 30 1000000 xs) (hy : DrOk 30 1000000 ys) {j : Nat} (hj : j < ys.length) : qs xs.length (fun i => mTbl xs ys i j) = pc ys j := by
  rw [qs_congr fun i _ => mTbl_comm hx hy i j]
  exact mTbl_row hy hx hj
theorem mTbl_nn (hx : DrOk 30 1000000 xs) (hy : DrOk 30 1000000 ys) (i j : Nat) : 0 ≤ mTbl xs ys i j := by
  have h1 := lft_nn (xs := xs) (ys := ys) i
  have h2 := lft_nn (xs := ys) (ys := xs) j
  have h3 := dst_nn hx hy
  have r : 0 ≤ mRest xs ys i j := by
    unfold mRest
    split
    · exact Rat.le_refl
    · have hp : 0 < dst xs ys := by grind
      rw [Rat.div_def]
      exact Rat.mul_nonneg (Rat.mul_nonneg h1 h2) (Rat.le_of_lt (Rat.inv_pos.mpr hp))
  have p : 0 ≤ pt xs ys i := by
    have a := pc_nn hx i
    have b := pc_nn hy i
    unfold pt lsr
    split <;> assumption
  unfold mTbl
  split
  · grind
  · exact r
/-- never both left -/
theorem mRest_diag (i : Nat) : mRest xs ys i i = 0 := by
  have h : lft xs ys i * lft ys xs i = 0 := by
    have e : lft xs ys i = 0 ∨ lft ys xs i = 0 := by
      unfold lft
      rw [pt_comm (xs := ys)]
      unfold pt lsr
      by_cases h : pc ys i < pc xs i
      · right; rw [if_pos h]; grind
      · left; rw [if_neg h]; grind
    rcases e with e | e
    · rw [e]; grind
    · rw [e]; grind
  unfold mRest
  split
  · rfl
  · rw [h]; grind
theorem mTbl_same (hx : DrOk 30 1000000 xs) (hy : DrOk 30 1000000 ys) : qs (min xs.length ys.length) (fun i => mTbl xs ys i i) + dst xs ys = 1 := by
  have e : qs (min xs.length ys.length) (fun i => mTbl xs ys i i) = qs (min xs.length ys.length) (pt xs ys) := qs_congr fun i _ => by
    unfold mTbl
    rw [if_pos rfl, mRest_diag]
    grind
  rw [e, ← qs_ext (m := xs.length) (Nat.min_le_left ..) fun i hi => ?_]
  · exact same_gap hx hy (Nat.le_refl _)
  · by_cases h : ys.length ≤ i
    · exact pt_far hx h
    · rw [pt_comm]; exact pt_far hy (by omega)
end
end Py.Q
end

section
set_option autoImplicit false
set_option linter.all false
set_option Elab.async false
set_option maxRecDepth 100000
set_option maxHeartbeats 4000000
set_option exponentiation.threshold 5000
/-! What is a fraction; the law's sums. -/
namespace Py.Q
theorem distance_ok (k : Nat) {xs ys : List Int} (m : Mem) (hx : DrOk 30 1000000 xs) (hy : DrOk 30 1000000 ys) : callK Pp (k + 6) 99 [vI xs, vI ys] m = some (.ok (.val (vq (dst xs ys))) m) := by
  have c1 := check_draw_ok (k + 2) (vI xs) m (isDr_ok hx (Nat.le_refl _) (Int.le_refl _))
  have c2 := check_draw_ok (k + 2) (vI ys) m (isDr_ok hy (Nat.le_refl _) (Int.le_refl _))
  have c3 := distance_of_ok (k + 2) m hx hy
  rw [call_eq rfl rfl]
  simp [d_distance, frame, c1, c2, c3]
theorem num_den_gc (q : Rat) : gc q.num q.den = 1 := by
  have := q.reduced
  unfold Nat.Coprime at this
  show ((q.num.natAbs.gcd q.den : Nat) : Int) = 1
  rw [this]
  rfl
@[simp] theorem isTy_vq (q : Rat) : isTy (.val (vq q)) .tuple = true := by rfl
theorem is_ratio_q (k : Nat) (q : Rat) (m : Mem) : callK Pp (k + 2) 87 [vq q] m = some (.ok (.val (.bl true)) m) := by
  have g0 : getI [Val.int q.num, .int q.den] 0 = some (.int q.num) := rfl
  have g1 : getI [Val.int q.num, .int q.den] 1 = some (.int q.den) := rfl
  have p := q.den_pos
  have p' : (0 : Int) < q.den := by omega
  rw [call_eq rfl rfl]
  simp [d_is_ratio, frame, g0, g1, p, num_den_gc, isW]
theorem is_frac_q (k : Nat) {j : Nat} {q : Rat} (m : Mem) (h : Qb j q) (hj : j ≤ 1800) : callK Pp (k + 2) 104 [vq q] m = some (.ok (.val (.bl true)) m) := by
  have g0 : getI [Val.int q.num, .int q.den] 0 = some (.int q.num) := rfl
  have g1 : getI [Val.int q.num, .int q.den] 1 = some (.int q.den) := rfl
  have p := q.den_pos
  have p' : (0 : Int) < q.den := by omega
  have n : ¬ (q.den : Int) < 1 := by omega
  have f := frac_q k q.num q.den m p' (h.sd hj).small
  rw [Rat.num_divInt_den] at f
  have c : ∀ t, ev (callK Pp (k + 1)) c_law_is_fraction_1 t ⟨[some (.val (vq q)), none], m⟩ = some (.ok (.own (arr 2 fun _ => .bl true)) ⟨[some (.val (vq q)), none], m⟩) := by
    intro t
    refine ev_lc_arr (v := gD [Val.int q.num, .int q.den] .non) _ (by simp; rfl) (fun i hi => ⟨⟨[some (.val (vq q)), some (.val (gD [Val.int q.num, .int q.den] .non i))], m⟩, ?_, by simp [wiped, wipe]⟩) (by omega)
    match i, hi with
    | 0, _ => simp [wiped, wipe, gD, isTy]
    | 1, _ => simp [wiped, wipe, gD, isTy]
  have al : ((arr 2 fun _ : Nat => true).all id) = true := by rfl
  rw [call_eq rfl rfl]
  simp [d_law_is_fraction, frame, g0, g1, n, f, c, al, eqS_vq]
end Py.Q
end

section
set_option autoImplicit false
set_option linter.all false
set_option Elab.async false
set_option maxRecDepth 100000
set_option maxHeartbeats 4000000
set_option exponentiation.threshold 5000
/-! The law's sums; the shape of a table. -/
namespace Py.Q
theorem law_sum_q (k : Nat) (v : Val) (n : Nat) (f : Nat → Rat) (m : Mem) (hv : ∀ t, srcs t (.val v) = some (arr n fun i => vq (f i))) (hs : ∀ j, j ≤ n → Qb 900 (qs j f)) (hf : ∀ j, j < n → Qb 900 (f j)) :
    callK Pp (k + 2) 105 [v] m = some (.ok (.val (vq (qs n f))) m) := by
  obtain ⟨s', l, o3, rfl⟩ := forM_arr (tg := .n 3) (body := exs (callK Pp (k + 1)) b_law_sum_1) (v := fun i => vq (f i)) (n := n)
    (fun j t => ∃ o3, t = (⟨[some (.val v), some (.val (.int (qs j f).num)), some (.val (.int (qs j f).den)), o3], m⟩ : S))
    (by
      rintro j t hj ⟨o3, rfl⟩
      refine ⟨_, ⟨[some (.val v), some (.val (.int (qs (j + 1) f).num)), some (.val (.int (qs (j + 1) f).den)), some (.val (vq (f j)))], m⟩, rfl, ?_, _, rfl⟩
      have e : qs (j + 1) f = Rat.divInt ((qs j f).num * (f j).den + (f j).num * (qs j f).den) ((qs j f).den * (f j).den) := add_divInt _ _
      have g0 : getI [Val.int (f j).num, .int (f j).den] 0 = some (.int (f j).num) := rfl
      have g1 : getI [Val.int (f j).num, .int (f j).den] 1 = some (.int (f j).den) := rfl
      have ha := hs j (by omega)
      have hb := hf j hj
      have p := den_mul_pos (qs j f) (f j)
      have s := sm2 (ha.sd (by omega)) (hb.sd (by omega))
      have fr := frac_q k ((qs j f).num * (f j).den + (f j).num * (qs j f).den) ((qs j f).den * (f j).den) m p s
      rw [← e] at fr
      have it : items m (.val (vq (qs (j + 1) f))) = some [.int (qs (j + 1) f).num, .int (qs (j + 1) f).den] := rfl
      simp [b_law_sum_1, g0, g1, fr, (ha.sn (by omega)).small, (hb.sn (by omega)).small, (ha.sd (by omega)).small, (hb.sd (by omega)).small])
    ⟨[some (.val v), some (.val (.int (0 : Rat).num)), some (.val (.int (0 : Rat).den)), none], m⟩ ⟨none, rfl⟩
  have e0 : (0 : Rat).num = 0 := rfl
  have e1 : (0 : Rat).den = 1 := rfl
  rw [e0, e1] at l
  rw [call_eq rfl rfl]
  simp [d_law_sum, frame, hv]
  simp at l
  simp [l]
  rfl
end Py.Q
end

section
set_option autoImplicit false
set_option linter.all false
set_option Elab.async false
set_option maxRecDepth 100000
set_option maxHeartbeats 4000000
set_option exponentiation.threshold 5000
/-! Fractions of one denominator. -/
namespace Py.Q
/-- q is n / D for a small n -/
def Dn (D : Int) (k : Nat) (q : Rat) : Prop := ∃ n : Int, q = Rat.divInt n D ∧ n.natAbs ≤ 2 ^ k
theorem Dn.qb {D : Int} {k : Nat} {q : Rat} (h : Dn D k q) (hD : 0 < D) (hd : D.natAbs ≤ 2 ^ k) : Qb k q := by
  obtain ⟨n, rfl, hn⟩ := h
  exact divInt_bd hD hn hd
theorem Dn.mono {D : Int} {k l : Nat} {q : Rat} (h : Dn D k q) (hl : k ≤ l) : Dn D l q := by
  obtain ⟨n, e, hn⟩ := h
  exact ⟨n, e, Nat.le_trans hn (Nat.pow_le_pow_right (by decide) hl)⟩
theorem Dn.add {D : Int} {k : Nat} {p q : Rat} (h1 : Dn D k p) (h2 : Dn D k q) (hD : 0 < D) : Dn D (k + 1) (p + q) := by
  obtain ⟨n, rfl, hn⟩ := h1
  obtain ⟨n', rfl, hn'⟩ := h2
  refine ⟨n + n', ?_, ?_⟩
  · rw [Rat.divInt_add_divInt _ _ (by omega) (by omega)]
    refine (Rat.divInt_eq_divInt_iff (Int.mul_ne_zero (by omega) (by omega)) (by omega)).mpr ?_
    grind
  · have : (n + n').natAbs ≤ n.natAbs + n'.natAbs := Int.natAbs_add_le ..
    rw [Nat.pow_succ]
    omega
theorem Dn.neg {D : Int} {k : Nat} {p : Rat} (h1 : Dn D k p) : Dn D k (-p) := by
  obtain ⟨n, rfl, hn⟩ := h1
  exact ⟨-n, by rw [Rat.neg_divInt], by rw [Int.natAbs_neg]; exact hn⟩
theorem Dn.scale {D : Int} {k : Nat} {p : Rat} (h1 : Dn D k p) (hD : 0 < D) : Dn (2 * D) (k + 1) p := by
  obtain ⟨n, rfl, hn⟩ := h1
  refine ⟨2 * n, ?_, ?_⟩
  · refine (Rat.divInt_eq_divInt_iff (by omega) (by omega)).mpr ?_
    grind
  · rw [Int.natAbs_mul, Nat.pow_succ]
    show 2 * n.natAbs ≤ _
    omega
theorem Dn.half {D : Int} {k : Nat} {p : Rat} (h1 : Dn D k p) (hD : 0 < D) : Dn (2 * D) k (p / 2) := by
  obtain ⟨n, rfl, hn⟩ := h1
  refine ⟨n, ?_, hn⟩
  have e : (2 : Rat) = Rat.divInt 2 1 := by rfl
  have e2 : (2 : Rat)⁻¹ = Rat.divInt 1 2 := by rw [e, Rat.inv_divInt]
  rw [Rat.div_def, e2, Rat.divInt_mul_divInt]
  congr 1
  · omega
  · omega
theorem Dn.zero {D : Int} {k : Nat} : Dn D k 0 := ⟨0, by simp, by exact Nat.zero_le _⟩
theorem Dn.sum {D : Int} {k : Nat} {f : Nat → Rat} (hD : 0 < D) : ∀ {n : Nat}, (∀ i, i < n → Dn D k (f i)) → ∃ N : Int, qs n f = Rat.divInt N D ∧ N.natAbs ≤ n * 2 ^ k
  | 0, _ => ⟨0, by show (0 : Rat) = _; simp, by simp⟩
  | n + 1, h => by
    obtain ⟨N, e, b⟩ := Dn.sum hD (n := n) fun i hi => h i (by omega)
    obtain ⟨c, e2, b2⟩ := h n (by omega)
    refine ⟨N + c, ?_, ?_⟩
    · show qs n f + f n = _
      rw [e, e2, Rat.divInt_add_divInt _ _ (by omega) (by omega)]
      refine (Rat.divInt_eq_divInt_iff (Int.mul_ne_zero (by omega) (by omega)) (by omega)).mpr ?_
      grind
    · have : (N + c).natAbs ≤ N.natAbs + c.natAbs := Int.natAbs_add_le ..
      rw [Nat.add_mul, Nat.one_mul]
      omega
/-- a table of fractions of one denominator -/
structure TbOk (k a b : Nat) (f : Nat → Nat → Rat) : Prop where
  ex : ∃ D : Int, 0 < D ∧ D.natAbs ≤ 2 ^ k ∧ ∀ i j, i < a → j < b → Dn D k (f i j)
theorem TbOk.mono {k l a b : Nat} {f : Nat → Nat → Rat} (h : TbOk k a b f) (hl : k ≤ l) : TbOk l a b f := by
  obtain ⟨D, p, q, r⟩ := h.ex
  exact ⟨D, p, Nat.le_trans q (Nat.pow_le_pow_right (by decide) hl), fun i j hi hj => (r i j hi hj).mono hl⟩
theorem sum_qb {D : Int} {k n : Nat} {f : Nat → Rat} (hD : 0 < D) (hd : D.natAbs ≤ 2 ^ k) (h : ∀ i, i < n → Dn D k (f i)) (hn : n ≤ 32) : Qb (k + 5) (qs n f) := by
  obtain ⟨N, e, b⟩ := Dn.sum hD h
  rw [e]
  have p : 2 ^ (k + 5) = 32 * 2 ^ k := by rw [Nat.pow_add]; omega
  have q : n * 2 ^ k ≤ 32 * 2 ^ k := Nat.mul_le_mul_right _ hn
  exact divInt_bd hD (by omega) (by omega)
section
variable {k a b : Nat} {f : Nat → Nat → Rat}
theorem TbOk.qb (h : TbOk k a b f) {i j : Nat} (hi : i < a) (hj : j < b) : Qb k (f i j) := by
  obtain ⟨D, p, q, r⟩ := h.ex
  exact (r i j hi hj).qb p q
theorem TbOk.row (h : TbOk k a b f) {i n : Nat} (hi : i < a) (hn : n ≤ b) (hb : b ≤ 32) : Qb (k + 5) (qs n (f i)) := by
  obtain ⟨D, p, q, r⟩ := h.ex
  exact sum_qb p q (fun j hj => r i j hi (by omega)) (by omega)
theorem TbOk.col (h : TbOk k a b f) {j n : Nat} (hj : j < b) (hn : n ≤ a) (hb : a ≤ 32) : Qb (k + 5) (qs n fun i => f i j) := by
  obtain ⟨D, p, q, r⟩ := h.ex
  exact sum_qb p q (fun i hi => r i j (by omega) hj) (by omega)
theorem TbOk.diag (h : TbOk k a b f) {n : Nat} (hn : n ≤ min a b) (hb : a ≤ 32) : Qb (k + 5) (qs n fun i => f i i) := by
  obtain ⟨D, p, q, r⟩ := h.ex
  exact sum_qb p q (fun i hi => r i i (by omega) (by omega)) (by omega)
end
end Py.Q
end

section
set_option autoImplicit false
set_option linter.all false
set_option Elab.async false
set_option maxRecDepth 100000
set_option maxHeartbeats 4000000
set_option exponentiation.threshold 5000
/-! The shape of a table, and its sums: the code. -/
namespace Py.Q
theorem eqvL_arr' : ∀ {n : Nat} {f g : Nat → Val}, eqvL (arr n f) (arr n g) = (arr n fun i => eqv (f i) (g i)).all id
  | 0, f, g => by simp [eqvL]
  | n + 1, f, g => by
    rw [arr_cons, arr_cons, arr_cons]
    unfold eqvL
    rw [eqvL_arr']
    rfl
theorem pure_vqs {n : Nat} {f : Nat → Rat} : (Val.lst (arr n fun i => vq (f i))).pure = true := by
  show (Val.lst (arr n fun i => vq (f i))).flat 20 = true
  rw [flat_lst]
  have := flat_arr (n := 19) (k := n) (f := fun i => vq (f i)) fun i _ => flat_vq _ _
  rwa [flat_tup] at this
theorem eqS_vqs (m : Mem) {n : Nat} {f g : Nat → Rat} : eqS m (.own (arr n fun i => vq (f i))) (.own (arr n fun i => vq (g i))) = some ((arr n fun i => decide (f i = g i)).all id) := by
  rw [eqS_val (v := .lst (arr n fun i => vq (f i))) (w := .lst (arr n fun i => vq (g i))) rfl rfl pure_vqs pure_vqs]
  congr 1
  unfold eqv
  rw [eqvL_arr']
  congr 1
  exact arr_congr fun i _ => eqv_vq _ _
/-- no entry is below zero -/
def nnB (a b : Nat) (f : Nat → Nat → Rat) : Bool := (arr a fun i => (arr b fun j => decide (0 ≤ f i j)).all id).all id
theorem num_nn (q : Rat) : decide (0 ≤ q.num) = decide (0 ≤ q) := by
  by_cases h : 0 ≤ q
  · rw [decide_eq_true h, decide_eq_true (Rat.num_nonneg.mpr h)]
  · rw [decide_eq_false h, decide_eq_false fun h2 => h (Rat.num_nonneg.mp h2)]
@[simp] theorem isTy_vQ (a b : Nat) (f : Nat → Nat → Rat) : isTy (.val (vQ a b f)) .tuple = true := by rfl
@[simp] theorem items_vQ (m : Mem) (a b : Nat) (f : Nat → Nat → Rat) : items m (.val (vQ a b f)) = some (arr a fun i => .tup (arr b fun j => vq (f i j))) := by rfl
@[simp] theorem srcs_vQ (t : Bool) (a b : Nat) (f : Nat → Nat → Rat) : srcs t (.val (vQ a b f)) = some (arr a fun i => .tup (arr b fun j => vq (f i j))) := by cases t <;> rfl
@[simp] theorem isTup_vQ (a b : Nat) (f : Nat → Nat → Rat) : isTup (.val (vQ a b f)) = true := by rfl
theorem has_shape_q (k : Nat) (m : Mem) {a b a' : Nat} {f : Nat → Nat → Rat} (ha : a ≤ 1000) (hb : b ≤ 1000) (ha' : a' ≤ 1001) :
    callK Pp (k + 3) 96 [vQ a' b f, .int a, .int b] m = some (.ok (.val (.bl (decide (a' = a) && nnB a b f))) m) := by
  rw [call_eq rfl rfl]
  by_cases e : a' = a
  · subst e
    obtain ⟨s', ⟨o3, rfl⟩, l⟩ := forM_arr_all (tg := .n 3) (body := exs (callK Pp (k + 2)) b_has_shape_1) (v := fun i => .tup (arr b fun j => vq (f i j))) (n := a') (fun s => ∃ o3, s = (⟨[some (.val (vQ a' b f)), some (.val (.int a')), some (.val (.int b)), o3, none], m⟩ : S)) (fun i => (arr b fun j => decide (0 ≤ f i j)).all id) (.val (.bl false))
      (by
        rintro i s hi ⟨o3, rfl⟩
        refine ⟨⟨[some (.val (vQ a' b f)), some (.val (.int a')), some (.val (.int b)), some (.val (.tup (arr b fun j => vq (f i j)))), none], m⟩, ⟨[some (.val (vQ a' b f)), some (.val (.int a')), some (.val (.int b)), some (.val (.tup (arr b fun j => vq (f i j)))), none], m⟩, rfl, ⟨_, rfl⟩, ?_⟩
        have c : ∀ t, ev (callK Pp (k + 2)) c_has_shape_1 t ⟨[some (.val (vQ a' b f)), some (.val (.int a')), some (.val (.int b)), some (.val (.tup (arr b fun j => vq (f i j)))), none], m⟩ = some (.ok (.own (arr b fun j => .bl (decide (0 ≤ f i j)))) ⟨[some (.val (vQ a' b f)), some (.val (.int a')), some (.val (.int b)), some (.val (.tup (arr b fun j => vq (f i j)))), none], m⟩) := fun t =>
          ev_lc_arr (v := fun j => vq (f i j)) _ (by simp) (fun j hj => ⟨⟨[some (.val (vQ a' b f)), some (.val (.int a')), some (.val (.int b)), some (.val (.tup (arr b fun j => vq (f i j)))), some (.val (vq (f i j)))], m⟩, by
            have r := is_ratio_q k (f i j) m
            have g0 : getI [Val.int (f i j).num, .int (f i j).den] 0 = some (.int (f i j).num) := rfl
            have nn := num_nn (f i j)
            simp [wiped, wipe, r, g0, nn], by simp [wiped, wipe]⟩) (by omega)
        cases hb2 : (arr b fun j => decide (0 ≤ f i j)).all id with
        | true => simp [b_has_shape_1, isTy, c, all_gD, hb2]
        | false => simp [b_has_shape_1, isTy, c, all_gD, hb2])
      ⟨[some (.val (vQ a' b f)), some (.val (.int a')), some (.val (.int b)), none, none], m⟩ ⟨_, rfl⟩
    have e2 : ((arr a' fun i => (arr b fun j => decide (0 ≤ f i j)).all id).all id) = nnB a' b f := rfl
    rw [e2] at l
    cases hb2 : nnB a' b f with
    | true => rw [hb2] at l; simp at l; simp [d_has_shape, frame, l]
    | false => rw [hb2] at l; simp at l; simp [d_has_shape, frame, l]
  · have ne : ¬ (a' : Int) = a := by omega
    simp [d_has_shape, frame, e, ne]
end Py.Q
end

section
set_option autoImplicit false
set_option linter.all false
set_option Elab.async false
set_option maxRecDepth 100000
set_option maxHeartbeats 4000000
set_option exponentiation.threshold 5000
/-! What is a fraction, for any value. -/
namespace Py.Q
def isRat : Val → Bool
  | .tup [.int n, .int d] => decide (0 < d) && decide (gc n d = 1)
  | _ => false
theorem isRat_ne {xs : List Val} (h : xs.length ≠ 2) : isRat (.tup xs) = false := by
  match xs, h with
  | [], _ => rfl
  | [a], _ => cases a <;> rfl
  | [a, b], h => exact absurd rfl h
  | a :: b :: c :: r, _ => cases a <;> first | rfl | (cases b <;> rfl)
theorem is_ratio_any (k : Nat) (v : Val) (m : Mem) : callK Pp (k + 2) 87 [v] m = some (.ok (.val (.bl (isRat v))) m) := by
  rw [call_eq rfl rfl]
  cases v with
  | tup xs =>
    by_cases h : xs.length = 2
    · match xs, h with
      | [a, b], _ =>
        cases ha : isW a with
        | false =>
          have : isRat (.tup [a, b]) = false := by cases a <;> first | rfl | cases ha
          simp [d_is_ratio, frame, isTy, ha, this]
        | true =>
          cases hb : isW b with
          | false =>
            have : isRat (.tup [a, b]) = false := by cases a <;> first | (cases b <;> first | rfl | cases hb) | cases ha
            simp [d_is_ratio, frame, isTy, ha, hb, this]
          | true =>
            match a, b, ha, hb with
            | .int n, .int d, ha, hb =>
              by_cases hd : 0 < d
              · simp [d_is_ratio, frame, isTy, ha, hb, isRat, hd]
              · simp [d_is_ratio, frame, isTy, ha, hb, isRat, hd]
    · have : ¬ (xs.length : Int) = 2 := by omega
      simp [d_is_ratio, frame, isTy, isRat_ne h, this]
  | _ => simp [d_is_ratio, frame, isTy, isRat]
/-- a fraction from 0 to 1 -/
def okC : Val → Bool
  | .tup [.int n, .int d] => decide (0 < d) && decide (gc n d = 1) && (decide (0 ≤ n) && decide (n ≤ d))
  | _ => false
theorem okC_of {v : Val} (h : okC v = true) : ∃ p : Int × Int, v = vfr p ∧ isFr p ∧ 0 ≤ p.1 ∧ p.1 ≤ p.2 := by
  unfold okC at h
  split at h
  · rename_i n d
    simp at h
    exact ⟨(n, d), rfl, ⟨h.1.1, h.1.2⟩, h.2.1, h.2.2⟩
  · cases h
theorem okC_rat {v : Val} (h : isRat v = false) : okC v = false := by
  unfold isRat at h
  split at h
  · rename_i n d
    unfold okC
    simp only [h, Bool.false_and]
  · rename_i h2
    unfold okC
    split
    · exact absurd rfl (h2 _ _)
    · rfl
theorem okC_fr {p : Int × Int} (h : isFr p) (h0 : 0 ≤ p.1) (h1 : p.1 ≤ p.2) : okC (vfr p) = true := by
  unfold vfr okC
  simp [h.1, h.2, h0, h1]
theorem pure_ints2 {a b : Int} : Val.pure (.tup [.int a, .int b]) = true := by rfl
theorem eqv_vfr {n d : Int} {p : Int × Int} : eqv (vfr p) (.tup [.int n, .int d]) = decide (p = (n, d)) := by
  have : eqv (vfr p) (.tup [.int n, .int d]) = (decide (p.1 = n) && decide (p.2 = d)) := by
    show (p.1 == n && (p.2 == d && true)) = _
    rw [Bool.and_true]; rfl
  rw [this]
  by_cases h1 : p.1 = n <;> by_cases h2 : p.2 = d <;> simp [Prod.ext_iff, h1, h2]
theorem eqS_vfr {m : Mem} {n d : Int} {p : Int × Int} : eqS m (.val (vfr p)) (.val (.tup [.int n, .int d])) = some (decide (p = (n, d))) := by
  rw [← eqv_vfr]
  rfl
theorem fr_is {n d : Int} (h : 0 < d) : fr n d = (n, d) ↔ gc n d = 1 := by
  constructor
  · intro e
    have := fr_isFr (n := n) h
    rw [e] at this
    exact this.2
  · intro e
    exact fr_self (p := (n, d)) ⟨h, e⟩
theorem vq_vfr (q : Rat) : vq q = vfr (q.num, (q.den : Int)) := rfl
theorem isFr_vq (q : Rat) : isFr (q.num, (q.den : Int)) := ⟨by have := q.den_pos; show (0 : Int) < q.den; omega, num_den_gc q⟩
/-- a fraction is a rational -/
theorem rat_of {n d : Int} (hd : 0 < d) (hg : gc n d = 1) : (Rat.divInt n d).num = n ∧ ((Rat.divInt n d).den : Int) = d := by
  have e := (fr_is (n := n) hd).mpr hg
  rw [fr_rat hd] at e
  exact ⟨congrArg Prod.fst e, congrArg Prod.snd e⟩
theorem isRat_of {v : Val} (h : isRat v = true) : ∃ q : Rat, v = vq q := by
  unfold isRat at h
  split at h
  · rename_i n d
    simp at h
    have e := rat_of h.1 h.2
    exact ⟨Rat.divInt n d, by unfold vq; rw [e.1, e.2]⟩
  · cases h
theorem isRat_vq (q : Rat) : isRat (vq q) = true := by
  have p := q.den_pos
  unfold vq isRat
  simp [num_den_gc, p]
theorem num_le_den {q : Rat} : q.num ≤ q.den ↔ q ≤ 1 := by
  rw [Rat.le_iff]
  have e1 : (1 : Rat).num = 1 := rfl
  have e2 : (1 : Rat).den = 1 := rfl
  rw [e1, e2]
  simp
theorem okC_vq (q : Rat) : okC (vq q) = (decide (0 ≤ q) && decide (q ≤ 1)) := by
  have p := q.den_pos
  have p' : (0 : Int) < q.den := by omega
  have a := num_nn q
  have b : decide (q.num ≤ (q.den : Int)) = decide (q ≤ 1) := decide_eq_decide.mpr num_le_den
  unfold vq okC
  simp only [num_den_gc, decide_eq_true p', a, b, Bool.true_and, decide_true]
theorem okC_q {v : Val} (h : okC v = true) : ∃ q : Rat, v = vq q ∧ 0 ≤ q ∧ q ≤ 1 := by
  obtain ⟨p, rfl, hf, h0, h1⟩ := okC_of h
  obtain ⟨q, hq⟩ := isRat_of (v := vfr p) (by unfold vfr isRat; simp [hf.1, hf.2])
  refine ⟨q, hq, ?_⟩
  rw [hq, okC_vq] at h
  simpa using h
/-- the law's fraction -/
theorem law_is_frac_any (k : Nat) (v : Val) (m : Mem) (hs : ∀ n d, v = .tup [.int n, .int d] → small d = true) : callK Pp (k + 2) 342 [v] m = some (.ok (.val (.bl (isRat v))) m) := by
  rw [call_eq rfl rfl]
  cases v with
  | tup xs =>
    by_cases h : xs.length = 2
    · match xs, h with
      | [a, b], _ =>
        have c : ∀ t, ev (callK Pp (k + 1)) c_law_is_frac_2_1 t ⟨[some (.val (.tup [a, b])), none], m⟩ = some (.ok (.own [.bl (isW a), .bl (isW b)]) ⟨[some (.val (.tup [a, b])), none], m⟩) := fun t => by
          have q := ev_lc_arr (K := callK Pp (k + 1)) (own := [1]) (tg := .n 1) (it := .e (.s 0)) (ifs := .nil) (e := .and (.isi (.s 1) [.int]) (.not (.isi (.s 1) [.bool]))) (t := t) (s := ⟨[some (.val (.tup [a, b])), none], m⟩) (v := gD [a, b] .non) (n := 2) (fun i => .bl (isW (gD [a, b] .non i))) (by simp; rfl) (fun i hi => ⟨⟨[some (.val (.tup [a, b])), some (.val (gD [a, b] .non i))], m⟩, by generalize gD [a, b] .non i = v; cases v <;> simp [wiped, wipe, isTy, isW], by simp [wiped, wipe]⟩) (by omega)
          exact q
        cases ha : isW a with
        | false =>
          have : isRat (.tup [a, b]) = false := by cases a <;> first | rfl | cases ha
          have pa : prim m .all [.own [.bl false, .bl (isW b)]] = some (.val (.bl false)) := by cases isW b <;> rfl
          simp [d_law_is_frac_2, frame, isTy, c, ha, pa, this]
        | true =>
          cases hb : isW b with
          | false =>
            have : isRat (.tup [a, b]) = false := by cases a <;> first | (cases b <;> first | rfl | cases hb) | cases ha
            have pa : prim m .all [.own [.bl true, .bl false]] = some (.val (.bl false)) := by rfl
            simp [d_law_is_frac_2, frame, isTy, c, ha, hb, pa, this]
          | true =>
            match a, b, ha, hb with
            | .int n, .int d, ha, hb =>
              have pa : prim m .all [.own [.bl true, .bl true]] = some (.val (.bl true)) := by rfl
              have g0 : getI [Val.int n, .int d] 0 = some (.int n) := rfl
              have g1 : getI [Val.int n, .int d] 1 = some (.int d) := rfl
              by_cases hd : 0 < d
              · have f := law_frac_ok k n d m hd (hs n d rfl)
                have eq := eqS_vfr (m := m) (n := n) (d := d) (p := fr n d)
                have e2 : decide (fr n d = (n, d)) = decide (gc n d = 1) := decide_eq_decide.mpr (fr_is hd)
                rw [e2] at eq
                simp [d_law_is_frac_2, frame, isTy, c, ha, hb, pa, isRat, hd, f, eq, g0, g1]
              · simp [d_law_is_frac_2, frame, isTy, c, ha, hb, pa, isRat, hd, g0, g1]
    · have : ¬ (xs.length : Int) = 2 := by omega
      simp [d_law_is_frac_2, frame, isTy, isRat_ne h, this]
  | _ => simp [d_law_is_frac_2, frame, isTy, isRat]
end Py.Q
end

section
set_option autoImplicit false
set_option linter.all false
set_option Elab.async false
set_option maxRecDepth 100000
set_option maxHeartbeats 4000000
set_option exponentiation.threshold 5000
/-! The least number that is found. -/
namespace Py.Q
theorem fold_min_le (l : List Int) (x : Int) (h : ∀ y ∈ l, x ≤ y) : l.foldl (fun a b => if b < a then b else a) x = x := by
  induction l with
  | nil => rfl
  | cons y l ih =>
    have h1 := h y (List.mem_cons_self ..)
    show l.foldl _ (if y < x then y else x) = x
    rw [if_neg (by omega)]
    exact ih fun z hz => h z (List.mem_cons_of_mem _ hz)
theorem min_find (p : Nat → Bool) (g : Nat → Int) (hg : ∀ i j, i < j → g i ≤ g j) : ∀ (r : List Nat), r.Pairwise (· < ·) → minI ((r.filter p).map g) = (r.find? p).map g
  | [], _ => rfl
  | x :: r, h => by
    rw [List.pairwise_cons] at h
    cases hp : p x with
    | true =>
      rw [List.filter_cons_of_pos hp, List.find?_cons_of_pos hp]
      show some (((r.filter p).map g).foldl _ (g x)) = some (g x)
      rw [fold_min_le]
      intro y hy
      obtain ⟨z, hz, rfl⟩ := List.mem_map.mp hy
      exact hg _ _ (h.1 z (List.mem_filter.mp hz).1)
    | false =>
      rw [List.filter_cons_of_neg (by rw [hp]; decide), List.find?_cons_of_neg (by rw [hp]; decide)]
      exact min_find p g hg r h.2
theorem pmin_own {m : Mem} {xs : List Int} {z : Int} (h : minI xs = some z) : prim m .min [.own (xs.map .int)] = some (.val (.int z)) := by
  show ((items m (.own (xs.map .int))).bind fun xs => (intsV xs).bind fun is => vint (minI is)) = _
  show ((intsV (xs.map .int)).bind fun is => vint (minI is)) = _
  rw [intsV_map]
  show vint (minI xs) = _
  rw [h]
  rfl
/-- does the sum of the first i + 1 reach the level? -/
def lvB (xs : List Int) (q : Rat) (i : Nat) : Bool := decide (q.num * xs.sum ≤ sm (i + 1) (gD xs 0) * q.den)
def lvN (xs : List Int) (q : Rat) : Int := match (List.range xs.length).find? (lvB xs q) with | some j => 1 + (j : Int) | none => xs.length
section
variable {xs : List Int} {q : Rat}
theorem H_bd (hx : DrOk 30 1000000 xs) (i : Nat) : 0 ≤ sm i (gD xs 0) ∧ sm i (gD xs 0) ≤ i * 1000000 := sm_bd (gD_bd hx.le (by decide)) i
theorem number_at_ok (k : Nat) (m : Mem) (hx : DrOk 30 1000000 xs) (hq : Qb 100 q) : callK Pp (k + 2) 328 [vI xs, vq q] m = some (.ok (.val (.int (lvN xs q))) m) := by
  have lx := hx.len
  have sx := sum_bd' hx (by decide)
  have hd := heads_ok k (vI xs) xs.length (gD xs 0) m (.inr (vI_arr xs)) (by omega)
  have ps : prim m .sum [.val (vI xs)] = some (.val (.int xs.sum)) := p_sum (by rfl)
  have g0 : getI [Val.int q.num, .int q.den] 0 = some (.int q.num) := rfl
  have g1 : getI [Val.int q.num, .int q.den] 1 = some (.int q.den) := rfl
  have s0 : small q.num = true := (hq.sn (by decide)).small
  have s1 : small q.den = true := (hq.sd (by decide)).small
  have sx' : small xs.sum = true := sm_lit (by omega)
  obtain ⟨s', ⟨o3, o4, rfl⟩, l⟩ := forM_arr_find (tg := .t (.cons (.n 3) (.cons (.n 4) .nil))) (body := exs (callK Pp (k + 1)) b_number_at_1) (v := fun i : Nat => .tup [.int (1 + (i : Int)), .int (sm (i + 1) (gD xs 0))]) (n := xs.length)
    (fun s => ∃ o3 o4, s = (⟨[some (.val (vI xs)), some (.val (vq q)), some (.val (.int xs.sum)), o3, o4], m⟩ : S)) (lvB xs q) (fun i => .val (.int (1 + (i : Int))))
    (by
      rintro i s hi ⟨o3, o4, rfl⟩
      refine ⟨⟨[some (.val (vI xs)), some (.val (vq q)), some (.val (.int xs.sum)), some (.val (.int (1 + (i : Int)))), some (.val (.int (sm (i + 1) (gD xs 0))))], m⟩, ⟨[some (.val (vI xs)), some (.val (vq q)), some (.val (.int xs.sum)), some (.val (.int (1 + (i : Int)))), some (.val (.int (sm (i + 1) (gD xs 0))))], m⟩, rfl, ⟨_, _, rfl⟩, ?_⟩
      have s3 : small (sm (i + 1) (gD xs 0)) = true := sm_lit (by have := H_bd hx (i + 1); omega)
      have e : decide (q.num * xs.sum ≤ sm (i + 1) (gD xs 0) * q.den) = lvB xs q i := rfl
      cases hb : lvB xs q i with
      | true => rw [hb] at e; simp [b_number_at_1, g0, g1, s0, s1, sx', s3, e]
      | false => rw [hb] at e; simp [b_number_at_1, g0, g1, s0, s1, sx', s3, e])
    ⟨[some (.val (vI xs)), some (.val (vq q)), some (.val (.int xs.sum)), none, none], m⟩ ⟨_, _, rfl⟩
  rw [call_eq rfl rfl]
  unfold lvN
  cases hf : (List.range xs.length).find? (lvB xs q) with
  | none =>
    rw [hf] at l
    simp at l
    simp [d_number_at, frame, ps, hd, oOk, l]
  | some j =>
    rw [hf] at l
    simp at l
    simp [d_number_at, frame, ps, hd, oOk, l]
end
end Py.Q
end

section
set_option autoImplicit false
set_option linter.all false
set_option Elab.async false
set_option maxRecDepth 100000
set_option maxHeartbeats 4000000
set_option exponentiation.threshold 5000
/-! Bends: what is one. -/
namespace Py.Q
abbrev V (v : Val) : Option SV := some (.val v)
def qOf : Val → Rat
  | .tup [.int n, .int d] => Rat.divInt n d
  | _ => 0
@[simp] theorem qOf_vq (q : Rat) : qOf (vq q) = q := Rat.num_divInt_den q
/-- a fraction with a property -/
def ratB (p : Rat → Bool) (v : Val) : Bool := isRat v && p (qOf v)
theorem ratB_no {p : Rat → Bool} {v : Val} (h : isRat v = false) : ratB p v = false := by unfold ratB; rw [h]; rfl
theorem ratB_vq {p : Rat → Bool} {q : Rat} : ratB p (vq q) = p q := by unfold ratB; rw [isRat_vq, qOf_vq]; rfl
theorem rat_cases (v : Val) : isRat v = false ∨ ∃ q, v = vq q := by
  cases h : isRat v with
  | false => exact .inl rfl
  | true => exact .inr (isRat_of h)
def p01 (q : Rat) : Bool := decide (0 ≤ q) && decide (q ≤ 1)
def pLv (q : Rat) : Bool := decide (0 < q) && decide (q ≤ 1)
def pPa (q : Rat) : Bool := decide (0 ≤ q) && decide (q < 1)
theorem num_pos' (q : Rat) : decide (0 < q.num) = decide (0 < q) := by
  refine decide_eq_decide.mpr ?_
  rw [Rat.lt_iff]
  have e1 : (0 : Rat).num = 0 := rfl
  have e2 : (0 : Rat).den = 1 := rfl
  rw [e1, e2]
  simp
theorem num_le1 (q : Rat) : decide (q.num ≤ (q.den : Int)) = decide (q ≤ 1) := decide_eq_decide.mpr num_le_den
theorem num_lt1 (q : Rat) : decide (q.num < (q.den : Int)) = decide (q < 1) := by
  refine decide_eq_decide.mpr ?_
  rw [Rat.lt_iff]
  have e1 : (1 : Rat).num = 1 := rfl
  have e2 : (1 : Rat).den = 1 := rfl
  rw [e1, e2]
  simp
theorem g_num (q : Rat) : getI [Val.int q.num, .int q.den] 0 = some (.int q.num) := rfl
theorem g_den (q : Rat) : getI [Val.int q.num, .int q.den] 1 = some (.int q.den) := rfl
theorem is_level_any (k : Nat) (v : Val) (m : Mem) : callK Pp (k + 3) 326 [v] m = some (.ok (.val (.bl (ratB pLv v))) m) := by
  rw [call_eq rfl rfl]
  rcases rat_cases v with h | ⟨q, rfl⟩
  · simp [d_is_level, frame, is_ratio_any, h, ratB_no h]
  · rw [ratB_vq, pLv, ← num_pos', ← num_le1]
    by_cases h1 : 0 < q.num
    · simp [d_is_level, frame, is_ratio_any, isRat_vq, g_num, g_den, h1]
    · simp [d_is_level, frame, is_ratio_any, isRat_vq, g_num, g_den, h1]
theorem is_part_any (k : Nat) (v : Val) (m : Mem) : callK Pp (k + 3) 327 [v] m = some (.ok (.val (.bl (ratB pPa v))) m) := by
  rw [call_eq rfl rfl]
  rcases rat_cases v with h | ⟨q, rfl⟩
  · simp [d_is_part, frame, is_ratio_any, h, ratB_no h]
  · rw [ratB_vq, pPa, ← num_nn, ← num_lt1]
    by_cases h1 : 0 ≤ q.num
    · simp [d_is_part, frame, is_ratio_any, isRat_vq, g_num, g_den, h1]
    · simp [d_is_part, frame, is_ratio_any, isRat_vq, g_num, g_den, h1]
/-- a point -/
def vPt (p : Rat × Rat) : Val := .tup [vq p.1, vq p.2]
def isPt : Val → Bool
  | .tup [a, b] => ratB p01 a && ratB p01 b
  | _ => false
theorem isPt_ne {xs : List Val} (h : xs.length ≠ 2) : isPt (.tup xs) = false := by
  match xs, h with
  | [], _ => rfl
  | [a], _ => rfl
  | [a, b], h => exact absurd rfl h
  | a :: b :: c :: r, _ => rfl
theorem rat01_test (k : Nat) (w o : Val) (m : Mem) : ev (callK Pp (k + 2)) (.and (.call 87 (.cons (.s 1) .nil)) (.cmp (.c (.int 0)) (.cons .le (.ix (.s 1) (.c (.int 0))) (.one .le (.ix (.s 1) (.c (.int 1))))))) true ⟨[V o, V w], m⟩ = some (.ok (.val (.bl (ratB p01 w))) ⟨[V o, V w], m⟩) := by
  rcases rat_cases w with h | ⟨q, rfl⟩
  · simp [is_ratio_any, h, ratB_no h]
  · rw [ratB_vq, p01, ← num_nn, ← num_le1]
    by_cases h1 : 0 ≤ q.num
    · simp [is_ratio_any, isRat_vq, g_num, g_den, h1]
    · simp [is_ratio_any, isRat_vq, g_num, g_den, h1]
theorem is_point_any (k : Nat) (v : Val) (m : Mem) : callK Pp (k + 3) 332 [v] m = some (.ok (.val (.bl (isPt v))) m) := by
  rw [call_eq rfl rfl]
  cases v with
  | tup xs =>
    by_cases h : xs.length = 2
    · match xs, h with
      | [a, b], _ =>
        have c : ∀ t, ev (callK Pp (k + 2)) c_is_point_1 t ⟨[V (.tup [a, b]), none], m⟩ = some (.ok (.own [.bl (ratB p01 a), .bl (ratB p01 b)]) ⟨[V (.tup [a, b]), none], m⟩) := fun t =>
          ev_lc_arr (v := gD [a, b] .non) (n := 2) (fun i => .bl (ratB p01 (gD [a, b] .non i))) (by simp; rfl) (fun i hi => ⟨⟨[V (.tup [a, b]), V (gD [a, b] .non i)], m⟩, by
            have := rat01_test k (gD [a, b] .non i) (.tup [a, b]) m
            simp [wiped, wipe]
            simp at this
            simp [this], by simp [wiped, wipe]⟩) (by omega)
        have pa : prim m .all [.own [.bl (ratB p01 a), .bl (ratB p01 b)]] = some (.val (.bl (ratB p01 a && ratB p01 b))) := by cases ratB p01 a <;> cases ratB p01 b <;> rfl
        have e : isPt (.tup [a, b]) = (ratB p01 a && ratB p01 b) := rfl
        simp [d_is_point, frame, isTy, c, pa, e]
    · have : ¬ (xs.length : Int) = 2 := by omega
      simp [d_is_point, frame, isTy, isPt_ne h, this]
  | _ => simp [d_is_point, frame, isTy, isPt]
theorem isPt_of {v : Val} (h : isPt v = true) : ∃ p : Rat × Rat, v = vPt p ∧ p01 p.1 = true ∧ p01 p.2 = true := by
  unfold isPt at h
  split at h
  · rename_i a b
    rw [Bool.and_eq_true] at h
    rcases rat_cases a with h1 | ⟨q, rfl⟩
    · rw [ratB_no h1] at h; cases h.1
    rcases rat_cases b with h1 | ⟨r, rfl⟩
    · rw [ratB_no h1] at h; cases h.2
    rw [ratB_vq, ratB_vq] at h
    exact ⟨(q, r), rfl, h.1, h.2⟩
  · cases h
theorem isPt_vPt (p : Rat × Rat) : isPt (vPt p) = (p01 p.1 && p01 p.2) := by
  show (ratB p01 (vq p.1) && ratB p01 (vq p.2)) = _
  rw [ratB_vq, ratB_vq]
/-- what stands between the points -/
def bendB (n : Nat) (P : Nat → Rat × Rat) : Bool := decide (P 0 = (0, 0)) && (decide (P (n - 1) = (1, 1)) && (arr (n - 1) fun i => decide ((P i).1 < (P (i + 1)).1) && !decide ((P (i + 1)).2 < (P i).2)).all id)
def vBn (n : Nat) (P : Nat → Rat × Rat) : Val := .tup (arr n fun i => vPt (P i))
def ptOf : Val → Rat × Rat
  | .tup [a, b] => (qOf a, qOf b)
  | _ => (0, 0)
@[simp] theorem ptOf_vPt (p : Rat × Rat) : ptOf (vPt p) = p := by
  show (qOf (vq p.1), qOf (vq p.2)) = p
  rw [qOf_vq, qOf_vq]
/-- a bend -/
def isBd : Val → Bool
  | .tup xs => (decide (2 ≤ xs.length) && decide (xs.length ≤ 20)) && (xs.all isPt && bendB xs.length fun i => ptOf (gD xs .non i))
  | _ => false
@[simp] theorem items_vPt (m : Mem) (p : Rat × Rat) : items m (.val (vPt p)) = some [vq p.1, vq p.2] := by rfl
@[simp] theorem items_vBn (m : Mem) (n : Nat) (P : Nat → Rat × Rat) : items m (.val (vBn n P)) = some (arr n fun i => vPt (P i)) := by rfl
@[simp] theorem srcs_vBn (t : Bool) (n : Nat) (P : Nat → Rat × Rat) : srcs t (.val (vBn n P)) = some (arr n fun i => vPt (P i)) := by cases t <;> rfl
@[simp] theorem isTup_vBn (n : Nat) (P : Nat → Rat × Rat) : isTup (.val (vBn n P)) = true := by rfl
@[simp] theorem isTup_vPt (p : Rat × Rat) : isTup (.val (vPt p)) = true := by rfl
@[simp] theorem isTy_vBn (n : Nat) (P : Nat → Rat × Rat) : isTy (.val (vBn n P)) .tuple = true := by rfl
@[simp] theorem isTy_vPt (p : Rat × Rat) : isTy (.val (vPt p)) .tuple = true := by rfl
theorem cut_from1 {n : Nat} {f : Nat → Val} : cut (arr n f) (some 1) none = arr (n - 1) fun i => f (i + 1) := by
  unfold cut bound
  simp only [arr_length]
  cases n with
  | zero => rfl
  | succ n =>
    show ((arr (n + 1) f).drop (min 1 (n + 1))).take (n + 1 - min 1 (n + 1)) = _
    rw [show min 1 (n + 1) = 1 by omega, arr_drop, arr_take]
    simp
    exact arr_congr fun i _ => by rw [Nat.add_comm]
theorem flat_vPt (p : Rat × Rat) (n : Nat) : (vPt p).flat (n + 2) = true := by
  unfold vPt
  rw [flat_tup]
  simp [flat_vq]
theorem eqv_vPt (p r : Rat × Rat) : eqv (vPt p) (vPt r) = decide (p = r) := by
  show eqvL [vq p.1, vq p.2] [vq r.1, vq r.2] = _
  simp only [eqvL, eqv_vq]
  by_cases h1 : p.1 = r.1 <;> by_cases h2 : p.2 = r.2 <;> simp [Prod.ext_iff, h1, h2]
theorem eqS_vPt (m : Mem) (p r : Rat × Rat) : eqS m (.val (vPt p)) (.val (vPt r)) = some (decide (p = r)) := by rw [eqS_val rfl rfl (flat_vPt p 18) (flat_vPt r 18), eqv_vPt]
theorem eqS_pt0 (m : Mem) (p : Rat × Rat) : eqS m (.val (vPt p)) (.val (.tup [.tup [.int 0, .int 1], .tup [.int 0, .int 1]])) = some (decide (p = (0, 0))) := eqS_vPt m p (0, 0)
theorem eqS_pt1 (m : Mem) (p : Rat × Rat) : eqS m (.val (vPt p)) (.val (.tup [.tup [.int 1, .int 1], .tup [.int 1, .int 1]])) = some (decide (p = (1, 1))) := eqS_vPt m p (1, 1)
def Pb (k : Nat) (p : Rat × Rat) : Prop := Qb k p.1 ∧ Qb k p.2
theorem lastB {n : Nat} {P : Nat → Rat × Rat} (h : 0 < n) : getI (arr n fun i => vPt (P i)) (-1) = some (vPt (P (n - 1))) := getI_last h
theorem is_bend_q (k : Nat) (m : Mem) (n : Nat) (P : Nat → Rat × Rat) (h1 : 2 ≤ n) (h2 : n ≤ 20) (hP : ∀ i, i < n → isPt (vPt (P i)) = true) (hb : ∀ i, i < n → Pb 100 (P i)) :
    callK Pp (k + 4) 333 [vBn n P] m = some (.ok (.val (.bl (bendB n P))) m) := by
  have c : ∀ t, ev (callK Pp (k + 3)) c_is_bend_1 t ⟨[V (vBn n P), none, none, none, none, none], m⟩ = some (.ok (.own (arr n fun _ => .bl true)) ⟨[V (vBn n P), none, none, none, none, none], m⟩) := fun t =>
    ev_lc_arr (v := fun i => vPt (P i)) _ (by simp) (fun i hi => ⟨⟨[V (vBn n P), none, none, none, none, V (vPt (P i))], m⟩, by
      have := is_point_any k (vPt (P i)) m
      rw [hP i hi] at this
      simp [wiped, wipe, this], by simp [wiped, wipe]⟩) (by omega)
  have al : ((arr n fun _ : Nat => true).all id) = true := arr_all.mpr fun i _ => rfl
  have g0 : getI (arr n fun i => vPt (P i)) 0 = some (vPt (P 0)) := getI_arr (k := 0) (by omega)
  have gl := lastB (P := P) (n := n) (by omega)
  have i1 : (2 : Int) ≤ n := by omega
  have i2 : (n : Int) ≤ 20 := by omega
  obtain ⟨s', ⟨o1, o2, o3, o4, rfl⟩, l⟩ := forM_arr_all (tg := .t (.cons (.t (.cons (.n 1) (.cons (.n 2) .nil))) (.cons (.t (.cons (.n 3) (.cons (.n 4) .nil))) .nil))) (body := exs (callK Pp (k + 3)) b_is_bend_1) (v := fun i => .tup [vPt (P i), vPt (P (i + 1))]) (n := n - 1)
    (fun s => ∃ o1 o2 o3 o4, s = (⟨[V (vBn n P), o1, o2, o3, o4, none], m⟩ : S)) (fun i => decide ((P i).1 < (P (i + 1)).1) && !decide ((P (i + 1)).2 < (P i).2)) (.val (.bl false))
    (by
      rintro i s hi ⟨o1, o2, o3, o4, rfl⟩
      refine ⟨⟨[V (vBn n P), V (vq (P i).1), V (vq (P i).2), V (vq (P (i + 1)).1), V (vq (P (i + 1)).2), none], m⟩, ⟨[V (vBn n P), V (vq (P i).1), V (vq (P i).2), V (vq (P (i + 1)).1), V (vq (P (i + 1)).2), none], m⟩, by simp, ⟨_, _, _, _, rfl⟩, ?_⟩
      have b1 := below_q (k + 2) m (hb i (by omega)).1 (hb (i + 1) (by omega)).1 (by omega) (by omega)
      have b2 := below_q (k + 2) m (hb (i + 1) (by omega)).2 (hb i (by omega)).2 (by omega) (by omega)
      by_cases q1 : (P i).1 < (P (i + 1)).1
      · by_cases q2 : (P (i + 1)).2 < (P i).2
        · simp [b_is_bend_1, b1, b2, q1, q2]
        · simp [b_is_bend_1, b1, b2, q1, q2]
      · simp [b_is_bend_1, b1, b2, q1])
    ⟨[V (vBn n P), none, none, none, none, none], m⟩ ⟨_, _, _, _, rfl⟩
  have hm : min n (n - 1) = n - 1 := by omega
  rw [call_eq rfl rfl]
  unfold bendB
  by_cases q1 : P 0 = (0, 0)
  · by_cases q2 : P (n - 1) = (1, 1)
    · cases hz : (arr (n - 1) fun i => decide ((P i).1 < (P (i + 1)).1) && !decide ((P (i + 1)).2 < (P i).2)).all id with
      | true => rw [hz] at l; simp at l; simp [d_is_bend, frame, i1, i2, c, al, g0, gl, eqS_pt0, eqS_pt1, q1, q2, cut_from1, hm, l]
      | false => rw [hz] at l; simp at l; simp [d_is_bend, frame, i1, i2, c, al, g0, gl, eqS_pt0, eqS_pt1, q1, q2, cut_from1, hm, l]
    · simp [d_is_bend, frame, i1, i2, c, al, g0, gl, eqS_pt0, eqS_pt1, q1, q2]
  · simp [d_is_bend, frame, i1, i2, c, al, g0, gl, eqS_pt0, eqS_pt1, q1]
/-- values that the law asks -/
def smV (v : Val) : Prop := ∀ n d, v = .tup [.int n, .int d] → n.natAbs ≤ 2 ^ 100 ∧ d.natAbs ≤ 2 ^ 100
def smP (v : Val) : Prop := ∀ a b, v = .tup [a, b] → smV a ∧ smV b
def smB (v : Val) : Prop := ∀ xs, v = .tup xs → ∀ x ∈ xs, smP x
theorem pts_of (xs : List Val) (h : xs.all isPt = true) : xs = arr xs.length fun i => vPt (ptOf (gD xs .non i)) := by
  conv => lhs; rw [arr_gD xs .non]
  refine arr_congr fun i hi => ?_
  obtain ⟨p, e, _⟩ := isPt_of (List.all_eq_true.mp h _ (gD_mem (d := Val.non) hi))
  rw [e, ptOf_vPt]
theorem pb_of {xs : List Val} (h : xs.all isPt = true) (hs : ∀ x ∈ xs, smP x) (i : Nat) (hi : i < xs.length) : Pb 100 (ptOf (gD xs .non i)) := by
  have hm := gD_mem (d := Val.non) hi
  obtain ⟨p, e, _⟩ := isPt_of (List.all_eq_true.mp h _ hm)
  have s := hs _ hm (vq p.1) (vq p.2) e
  rw [e, ptOf_vPt]
  have s1 := s.1 p.1.num p.1.den rfl
  have s2 := s.2 p.2.num p.2.den rfl
  exact ⟨⟨s1.1, by have := s1.2; rwa [Int.natAbs_natCast] at this⟩, ⟨s2.1, by have := s2.2; rwa [Int.natAbs_natCast] at this⟩⟩
theorem is_bend_any (k : Nat) (v : Val) (m : Mem) (hs : smB v) : callK Pp (k + 4) 333 [v] m = some (.ok (.val (.bl (isBd v))) m) := by
  cases v with
  | tup xs =>
    by_cases h1 : 2 ≤ xs.length
    · by_cases h2 : xs.length ≤ 20
      · cases ha : xs.all isPt with
        | true =>
          have e := pts_of xs ha
          have b := pb_of ha (hs xs rfl)
          have q := is_bend_q k m xs.length (fun i => ptOf (gD xs .non i)) h1 h2 (fun i hi => by
            obtain ⟨p, e, _⟩ := isPt_of (List.all_eq_true.mp ha _ (gD_mem (d := Val.non) hi))
            rw [← show gD xs .non i = vPt (ptOf (gD xs .non i)) by rw [e, ptOf_vPt]]
            exact List.all_eq_true.mp ha _ (gD_mem hi)) b
          have e2 : vBn xs.length (fun i => ptOf (gD xs .non i)) = .tup xs := by unfold vBn; rw [← e]
          rw [e2] at q
          rw [q]
          simp [isBd, h1, h2, ha]
        | false =>
          have i1 : (2 : Int) ≤ xs.length := by omega
          have i2 : (xs.length : Int) ≤ 20 := by omega
          have c : ∀ t, ev (callK Pp (k + 3)) c_is_bend_1 t ⟨[V (.tup xs), none, none, none, none, none], m⟩ = some (.ok (.own (arr xs.length fun i => .bl (isPt (gD xs .non i)))) ⟨[V (.tup xs), none, none, none, none, none], m⟩) := fun t =>
            ev_lc_arr (v := gD xs .non) _ (by simp [← arr_gD xs .non]) (fun i hi => ⟨⟨[V (.tup xs), none, none, none, none, V (gD xs .non i)], m⟩, by
              have := is_point_any k (gD xs .non i) m
              simp [wiped, wipe, this], by simp [wiped, wipe]⟩) (by omega)
          rw [call_eq rfl rfl]
          simp [d_is_bend, frame, isTy, i1, i2, c, all_gD, ha, isBd]
      · have i1 : (2 : Int) ≤ xs.length := by omega
        have i2 : ¬ (xs.length : Int) ≤ 20 := by omega
        rw [call_eq rfl rfl]
        simp [d_is_bend, frame, isTy, i1, i2, isBd, h2]
    · have i1 : ¬ (2 : Int) ≤ xs.length := by omega
      rw [call_eq rfl rfl]
      simp [d_is_bend, frame, isTy, i1, isBd, h1]
  | _ => rw [call_eq rfl rfl]; simp [d_is_bend, frame, isTy, isBd]
theorem check_bend_ex (k : Nat) (v : Val) (m : Mem) (hs : smB v) (h : isBd v = false) : callK Pp (k + 5) 334 [v] m = some (.ex ⟨0, none⟩ m) := by
  have := is_bend_any k v m hs
  rw [call_eq rfl rfl]
  simp [d_check_bend, frame, this, h]
theorem check_bend_ok (k : Nat) (v : Val) (m : Mem) (hs : smB v) (h : isBd v = true) : callK Pp (k + 5) 334 [v] m = some (.ok (.val .non) m) := by
  have := is_bend_any k v m hs
  rw [call_eq rfl rfl]
  simp [d_check_bend, frame, this, h]
end Py.Q
end

section
set_option autoImplicit false
set_option linter.all false
set_option Elab.async false
set_option maxRecDepth 100000
set_option maxHeartbeats 4000000
set_option exponentiation.threshold 5000
/-! Bends: the law's own word. -/
namespace Py.Q
theorem Qb.of_sm {k : Nat} {q : Rat} (h : smV (vq q)) : Qb 100 q := by
  have s := h q.num q.den rfl
  exact ⟨s.1, by have := s.2; rwa [Int.natAbs_natCast] at this⟩
theorem sm_small {v : Val} (h : smV v) : ∀ n d, v = .tup [.int n, .int d] → small d = true := fun n d e =>
  Sm.small (Nat.lt_of_le_of_lt (h n d e).2 (Nat.pow_lt_pow_right (by decide) (by decide)))
theorem law_less_q (k : Nat) {a b : Rat} {i j : Nat} (m : Mem) (ha : Qb i a) (hb : Qb j b) (h1 : i ≤ 1800) (h2 : j ≤ 1800) : callK Pp (k + 1) 191 [vq a, vq b] m = some (.ok (.val (.bl (decide (a < b)))) m) := by
  rw [call_eq rfl rfl]
  have e : decide (a < b) = decide (a.num * b.den < b.num * a.den) := decide_eq_decide.mpr (Rat.lt_iff a b)
  rw [e]
  simp [d_law_less, frame, vq, (ha.sn h1).small, (hb.sn h2).small, (ha.sd h1).small, (hb.sd h2).small]
theorem law_rat01 (k : Nat) (w o x : Val) (m : Mem) (hs : smV w) : ev (callK Pp (k + 2)) (.and (.call 342 (.cons (.s 2) .nil)) (.cmp (.c (.int 0)) (.cons .le (.ix (.s 2) (.c (.int 0))) (.one .le (.ix (.s 2) (.c (.int 1))))))) true ⟨[V o, V x, V w, none], m⟩ = some (.ok (.val (.bl (ratB p01 w))) ⟨[V o, V x, V w, none], m⟩) := by
  have f := law_is_frac_any k w m (sm_small hs)
  rcases rat_cases w with h | ⟨q, rfl⟩
  · simp [f, h, ratB_no h]
  · rw [ratB_vq, p01, ← num_nn, ← num_le1]
    by_cases h1 : 0 ≤ q.num
    · simp [f, isRat_vq, g_num, g_den, h1]
    · simp [f, isRat_vq, g_num, g_den, h1]
theorem law_item (k : Nat) (x o : Val) (m : Mem) (hs : smP x) : exs (callK Pp (k + 2)) b_law_is_bend_1 ⟨[V o, V x, none, none], m⟩ = some (.ok (if isPt x then .nx else .rt (.val (.bl false))) ⟨[V o, V x, none, none], m⟩) := by
  cases x with
  | tup xs =>
    by_cases h : xs.length = 2
    · match xs, h with
      | [a, b], _ =>
        have s := hs a b rfl
        have c : ∀ t, ev (callK Pp (k + 2)) c_law_is_bend_1 t ⟨[V o, V (.tup [a, b]), none, none], m⟩ = some (.ok (.own [.bl (ratB p01 a), .bl (ratB p01 b)]) ⟨[V o, V (.tup [a, b]), none, none], m⟩) := fun t =>
          ev_lc_arr (v := gD [a, b] .non) (n := 2) (fun i => .bl (ratB p01 (gD [a, b] .non i))) (by simp; rfl) (fun i hi => ⟨⟨[V o, V (.tup [a, b]), V (gD [a, b] .non i), none], m⟩, by
            have := law_rat01 k (gD [a, b] .non i) o (.tup [a, b]) m (by
              match i, hi with
              | 0, _ => exact s.1
              | 1, _ => exact s.2)
            simp [wiped, wipe]
            simp at this
            simp [this], by simp [wiped, wipe]⟩) (by omega)
        have pa : prim m .all [.own [.bl (ratB p01 a), .bl (ratB p01 b)]] = some (.val (.bl (ratB p01 a && ratB p01 b))) := by cases ratB p01 a <;> cases ratB p01 b <;> rfl
        have e : isPt (.tup [a, b]) = (ratB p01 a && ratB p01 b) := rfl
        cases hz : ratB p01 a && ratB p01 b with
        | true => rw [hz] at e pa; simp [b_law_is_bend_1, isTy, c, pa, e]
        | false => rw [hz] at e pa; simp [b_law_is_bend_1, isTy, c, pa, e]
    · have : ¬ (xs.length : Int) = 2 := by omega
      simp [b_law_is_bend_1, isTy, isPt_ne h, this]
  | _ => simp [b_law_is_bend_1, isTy, isPt]
theorem law_is_bend_any (k : Nat) (v : Val) (m : Mem) (hs : smB v) : callK Pp (k + 3) 343 [v] m = some (.ok (.val (.bl (isBd v))) m) := by
  cases v with
  | tup xs =>
    by_cases h1 : 2 ≤ xs.length
    · by_cases h2 : xs.length ≤ 20
      · have i1 : (2 : Int) ≤ xs.length := by omega
        have i2 : (xs.length : Int) ≤ 20 := by omega
        obtain ⟨s', ⟨o1, rfl⟩, l⟩ := forM_arr_all (tg := .n 1) (body := exs (callK Pp (k + 2)) b_law_is_bend_1) (v := gD xs .non) (n := xs.length)
          (fun s => ∃ o1, s = (⟨[V (.tup xs), o1, none, none], m⟩ : S)) (fun i => isPt (gD xs .non i)) (.val (.bl false))
          (by
            rintro i s hi ⟨o1, rfl⟩
            exact ⟨_, _, rfl, ⟨_, rfl⟩, law_item k (gD xs .non i) (.tup xs) m (hs xs rfl _ (gD_mem hi))⟩)
          ⟨[V (.tup xs), none, none, none], m⟩ ⟨_, rfl⟩
        have e0 : ((arr xs.length fun i => isPt (gD xs .non i)).all id) = xs.all isPt := all_gD (p := isPt)
        rw [e0, ← arr_gD xs .non] at l
        rw [call_eq rfl rfl]
        cases ha : xs.all isPt with
        | true =>
          rw [ha] at l
          simp at l
          have e := pts_of xs ha
          have b := pb_of ha (hs xs rfl)
          generalize hn : xs.length = n at *
          generalize (fun i => ptOf (gD xs .non i)) = P at *
          have hI : isBd (.tup xs) = bendB n fun i => ptOf (gD xs .non i) := by simp [isBd, hn, h1, h2, ha]
          generalize hP : (fun i => ptOf (gD xs .non i)) = P at *
          have hP' : ∀ i, ptOf (gD xs .non i) = P i := fun i => congrFun hP i
          simp only [hP'] at e b
          subst e
          have g0 : getI (arr n fun i => vPt (P i)) 0 = some (vPt (P 0)) := getI_arr (k := 0) (by omega)
          have gl := lastB (P := P) (n := n) (by omega)
          have c : ∀ t, ev (callK Pp (k + 2)) c_law_is_bend_2 t ⟨[V (vBn n P), o1, none, none], m⟩ = some (.ok (.own (arr (n - 1) fun i => .bl (decide ((P i).1 < (P (i + 1)).1) && !decide ((P (i + 1)).2 < (P i).2)))) ⟨[V (vBn n P), o1, none, none], m⟩) := fun t =>
            ev_lc_arr (v := fun i : Nat => .int (1 + (i : Int))) _ (by
              have r1 : rOk (n : Int) = true := rOk_len (by omega)
              have en : ((n : Int) - 1).toNat = n - 1 := by omega
              simp [r1, show rOk 1 = true by decide, en]) (fun i hi => ⟨⟨[V (vBn n P), o1, none, V (.int (1 + (i : Int)))], m⟩, by
              have e1 : (1 : Int) + i - 1 = i := by omega
              have ga : getI (arr n fun i => vPt (P i)) (i : Int) = some (vPt (P i)) := getI_arr (by omega)
              have gb : getI (arr n fun i => vPt (P i)) (1 + (i : Int)) = some (vPt (P (i + 1))) := getI_s' (by omega)
              have b1 := law_less_q (k + 1) m (b i (by omega)).1 (b (i + 1) (by omega)).1 (by omega) (by omega)
              have b2 := law_less_q (k + 1) m (b (i + 1) (by omega)).2 (b i (by omega)).2 (by omega) (by omega)
              by_cases q1 : (P i).1 < (P (i + 1)).1
              · simp [wiped, wipe, e1, ga, gb, b1, b2, q1]
              · simp [wiped, wipe, e1, ga, gb, b1, b2, q1], by simp [wiped, wipe]⟩) (by omega)
          have i1 : (2 : Int) ≤ n := by omega
          have i2 : (n : Int) ≤ 20 := by omega
          rw [hI]
          show leave m (exs (callK Pp (k + 2)) d_law_is_bend.body ⟨frame d_law_is_bend [vBn n P], m⟩) = _
          unfold bendB
          have l' : forM (.n 1) (exs (callK Pp (k + 2)) b_law_is_bend_1) (arr n fun i => vPt (P i)) ⟨[V (vBn n P), none, none, none], m⟩ = some (.ok .nx ⟨[V (vBn n P), o1, none, none], m⟩) := l
          by_cases q1 : P 0 = (0, 0)
          · by_cases q2 : P (n - 1) = (1, 1)
            · simp [d_law_is_bend, frame, i1, i2, l', c, g0, gl, eqS_pt0, eqS_pt1, q1, q2]
            · simp [d_law_is_bend, frame, i1, i2, l', g0, gl, eqS_pt0, eqS_pt1, q1, q2]
          · simp [d_law_is_bend, frame, i1, i2, l', g0, gl, eqS_pt0, q1]
        | false =>
          rw [ha] at l
          simp at l
          simp [d_law_is_bend, frame, isTy, i1, i2, l, ha, isBd]
      · have i1 : (2 : Int) ≤ xs.length := by omega
        have i2 : ¬ (xs.length : Int) ≤ 20 := by omega
        rw [call_eq rfl rfl]
        simp [d_law_is_bend, frame, isTy, i1, i2, isBd, h2]
    · have i1 : ¬ (2 : Int) ≤ xs.length := by omega
      rw [call_eq rfl rfl]
      simp [d_law_is_bend, frame, isTy, i1, isBd, h1]
  | _ => rw [call_eq rfl rfl]; simp [d_law_is_bend, frame, isTy, isBd]
end Py.Q
end

section
set_option autoImplicit false
set_option linter.all false
set_option Elab.async false
set_option maxRecDepth 100000
set_option maxHeartbeats 4000000
set_option exponentiation.threshold 5000
/-! The height of a bend. -/
namespace Py.Q
theorem num_cast (q : Rat) : (q.num : Rat) = q * ((q.den : Int) : Rat) := by
  have h : ((q.den : Int) : Rat) ≠ 0 := by
    have := q.den_pos
    intro e
    have := Rat.intCast_eq_zero_iff.mp e
    omega
  have e := Rat.num_divInt_den q
  rw [Rat.divInt_eq_div] at e
  have e2 : (q.num : Rat) = (q.num : Rat) / ((q.den : Int) : Rat) * ((q.den : Int) : Rat) := (Rat.div_mul_cancel h).symm
  rw [e] at e2
  exact e2
theorem cast_ne {n : Int} (h : n ≠ 0) : (n : Rat) ≠ 0 := fun e => h (Rat.intCast_eq_zero_iff.mp e)
theorem den_ne (q : Rat) : ((q.den : Int) : Rat) ≠ 0 := cast_ne (by have := q.den_pos; omega)
/-- a quotient by its product -/
theorem divInt_of {x : Rat} {n d : Int} (hd : d ≠ 0) (h : x * (d : Rat) = (n : Rat)) : Rat.divInt n d = x := by
  rw [Rat.divInt_eq_div, ← h, Rat.div_def, Rat.mul_assoc, Rat.mul_inv_cancel _ (cast_ne hd), Rat.mul_one]
theorem divInt_mulc {n d : Int} (hd : d ≠ 0) : Rat.divInt n d * (d : Rat) = (n : Rat) := by
  rw [Rat.divInt_eq_div, Rat.div_mul_cancel (cast_ne hd)]
theorem lt_divInt {c : Rat} {n d : Int} (hd : 0 < d) : c < Rat.divInt n d ↔ c.num * d < n * c.den := by
  have dp : (0 : Rat) < (d : Rat) := by exact_mod_cast hd
  have cp : (0 : Rat) < ((c.den : Int) : Rat) := by have := c.den_pos; exact_mod_cast (by omega : (0 : Int) < c.den)
  rw [Rat.divInt_eq_div, Rat.lt_div_iff dp, ← Rat.mul_lt_mul_right cp, ← Rat.intCast_lt_intCast, Rat.intCast_mul, Rat.intCast_mul, num_cast c]
  rw [show c * (d : Rat) * ((c.den : Int) : Rat) = c * ((c.den : Int) : Rat) * (d : Rat) by grind]
/-- numbers below a power of two -/
def Bd (k : Nat) (i : Int) : Prop := i.natAbs ≤ 2 ^ k
theorem Bd.mul {k l : Nat} {i j : Int} (h : Bd k i) (h2 : Bd l j) : Bd (k + l) (i * j) := by
  unfold Bd at *
  rw [Int.natAbs_mul, Nat.pow_add]
  exact Nat.mul_le_mul h h2
theorem Bd.mono {k l : Nat} {i : Int} (h : Bd k i) (hl : k ≤ l) : Bd l i := Nat.le_trans h (Nat.pow_le_pow_right (by decide) hl)
theorem Bd.add {k : Nat} {i j : Int} (h : Bd k i) (h2 : Bd k j) : Bd (k + 1) (i + j) := by
  unfold Bd at *
  rw [Nat.pow_succ]
  have := Int.natAbs_add_le i j
  omega
theorem Bd.sub {k : Nat} {i j : Int} (h : Bd k i) (h2 : Bd k j) : Bd (k + 1) (i - j) := by
  unfold Bd at *
  rw [Nat.pow_succ]
  have := Int.natAbs_sub_le i j
  omega
theorem Bd.small {k : Nat} {i : Int} (h : Bd k i) (hk : k < 4000 := by omega) : Py.small i = true := by
  unfold Py.small lim
  exact decide_eq_true (Nat.lt_of_le_of_lt h (Nat.pow_lt_pow_right (by decide) hk))
theorem Qb.bn {k : Nat} {q : Rat} (h : Qb k q) : Bd k q.num := h.num
theorem Qb.bd {k : Nat} {q : Rat} (h : Qb k q) : Bd k (q.den : Int) := by
  unfold Bd
  rw [Int.natAbs_natCast]
  exact h.den
/-- the height at q between two points, straight -/
def hsl (P : Nat → Rat × Rat) (q : Rat) (i : Nat) : Rat := (P i).2 + ((P (i + 1)).2 - (P i).2) * (q - (P i).1) / ((P (i + 1)).1 - (P i).1)
def hgB (P : Nat → Rat × Rat) (q : Rat) (i : Nat) : Bool := !decide ((P (i + 1)).1 < q)
def hgt (n : Nat) (P : Nat → Rat × Rat) (q : Rat) : Rat := match (List.range (n - 1)).find? (hgB P q) with | some i => hsl P q i | none => 1
theorem hsl_qb {P : Nat → Rat × Rat} {q : Rat} {i j kq : Nat} (h1 : Pb j (P i)) (h2 : Pb j (P (i + 1))) (hq : Qb kq q) (hs : (P i).1 < (P (i + 1)).1) : Qb (6 * j + kq + 4) (hsl P q i) := by
  have d1 := h2.2.sub h1.2
  have d2 := hq.sub h1.1
  have d3 := h2.1.sub h1.1
  have p : 0 < (P (i + 1)).1 - (P i).1 := by grind
  exact (h1.2.add ((d1.mul d2).div d3 p)).mono (by omega)
theorem one_qb {k : Nat} : Qb k 1 := ⟨Nat.one_le_two_pow, Nat.one_le_two_pow⟩
theorem zero_qb {k : Nat} : Qb k 0 := ⟨Nat.zero_le _, Nat.one_le_two_pow⟩
theorem hgt_qb {n j kq : Nat} {P : Nat → Rat × Rat} {q : Rat} (hb : ∀ i, i < n → Pb j (P i)) (hs : ∀ i, i < n - 1 → (P i).1 < (P (i + 1)).1) (hq : Qb kq q) : Qb (6 * j + kq + 4) (hgt n P q) := by
  unfold hgt
  cases hf : (List.range (n - 1)).find? (hgB P q) with
  | none => exact one_qb
  | some i =>
    have hi := List.mem_range.mp (List.mem_of_find?_eq_some hf)
    exact hsl_qb (hb i (by omega)) (hb (i + 1) (by omega)) hq (hs i hi)
theorem height_q (k n j kq : Nat) (P : Nat → Rat × Rat) (q : Rat) (m : Mem) (hn : n ≤ 1000) (hj : j ≤ 100) (hk : kq ≤ 100) (hb : ∀ i, i < n → Pb j (P i)) (hs : ∀ i, i < n - 1 → (P i).1 < (P (i + 1)).1) (hq : Qb kq q) :
    callK Pp (k + 4) 335 [vBn n P, vq q] m = some (.ok (.val (vq (hgt n P q))) m) := by
  obtain ⟨s', ⟨o2, o3, o4, o5, rfl⟩, l⟩ := forM_arr_find (tg := .t (.cons (.t (.cons (.n 2) (.cons (.n 3) .nil))) (.cons (.t (.cons (.n 4) (.cons (.n 5) .nil))) .nil))) (body := exs (callK Pp (k + 3)) b_height_1) (v := fun i => .tup [vPt (P i), vPt (P (i + 1))]) (n := n - 1)
    (fun s => ∃ o2 o3 o4 o5, s = (⟨[V (vBn n P), V (vq q), o2, o3, o4, o5], m⟩ : S)) (hgB P q) (fun i => .val (vq (hsl P q i)))
    (by
      rintro i s hi ⟨o2, o3, o4, o5, rfl⟩
      refine ⟨⟨[V (vBn n P), V (vq q), V (vq (P i).1), V (vq (P i).2), V (vq (P (i + 1)).1), V (vq (P (i + 1)).2)], m⟩, ⟨[V (vBn n P), V (vq q), V (vq (P i).1), V (vq (P i).2), V (vq (P (i + 1)).1), V (vq (P (i + 1)).2)], m⟩, by simp, ⟨_, _, _, _, rfl⟩, ?_⟩
      have h1 := hb i (by omega)
      have h2 := hb (i + 1) (by omega)
      have b1 := below_q (k + 2) m h2.1 hq (by omega) (by omega)
      have d1 := h2.2.sub h1.2
      have d2 := hq.sub h1.1
      have d3 := h2.1.sub h1.1
      have p : 0 < (P (i + 1)).1 - (P i).1 := by have := hs i hi; grind
      have m1 := minus_q k m h2.2 h1.2 (by omega) (by omega)
      have m2 := minus_q k m hq h1.1 (by omega) (by omega)
      have m3 := minus_q k m h2.1 h1.1 (by omega) (by omega)
      have m4 := times_q k m d1 d2 (by omega) (by omega)
      have m5 := over_q k m (d1.mul d2) d3 (by omega) (by omega) p
      have m6 := plus_q k m h1.2 ((d1.mul d2).div d3 p) (by omega) (by omega)
      have eb : hgB P q i = !decide ((P (i + 1)).1 < q) := rfl
      by_cases q1 : (P (i + 1)).1 < q
      · simp [b_height_1, b1, q1, eb]
      · simp [b_height_1, b1, q1, eb, m1, m2, m3, m4, m5, m6, hsl])
    ⟨[V (vBn n P), V (vq q), none, none, none, none], m⟩ ⟨_, _, _, _, rfl⟩
  have hm : min n (n - 1) = n - 1 := by omega
  rw [call_eq rfl rfl]
  unfold hgt
  cases hf : (List.range (n - 1)).find? (hgB P q) with
  | none =>
    rw [hf] at l
    simp at l
    simp [d_height, frame, cut_from1, hm, l]
    rfl
  | some i =>
    rw [hf] at l
    simp at l
    simp [d_height, frame, cut_from1, hm, l]
/-- the law's own height -/
def lhU (a b c e n d : Int) (a1 b1 c1 e1 : Int) : Int := (n * a1 - a * d) * (e * b1 - b * e1) * c1 * a1
def lhD (a c d : Int) (a1 b1 c1 e1 : Int) : Int := d * a1 * e1 * b1 * (c * a1 - a * c1)
theorem lh_eq {P : Nat → Rat × Rat} {n d : Int} {i : Nat} (hd : 0 < d) (hs : (P i).1 < (P (i + 1)).1) :
    0 < (P i).2.den * lhD (P i).1.num (P (i + 1)).1.num d (P i).1.den (P i).2.den (P (i + 1)).1.den (P (i + 1)).2.den ∧
    Rat.divInt ((P i).2.num * lhD (P i).1.num (P (i + 1)).1.num d (P i).1.den (P i).2.den (P (i + 1)).1.den (P (i + 1)).2.den + lhU (P i).1.num (P i).2.num (P (i + 1)).1.num (P (i + 1)).2.num n d (P i).1.den (P i).2.den (P (i + 1)).1.den (P (i + 1)).2.den * (P i).2.den) ((P i).2.den * lhD (P i).1.num (P (i + 1)).1.num d (P i).1.den (P i).2.den (P (i + 1)).1.den (P (i + 1)).2.den) = hsl P (Rat.divInt n d) i := by
  unfold hsl
  generalize (P i).1 = a at *
  generalize (P i).2 = b at *
  generalize (P (i + 1)).1 = c at *
  generalize (P (i + 1)).2 = e at *
  have pa := a.den_pos
  have pb := b.den_pos
  have pc := c.den_pos
  have pe := e.den_pos
  have cr : 0 < c.num * a.den - a.num * c.den := by
    have := (Rat.lt_iff a c).mp hs
    omega
  have p1 : 0 < lhD a.num c.num d a.den b.den c.den e.den := Int.mul_pos (Int.mul_pos (Int.mul_pos (Int.mul_pos hd (by omega)) (by omega)) (by omega)) cr
  have p2 : 0 < b.den * lhD a.num c.num d a.den b.den c.den e.den := Int.mul_pos (by omega) p1
  refine ⟨p2, divInt_of (by omega) ?_⟩
  have hq := divInt_mulc (n := n) (d := d) (by omega)
  generalize Rat.divInt n d = q at *
  have hca : c - a ≠ 0 := by grind
  have hw : (e - b) * (q - a) / (c - a) * (c - a) = (e - b) * (q - a) := Rat.div_mul_cancel hca
  generalize (e - b) * (q - a) / (c - a) = w at *
  unfold lhU lhD
  simp only [Rat.intCast_mul, Rat.intCast_sub, Rat.intCast_add, num_cast]
  rw [← hq]
  generalize ((a.den : Int) : Rat) = a1 at *
  generalize ((b.den : Int) : Rat) = b1 at *
  generalize ((c.den : Int) : Rat) = c1 at *
  generalize ((e.den : Int) : Rat) = e1 at *
  generalize ((d : Int) : Rat) = d1 at *
  grind
theorem law_height_q (k N j kq : Nat) (P : Nat → Rat × Rat) (n d : Int) (m : Mem) (hN : N ≤ 1000) (hj : j ≤ 100) (hk : kq ≤ 100) (hb : ∀ i, i < N → Pb j (P i)) (hs : ∀ i, i < N - 1 → (P i).1 < (P (i + 1)).1) (hd : 0 < d) (bn : Bd kq n) (bd : Bd kq d) :
    callK Pp (k + 3) 340 [vBn N P, .int n, .int d] m = some (.ok (.val (vq (hgt N P (Rat.divInt n d)))) m) := by
  obtain ⟨s', ⟨o3, o4, o5, o6, o7, o8, o9, rfl⟩, l⟩ := forM_arr_find (tg := .n 3) (body := exs (callK Pp (k + 2)) b_law_height_1) (v := fun i : Nat => .int (1 + (i : Int))) (n := N - 1)
    (fun s => ∃ o3 o4 o5 o6 o7 o8 o9, s = (⟨[V (vBn N P), V (.int n), V (.int d), o3, o4, o5, o6, o7, o8, o9], m⟩ : S)) (hgB P (Rat.divInt n d)) (fun i => .val (vq (hsl P (Rat.divInt n d) i)))
    (by
      rintro i s hi ⟨o3, o4, o5, o6, o7, o8, o9, rfl⟩
      have h1 := hb i (by omega)
      have h2 := hb (i + 1) (by omega)
      have e1 : (1 : Int) + i - 1 = i := by omega
      have ga : getI (arr N fun i => vPt (P i)) (i : Int) = some (vPt (P i)) := getI_arr (by omega)
      have gb : getI (arr N fun i => vPt (P i)) (1 + (i : Int)) = some (vPt (P (i + 1))) := getI_s' (by omega)
      have L := lh_eq (P := P) (n := n) (d := d) (i := i) hd (hs i hi)
      have eb : hgB P (Rat.divInt n d) i = decide (n * (P (i + 1)).1.den ≤ (P (i + 1)).1.num * d) := by
        unfold hgB
        rw [← decide_not]
        refine decide_eq_decide.mpr ?_
        rw [lt_divInt hd]
        omega
      rw [eb]
      generalize hsl P (Rat.divInt n d) i = r at *
      generalize P i = p at *
      generalize P (i + 1) = p' at *
      obtain ⟨a, b⟩ := p
      obtain ⟨c, e⟩ := p'
      dsimp only at *
      have ba := h1.1.bn
      have ba1 := h1.1.bd
      have bb := h1.2.bn
      have bb1 := h1.2.bd
      have bc := h2.1.bn
      have bc1 := h2.1.bd
      have be := h2.2.bn
      have be1 := h2.2.bd
      have x1 := ((bn.mul ba1).mono (show _ ≤ 200 by omega)).sub ((ba.mul bd).mono (show _ ≤ 200 by omega))
      have x2 := ((be.mul bb1).mono (show _ ≤ 200 by omega)).sub ((bb.mul be1).mono (show _ ≤ 200 by omega))
      have x3 := x1.mul x2
      have x4 := x3.mul bc1
      have x5 := x4.mul ba1
      have y1 := bd.mul ba1
      have y2 := y1.mul be1
      have y3 := y2.mul bb1
      have y4 := ((bc.mul ba1).mono (show _ ≤ 200 by omega)).sub ((ba.mul bc1).mono (show _ ≤ 200 by omega))
      have y5 := y3.mul y4
      have fr := frac_q (k + 1) (b.num * lhD a.num c.num d a.den b.den c.den e.den + lhU a.num b.num c.num e.num n d a.den b.den c.den e.den * b.den) (b.den * lhD a.num c.num d a.den b.den c.den e.den) m L.1 (bb1.mul y5).small
      rw [L.2] at fr
      unfold lhU lhD at fr
      by_cases q1 : n * c.den ≤ c.num * d
      · refine ⟨⟨[V (vBn N P), V (.int n), V (.int d), V (.int (1 + (i : Int))), o4, o5, o6, o7, o8, o9], m⟩, ⟨[V (vBn N P), V (.int n), V (.int d), V (.int (1 + (i : Int))), V (vq a), V (vq b), V (vq c), V (vq e), V (.int ((n * a.den - a.num * d) * (e.num * b.den - b.num * e.den) * c.den * a.den)), V (.int (d * a.den * e.den * b.den * (c.num * a.den - a.num * c.den)))], m⟩, rfl, ⟨_, _, _, _, _, _, _, rfl⟩, ?_⟩
        simp [b_law_height_1, e1, ga, gb, g_num, g_den, bn.small, bd.small, ba.small, ba1.small, bb.small, bb1.small, bc.small, bc1.small, be.small, be1.small, q1, x1.small, x2.small, x3.small, x4.small, x5.small, y1.small, y2.small, y3.small, y4.small, y5.small, fr]
      · refine ⟨⟨[V (vBn N P), V (.int n), V (.int d), V (.int (1 + (i : Int))), o4, o5, o6, o7, o8, o9], m⟩, ⟨[V (vBn N P), V (.int n), V (.int d), V (.int (1 + (i : Int))), V (vq a), V (vq b), V (vq c), V (vq e), o8, o9], m⟩, rfl, ⟨_, _, _, _, _, _, _, rfl⟩, ?_⟩
        simp [b_law_height_1, e1, ga, gb, g_num, g_den, bn.small, bd.small, ba.small, ba1.small, bb.small, bb1.small, bc.small, bc1.small, be.small, be1.small, q1])
    ⟨[V (vBn N P), V (.int n), V (.int d), none, none, none, none, none, none, none], m⟩ ⟨_, _, _, _, _, _, _, rfl⟩
  have r1 : rOk (N : Int) = true := rOk_len (by omega)
  have en : ((N : Int) - 1).toNat = N - 1 := by omega
  rw [call_eq rfl rfl]
  unfold hgt
  cases hf : (List.range (N - 1)).find? (hgB P (Rat.divInt n d)) with
  | none =>
    rw [hf] at l
    simp at l
    simp [d_law_height, frame, r1, show rOk 1 = true by decide, en, l]
    rfl
  | some i =>
    rw [hf] at l
    simp at l
    simp [d_law_height, frame, r1, show rOk 1 = true by decide, en, l]
end Py.Q
end

section
set_option autoImplicit false
set_option linter.all false
set_option Elab.async false
set_option maxRecDepth 100000
set_option maxHeartbeats 4000000
set_option exponentiation.threshold 5000
/-! Premiums. -/
namespace Py.Q
/-- the sum from a place on -/
def sfx (xs : List Int) (i : Nat) : Int := xs.sum - sm i (gD xs 0)
theorem sfx_nn {n : Nat} {B : Int} {xs : List Int} (h : DrOk n B xs) (hB : 0 ≤ B) (i : Nat) : 0 ≤ sfx xs i ∧ sfx xs i ≤ xs.sum := by
  have b := gD_bd h.le hB
  have h0 := (sm_bd b i).1
  unfold sfx
  refine ⟨?_, by omega⟩
  by_cases hi : i ≤ xs.length
  · have : xs.sum = sm i (gD xs 0) + sm (xs.length - i) fun j => gD xs 0 (i + j) := by
      rw [sum_sm, ← sm_split, show i + (xs.length - i) = xs.length by omega]
    have h2 : 0 ≤ sm (xs.length - i) fun j => gD xs 0 (i + j) := sm_nonneg fun j _ => (b _).1
    omega
  · have : sm i (gD xs 0) = xs.sum := by
      rw [sum_sm, show i = xs.length + (i - xs.length) by omega, sm_split, sm_congr (f := fun j => gD xs 0 (xs.length + j)) (g := fun _ => 0) fun j _ => gD_ge (by omega), sm_zero]
      omega
    omega
theorem tails_ok (k : Nat) (xs : List Int) (m : Mem) (hl : xs.length ≤ 1000) : callK Pp (k + 1) 43 [vI xs] m = some (.ok (.own (arr xs.length fun i => .int (sfx xs i))) m) := by
  obtain ⟨s', l, o3, rfl⟩ := forM_arr (tg := .n 3) (body := exs (callK Pp k) b_tails_1) (v := fun i => .int (gD xs 0 (xs.length - 1 - i))) (n := xs.length)
    (fun j s => ∃ o3, s = (⟨[V (vI xs), some (.own (arr j fun i => .int (xs.sum - sm (xs.length - (i + 1)) (gD xs 0)))), V (.int (xs.sum - sm (xs.length - j) (gD xs 0))), o3], m⟩ : S))
    (by
      rintro j s hj ⟨o3, rfl⟩
      refine ⟨_, ⟨[V (vI xs), some (.own (arr (j + 1) fun i => .int (xs.sum - sm (xs.length - (i + 1)) (gD xs 0)))), V (.int (xs.sum - sm (xs.length - (j + 1)) (gD xs 0))), V (.int (gD xs 0 (xs.length - 1 - j)))], m⟩, rfl, ?_, _, rfl⟩
      have e : xs.sum - sm (xs.length - j) (gD xs 0) + gD xs 0 (xs.length - 1 - j) = xs.sum - sm (xs.length - (j + 1)) (gD xs 0) := by
        rw [show xs.length - j = (xs.length - (j + 1)) + 1 by omega, sm_succ, show xs.length - 1 - j = xs.length - (j + 1) by omega]
        omega
      have lt : j < szl := by unfold szl; omega
      simp [b_tails_1, e, lt]
      exact arr_succ.symm)
    ⟨[V (vI xs), some (.own []), V (.int 0), none], m⟩ ⟨none, by simp [sum_sm]⟩
  have er : (xs.map Val.int).reverse = arr xs.length fun i => .int (gD xs 0 (xs.length - 1 - i)) := by rw [map_arr xs 0, arr_rev]
  have e2 : (arr xs.length fun i => Val.int (xs.sum - sm (xs.length - (i + 1)) (gD xs 0))).reverse = arr xs.length fun i => .int (sfx xs i) := by
    rw [arr_rev]
    refine arr_congr fun i hi => ?_
    rw [show xs.length - (xs.length - 1 - i + 1) = i by omega]
    rfl
  rw [call_eq rfl rfl]
  simp [d_tails, frame, er, l, e2]
theorem psum_from {m : Mem} (d : List Int) (k : Nat) (hk : k ≤ d.length) : prim m .sum [.val (.tup (cut (d.map .int) (some (k : Int)) none))] = some (.val (.int (sfx d k))) := by
  have e : cut (d.map Val.int) (some (k : Int)) none = (d.drop k).map .int := by
    show ((d.map Val.int).drop (if (k : Int) < 0 then ((k : Int) + ((d.map Val.int).length : Int)).toNat else min (k : Int).toNat (d.map Val.int).length)).take ((d.map Val.int).length - (if (k : Int) < 0 then ((k : Int) + ((d.map Val.int).length : Int)).toNat else min (k : Int).toNat (d.map Val.int).length)) = _
    rw [if_neg (by omega)]
    simp
    rw [show min k d.length = k by omega, List.take_of_length_le (by simp)]
  rw [e, p_sum (xs := d.drop k) (by rfl)]
  have : (d.drop k).sum = sfx d k := by
    unfold sfx
    have ts : (d.take k).sum = sm k (gD d 0) := by
      rw [arr_gD d 0, arr_take, sum_arr, show min k d.length = k by omega]
      exact sm_congr fun i hi => by rw [gD_arr (by omega)]
    rw [← ts]
    have := List.take_append_drop k d
    have h2 : d.sum = (d.take k).sum + (d.drop k).sum := by rw [← List.sum_append, this]
    omega
  rw [this]
/-- a bend whose parts are at most 2 to the j -/
structure BnOk (j n : Nat) (P : Nat → Rat × Rat) : Prop where
  two : 2 ≤ n
  len : n ≤ 20
  pt : ∀ i, i < n → isPt (vPt (P i)) = true
  pb : ∀ i, i < n → Pb j (P i)
  bend : bendB n P = true
theorem BnOk.up {j n : Nat} {P : Nat → Rat × Rat} (h : BnOk j n P) (i : Nat) (hi : i < n - 1) : (P i).1 < (P (i + 1)).1 := by
  have := h.bend
  unfold bendB at this
  rw [Bool.and_eq_true, Bool.and_eq_true, arr_all] at this
  have := this.2.2 i hi
  rw [Bool.and_eq_true, decide_eq_true_eq] at this
  exact this.1
theorem Pb.mono {j l : Nat} {p : Rat × Rat} (h : Pb j p) (hl : j ≤ l) : Pb l p := ⟨h.1.mono hl, h.2.mono hl⟩
theorem smV_vq {j : Nat} {q : Rat} (h : Qb j q) (hj : j ≤ 100) : smV (vq q) := by
  intro n d e
  unfold vq at e
  injection e with e
  injection e with e1 e2
  injection e1 with e1
  injection e2 with e2
  injection e2 with e2
  have h := h.mono hj
  subst e1 e2
  exact ⟨h.1, by rw [Int.natAbs_natCast]; exact h.2⟩
theorem smP_vPt {j : Nat} {p : Rat × Rat} (h : Pb j p) (hj : j ≤ 100) : smP (vPt p) := by
  intro a b e
  unfold vPt at e
  injection e with e
  injection e with e1 e2
  injection e2 with e2
  subst e1 e2
  exact ⟨smV_vq h.1 hj, smV_vq h.2 hj⟩
theorem BnOk.sm {j n : Nat} {P : Nat → Rat × Rat} (h : BnOk j n P) (hj : j ≤ 100) : smB (vBn n P) := by
  intro xs e x hx
  unfold vBn at e
  injection e with e
  subst e
  obtain ⟨i, hi, rfl⟩ := List.mem_map.mp hx
  exact smP_vPt (h.pb i (List.mem_range.mp hi)) hj
theorem BnOk.is {j n : Nat} {P : Nat → Rat × Rat} (h : BnOk j n P) : isBd (vBn n P) = true := by
  have h1 := h.two
  have h2 := h.len
  have ha : (arr n fun i => vPt (P i)).all isPt = true := by
    rw [List.all_eq_true]
    intro x hx
    obtain ⟨i, hi, rfl⟩ := List.mem_map.mp hx
    exact h.pt i (List.mem_range.mp hi)
  have e : bendB n (fun i => ptOf (gD (arr n fun i => vPt (P i)) .non i)) = bendB n P := by
    unfold bendB
    dsimp only
    have q : ∀ i, i < n → ptOf (gD (arr n fun i => vPt (P i)) .non i) = P i := fun i hi => by rw [gD_arr hi, ptOf_vPt]
    have e2 : (arr (n - 1) fun i => decide ((ptOf (gD (arr n fun i => vPt (P i)) .non i)).1 < (ptOf (gD (arr n fun i => vPt (P i)) .non (i + 1))).1) && !decide ((ptOf (gD (arr n fun i => vPt (P i)) .non (i + 1))).2 < (ptOf (gD (arr n fun i => vPt (P i)) .non i)).2)) = arr (n - 1) fun i => decide ((P i).1 < (P (i + 1)).1) && !decide ((P (i + 1)).2 < (P i).2) := arr_congr fun i hi => by simp only [q i (by omega), q (i + 1) (by omega)]
    rw [e2]
    simp only [q 0 (by omega), q (n - 1) (by omega)]
  unfold vBn
  show ((decide (2 ≤ (arr n fun i => vPt (P i)).length) && decide ((arr n fun i => vPt (P i)).length ≤ 20)) && ((arr n fun i => vPt (P i)).all isPt && bendB (arr n fun i => vPt (P i)).length fun i => ptOf (gD (arr n fun i => vPt (P i)) .non i))) = true
  rw [arr_length, e, h.bend, ha]
  simp [h1, h2]
/-- the premium -/
def prm (xs : List Int) (n : Nat) (P : Nat → Rat × Rat) : Rat := qs xs.length fun i => hgt n P (Rat.divInt (sfx xs i) xs.sum)
theorem qs_qb {c : Nat} {f : Nat → Rat} : ∀ {n : Nat}, (∀ i, i < n → Qb c (f i)) → Qb ((c + 1) * n) (qs n f)
  | 0, _ => zero_qb
  | n + 1, h => ((qs_qb fun i hi => h i (by omega)).add (h n (by omega))).mono (by rw [Nat.mul_succ]; omega)
section
variable {xs : List Int} {j n : Nat} {P : Nat → Rat × Rat}
theorem sfx_qb (hx : DrOk 7 300009 xs) (i : Nat) : Qb 22 (Rat.divInt (sfx xs i) xs.sum) := by
  have s := sum_bd' hx (by decide)
  have b := sfx_nn hx (by decide) i
  exact divInt_bd s.1 (by omega) (by omega)
theorem prm_qb (hx : DrOk 7 300009 xs) (hB : BnOk 3 n P) (i : Nat) : Qb 44 (hgt n P (Rat.divInt (sfx xs i) xs.sum)) := hgt_qb hB.pb hB.up (sfx_qb hx i)
theorem premium_of_ok (k : Nat) (m : Mem) (hx : DrOk 7 300009 xs) (hB : BnOk 3 n P) : callK Pp (k + 5) 337 [vI xs, vBn n P] m = some (.ok (.val (vq (prm xs n P))) m) := by
  have s := sum_bd' hx (by decide)
  have ln := hx.len
  have lN := hB.len
  have t := tails_ok (k + 3) xs m (by omega)
  obtain ⟨s', l, o4, rfl⟩ := forM_arr (tg := .n 4) (body := exs (callK Pp (k + 4)) b_premium_of_1) (v := fun i => .int (sfx xs i)) (n := xs.length)
    (fun j s => ∃ o4, s = (⟨[V (vI xs), V (vBn n P), V (vq (qs j fun i => hgt n P (Rat.divInt (sfx xs i) xs.sum))), V (.int xs.sum), o4], m⟩ : S))
    (by
      rintro j s hj ⟨o4, rfl⟩
      have b := sfx_nn hx (by decide) j
      refine ⟨_, ⟨[V (vI xs), V (vBn n P), V (vq (qs (j + 1) fun i => hgt n P (Rat.divInt (sfx xs i) xs.sum))), V (.int xs.sum), V (.int (sfx xs j))], m⟩, rfl, ?_, _, rfl⟩
      have c1 := lowest_q (k + 2) (sfx xs j) xs.sum m (by omega) (sm_lit (by omega))
      have c2 := height_q k n 3 22 P (Rat.divInt (sfx xs j) xs.sum) m (by omega) (by omega) (by omega) hB.pb hB.up (sfx_qb hx j)
      have c3 := plus_q (k + 1) m (qs_qb (n := j) fun i _ => prm_qb hx hB i) (prm_qb hx hB j) (by omega) (by omega)
      simp [b_premium_of_1, c1, c2, c3, qs])
    ⟨[V (vI xs), V (vBn n P), V (vq 0), V (.int xs.sum), none], m⟩ ⟨_, rfl⟩
  have e0 : Val.tup [.int 0, .int 1] = vq 0 := rfl
  have ps : prim m .sum [.val (vI xs)] = some (.val (.int xs.sum)) := p_sum (by rfl)
  rw [call_eq rfl rfl]
  simp [d_premium_of, frame, e0, ps, t, l, prm]
theorem premium_ok (k : Nat) (m : Mem) (hx : DrOk 7 300009 xs) (hB : BnOk 3 n P) : callK Pp (k + 6) 338 [vI xs, vBn n P] m = some (.ok (.val (vq (prm xs n P))) m) := by
  have c1 := check_draw_ok (k + 2) (vI xs) m (isDr_ok hx (by decide) (by decide))
  have c2 := check_bend_ok k (vBn n P) m (hB.sm (by omega)) hB.is
  have c3 := premium_of_ok k m hx hB
  rw [call_eq rfl rfl]
  simp [d_premium, frame, c1, c2, c3]
theorem premium_ex (k : Nat) (v : Val) (m : Mem) (hx : DrOk 7 300009 xs) (hs : smB v) (h : isBd v = false) : callK Pp (k + 6) 338 [vI xs, v] m = some (.ex ⟨0, none⟩ m) := by
  have c1 := check_draw_ok (k + 2) (vI xs) m (isDr_ok hx (by decide) (by decide))
  have c2 := check_bend_ex k v m hs h
  rw [call_eq rfl rfl]
  simp [d_premium, frame, c1, c2]
theorem law_premium_ok (k : Nat) (m : Mem) (hx : DrOk 7 300009 xs) (hB : BnOk 3 n P) : callK Pp (k + 4) 341 [vI xs, vBn n P] m = some (.ok (.val (vq (prm xs n P))) m) := by
  have s := sum_bd' hx (by decide)
  have ln := hx.len
  have lN := hB.len
  have ps : prim m .sum [.val (vI xs)] = some (.val (.int xs.sum)) := p_sum (by rfl)
  have r1 : rOk (xs.length : Int) = true := rOk_len (by omega)
  have c : ∀ t, ev (callK Pp (k + 3)) c_law_premium_1 t ⟨[V (vI xs), V (vBn n P), none], m⟩ = some (.ok (.own (arr xs.length fun i => vq (hgt n P (Rat.divInt (sfx xs i) xs.sum)))) ⟨[V (vI xs), V (vBn n P), none], m⟩) := fun t =>
    ev_lc_arr (v := fun i : Nat => .int (i : Int)) _ (by simp [r1]) (fun i hi => ⟨⟨[V (vI xs), V (vBn n P), V (.int (i : Int))], m⟩, by
      have b := sfx_nn hx (by decide) i
      have ps2 := psum_from (m := m) xs i (by omega)
      have c1 := law_height_q k n 3 22 P (sfx xs i) xs.sum m (by omega) (by omega) (by omega) hB.pb hB.up s.1 (by unfold Bd; omega) (by unfold Bd; omega)
      simp [wiped, wipe, ps, ps2, c1], by simp [wiped, wipe]⟩) (by omega)
  have c2 := law_sum_q (k + 1) (.lst (arr xs.length fun i => vq (hgt n P (Rat.divInt (sfx xs i) xs.sum)))) xs.length (fun i => hgt n P (Rat.divInt (sfx xs i) xs.sum)) m (fun t => by cases t <;> rfl) (fun j hj => (qs_qb (n := j) fun i _ => prm_qb hx hB i).mono (by omega)) (fun j hj => (prm_qb hx hB j).mono (by omega))
  rw [call_eq rfl rfl]
  simp [d_law_premium, frame, c, c2, prm]
end
end Py.Q
end

section
set_option autoImplicit false
set_option linter.all false
set_option Elab.async false
set_option maxRecDepth 100000
set_option maxHeartbeats 4000000
set_option exponentiation.threshold 5000
/-! The mean of a tail. -/
namespace Py.Q
theorem divInt_lt {a b D : Int} (h : 0 < D) : Rat.divInt a D < Rat.divInt b D ↔ a < b := by
  have dp : (0 : Rat) < (D : Rat) := by exact_mod_cast h
  rw [Rat.divInt_eq_div, Rat.divInt_eq_div, Rat.div_lt_iff dp, Rat.div_mul_cancel (cast_ne (by omega)), Rat.intCast_lt_intCast]
theorem divInt_adds {a b D : Int} (h : D ≠ 0) : Rat.divInt a D + Rat.divInt b D = Rat.divInt (a + b) D := by
  refine (divInt_of h ?_).symm
  rw [Rat.add_mul, divInt_mulc h, divInt_mulc h, Rat.intCast_add]
theorem divInt_subs {a b D : Int} (h : D ≠ 0) : Rat.divInt a D - Rat.divInt b D = Rat.divInt (a - b) D := by
  refine (divInt_of h ?_).symm
  have h1 := divInt_mulc (n := a) h
  have h2 := divInt_mulc (n := b) h
  rw [Rat.intCast_sub]
  grind
theorem divInt_muli {a b D : Int} (h : D ≠ 0) : Rat.divInt a D * (b : Rat) = Rat.divInt (a * b) D := by
  refine (divInt_of h ?_).symm
  have h1 := divInt_mulc (n := a) h
  rw [Rat.intCast_mul]
  grind
theorem divInt_ext {a D c : Int} (h : D ≠ 0) (hc : c ≠ 0) : Rat.divInt (a * c) (D * c) = Rat.divInt a D := Rat.divInt_mul_right hc
theorem vq_int (z : Int) : vq (z : Rat) = .tup [.int z, .int 1] := by
  unfold vq
  rw [Rat.num_intCast, Rat.den_intCast]
  rfl
theorem int_qb {k : Nat} {z : Int} (h : Bd k z) : Qb k (z : Rat) := ⟨by rw [Rat.num_intCast]; exact h, by rw [Rat.den_intCast]; exact Nat.one_le_two_pow⟩
section
variable (xs : List Int) (p d : Int)
/-- what is left ahead of a step, what is found, in parts of the whole times d -/
def lfI : Nat → Int
  | 0 => (d - p) * xs.sum
  | i + 1 => lfI i - imin (lfI i) (gD xs 0 (xs.length - 1 - i) * d)
def tkI (i : Nat) : Int := imin (lfI xs p d i) (gD xs 0 (xs.length - 1 - i) * d)
def fdI : Nat → Int
  | 0 => 0
  | i + 1 => fdI i + tkI xs p d i * ((xs.length : Int) - i)
end
theorem imin_bd (a b : Int) : imin a b ≤ a ∧ imin a b ≤ b ∧ (imin a b = a ∨ imin a b = b) := by unfold imin; split <;> omega
section
variable {xs : List Int} {q : Rat}
theorem tl_bd (hx : DrOk 7 300009 xs) (hq : Qb 22 q) (h0 : 0 ≤ q) (h1 : q < 1) (i : Nat) (hi : i ≤ xs.length) :
    (0 ≤ lfI xs q.num q.den i ∧ lfI xs q.num q.den i ≤ 2 ^ 44) ∧ (0 ≤ tkI xs q.num q.den i ∧ tkI xs q.num q.den i ≤ 2 ^ 44) ∧ (0 ≤ fdI xs q.num q.den i ∧ fdI xs q.num q.den i ≤ i * 2 ^ 47) := by
  have s := sum_bd' hx (by decide)
  have b := gD_bd hx.le (by decide)
  have dn := q.den_pos
  have d1 : (q.den : Int) ≤ 2 ^ 22 := by exact_mod_cast hq.den
  have n0 : 0 ≤ q.num := Rat.num_nonneg.mpr h0
  have n1 : q.num < q.den := of_decide_eq_true (by rw [num_lt1]; exact decide_eq_true h1)
  have L : ∀ i, 0 ≤ lfI xs q.num q.den i ∧ lfI xs q.num q.den i ≤ 2 ^ 44 := by
    intro i
    induction i with
    | zero =>
      show 0 ≤ ((q.den : Int) - q.num) * xs.sum ∧ ((q.den : Int) - q.num) * xs.sum ≤ 2 ^ 44
      constructor
      · exact Int.mul_nonneg (by omega) (by omega)
      · have : ((q.den : Int) - q.num) * xs.sum ≤ 2 ^ 22 * 2 ^ 22 := Int.mul_le_mul (by omega) (by omega) (by omega) (by decide)
        omega
    | succ i ih =>
      show 0 ≤ lfI xs q.num q.den i - imin (lfI xs q.num q.den i) (gD xs 0 (xs.length - 1 - i) * q.den) ∧ lfI xs q.num q.den i - imin (lfI xs q.num q.den i) (gD xs 0 (xs.length - 1 - i) * q.den) ≤ 2 ^ 44
      have hb := imin_bd (lfI xs q.num q.den i) (gD xs 0 (xs.length - 1 - i) * q.den)
      have : 0 ≤ gD xs 0 (xs.length - 1 - i) * q.den := Int.mul_nonneg (b _).1 (by omega)
      omega
  have Tk : ∀ i, 0 ≤ tkI xs q.num q.den i ∧ tkI xs q.num q.den i ≤ 2 ^ 44 := by
    intro i
    have hb := imin_bd (lfI xs q.num q.den i) (gD xs 0 (xs.length - 1 - i) * q.den)
    have : 0 ≤ gD xs 0 (xs.length - 1 - i) * q.den := Int.mul_nonneg (b _).1 (by omega)
    have l := L i
    unfold tkI
    omega
  have F : ∀ i, i ≤ xs.length → 0 ≤ fdI xs q.num q.den i ∧ fdI xs q.num q.den i ≤ i * 2 ^ 47 := by
    intro i
    induction i with
    | zero => intro _; show (0 : Int) ≤ 0 ∧ (0 : Int) ≤ ((0 : Nat) : Int) * 2 ^ 47; decide
    | succ i ih =>
      intro hi
      have ih := ih (by omega)
      have t := Tk i
      have l := hx.len
      have p0 : 0 ≤ tkI xs q.num q.den i * ((xs.length : Int) - i) := Int.mul_nonneg t.1 (by omega)
      have p1 : tkI xs q.num q.den i * ((xs.length : Int) - i) ≤ 2 ^ 44 * 8 := Int.mul_le_mul t.2 (by omega) (by omega) (by decide)
      show 0 ≤ fdI xs q.num q.den i + tkI xs q.num q.den i * ((xs.length : Int) - i) ∧ fdI xs q.num q.den i + tkI xs q.num q.den i * ((xs.length : Int) - i) ≤ ((i + 1 : Nat) : Int) * 2 ^ 47
      omega
  exact ⟨L i, Tk i, F i hi⟩
theorem tl_part (hx : DrOk 7 300009 xs) (h1 : q < 1) : 0 < xs.sum * (q.den : Int) ∧ 1 - q = Rat.divInt (lfI xs q.num q.den 0) (xs.sum * q.den) ∧ 0 < ((q.den : Int) - q.num) * xs.sum := by
  have s := sum_bd' hx (by decide)
  have dn := q.den_pos
  have n1 : q.num < q.den := of_decide_eq_true (by rw [num_lt1]; exact decide_eq_true h1)
  have p : 0 < xs.sum * (q.den : Int) := Int.mul_pos s.1 (by omega)
  refine ⟨p, (divInt_of (by omega) ?_).symm, Int.mul_pos (by omega) s.1⟩
  show _ = (((((q.den : Int) - q.num) * xs.sum) : Int) : Rat)
  rw [Rat.intCast_mul, Rat.intCast_mul, Rat.intCast_sub, num_cast]
  grind
theorem tl_take (hx : DrOk 7 300009 xs) (h1 : q < 1) (i : Nat) :
    (if Rat.divInt (lfI xs q.num q.den i) (xs.sum * q.den) < Rat.divInt (gD xs 0 (xs.length - 1 - i)) xs.sum then Rat.divInt (lfI xs q.num q.den i) (xs.sum * q.den) else Rat.divInt (gD xs 0 (xs.length - 1 - i)) xs.sum) = Rat.divInt (tkI xs q.num q.den i) (xs.sum * q.den) := by
  have t := (tl_part hx h1).1
  have s := sum_bd' hx (by decide)
  have dn := q.den_pos
  rw [← divInt_ext (a := gD xs 0 (xs.length - 1 - i)) (D := xs.sum) (c := q.den) (by omega) (by omega)]
  have L := divInt_lt (a := lfI xs q.num q.den i) (b := gD xs 0 (xs.length - 1 - i) * q.den) t
  unfold tkI imin
  by_cases h : lfI xs q.num q.den i < gD xs 0 (xs.length - 1 - i) * q.den
  · rw [if_pos (L.mpr h), if_neg (by omega)]
  · rw [if_neg fun z => h (L.mp z)]
    by_cases h2 : gD xs 0 (xs.length - 1 - i) * q.den < lfI xs q.num q.den i
    · rw [if_pos h2]
    · rw [if_neg h2, show lfI xs q.num q.den i = gD xs 0 (xs.length - 1 - i) * q.den by omega]
theorem tl_qb (hx : DrOk 7 300009 xs) (hq : Qb 22 q) (h1 : q < 1) {z : Int} (hz : z.natAbs ≤ 2 ^ 50) : Qb 50 (Rat.divInt z (xs.sum * q.den)) := by
  have s := sum_bd' hx (by decide)
  have d1 : (q.den : Int) ≤ 2 ^ 22 := by exact_mod_cast hq.den
  have t := (tl_part hx h1).1
  have : xs.sum * (q.den : Int) ≤ 2 ^ 22 * 2 ^ 22 := Int.mul_le_mul (by omega) d1 (by omega) (by decide)
  exact divInt_bd t hz (by omega)
theorem tail_sum_ok (k : Nat) (m : Mem) (hx : DrOk 7 300009 xs) (hq : Qb 22 q) (h0 : 0 ≤ q) (h1 : q < 1) : callK Pp (k + 4) 330 [vI xs, vq q] m = some (.ok (.val (vq (Rat.divInt (fdI xs q.num q.den xs.length) (xs.sum * q.den)))) m) := by
  have s := sum_bd' hx (by decide)
  have ln := hx.len
  have b := gD_bd hx.le (by decide)
  have t := tl_part hx h1
  have tD : xs.sum * (q.den : Int) ≠ 0 := by omega
  obtain ⟨s', l, o5, o6, rfl⟩ := forM_arr (tg := .n 5) (body := exs (callK Pp (k + 3)) b_tail_sum_1) (v := fun i : Nat => .int ((xs.length : Int) - i)) (n := xs.length)
    (fun j s => ∃ o5 o6, s = (⟨[V (vI xs), V (vq q), V (vq (Rat.divInt (lfI xs q.num q.den j) (xs.sum * q.den))), V (vq (Rat.divInt (fdI xs q.num q.den j) (xs.sum * q.den))), V (.int xs.sum), o5, o6], m⟩ : S))
    (by
      rintro j s' hj ⟨o5, o6, rfl⟩
      refine ⟨_, ⟨[V (vI xs), V (vq q), V (vq (Rat.divInt (lfI xs q.num q.den (j + 1)) (xs.sum * q.den))), V (vq (Rat.divInt (fdI xs q.num q.den (j + 1)) (xs.sum * q.den))), V (.int xs.sum), V (.int ((xs.length : Int) - j)), V (vq (Rat.divInt (tkI xs q.num q.den j) (xs.sum * q.den)))], m⟩, rfl, ?_, _, _, rfl⟩
      have B := tl_bd hx hq h0 h1 j (by omega)
      have g : getI (xs.map .int) ((xs.length : Int) - j - 1) = some (.int (gD xs 0 (xs.length - 1 - j))) := by
        rw [show (xs.length : Int) - j - 1 = ((xs.length - 1 - j : Nat) : Int) by omega]
        exact getI_map (by omega)
      have bx := b (xs.length - 1 - j)
      have c1 := lowest_q (k + 1) (gD xs 0 (xs.length - 1 - j)) xs.sum m s.1 (sm_lit (by omega))
      have q1 : Qb 22 (Rat.divInt (gD xs 0 (xs.length - 1 - j)) xs.sum) := divInt_bd s.1 (by omega) (by omega)
      have q2 := tl_qb hx hq h1 (z := lfI xs q.num q.den j) (by omega)
      have q3 := tl_qb hx hq h1 (z := tkI xs q.num q.den j) (by omega)
      have q4 := tl_qb hx hq h1 (z := fdI xs q.num q.den j) (by omega)
      have c2 := lesser_q (k + 1) m q1 q2 (by omega) (by omega)
      rw [tl_take hx h1] at c2
      have q5 : Qb 4 (((xs.length : Int) - j : Int) : Rat) := int_qb (by unfold Bd; omega)
      have c3 := times_q k m q3 q5 (by omega) (by omega)
      rw [vq_int, divInt_muli tD] at c3
      have p0 : 0 ≤ tkI xs q.num q.den j * ((xs.length : Int) - j) := Int.mul_nonneg B.2.1.1 (by omega)
      have p1 : tkI xs q.num q.den j * ((xs.length : Int) - j) ≤ 2 ^ 44 * 8 := Int.mul_le_mul B.2.1.2 (by omega) (by omega) (by decide)
      have q6 := tl_qb hx hq h1 (z := tkI xs q.num q.den j * ((xs.length : Int) - j)) (by omega)
      have c4 := plus_q k m q4 q6 (by omega) (by omega)
      rw [divInt_adds tD] at c4
      have c5 := minus_q k m q2 q3 (by omega) (by omega)
      rw [divInt_subs tD] at c5
      have e1 : fdI xs q.num q.den (j + 1) = fdI xs q.num q.den j + tkI xs q.num q.den j * ((xs.length : Int) - j) := rfl
      have e2 : lfI xs q.num q.den (j + 1) = lfI xs q.num q.den j - tkI xs q.num q.den j := rfl
      rw [e1, e2]
      simp [b_tail_sum_1, g, c1, c2, c3, c4, c5])
    ⟨[V (vI xs), V (vq q), V (vq (Rat.divInt (lfI xs q.num q.den 0) (xs.sum * q.den))), V (vq (Rat.divInt (fdI xs q.num q.den 0) (xs.sum * q.den))), V (.int xs.sum), none, none], m⟩ ⟨_, _, rfl⟩
  have c1 := minus_q k m (one_qb (k := 0)) hq (by omega) (by omega)
  rw [t.2.1] at c1
  have e0 : vq 1 = Val.tup [.int 1, .int 1] := rfl
  have e1 : vq (Rat.divInt (fdI xs q.num q.den 0) (xs.sum * q.den)) = Val.tup [.int 0, .int 1] := by
    show vq (Rat.divInt 0 _) = _
    rw [Rat.zero_divInt]
    rfl
  rw [e0] at c1
  rw [e1] at l
  have ps : prim m .sum [.val (vI xs)] = some (.val (.int xs.sum)) := p_sum (by rfl)
  have r1 : rOk (xs.length : Int) = true := rOk_len (by omega)
  rw [call_eq rfl rfl]
  simp [d_tail_sum, frame, c1, ps, r1, show rOk 0 = true by decide, l]
/-- the mean of a tail -/
def tlm (xs : List Int) (q : Rat) : Rat := Rat.divInt (fdI xs q.num q.den xs.length) (((q.den : Int) - q.num) * xs.sum)
theorem tail_mean_ok (k : Nat) (m : Mem) (hx : DrOk 7 300009 xs) (hq : Qb 22 q) (h0 : 0 ≤ q) (h1 : q < 1) : callK Pp (k + 5) 331 [vI xs, vq q] m = some (.ok (.val (vq (tlm xs q))) m) := by
  have t := tl_part hx h1
  have B := tl_bd hx hq h0 h1 xs.length (Nat.le_refl _)
  have ln := hx.len
  have c0 := check_draw_ok (k + 1) (vI xs) m (isDr_ok hx (by decide) (by decide))
  have c1 := is_part_any (k + 1) (vq q) m
  have pp : ratB pPa (vq q) = true := by rw [ratB_vq]; simp [pPa, h0, h1]
  rw [pp] at c1
  have c2 := tail_sum_ok k m hx hq h0 h1
  have c3 := minus_q (k + 1) m (one_qb (k := 0)) hq (by omega) (by omega)
  have e0 : vq 1 = Val.tup [.int 1, .int 1] := rfl
  rw [e0] at c3
  have q1 := tl_qb hx hq h1 (z := fdI xs q.num q.den xs.length) (by omega)
  have p : 0 < 1 - q := by grind
  have c4 := over_q (k + 1) m q1 ((one_qb (k := 0)).sub hq) (by omega) (by omega) p
  have e : Rat.divInt (fdI xs q.num q.den xs.length) (xs.sum * q.den) / (1 - q) = tlm xs q := by
    refine (divInt_of (by omega) ?_).symm
    have h2 := divInt_mulc (n := fdI xs q.num q.den xs.length) (d := xs.sum * q.den) (by omega)
    rw [Rat.intCast_mul] at h2
    rw [Rat.intCast_mul, Rat.intCast_sub, num_cast]
    have h3 : Rat.divInt (fdI xs q.num q.den xs.length) (xs.sum * q.den) / (1 - q) * (1 - q) = Rat.divInt (fdI xs q.num q.den xs.length) (xs.sum * q.den) := Rat.div_mul_cancel (by grind)
    generalize Rat.divInt (fdI xs q.num q.den xs.length) (xs.sum * q.den) / (1 - q) = w at *
    grind
  rw [e] at c4
  rw [call_eq rfl rfl]
  simp [d_tail_mean, frame, c0, c1, c2, c3, c4]
theorem law_tail_ok (k : Nat) (m : Mem) (hx : DrOk 7 300009 xs) (hq : Qb 22 q) (h0 : 0 ≤ q) (h1 : q < 1) : callK Pp (k + 2) 346 [vI xs, .int q.num, .int q.den] m = some (.ok (.val (vq (tlm xs q))) m) := by
  have s := sum_bd' hx (by decide)
  have ln := hx.len
  have b := gD_bd hx.le (by decide)
  have t := tl_part hx h1
  have d1 : (q.den : Int) ≤ 2 ^ 22 := by exact_mod_cast hq.den
  have n0 : 0 ≤ q.num := Rat.num_nonneg.mpr h0
  have n1 : q.num < q.den := of_decide_eq_true (by rw [num_lt1]; exact decide_eq_true h1)
  have sd : small (q.den : Int) = true := sm_lit (by omega)
  have sw : small xs.sum = true := sm_lit (by omega)
  have sp : small ((q.den : Int) - q.num) = true := sm_lit (by omega)
  obtain ⟨s', l, o6, o7, rfl⟩ := forM_arr (tg := .n 6) (body := exs (callK Pp (k + 1)) b_law_tail_2_1) (v := fun i : Nat => .int ((xs.length : Int) - 1 - i)) (n := xs.length)
    (fun j s => ∃ o6 o7, s = (⟨[V (vI xs), V (.int q.num), V (.int q.den), V (.int xs.sum), V (.int (lfI xs q.num q.den j)), V (.int (fdI xs q.num q.den j)), o6, o7], m⟩ : S))
    (by
      rintro j s' hj ⟨o6, o7, rfl⟩
      refine ⟨_, ⟨[V (vI xs), V (.int q.num), V (.int q.den), V (.int xs.sum), V (.int (lfI xs q.num q.den (j + 1))), V (.int (fdI xs q.num q.den (j + 1))), V (.int ((xs.length : Int) - 1 - j)), V (.int (tkI xs q.num q.den j))], m⟩, rfl, ?_, _, _, rfl⟩
      have B := tl_bd hx hq h0 h1 j (by omega)
      have g : getI (xs.map .int) ((xs.length : Int) - 1 - j) = some (.int (gD xs 0 (xs.length - 1 - j))) := by
        rw [show (xs.length : Int) - 1 - j = ((xs.length - 1 - j : Nat) : Int) by omega]
        exact getI_map (by omega)
      have bx := b (xs.length - 1 - j)
      have s1 : small (gD xs 0 (xs.length - 1 - j)) = true := sm_lit (by omega)
      have s2 : small (tkI xs q.num q.den j) = true := sm_lit (by omega)
      have s3 : small ((xs.length : Int) - 1 - j + 1) = true := sm_lit (by omega)
      have e1 : fdI xs q.num q.den (j + 1) = fdI xs q.num q.den j + tkI xs q.num q.den j * ((xs.length : Int) - 1 - j + 1) := by rw [show (xs.length : Int) - 1 - j + 1 = xs.length - j by omega]; rfl
      have e2 : lfI xs q.num q.den (j + 1) = lfI xs q.num q.den j - tkI xs q.num q.den j := rfl
      have e3 : imin (lfI xs q.num q.den j) (gD xs 0 (xs.length - 1 - j) * q.den) = tkI xs q.num q.den j := rfl
      rw [e1, e2]
      simp [b_law_tail_2_1, g, s1, s2, s3, sd, e3])
    ⟨[V (vI xs), V (.int q.num), V (.int q.den), V (.int xs.sum), V (.int (((q.den : Int) - q.num) * xs.sum)), V (.int 0), none, none], m⟩ ⟨_, _, rfl⟩
  have ps : prim m .sum [.val (vI xs)] = some (.val (.int xs.sum)) := p_sum (by rfl)
  have r1 : rOk ((xs.length : Int) - 1) = true := by unfold rOk; exact decide_eq_true (by omega)
  have en : ((xs.length : Int) - 1 - -1).toNat = xs.length := by omega
  have p1 : ((q.den : Int) - q.num) * xs.sum ≤ 2 ^ 22 * 2 ^ 22 := Int.mul_le_mul (by omega) (by omega) (by omega) (by decide)
  have c := frac_q k (fdI xs q.num q.den xs.length) (((q.den : Int) - q.num) * xs.sum) m t.2.2 (sm_lit (by omega))
  rw [call_eq rfl rfl]
  simp [d_law_tail_2, frame, ps, r1, show rOk (-1) = true by decide, en, l, sd, sw, sp, c, tlm]
end
end Py.Q
end

section
set_option autoImplicit false
set_option linter.all false
set_option Elab.async false
set_option maxRecDepth 100000
set_option maxHeartbeats 4000000
/-! Comprehensions in any frame. -/
namespace Py.Q
theorem get_ne {α : Type} {l : List α} {i j : Nat} {x : α} (h : i ≠ j) : (l.set i x)[j]? = l[j]? := List.getElem?_set_ne h
theorem get_self {α : Type} {l : List α} {i : Nat} {x : α} (h : i < l.length) : (l.set i x)[i]? = some x := by simp [h]
section
variable {K : Kn} {j j2 : Nat} {it : It} {ifs : Es} {e : E} {t : Bool} {en : List (Option SV)} {m : Mem}
theorem lc1_if (n : Nat) (v : Nat → Val) (p : Nat → Bool) (g : Nat → Val) (hj : j < en.length) (hi : evi K it false ⟨en, m⟩ = some (.ok (arr n v) ⟨en, m⟩))
    (hp : ∀ i, i < n → evt K ifs ⟨en.set j (some (.val (v i))), m⟩ = some (.ok (p i) ⟨en.set j (some (.val (v i))), m⟩))
    (h : ∀ i, i < n → p i = true → rb (ev K e true ⟨en.set j (some (.val (v i))), m⟩) asV = some (.ok (g i) ⟨en.set j (some (.val (v i))), m⟩)) (hz : n ≤ 16777216) :
    ev K (.lc [j] (.n j) it ifs e) t ⟨en, m⟩ = some (.ok (.own (((List.range n).filter p).map g)) ⟨en, m⟩) := by
  refine ev_lc_if p g hi (fun i hi => ⟨⟨en.set j (some (.val (v i))), m⟩, ?_, ?_⟩) hz
  · have e0 : asg (.n j) (v i) (wiped [j] ⟨en, m⟩) = some (.ok () ⟨en.set j (some (.val (v i))), m⟩) := by
      simp [wiped, wipe, hj]
    rw [r_turnM, e0, rb_ok, r_bind, hp i hi, rb_ok]
    cases hpi : p i with
    | true => rw [if_pos rfl, r_bind, r_bind, h i hi hpi]; rfl
    | false => rfl
  · simp [wiped, wipe]
theorem lc1 (n : Nat) (v g : Nat → Val) (hj : j < en.length) (hi : evi K it false ⟨en, m⟩ = some (.ok (arr n v) ⟨en, m⟩))
    (h : ∀ i, i < n → rb (ev K e true ⟨en.set j (some (.val (v i))), m⟩) asV = some (.ok (g i) ⟨en.set j (some (.val (v i))), m⟩)) (hz : n ≤ 16777216) :
    ev K (.lc [j] (.n j) it .nil e) t ⟨en, m⟩ = some (.ok (.own (arr n g)) ⟨en, m⟩) := by
  have q := lc1_if (K := K) (j := j) (it := it) (ifs := .nil) (e := e) (t := t) (en := en) (m := m) n v (fun _ => true) g hj hi (fun i hi => rfl) (fun i hi _ => h i hi) hz
  have e1 : (List.range n).filter (fun _ => true) = List.range n := List.filter_eq_self.mpr fun _ _ => rfl
  rw [e1] at q
  exact q
theorem lcp_if (n : Nat) (x y : Nat → Val) (p : Nat → Bool) (g : Nat → Val) (hj : j < en.length) (hj2 : j2 < en.length) (hne : j ≠ j2) (hi : evi K it false ⟨en, m⟩ = some (.ok (arr n fun i => .tup [x i, y i]) ⟨en, m⟩))
    (hp : ∀ i, i < n → evt K ifs ⟨(en.set j (some (.val (x i)))).set j2 (some (.val (y i))), m⟩ = some (.ok (p i) ⟨(en.set j (some (.val (x i)))).set j2 (some (.val (y i))), m⟩))
    (h : ∀ i, i < n → p i = true → rb (ev K e true ⟨(en.set j (some (.val (x i)))).set j2 (some (.val (y i))), m⟩) asV = some (.ok (g i) ⟨(en.set j (some (.val (x i)))).set j2 (some (.val (y i))), m⟩)) (hz : n ≤ 16777216) :
    ev K (.lc [j, j2] (.t (.cons (.n j) (.cons (.n j2) .nil))) it ifs e) t ⟨en, m⟩ = some (.ok (.own (((List.range n).filter p).map g)) ⟨en, m⟩) := by
  refine ev_lc_if p g hi (fun i hi => ⟨⟨(en.set j (some (.val (x i)))).set j2 (some (.val (y i))), m⟩, ?_, ?_⟩) hz
  · have e0 : asg (.t (.cons (.n j) (.cons (.n j2) .nil))) (.tup [x i, y i]) (wiped [j, j2] ⟨en, m⟩) = some (.ok () ⟨(en.set j (some (.val (x i)))).set j2 (some (.val (y i))), m⟩) := by
      simp [wiped, wipe, hj, hj2]
      rw [List.set_comm _ _ hne, List.set_set, List.set_comm _ _ (Ne.symm hne)]
    rw [r_turnM, e0, rb_ok, r_bind, hp i hi, rb_ok]
    cases hpi : p i with
    | true => rw [if_pos rfl, r_bind, r_bind, h i hi hpi]; rfl
    | false => rfl
  · simp [wiped, wipe]
    rw [List.set_comm _ _ hne, List.set_set]
theorem lcp (n : Nat) (x y g : Nat → Val) (hj : j < en.length) (hj2 : j2 < en.length) (hne : j ≠ j2) (hi : evi K it false ⟨en, m⟩ = some (.ok (arr n fun i => .tup [x i, y i]) ⟨en, m⟩))
    (h : ∀ i, i < n → rb (ev K e true ⟨(en.set j (some (.val (x i)))).set j2 (some (.val (y i))), m⟩) asV = some (.ok (g i) ⟨(en.set j (some (.val (x i)))).set j2 (some (.val (y i))), m⟩)) (hz : n ≤ 16777216) :
    ev K (.lc [j, j2] (.t (.cons (.n j) (.cons (.n j2) .nil))) it .nil e) t ⟨en, m⟩ = some (.ok (.own (arr n g)) ⟨en, m⟩) := by
  have q := lcp_if (K := K) (j := j) (j2 := j2) (it := it) (ifs := .nil) (e := e) (t := t) (en := en) (m := m) n x y (fun _ => true) g hj hj2 hne hi (fun i hi => rfl) (fun i hi _ => h i hi) hz
  have e1 : (List.range n).filter (fun _ => true) = List.range n := List.filter_eq_self.mpr fun _ _ => rfl
  rw [e1] at q
  exact q
end
/-! ### loops over a few values -/
theorem forc {tg : Tg} {b : M Fl} {x : Val} {xs : List Val} {s : S} : forM tg b (x :: xs) s = rb (rb (asg tg x s) fun _ => b) (seqF (forM tg b xs)) := by
  rw [forM_cons]
  unfold M.bind rb
  cases asg tg x s with
  | none => rfl
  | some r =>
    cases r with
    | ex _ _ => rfl
    | ok a s1 =>
      dsimp only
      cases b s1 with
      | none => rfl
      | some r2 =>
        cases r2 with
        | ex _ _ => rfl
        | ok f s2 => cases f <;> rfl
theorem forn {tg : Tg} {b : M Fl} {s : S} : forM tg b [] s = some (.ok .nx s) := rfl
/-! ### turns that change the cells and may leave an item out -/
theorem compL_sub {α : Type} {own : List Nat} {tg : Tg} {test : M Bool} {elt : M Val} {v : α → Val} (J : S → Prop) (f : α → Val) : ∀ (xs : List α), (∀ x ∈ xs, ∀ s, J s → ∃ (b : Bool) (s' : S), turnM tg test elt (v x) (wiped own s) = some (.ok (if b then some (f x) else none) s') ∧ J s') →
    ∀ s, J s → ∃ (ys : List α) (s' : S), compL own tg test elt (xs.map v) s = some (.ok (ys.map f) s') ∧ J s' ∧ ys.Sublist xs
  | [], _, s, hs => ⟨[], s, rfl, hs, List.Sublist.refl _⟩
  | x :: xs, h, s, hs => by
    obtain ⟨b, s1, h1, h2⟩ := h x List.mem_cons_self s hs
    obtain ⟨ys, s2, h4, h5, h6⟩ := compL_sub J f xs (fun z hz => h z (List.mem_cons_of_mem _ hz)) s1 h2
    cases b with
    | true => exact ⟨x :: ys, s2, compL_turn h1 h4, h5, h6.cons_cons x⟩
    | false => exact ⟨ys, s2, compL_turn h1 h4, h5, h6.cons x⟩
theorem ev_lc_sub {α : Type} {K : Kn} {own : List Nat} {tg : Tg} {it : It} {ifs : Es} {e : E} {t : Bool} {s s1 : S} {v : α → Val} {xs : List α} (J : S → Prop) (f : α → Val) (hi : evi K it false s = some (.ok (xs.map v) s1)) (h0 : J s1)
    (hJ : ∀ s', J s' → wipe own s'.e = wipe own s1.e)
    (h : ∀ x ∈ xs, ∀ s, J s → ∃ (b : Bool) (s' : S), turnM tg (evt K ifs) (M.bind (ev K e true) asV) (v x) (wiped own s) = some (.ok (if b then some (f x) else none) s') ∧ J s') (hz : xs.length ≤ 16777216) :
    ∃ (ys : List α) (m : Mem), ev K (.lc own tg it ifs e) t s = some (.ok (.own (ys.map f)) { s1 with m := m }) ∧ (∃ e', J ⟨e', m⟩) ∧ ys.Sublist xs := by
  obtain ⟨ys, s2, h1, h2, h3⟩ := compL_sub (own := own) J f xs h s1 h0
  refine ⟨ys, s2.m, ?_, ⟨s2.e, h2⟩, h3⟩
  show noX (M.bind (evi K it false) (fun xs => M.bind (within own (compL own tg (evt K ifs) (M.bind (ev K e true) asV) xs)) fun ys => M.of (ownl ys))) s = _
  refine noX_ok ?_ (fun e s' z => nomatch z)
  rw [bind_ok hi]
  have hw : within own (compL own tg (evt K ifs) (M.bind (ev K e true) asV) (xs.map v)) s1 = some (.ok (ys.map f) { s1 with m := s2.m }) := by
    unfold within
    rw [h1]
    dsimp only
    rw [back_wiped (hJ s2 h2)]
  rw [bind_ok hw]
  unfold ownl
  have hl := h3.length_le
  rw [if_pos (by unfold fits szl; exact decide_eq_true (by rw [List.length_map]; omega))]
  rfl
/-- one clause with one name, cells changing: I of the cells -/
theorem lcm_sub {K : Kn} {j : Nat} {it : It} {ifs : Es} {e : E} {t : Bool} {en : List (Option SV)} {m m1 : Mem} (I : Mem → Prop) (n : Nat) (v f : Nat → Val) (hj : j < en.length) (hi : evi K it false ⟨en, m⟩ = some (.ok (arr n v) ⟨en, m1⟩)) (h0 : I m1)
    (h : ∀ i, i < n → ∀ m, I m → ∃ (b : Bool) (m' : Mem), (rb (evt K ifs ⟨en.set j (some (.val (v i))), m⟩) fun z => if z then M.bind (M.bind (ev K e true) asV) fun v => M.pure (some v) else M.pure none) = some (.ok (if b then some (f i) else none) ⟨en.set j (some (.val (v i))), m'⟩) ∧ I m') (hz : n ≤ 16777216) :
    ∃ (ys : List Nat) (m' : Mem), ev K (.lc [j] (.n j) it ifs e) t ⟨en, m⟩ = some (.ok (.own (ys.map f)) ⟨en, m'⟩) ∧ I m' ∧ ys.Sublist (List.range n) := by
  obtain ⟨ys, m', h1, ⟨e', h2⟩, h3⟩ := ev_lc_sub (K := K) (own := [j]) (tg := .n j) (it := it) (ifs := ifs) (e := e) (t := t) (s := ⟨en, m⟩) (s1 := ⟨en, m1⟩) (v := v) (xs := List.range n) (fun s => wipe [j] s.e = wipe [j] en ∧ I s.m) f hi ⟨rfl, h0⟩ (fun s' h => h.1)
    (by
      rintro i hi ⟨en', m'⟩ ⟨hw, hm⟩
      obtain ⟨b, m'', q1, q2⟩ := h i (List.mem_range.mp hi) m' hm
      refine ⟨b, ⟨en.set j (some (.val (v i))), m''⟩, ?_, by simp [wipe], q2⟩
      have e0 : asg (.n j) (v i) (wiped [j] ⟨en', m'⟩) = some (.ok () ⟨en.set j (some (.val (v i))), m'⟩) := by
        have hw : wipe [j] en' = wipe [j] en := hw
        unfold wiped
        rw [hw]
        simp [wipe, hj]
      rw [r_turnM, e0, rb_ok, r_bind]
      exact q1)
    (by simpa using hz)
  exact ⟨ys, m', h1, h2.2, h3⟩
/-- .. each turn yields an item -/
theorem lcm_all {K : Kn} {j : Nat} {it : It} {e : E} {t : Bool} {en : List (Option SV)} {m m1 : Mem} (I : Mem → Prop) (R : Val → Prop) (n : Nat) (v : Nat → Val) (hj : j < en.length) (hi : evi K it false ⟨en, m⟩ = some (.ok (arr n v) ⟨en, m1⟩)) (h0 : I m1)
    (h : ∀ i, i < n → ∀ m, I m → ∃ (y : Val) (m' : Mem), rb (ev K e true ⟨en.set j (some (.val (v i))), m⟩) asV = some (.ok y ⟨en.set j (some (.val (v i))), m'⟩) ∧ I m' ∧ R y) (hz : n ≤ 16777216) :
    ∃ (ys : List Val) (m' : Mem), ev K (.lc [j] (.n j) it .nil e) t ⟨en, m⟩ = some (.ok (.own ys) ⟨en, m'⟩) ∧ I m' ∧ (∀ y ∈ ys, R y) ∧ ys.length = n := by
  obtain ⟨ys, m', h1, ⟨e', h2⟩, h3, h4⟩ := ev_lc_ex (K := K) (own := [j]) (tg := .n j) (it := it) (ifs := .nil) (e := e) (t := t) (s := ⟨en, m⟩) (s1 := ⟨en, m1⟩) (v := v) (xs := List.range n) (fun s => wipe [j] s.e = wipe [j] en ∧ I s.m) R hi ⟨rfl, h0⟩ (fun s' h => h.1)
    (by
      rintro i hi ⟨en', m'⟩ ⟨hw, hm⟩
      obtain ⟨y, m'', q1, q2, q3⟩ := h i (List.mem_range.mp hi) m' hm
      refine ⟨y, ⟨en.set j (some (.val (v i))), m''⟩, ?_, ⟨by simp [wipe], q2⟩, q3⟩
      have e0 : asg (.n j) (v i) (wiped [j] ⟨en', m'⟩) = some (.ok () ⟨en.set j (some (.val (v i))), m'⟩) := by
        have hw : wipe [j] en' = wipe [j] en := hw
        unfold wiped
        rw [hw]
        simp [wipe, hj]
      rw [r_turnM, e0, rb_ok, r_bind, r_evt0, rb_ok, if_pos rfl, r_bind, r_bind, q1]
      rfl)
    (by simpa using hz)
  exact ⟨ys, m', h1, h2.2, h3, by rw [h4]; simp⟩
theorem ex0 {α : Type} {l : List α} (h : l.length = 0) : l = [] := List.eq_nil_of_length_eq_zero h
theorem exS {α : Type} {l : List α} {n : Nat} (h : l.length = n + 1) : ∃ a r, r.length = n ∧ l = a :: r := by
  match l, h with
  | a :: r, h => exact ⟨a, r, Nat.succ.inj h, rfl⟩
theorem ex1 {α : Type} {l : List α} (h : l.length = 1) : ∃ a0, l = [a0] := by
  obtain ⟨a, r, h2, rfl⟩ := exS h
  have := ex0 h2
  subst this
  exact ⟨a, rfl⟩
theorem ex2 {α : Type} {l : List α} (h : l.length = 2) : ∃ a0 a1, l = [a0, a1] := by
  obtain ⟨a, r, h2, rfl⟩ := exS h
  obtain ⟨a0, rfl⟩ := ex1 h2
  exact ⟨a, _, rfl⟩
theorem ex3 {α : Type} {l : List α} (h : l.length = 3) : ∃ a0 a1 a2, l = [a0, a1, a2] := by
  obtain ⟨a, r, h2, rfl⟩ := exS h
  obtain ⟨a0, a1, rfl⟩ := ex2 h2
  exact ⟨a, _, _, rfl⟩
theorem ex4 {α : Type} {l : List α} (h : l.length = 4) : ∃ a0 a1 a2 a3, l = [a0, a1, a2, a3] := by
  obtain ⟨a, r, h2, rfl⟩ := exS h
  obtain ⟨a0, a1, a2, rfl⟩ := ex3 h2
  exact ⟨a, _, _, _, rfl⟩
theorem ex5 {α : Type} {l : List α} (h : l.length = 5) : ∃ a0 a1 a2 a3 a4, l = [a0, a1, a2, a3, a4] := by
  obtain ⟨a, r, h2, rfl⟩ := exS h
  obtain ⟨a0, a1, a2, a3, rfl⟩ := ex4 h2
  exact ⟨a, _, _, _, _, rfl⟩
theorem ex6 {α : Type} {l : List α} (h : l.length = 6) : ∃ a0 a1 a2 a3 a4 a5, l = [a0, a1, a2, a3, a4, a5] := by
  obtain ⟨a, r, h2, rfl⟩ := exS h
  obtain ⟨a0, a1, a2, a3, a4, rfl⟩ := ex5 h2
  exact ⟨a, _, _, _, _, _, rfl⟩
theorem ex7 {α : Type} {l : List α} (h : l.length = 7) : ∃ a0 a1 a2 a3 a4 a5 a6, l = [a0, a1, a2, a3, a4, a5, a6] := by
  obtain ⟨a, r, h2, rfl⟩ := exS h
  obtain ⟨a0, a1, a2, a3, a4, a5, rfl⟩ := ex6 h2
  exact ⟨a, _, _, _, _, _, _, rfl⟩
theorem ex8 {α : Type} {l : List α} (h : l.length = 8) : ∃ a0 a1 a2 a3 a4 a5 a6 a7, l = [a0, a1, a2, a3, a4, a5, a6, a7] := by
  obtain ⟨a, r, h2, rfl⟩ := exS h
  obtain ⟨a0, a1, a2, a3, a4, a5, a6, rfl⟩ := ex7 h2
  exact ⟨a, _, _, _, _, _, _, _, rfl⟩
theorem ex9 {α : Type} {l : List α} (h : l.length = 9) : ∃ a0 a1 a2 a3 a4 a5 a6 a7 a8, l = [a0, a1, a2, a3, a4, a5, a6, a7, a8] := by
  obtain ⟨a, r, h2, rfl⟩ := exS h
  obtain ⟨a0, a1, a2, a3, a4, a5, a6, a7, rfl⟩ := ex8 h2
  exact ⟨a, _, _, _, _, _, _, _, _, rfl⟩
theorem ex10 {α : Type} {l : List α} (h : l.length = 10) : ∃ a0 a1 a2 a3 a4 a5 a6 a7 a8 a9, l = [a0, a1, a2, a3, a4, a5, a6, a7, a8, a9] := by
  obtain ⟨a, r, h2, rfl⟩ := exS h
  obtain ⟨a0, a1, a2, a3, a4, a5, a6, a7, a8, rfl⟩ := ex9 h2
  exact ⟨a, _, _, _, _, _, _, _, _, _, rfl⟩
theorem ex11 {α : Type} {l : List α} (h : l.length = 11) : ∃ a0 a1 a2 a3 a4 a5 a6 a7 a8 a9 a10, l = [a0, a1, a2, a3, a4, a5, a6, a7, a8, a9, a10] := by
  obtain ⟨a, r, h2, rfl⟩ := exS h
  obtain ⟨a0, a1, a2, a3, a4, a5, a6, a7, a8, a9, rfl⟩ := ex10 h2
  exact ⟨a, _, _, _, _, _, _, _, _, _, _, rfl⟩
theorem ex12 {α : Type} {l : List α} (h : l.length = 12) : ∃ a0 a1 a2 a3 a4 a5 a6 a7 a8 a9 a10 a11, l = [a0, a1, a2, a3, a4, a5, a6, a7, a8, a9, a10, a11] := by
  obtain ⟨a, r, h2, rfl⟩ := exS h
  obtain ⟨a0, a1, a2, a3, a4, a5, a6, a7, a8, a9, a10, rfl⟩ := ex11 h2
  exact ⟨a, _, _, _, _, _, _, _, _, _, _, _, rfl⟩
theorem ex13 {α : Type} {l : List α} (h : l.length = 13) : ∃ a0 a1 a2 a3 a4 a5 a6 a7 a8 a9 a10 a11 a12, l = [a0, a1, a2, a3, a4, a5, a6, a7, a8, a9, a10, a11, a12] := by
  obtain ⟨a, r, h2, rfl⟩ := exS h
  obtain ⟨a0, a1, a2, a3, a4, a5, a6, a7, a8, a9, a10, a11, rfl⟩ := ex12 h2
  exact ⟨a, _, _, _, _, _, _, _, _, _, _, _, _, rfl⟩
theorem ex14 {α : Type} {l : List α} (h : l.length = 14) : ∃ a0 a1 a2 a3 a4 a5 a6 a7 a8 a9 a10 a11 a12 a13, l = [a0, a1, a2, a3, a4, a5, a6, a7, a8, a9, a10, a11, a12, a13] := by
  obtain ⟨a, r, h2, rfl⟩ := exS h
  obtain ⟨a0, a1, a2, a3, a4, a5, a6, a7, a8, a9, a10, a11, a12, rfl⟩ := ex13 h2
  exact ⟨a, _, _, _, _, _, _, _, _, _, _, _, _, _, rfl⟩
theorem ex15 {α : Type} {l : List α} (h : l.length = 15) : ∃ a0 a1 a2 a3 a4 a5 a6 a7 a8 a9 a10 a11 a12 a13 a14, l = [a0, a1, a2, a3, a4, a5, a6, a7, a8, a9, a10, a11, a12, a13, a14] := by
  obtain ⟨a, r, h2, rfl⟩ := exS h
  obtain ⟨a0, a1, a2, a3, a4, a5, a6, a7, a8, a9, a10, a11, a12, a13, rfl⟩ := ex14 h2
  exact ⟨a, _, _, _, _, _, _, _, _, _, _, _, _, _, _, rfl⟩
theorem ex16 {α : Type} {l : List α} (h : l.length = 16) : ∃ a0 a1 a2 a3 a4 a5 a6 a7 a8 a9 a10 a11 a12 a13 a14 a15, l = [a0, a1, a2, a3, a4, a5, a6, a7, a8, a9, a10, a11, a12, a13, a14, a15] := by
  obtain ⟨a, r, h2, rfl⟩ := exS h
  obtain ⟨a0, a1, a2, a3, a4, a5, a6, a7, a8, a9, a10, a11, a12, a13, a14, rfl⟩ := ex15 h2
  exact ⟨a, _, _, _, _, _, _, _, _, _, _, _, _, _, _, _, rfl⟩
theorem ex17 {α : Type} {l : List α} (h : l.length = 17) : ∃ a0 a1 a2 a3 a4 a5 a6 a7 a8 a9 a10 a11 a12 a13 a14 a15 a16, l = [a0, a1, a2, a3, a4, a5, a6, a7, a8, a9, a10, a11, a12, a13, a14, a15, a16] := by
  obtain ⟨a, r, h2, rfl⟩ := exS h
  obtain ⟨a0, a1, a2, a3, a4, a5, a6, a7, a8, a9, a10, a11, a12, a13, a14, a15, rfl⟩ := ex16 h2
  exact ⟨a, _, _, _, _, _, _, _, _, _, _, _, _, _, _, _, _, rfl⟩
theorem ex18 {α : Type} {l : List α} (h : l.length = 18) : ∃ a0 a1 a2 a3 a4 a5 a6 a7 a8 a9 a10 a11 a12 a13 a14 a15 a16 a17, l = [a0, a1, a2, a3, a4, a5, a6, a7, a8, a9, a10, a11, a12, a13, a14, a15, a16, a17] := by
  obtain ⟨a, r, h2, rfl⟩ := exS h
  obtain ⟨a0, a1, a2, a3, a4, a5, a6, a7, a8, a9, a10, a11, a12, a13, a14, a15, a16, rfl⟩ := ex17 h2
  exact ⟨a, _, _, _, _, _, _, _, _, _, _, _, _, _, _, _, _, _, rfl⟩
theorem ex19 {α : Type} {l : List α} (h : l.length = 19) : ∃ a0 a1 a2 a3 a4 a5 a6 a7 a8 a9 a10 a11 a12 a13 a14 a15 a16 a17 a18, l = [a0, a1, a2, a3, a4, a5, a6, a7, a8, a9, a10, a11, a12, a13, a14, a15, a16, a17, a18] := by
  obtain ⟨a, r, h2, rfl⟩ := exS h
  obtain ⟨a0, a1, a2, a3, a4, a5, a6, a7, a8, a9, a10, a11, a12, a13, a14, a15, a16, a17, rfl⟩ := ex18 h2
  exact ⟨a, _, _, _, _, _, _, _, _, _, _, _, _, _, _, _, _, _, _, rfl⟩
theorem ex20 {α : Type} {l : List α} (h : l.length = 20) : ∃ a0 a1 a2 a3 a4 a5 a6 a7 a8 a9 a10 a11 a12 a13 a14 a15 a16 a17 a18 a19, l = [a0, a1, a2, a3, a4, a5, a6, a7, a8, a9, a10, a11, a12, a13, a14, a15, a16, a17, a18, a19] := by
  obtain ⟨a, r, h2, rfl⟩ := exS h
  obtain ⟨a0, a1, a2, a3, a4, a5, a6, a7, a8, a9, a10, a11, a12, a13, a14, a15, a16, a17, a18, rfl⟩ := ex19 h2
  exact ⟨a, _, _, _, _, _, _, _, _, _, _, _, _, _, _, _, _, _, _, _, rfl⟩
theorem ex21 {α : Type} {l : List α} (h : l.length = 21) : ∃ a0 a1 a2 a3 a4 a5 a6 a7 a8 a9 a10 a11 a12 a13 a14 a15 a16 a17 a18 a19 a20, l = [a0, a1, a2, a3, a4, a5, a6, a7, a8, a9, a10, a11, a12, a13, a14, a15, a16, a17, a18, a19, a20] := by
  obtain ⟨a, r, h2, rfl⟩ := exS h
  obtain ⟨a0, a1, a2, a3, a4, a5, a6, a7, a8, a9, a10, a11, a12, a13, a14, a15, a16, a17, a18, a19, rfl⟩ := ex20 h2
  exact ⟨a, _, _, _, _, _, _, _, _, _, _, _, _, _, _, _, _, _, _, _, _, rfl⟩
theorem ex22 {α : Type} {l : List α} (h : l.length = 22) : ∃ a0 a1 a2 a3 a4 a5 a6 a7 a8 a9 a10 a11 a12 a13 a14 a15 a16 a17 a18 a19 a20 a21, l = [a0, a1, a2, a3, a4, a5, a6, a7, a8, a9, a10, a11, a12, a13, a14, a15, a16, a17, a18, a19, a20, a21] := by
  obtain ⟨a, r, h2, rfl⟩ := exS h
  obtain ⟨a0, a1, a2, a3, a4, a5, a6, a7, a8, a9, a10, a11, a12, a13, a14, a15, a16, a17, a18, a19, a20, rfl⟩ := ex21 h2
  exact ⟨a, _, _, _, _, _, _, _, _, _, _, _, _, _, _, _, _, _, _, _, _, _, rfl⟩
theorem ex23 {α : Type} {l : List α} (h : l.length = 23) : ∃ a0 a1 a2 a3 a4 a5 a6 a7 a8 a9 a10 a11 a12 a13 a14 a15 a16 a17 a18 a19 a20 a21 a22, l = [a0, a1, a2, a3, a4, a5, a6, a7, a8, a9, a10, a11, a12, a13, a14, a15, a16, a17, a18, a19, a20, a21, a22] := by
  obtain ⟨a, r, h2, rfl⟩ := exS h
  obtain ⟨a0, a1, a2, a3, a4, a5, a6, a7, a8, a9, a10, a11, a12, a13, a14, a15, a16, a17, a18, a19, a20, a21, rfl⟩ := ex22 h2
  exact ⟨a, _, _, _, _, _, _, _, _, _, _, _, _, _, _, _, _, _, _, _, _, _, _, rfl⟩
theorem ex24 {α : Type} {l : List α} (h : l.length = 24) : ∃ a0 a1 a2 a3 a4 a5 a6 a7 a8 a9 a10 a11 a12 a13 a14 a15 a16 a17 a18 a19 a20 a21 a22 a23, l = [a0, a1, a2, a3, a4, a5, a6, a7, a8, a9, a10, a11, a12, a13, a14, a15, a16, a17, a18, a19, a20, a21, a22, a23] := by
  obtain ⟨a, r, h2, rfl⟩ := exS h
  obtain ⟨a0, a1, a2, a3, a4, a5, a6, a7, a8, a9, a10, a11, a12, a13, a14, a15, a16, a17, a18, a19, a20, a21, a22, rfl⟩ := ex23 h2
  exact ⟨a, _, _, _, _, _, _, _, _, _, _, _, _, _, _, _, _, _, _, _, _, _, _, _, rfl⟩
theorem ex25 {α : Type} {l : List α} (h : l.length = 25) : ∃ a0 a1 a2 a3 a4 a5 a6 a7 a8 a9 a10 a11 a12 a13 a14 a15 a16 a17 a18 a19 a20 a21 a22 a23 a24, l = [a0, a1, a2, a3, a4, a5, a6, a7, a8, a9, a10, a11, a12, a13, a14, a15, a16, a17, a18, a19, a20, a21, a22, a23, a24] := by
  obtain ⟨a, r, h2, rfl⟩ := exS h
  obtain ⟨a0, a1, a2, a3, a4, a5, a6, a7, a8, a9, a10, a11, a12, a13, a14, a15, a16, a17, a18, a19, a20, a21, a22, a23, rfl⟩ := ex24 h2
  exact ⟨a, _, _, _, _, _, _, _, _, _, _, _, _, _, _, _, _, _, _, _, _, _, _, _, _, rfl⟩
theorem ex26 {α : Type} {l : List α} (h : l.length = 26) : ∃ a0 a1 a2 a3 a4 a5 a6 a7 a8 a9 a10 a11 a12 a13 a14 a15 a16 a17 a18 a19 a20 a21 a22 a23 a24 a25, l = [a0, a1, a2, a3, a4, a5, a6, a7, a8, a9, a10, a11, a12, a13, a14, a15, a16, a17, a18, a19, a20, a21, a22, a23, a24, a25] := by
  obtain ⟨a, r, h2, rfl⟩ := exS h
  obtain ⟨a0, a1, a2, a3, a4, a5, a6, a7, a8, a9, a10, a11, a12, a13, a14, a15, a16, a17, a18, a19, a20, a21, a22, a23, a24, rfl⟩ := ex25 h2
  exact ⟨a, _, _, _, _, _, _, _, _, _, _, _, _, _, _, _, _, _, _, _, _, _, _, _, _, _, rfl⟩
theorem ex27 {α : Type} {l : List α} (h : l.length = 27) : ∃ a0 a1 a2 a3 a4 a5 a6 a7 a8 a9 a10 a11 a12 a13 a14 a15 a16 a17 a18 a19 a20 a21 a22 a23 a24 a25 a26, l = [a0, a1, a2, a3, a4, a5, a6, a7, a8, a9, a10, a11, a12, a13, a14, a15, a16, a17, a18, a19, a20, a21, a22, a23, a24, a25, a26] := by
  obtain ⟨a, r, h2, rfl⟩ := exS h
  obtain ⟨a0, a1, a2, a3, a4, a5, a6, a7, a8, a9, a10, a11, a12, a13, a14, a15, a16, a17, a18, a19, a20, a21, a22, a23, a24, a25, rfl⟩ := ex26 h2
  exact ⟨a, _, _, _, _, _, _, _, _, _, _, _, _, _, _, _, _, _, _, _, _, _, _, _, _, _, _, rfl⟩
theorem ex28 {α : Type} {l : List α} (h : l.length = 28) : ∃ a0 a1 a2 a3 a4 a5 a6 a7 a8 a9 a10 a11 a12 a13 a14 a15 a16 a17 a18 a19 a20 a21 a22 a23 a24 a25 a26 a27, l = [a0, a1, a2, a3, a4, a5, a6, a7, a8, a9, a10, a11, a12, a13, a14, a15, a16, a17, a18, a19, a20, a21, a22, a23, a24, a25, a26, a27] := by
  obtain ⟨a, r, h2, rfl⟩ := exS h
  obtain ⟨a0, a1, a2, a3, a4, a5, a6, a7, a8, a9, a10, a11, a12, a13, a14, a15, a16, a17, a18, a19, a20, a21, a22, a23, a24, a25, a26, rfl⟩ := ex27 h2
  exact ⟨a, _, _, _, _, _, _, _, _, _, _, _, _, _, _, _, _, _, _, _, _, _, _, _, _, _, _, _, rfl⟩
theorem ex29 {α : Type} {l : List α} (h : l.length = 29) : ∃ a0 a1 a2 a3 a4 a5 a6 a7 a8 a9 a10 a11 a12 a13 a14 a15 a16 a17 a18 a19 a20 a21 a22 a23 a24 a25 a26 a27 a28, l = [a0, a1, a2, a3, a4, a5, a6, a7, a8, a9, a10, a11, a12, a13, a14, a15, a16, a17, a18, a19, a20, a21, a22, a23, a24, a25, a26, a27, a28] := by
  obtain ⟨a, r, h2, rfl⟩ := exS h
  obtain ⟨a0, a1, a2, a3, a4, a5, a6, a7, a8, a9, a10, a11, a12, a13, a14, a15, a16, a17, a18, a19, a20, a21, a22, a23, a24, a25, a26, a27, rfl⟩ := ex28 h2
  exact ⟨a, _, _, _, _, _, _, _, _, _, _, _, _, _, _, _, _, _, _, _, _, _, _, _, _, _, _, _, _, rfl⟩
theorem ex30 {α : Type} {l : List α} (h : l.length = 30) : ∃ a0 a1 a2 a3 a4 a5 a6 a7 a8 a9 a10 a11 a12 a13 a14 a15 a16 a17 a18 a19 a20 a21 a22 a23 a24 a25 a26 a27 a28 a29, l = [a0, a1, a2, a3, a4, a5, a6, a7, a8, a9, a10, a11, a12, a13, a14, a15, a16, a17, a18, a19, a20, a21, a22, a23, a24, a25, a26, a27, a28, a29] := by
  obtain ⟨a, r, h2, rfl⟩ := exS h
  obtain ⟨a0, a1, a2, a3, a4, a5, a6, a7, a8, a9, a10, a11, a12, a13, a14, a15, a16, a17, a18, a19, a20, a21, a22, a23, a24, a25, a26, a27, a28, rfl⟩ := ex29 h2
  exact ⟨a, _, _, _, _, _, _, _, _, _, _, _, _, _, _, _, _, _, _, _, _, _, _, _, _, _, _, _, _, _, rfl⟩
theorem ex31 {α : Type} {l : List α} (h : l.length = 31) : ∃ a0 a1 a2 a3 a4 a5 a6 a7 a8 a9 a10 a11 a12 a13 a14 a15 a16 a17 a18 a19 a20 a21 a22 a23 a24 a25 a26 a27 a28 a29 a30, l = [a0, a1, a2, a3, a4, a5, a6, a7, a8, a9, a10, a11, a12, a13, a14, a15, a16, a17, a18, a19, a20, a21, a22, a23, a24, a25, a26, a27, a28, a29, a30] := by
  obtain ⟨a, r, h2, rfl⟩ := exS h
  obtain ⟨a0, a1, a2, a3, a4, a5, a6, a7, a8, a9, a10, a11, a12, a13, a14, a15, a16, a17, a18, a19, a20, a21, a22, a23, a24, a25, a26, a27, a28, a29, rfl⟩ := ex30 h2
  exact ⟨a, _, _, _, _, _, _, _, _, _, _, _, _, _, _, _, _, _, _, _, _, _, _, _, _, _, _, _, _, _, _, rfl⟩
theorem ex32 {α : Type} {l : List α} (h : l.length = 32) : ∃ a0 a1 a2 a3 a4 a5 a6 a7 a8 a9 a10 a11 a12 a13 a14 a15 a16 a17 a18 a19 a20 a21 a22 a23 a24 a25 a26 a27 a28 a29 a30 a31, l = [a0, a1, a2, a3, a4, a5, a6, a7, a8, a9, a10, a11, a12, a13, a14, a15, a16, a17, a18, a19, a20, a21, a22, a23, a24, a25, a26, a27, a28, a29, a30, a31] := by
  obtain ⟨a, r, h2, rfl⟩ := exS h
  obtain ⟨a0, a1, a2, a3, a4, a5, a6, a7, a8, a9, a10, a11, a12, a13, a14, a15, a16, a17, a18, a19, a20, a21, a22, a23, a24, a25, a26, a27, a28, a29, a30, rfl⟩ := ex31 h2
  exact ⟨a, _, _, _, _, _, _, _, _, _, _, _, _, _, _, _, _, _, _, _, _, _, _, _, _, _, _, _, _, _, _, _, rfl⟩
end Py.Q
end

section
set_option autoImplicit false
set_option linter.all false
set_option Elab.async false
set_option maxRecDepth 100000
set_option maxHeartbeats 4000000
set_option exponentiation.threshold 5000
/-! Levels; what is refused; the law's bends. -/
namespace Py.Q
theorem check_draw_ex (k : Nat) (v : Val) (m : Mem) (h : isDr v = false) : callK Pp (k + 3) 4 [v] m = some (.ex ⟨0, none⟩ m) := by
  rw [call_eq rfl rfl]
  simp [d_check_draw, frame, h]
section
variable {xs : List Int} {q : Rat}
theorem value_at_ok (k : Nat) (m : Mem) (hx : DrOk 30 1000000 xs) (hq : Qb 100 q) (h : pLv q = true) : callK Pp (k + 4) 329 [vI xs, vq q] m = some (.ok (.val (.int (lvN xs q))) m) := by
  have c0 := check_draw_ok k (vI xs) m (isDr_ok hx (by decide) (by decide))
  have c1 := is_level_any k (vq q) m
  rw [ratB_vq, h] at c1
  have c2 := number_at_ok (k + 1) m hx hq
  rw [call_eq rfl rfl]
  simp [d_value_at, frame, c0, c1, c2]
end
theorem value_at_ex (k : Nat) (a b : Val) (m : Mem) (h : isDr a = false ∨ ratB pLv b = false) : callK Pp (k + 4) 329 [a, b] m = some (.ex ⟨0, none⟩ m) := by
  cases ha : isDr a with
  | false =>
    have c0 := check_draw_ex k a m ha
    rw [call_eq rfl rfl]
    simp [d_value_at, frame, c0]
  | true =>
    have c0 := check_draw_ok k a m ha
    have hb : ratB pLv b = false := h.resolve_left (by rw [ha]; decide)
    have c1 := is_level_any k b m
    rw [hb] at c1
    rw [call_eq rfl rfl]
    simp [d_value_at, frame, c0, c1]
theorem tail_mean_ex (k : Nat) (a b : Val) (m : Mem) (h : isDr a = false ∨ ratB pPa b = false) : callK Pp (k + 4) 331 [a, b] m = some (.ex ⟨0, none⟩ m) := by
  cases ha : isDr a with
  | false =>
    have c0 := check_draw_ex k a m ha
    rw [call_eq rfl rfl]
    simp [d_tail_mean, frame, c0]
  | true =>
    have c0 := check_draw_ok k a m ha
    have hb : ratB pPa b = false := h.resolve_left (by rw [ha]; decide)
    have c1 := is_part_any k b m
    rw [hb] at c1
    rw [call_eq rfl rfl]
    simp [d_tail_mean, frame, c0, c1]
theorem premium_ex2 (k : Nat) (a b : Val) (m : Mem) (h : isDr a = false) : callK Pp (k + 4) 338 [a, b] m = some (.ex ⟨0, none⟩ m) := by
  have c0 := check_draw_ex k a m h
  rw [call_eq rfl rfl]
  simp [d_premium, frame, c0]
section
variable {j n : Nat} {P : Nat → Rat × Rat} {q : Rat}
theorem bend_at_ok (k : Nat) (m : Mem) (hj : j ≤ 100) (hB : BnOk j n P) (hq : Qb 100 q) (h : p01 q = true) : callK Pp (k + 6) 336 [vBn n P, vq q] m = some (.ok (.val (vq (hgt n P q))) m) := by
  have ln := hB.len
  have c1 := check_bend_ok k (vBn n P) m (hB.sm hj) hB.is
  have c2 := is_ratio_any (k + 3) (vq q) m
  rw [isRat_vq] at c2
  have c3 := height_q (k + 1) n j 100 P q m (by omega) hj (by omega) hB.pb hB.up hq
  rw [p01, ← num_nn, ← num_le1] at h
  simp at h
  rw [call_eq rfl rfl]
  simp [d_bend_at, frame, c1, c2, c3, g_num, g_den, h.1, h.2]
theorem bend_at_ex (k : Nat) (b : Val) (m : Mem) (hj : j ≤ 100) (hB : BnOk j n P) (h : ratB p01 b = false) : callK Pp (k + 6) 336 [vBn n P, b] m = some (.ex ⟨0, none⟩ m) := by
  have c1 := check_bend_ok k (vBn n P) m (hB.sm hj) hB.is
  have c2 := is_ratio_any (k + 3) b m
  rw [call_eq rfl rfl]
  rcases rat_cases b with hb | ⟨q, rfl⟩
  · simp [d_bend_at, frame, c1, c2, hb]
  · rw [ratB_vq, p01, ← num_nn, ← num_le1] at h
    rw [isRat_vq] at c2
    by_cases h1 : 0 ≤ q.num
    · simp [h1] at h
      have h2 : ¬ q.num ≤ q.den := by omega
      simp [d_bend_at, frame, c1, c2, g_num, g_den, h1, h2]
    · simp [d_bend_at, frame, c1, c2, g_num, g_den, h1]
end
/-! ### what the law is told -/
abbrev w_mal : Str := PySem.Str.ofString "malformed"
section
variable (k : Nat) {a b : Val} {m : Mem} {v : Val}
theorem t13_0 (h : callK Pp (k + 6) 329 [a, b] m = some (.ok (.val v) m)) : callK Pp (k + 7) 461 [.int 0, a, b] m = some (.ok (.val v) m) := by
  rw [call_eq rfl rfl]
  simp [d_law_told_13, frame, h]
theorem t13_1 (h : callK Pp (k + 6) 331 [a, b] m = some (.ok (.val v) m)) : callK Pp (k + 7) 461 [.int 1, a, b] m = some (.ok (.val v) m) := by
  rw [call_eq rfl rfl]
  simp [d_law_told_13, frame, h]
theorem t13_2 (h : callK Pp (k + 6) 338 [a, b] m = some (.ok (.val v) m)) : callK Pp (k + 7) 461 [.int 2, a, b] m = some (.ok (.val v) m) := by
  rw [call_eq rfl rfl]
  simp [d_law_told_13, frame, h]
theorem t13_3 (h : callK Pp (k + 6) 336 [a, b] m = some (.ok (.val v) m)) : callK Pp (k + 7) 461 [.int 3, a, b] m = some (.ok (.val v) m) := by
  rw [call_eq rfl rfl]
  simp [d_law_told_13, frame, h]
theorem e13_0 (h : callK Pp (k + 6) 329 [a, b] m = some (.ex ⟨0, none⟩ m)) : callK Pp (k + 7) 461 [.int 0, a, b] m = some (.ok (.val (.str w_mal)) m) := by
  rw [call_eq rfl rfl]
  simp [d_law_told_13, frame, h]
theorem e13_1 (h : callK Pp (k + 6) 331 [a, b] m = some (.ex ⟨0, none⟩ m)) : callK Pp (k + 7) 461 [.int 1, a, b] m = some (.ok (.val (.str w_mal)) m) := by
  rw [call_eq rfl rfl]
  simp [d_law_told_13, frame, h]
theorem e13_2 (h : callK Pp (k + 6) 338 [a, b] m = some (.ex ⟨0, none⟩ m)) : callK Pp (k + 7) 461 [.int 2, a, b] m = some (.ok (.val (.str w_mal)) m) := by
  rw [call_eq rfl rfl]
  simp [d_law_told_13, frame, h]
theorem e13_3 (h : callK Pp (k + 6) 336 [a, b] m = some (.ex ⟨0, none⟩ m)) : callK Pp (k + 7) 461 [.int 3, a, b] m = some (.ok (.val (.str w_mal)) m) := by
  rw [call_eq rfl rfl]
  simp [d_law_told_13, frame, h]
end
/-! ### a bend is drawn -/
/-- points from (0, 0) on, up to place pl and height h -/
structure PtsOk (B T : Int) (pl h : Int) (l : List (Rat × Rat)) : Prop where
  ne : 1 ≤ l.length
  zero : gD l (0, 0) 0 = (0, 0)
  last : gD l (0, 0) (l.length - 1) = (Rat.divInt pl B, Rat.divInt h T)
  up : ∀ i, i + 1 < l.length → (gD l (0, 0) i).1 < (gD l (0, 0) (i + 1)).1 ∧ (gD l (0, 0) i).2 ≤ (gD l (0, 0) (i + 1)).2
  pt : ∀ i, i < l.length → isPt (vPt (gD l (0, 0) i)) = true ∧ Pb 3 (gD l (0, 0) i)
theorem divInt_01 {n d : Int} (h0 : 0 ≤ n) (h1 : n ≤ d) (hd : 0 < d) : p01 (Rat.divInt n d) = true := by
  unfold p01
  have dp : (0 : Rat) < (d : Rat) := by exact_mod_cast hd
  have a : 0 ≤ Rat.divInt n d := divInt_nn hd h0
  have b : Rat.divInt n d ≤ 1 := by
    rw [← Rat.not_lt, ← Rat.divInt_self' (n := d) (by omega), divInt_lt hd]
    omega
  simp [a, b]
theorem divInt_le {a b D : Int} (h : 0 < D) : Rat.divInt a D ≤ Rat.divInt b D ↔ a ≤ b := by
  rw [← Rat.not_lt, divInt_lt h]
  omega
theorem PtsOk.snoc {B T pl h : Int} {l : List (Rat × Rat)} (H : PtsOk B T pl h l) (hB : 0 < B) (hB8 : B ≤ 8) (hT : 0 < T) (hT8 : T ≤ 8) {pl' h' : Int} (h0 : 0 ≤ pl) (h1 : pl < pl') (h2 : pl' ≤ B) (h3 : 0 ≤ h) (h4 : h ≤ h') (h5 : h' ≤ T) :
    PtsOk B T pl' h' (l ++ [(Rat.divInt pl' B, Rat.divInt h' T)]) := by
  have hl : (l ++ [(Rat.divInt pl' B, Rat.divInt h' T)]).length = l.length + 1 := by simp
  have hn : gD (l ++ [(Rat.divInt pl' B, Rat.divInt h' T)]) (0, 0) l.length = (Rat.divInt pl' B, Rat.divInt h' T) := gD_snoc
  have ne := H.ne
  refine ⟨by omega, ?_, by rw [hl]; exact hn, ?_, ?_⟩
  · rw [gD_left (by omega)]; exact H.zero
  · intro i hi
    rw [hl] at hi
    by_cases e : i + 1 < l.length
    · rw [gD_left (by omega), gD_left e]; exact H.up i e
    · have e : i + 1 = l.length := by omega
      rw [gD_left (by omega), e, hn, show i = l.length - 1 by omega, H.last]
      exact ⟨(divInt_lt hB).mpr h1, (divInt_le hT).mpr h4⟩
  · intro i hi
    rw [hl] at hi
    by_cases e : i < l.length
    · rw [gD_left e]; exact H.pt i e
    · have e : i = l.length := by omega
      rw [e, hn, isPt_vPt, divInt_01 (by omega) h2 hB, divInt_01 (by omega) h5 hT]
      exact ⟨rfl, divInt_bd hB (by omega) (by omega), divInt_bd hT (by omega) (by omega)⟩
theorem PtsOk.bend {B T pl h : Int} {l : List (Rat × Rat)} (H : PtsOk B T pl h l) (hB : 0 < B) (hT : 0 < T) (h1 : pl < B) (h5 : h ≤ T) (hl : l.length ≤ 10) : BnOk 3 (l.length + 1) (gD (l ++ [(1, 1)]) (0, 0)) := by
  have ne := H.ne
  have hn : gD (l ++ [((1, 1) : Rat × Rat)]) (0, 0) l.length = (1, 1) := gD_snoc
  refine ⟨by omega, by omega, ?_, ?_, ?_⟩
  · intro i hi
    by_cases e : i < l.length
    · rw [gD_left e]; exact (H.pt i e).1
    · rw [show i = l.length by omega, hn]; rfl
  · intro i hi
    by_cases e : i < l.length
    · rw [gD_left e]; exact (H.pt i e).2
    · rw [show i = l.length by omega, hn]; exact ⟨one_qb, one_qb⟩
  · unfold bendB
    rw [Bool.and_eq_true, Bool.and_eq_true, arr_all, decide_eq_true_eq, decide_eq_true_eq]
    refine ⟨by rw [gD_left (by omega)]; exact H.zero, by rw [Nat.add_sub_cancel]; exact hn, fun i hi => ?_⟩
    rw [Bool.and_eq_true, decide_eq_true_eq, Bool.not_eq_true', decide_eq_false_iff_not, Rat.not_lt]
    by_cases e : i + 1 < l.length
    · rw [gD_left (by omega), gD_left e]; exact H.up i e
    · have e : i + 1 = l.length := by omega
      rw [gD_left (by omega), e, hn, show i = l.length - 1 by omega, H.last]
      have l1 : Rat.divInt pl B < 1 := by rw [← Rat.divInt_self' (n := B) (by omega), divInt_lt hB]; exact h1
      have l2 : Rat.divInt h T ≤ 1 := by rw [← Rat.divInt_self' (n := T) (by omega), divInt_le hT]; exact h5
      exact ⟨l1, l2⟩
theorem law_bend_loop (k : Nat) (o0 o1 o3 o8 : Option SV) (B T : Int) (r : Mem) (hB : 0 < B) (hB8 : B ≤ 8) (hT : 0 < T) (hT8 : T ≤ 8) (h0 : o0 = V (.loc 0)) :
    ∀ (L : List Nat) (pl h : Int) (l : List (Rat × Rat)) (m : Mem) (o7 : Option SV), PtsOk B T pl h l → 0 ≤ pl → pl < B → 0 ≤ h → h ≤ T → l.length + L.length ≤ 8 → (∀ x ∈ L, pl < 1 + (x : Int) ∧ 1 + (x : Int) < B) → L.Pairwise (· < ·) → DOk m r →
      ∃ pl' h' l' m' o7', PtsOk B T pl' h' l' ∧ pl' < B ∧ h' ≤ T ∧ l'.length ≤ 8 ∧ DOk m' r ∧ forM (.n 7) (exs (callK Pp (k + 1)) b_law_bend_1) (L.map fun x : Nat => Val.int (1 + (x : Int))) ⟨[o0, o1, V (.int B), o3, V (.int T), some (.own (l.map vPt)), V (.int h), o7, o8], m⟩ = some (.ok .nx ⟨[o0, o1, V (.int B), o3, V (.int T), some (.own (l'.map vPt)), V (.int h'), o7', o8], m'⟩)
  | [], pl, h, l, m, o7, H, g0, g1, g2, g3, g4, _, _, hm => ⟨pl, h, l, m, o7, H, g1, g3, by simp at g4; omega, hm, rfl⟩
  | x :: L, pl, h, l, m, o7, H, g0, g1, g2, g3, g4, g5, g6, hm => by
    subst h0
    rw [List.pairwise_cons] at g6
    have gx := g5 x (List.mem_cons_self ..)
    rw [List.length_cons] at g4
    obtain ⟨a, m1, a0, a1, hm1, e1⟩ := take_ok k (T - h + 1) hm (by omega) (by omega)
    have f1 := frac_q k (1 + (x : Int)) B m1 hB (sm_lit (by omega))
    have f2 := frac_q k (h + a) T m1 hT (sm_lit (by omega))
    have lt : l.length < szl := by unfold szl; omega
    have H2 := H.snoc hB hB8 hT hT8 g0 gx.1 (by omega) g2 (show h ≤ h + a by omega) (by omega)
    obtain ⟨pl', h', l', m', o7', q1, q2, q3, q4, q5, q6⟩ := law_bend_loop k (V (.loc 0)) o1 o3 o8 B T r hB hB8 hT hT8 rfl L (1 + (x : Int)) (h + a) _ m1 (V (.int (1 + (x : Int)))) H2 (by omega) gx.2 (by omega) (by omega) (by rw [List.length_append]; show l.length + 1 + L.length ≤ 8; omega) (fun y hy => ⟨by have := g6.1 y hy; omega, (g5 y (List.mem_cons_of_mem _ hy)).2⟩) g6.2 hm1
    refine ⟨pl', h', l', m', o7', q1, q2, q3, q4, q5, ?_⟩
    rw [List.map_cons, forM_step (s1 := ⟨[V (.loc 0), o1, V (.int B), o3, V (.int T), some (.own (l.map vPt)), V (.int h), V (.int (1 + (x : Int))), o8], m⟩) rfl (s2 := ⟨[V (.loc 0), o1, V (.int B), o3, V (.int T), some (.own ((l ++ [(Rat.divInt (1 + (x : Int)) B, Rat.divInt (h + a) T)]).map vPt)), V (.int (h + a)), V (.int (1 + (x : Int))), o8], m1⟩) (by
      simp [b_law_bend_1, e1, f1, f2, lt, vPt])]
    exact q6
theorem law_bend_ok (k : Nat) {m r : Mem} (hm : DOk m r) : ∃ n P m', BnOk 3 n P ∧ DOk m' r ∧ callK Pp (k + 2) 339 [.loc 0] m = some (.ok (.val (vBn n P)) m') := by
  obtain ⟨a, m1, a0, a1, hm1, e1⟩ := take_ok k 4 hm (by decide) (by decide)
  obtain ⟨b, m2, b0, b1, hm2, e2⟩ := take_ok k 5 hm1 (by decide) (by decide)
  have r1 : rOk (4 + b) = true := by unfold rOk; exact decide_eq_true (by omega)
  obtain ⟨ys, m3, e3, hm3, sub⟩ := lcm_sub (K := callK Pp (k + 1)) (j := 8) (it := .range2 (.c (.int 1)) (.s 2)) (ifs := .cons (.cmp (.call 17 (.cons (.s 0) (.cons (.s 2) .nil))) (.one .lt (.bin .add (.c (.int 2)) (.s 1)))) .nil) (e := .s 8) (t := true)
    (en := [V (.loc 0), V (.int a), V (.int (4 + b)), none, none, none, none, none, none]) (m := m2) (m1 := m2) (fun m => DOk m r) ((4 + b).toNat - 1) (fun i : Nat => .int (1 + (i : Int))) (fun i : Nat => .int (1 + (i : Int))) (by simp)
    (by
      simp [r1, show rOk 1 = true by decide]) hm2
    (by
      intro i hi m hm
      obtain ⟨c, m', c0, c1, hm', e⟩ := take_ok k (4 + b) hm (by omega) (by omega)
      by_cases h : c < 2 + a
      · exact ⟨true, m', by simp [e, h], hm'⟩
      · exact ⟨false, m', by simp [e, h], hm'⟩) (by omega)
  have e3 : ev (callK Pp (k + 1)) c_law_bend_1 true ⟨[V (.loc 0), V (.int a), V (.int (4 + b)), none, none, none, none, none, none], m2⟩ = _ := e3
  have e3f : ∀ t, ev (callK Pp (k + 1)) c_law_bend_1 t ⟨[V (.loc 0), V (.int a), V (.int (4 + b)), none, none, none, none, none, none], m2⟩ = some (.ok (.own (ys.map fun i : Nat => .int (1 + (i : Int)))) ⟨[V (.loc 0), V (.int a), V (.int (4 + b)), none, none, none, none, none, none], m3⟩) := fun t => by cases t <;> exact e3
  obtain ⟨c, m4, c0, c1, hm4, e4⟩ := take_ok k 6 hm3 (by decide) (by decide)
  have ct : cut (ys.map fun i : Nat => Val.int (1 + (i : Int))) none (some 4) = (ys.take 4).map fun i : Nat => Val.int (1 + (i : Int)) := by
    show ((ys.map fun i : Nat => Val.int (1 + (i : Int))).drop 0).take (min 4 (ys.map fun i : Nat => Val.int (1 + (i : Int))).length - 0) = _
    simp
    try rw [List.take_eq_take_iff]
    try simp
  have H0 : PtsOk (4 + b) (3 + c) 0 0 [(0, 0)] := by
    refine ⟨by decide, rfl, ?_, fun i hi => by simp at hi, fun i hi => ?_⟩
    · show ((0, 0) : Rat × Rat) = _
      rw [Rat.zero_divInt, Rat.zero_divInt]
    · have : i = 0 := by simp at hi; omega
      subst this
      exact ⟨rfl, zero_qb, zero_qb⟩
  have sub2 : (ys.take 4).Sublist (List.range ((4 + b).toNat - 1)) := (List.take_sublist 4 ys).trans sub
  have l4 : (ys.take 4).length ≤ 4 := by rw [List.length_take]; omega
  obtain ⟨pl, h, l, m5, o7, q1, q2, q3, q4, q5, q6⟩ := law_bend_loop k (V (.loc 0)) (V (.int a)) (V (.lst ((ys.take 4).map fun i : Nat => Val.int (1 + (i : Int))))) none (4 + b) (3 + c) r (by omega) (by omega) (by omega) (by omega) rfl (ys.take 4) 0 0 [(0, 0)] m4 none H0 (by omega) (by omega) (by omega) (by omega) (by show 1 + (ys.take 4).length ≤ 8; omega)
    (fun x hx => ⟨by omega, by have := List.mem_range.mp (sub2.subset hx); omega⟩) (List.Pairwise.sublist sub2 List.pairwise_lt_range) hm4
  refine ⟨l.length + 1, gD (l ++ [(1, 1)]) (0, 0), m5, q1.bend (by omega) (by omega) q2 q3 (by omega), q5, ?_⟩
  have ez : l.length + 1 ≤ 16777216 := by omega
  have ev' : vBn (l.length + 1) (gD (l ++ [((1, 1) : Rat × Rat)]) (0, 0)) = .tup (l.map vPt ++ [.tup [.tup [.int 1, .int 1], .tup [.int 1, .int 1]]]) := by
    unfold vBn
    have e := map_arr (l ++ [((1, 1) : Rat × Rat)]) (0, 0) vPt
    rw [List.length_append] at e
    have e : (l ++ [((1, 1) : Rat × Rat)]).map vPt = arr (l.length + 1) fun i => vPt (gD (l ++ [((1, 1) : Rat × Rat)]) (0, 0) i) := e
    rw [← e, List.map_append]
    rfl
  have tl := hm.tl q5
  have q6 : forM (.n 7) (exs (callK Pp (k + 1)) b_law_bend_1) ((ys.take 4).map fun x : Nat => Val.int (1 + (x : Int))) ⟨[V (.loc 0), V (.int a), V (.int (4 + b)), V (.lst ((ys.take 4).map fun i : Nat => Val.int (1 + (i : Int)))), V (.int (3 + c)), some (.own [.tup [.tup [.int 0, .int 1], .tup [.int 0, .int 1]]]), V (.int 0), none, none], m4⟩ = some (.ok .nx ⟨[V (.loc 0), V (.int a), V (.int (4 + b)), V (.lst ((ys.take 4).map fun i : Nat => Val.int (1 + (i : Int)))), V (.int (3 + c)), some (.own (l.map vPt)), V (.int h), o7, none], m5⟩) := q6
  rw [call_eq rfl rfl, ev']
  simp only [List.map_take] at q6 ct
  simp [d_law_bend, frame, e1, e2, e3f, e4, ct, q6, ez, tl]
end Py.Q
end

section
set_option autoImplicit false
set_option linter.all false
set_option Elab.async false
set_option maxRecDepth 100000
set_option maxHeartbeats 4000000
set_option exponentiation.threshold 5000
/-! The law of prices: values that are asked. -/
namespace Py.Q
theorem cut_mem {xs : List Val} {l h : Option Int} {x : Val} (hx : x ∈ cut xs l h) : x ∈ xs := List.mem_of_mem_drop (List.mem_of_mem_take hx)
theorem cut_len {xs : List Val} {l h : Option Int} : (cut xs l h).length ≤ xs.length := by
  unfold cut
  rw [List.length_take, List.length_drop]
  omega
theorem smB_tup {xs : List Val} (h : ∀ x ∈ xs, smP x) : smB (.tup xs) := fun ys e x hx => by
  injection e with e
  subst e
  exact h x hx
theorem smV_tup {n d : Int} (h : n.natAbs ≤ 2 ^ 100 ∧ d.natAbs ≤ 2 ^ 100) : smV (.tup [.int n, .int d]) := fun n' d' e => by
  injection e with e
  injection e with e1 e2
  injection e1 with e1
  injection e2 with e2
  injection e2 with e2
  subst e1 e2
  exact h
def odd5 : List Val := [.tup [.int 1, .int 2], .tup [.int 0, .int 1], .tup [.int 3, .int 2], .tup [.int 2, .int 4], .non]
theorem odd5_sm : ∀ w ∈ odd5, smV w := by
  intro w hw
  simp only [odd5, List.mem_cons, List.not_mem_nil, or_false] at hw
  rcases hw with rfl | rfl | rfl | rfl | rfl
  · exact smV_tup (by decide)
  · exact smV_tup (by decide)
  · exact smV_tup (by decide)
  · exact smV_tup (by decide)
  · intro n d e; cases e
def wrong6 : List Val := [.non, .tup [.int 2, .int 4], .tup [.int (-1), .int 2], .tup [.int 3, .int 2], .tup [.bl true, .int 1], .int 1]
theorem wrong6_no : ∀ w ∈ wrong6, ratB pLv w = false ∧ ratB pPa w = false ∧ ratB p01 w = false := by
  intro w hw
  simp only [wrong6, List.mem_cons, List.not_mem_nil, or_false] at hw
  have v1 : Val.tup [.int (-1), .int 2] = vq (Rat.divInt (-1) 2) := by
    unfold vq
    rw [show (Rat.divInt (-1) 2).num = -1 by decide +kernel, show (Rat.divInt (-1) 2).den = 2 by decide +kernel]
    rfl
  have v2 : Val.tup [.int 3, .int 2] = vq (Rat.divInt 3 2) := by
    unfold vq
    rw [show (Rat.divInt 3 2).num = 3 by decide +kernel, show (Rat.divInt 3 2).den = 2 by decide +kernel]
    rfl
  rcases hw with rfl | rfl | rfl | rfl | rfl | rfl
  · exact ⟨rfl, rfl, rfl⟩
  · exact ⟨ratB_no rfl, ratB_no rfl, ratB_no rfl⟩
  · rw [v1, ratB_vq, ratB_vq, ratB_vq]; decide +kernel
  · rw [v2, ratB_vq, ratB_vq, ratB_vq]; decide +kernel
  · exact ⟨rfl, rfl, rfl⟩
  · exact ⟨rfl, rfl, rfl⟩
section
variable (n : Nat) (P : Nat → Rat × Rat) (ch : Val)
/-- the values -/
def oth26 : List Val := [ch, .tup (cut (arr n fun i => vPt (P i)) none (some (-1))), .tup (cut (arr n fun i => vPt (P i)) (some 1) none), .tup ((arr n fun i => vPt (P i)) ++ cut (arr n fun i => vPt (P i)) (some (-1)) none), .lst (arr n fun i => vPt (P i)), .non, .tup [], .tup (cut (arr n fun i => vPt (P i)) none (some 1) ++ arr n fun i => vPt (P i)), .tup (arr n fun i => .lst [vq (P i).1, vq (P i).2]), .tup [.tup [.tup [.int 0, .int 1], .tup [.int 0, .int 1]]], .tup (arr n fun i => vPt (P i)).reverse, ch, ch]
theorem oth26_sm (hB : ∀ i, i < n → Pb 3 (P i)) (hc : smB ch) : ∀ v ∈ oth26 n P ch, smB v := by
  have hb : ∀ x ∈ arr n fun i => vPt (P i), smP x := by
    intro x hx
    obtain ⟨i, hi, rfl⟩ := List.mem_map.mp hx
    exact smP_vPt (hB i (List.mem_range.mp hi)) (by omega)
  intro v hv
  simp only [oth26, List.mem_cons, List.not_mem_nil, or_false] at hv
  rcases hv with rfl | rfl | rfl | rfl | rfl | rfl | rfl | rfl | rfl | rfl | rfl | rfl | rfl
  · exact hc
  · exact smB_tup fun x hx => hb x (cut_mem hx)
  · exact smB_tup fun x hx => hb x (cut_mem hx)
  · exact smB_tup fun x hx => (List.mem_append.mp hx).elim (hb x) fun h => hb x (cut_mem h)
  · intro ys e; cases e
  · intro ys e; cases e
  · exact smB_tup fun x hx => absurd hx (by simp)
  · exact smB_tup fun x hx => (List.mem_append.mp hx).elim (fun h => hb x (cut_mem h)) (hb x)
  · refine smB_tup fun x hx => ?_
    obtain ⟨i, hi, rfl⟩ := List.mem_map.mp hx
    intro a b e
    cases e
  · refine smB_tup fun x hx => ?_
    simp only [List.mem_cons, List.not_mem_nil, or_false] at hx
    subst hx
    exact smP_vPt (p := (0, 0)) (j := 0) ⟨zero_qb, zero_qb⟩ (by omega)
  · exact smB_tup fun x hx => hb x (List.mem_reverse.mp hx)
  · exact hc
  · exact hc
end
section
variable {xs : List Int}
/-- the check of one value -/
theorem bend_check (k : Nat) (hx : DrOk 7 300009 xs) (m : Mem) (v : Val) (hs : smB v) (v0 v1 v2 v4 v5 v6 v7 v8 v9 v10 v11 v13 v14 v15 : Option SV) :
    exs (callK Pp (k + 10)) b_law_26_1 ⟨[v0, v1, v2, V (vI xs), v4, v5, v6, v7, v8, v9, v10, v11, V v, v13, v14, v15], m⟩ = some (.ok .nx ⟨[v0, v1, v2, V (vI xs), v4, v5, v6, v7, v8, v9, v10, v11, V v, v13, v14, v15], m⟩) := by
  have c1 := is_bend_any (k + 6) v m hs
  have c2 := law_is_bend_any (k + 7) v m hs
  have c3 := law_says_ok (k + 9) (isBd v) (isBd v) m
  rw [beq_self_eq_true] at c3
  cases h : isBd v with
  | true =>
    rw [h] at c1 c2 c3
    simp [b_law_26_1, c1, c2, c3]
  | false =>
    have c4 := e13_2 (k + 3) (premium_ex (k + 3) v m hx hs h)
    rw [h] at c1 c2 c3
    have se : eqS m (.val (.str w_mal)) (.val (.str w_mal)) = some true := by
      rw [sEq (by decide +kernel)]; simp
    simp [b_law_26_1, c1, c2, c3, c4, se]
theorem min_of_levels (m : Mem) {q : Rat} (hx : DrOk 30 1000000 xs) (h : q.num ≤ q.den) : prim m .min [.own (((List.range xs.length).filter (lvB xs q)).map fun i : Nat => .int ((i : Int) + 1))] = some (.val (.int (lvN xs q))) := by
  have e : (((List.range xs.length).filter (lvB xs q)).map fun i : Nat => Val.int ((i : Int) + 1)) = (((List.range xs.length).filter (lvB xs q)).map fun i : Nat => ((i : Int) + 1)).map .int := by rw [List.map_map]; rfl
  rw [e]
  refine pmin_own ?_
  rw [min_find (lvB xs q) (fun i : Nat => (i : Int) + 1) (fun i j h => by omega) _ List.pairwise_lt_range]
  have hp := hx.pos
  have s := sum_bd' hx (by decide)
  have last : lvB xs q (xs.length - 1) = true := by
    unfold lvB
    rw [show xs.length - 1 + 1 = xs.length by omega, ← sum_sm]
    exact decide_eq_true (by rw [Int.mul_comm xs.sum]; exact Int.mul_le_mul_of_nonneg_right h (by omega))
  unfold lvN
  cases hf : (List.range xs.length).find? (lvB xs q) with
  | none =>
    have := List.find?_eq_none.mp hf (xs.length - 1) (List.mem_range.mpr (by omega))
    exact absurd last this
  | some j =>
    show some ((j : Int) + 1) = some (1 + (j : Int))
    rw [Int.add_comm]
theorem psum_to {m : Mem} (d : List Int) (k : Nat) : prim m .sum [.val (.tup (cut (d.map .int) none (some (k : Int))))] = some (.val (.int (sm k (gD d 0)))) := by
  have e : cut (d.map .int) none (some (k : Int)) = (d.take k).map .int := by
    show ((d.map Val.int).drop 0).take ((if (k : Int) < 0 then ((k : Int) + ((d.map Val.int).length : Int)).toNat else min (k : Int).toNat (d.map Val.int).length) - 0) = _
    rw [if_neg (by omega)]
    simp
    try rw [List.take_eq_take_iff]
    try simp
  have ts : (d.take k).sum = sm k (gD d 0) := by
    by_cases h : k ≤ d.length
    · rw [arr_gD d 0, arr_take, sum_arr, show min k d.length = k by omega]
      exact sm_congr fun i hi => by rw [gD_arr (by omega)]
    · rw [List.take_of_length_le (by omega), sum_sm, show k = d.length + (k - d.length) by omega, sm_split, sm_congr (f := fun i => gD d 0 (d.length + i)) (g := fun _ => 0) fun i _ => gD_ge (by omega), sm_zero]
      omega
  rw [e, p_sum (xs := d.take k) (by rfl), ts]
/-- the numbers up to which a level lies -/
theorem levels_c (K : Kn) (t : Bool) {q : Rat} (hx : DrOk 7 300009 xs) (hq : Qb 22 q) {en : List (Option SV)} (m : Mem) (h3 : en[3]? = some (V (vI xs))) (h5 : en[5]? = some (V (vq q))) (hl : en.length = 16) :
    ev K c_law_26_1 t ⟨en, m⟩ = some (.ok (.own (((List.range xs.length).filter (lvB xs q)).map fun i : Nat => .int ((i : Int) + 1))) ⟨en, m⟩) := by
  have ln := hx.len
  have s := sum_bd' hx (by decide)
  have ps : prim m .sum [.val (vI xs)] = some (.val (.int xs.sum)) := p_sum (by rfl)
  have r1 : rOk (xs.length : Int) = true := rOk_len (by omega)
  refine lc1_if (v := fun i : Nat => .int (i : Int)) _ _ _ (by omega) (by simp [h3, r1]) (fun i hi => ?_) (fun i hi hp => ?_) (by omega)
  · have h14 : 14 < en.length := by omega
    have p1 := psum_to (m := m) xs (i + 1)
    have cz : ((i + 1 : Nat) : Int) = (i : Int) + 1 := by omega
    rw [cz] at p1
    have b := H_bd (hx.mono (by decide) (by decide)) (i + 1)
    have s1 : small (sm (i + 1) (gD xs 0)) = true := sm_lit (by omega)
    have s2 : small q.num = true := hq.bn.small
    have s3 : small (q.den : Int) = true := hq.bd.small
    have s4 : small xs.sum = true := sm_lit (by omega)
    have e : decide (q.num * xs.sum ≤ sm (i + 1) (gD xs 0) * q.den) = lvB xs q i := rfl
    cases hb : lvB xs q i with
    | true => rw [hb] at e; simp [get_ne, get_self, h3, h5, h14, p1, ps, s1, s2, s3, s4, g_num, g_den, e]
    | false => rw [hb] at e; simp [get_ne, get_self, h3, h5, h14, p1, ps, s1, s2, s3, s4, g_num, g_den, e]
  · simp [get_ne, get_self, hl]
theorem lists_c (K : Kn) (t : Bool) {n : Nat} {P : Nat → Rat × Rat} (hn : n ≤ 20) {en : List (Option SV)} (m : Mem) (h7 : en[7]? = some (V (vBn n P))) (hl : en.length = 16) :
    ev K c_law_26_2 t ⟨en, m⟩ = some (.ok (.own (arr n fun i => .lst [vq (P i).1, vq (P i).2])) ⟨en, m⟩) := by
  refine lc1 (v := fun i => vPt (P i)) _ _ (by omega) (by simp [h7]) (fun i hi => ?_) (by omega)
  simp [get_ne, get_self, hl]
end
end Py.Q
end

section
set_option autoImplicit false
set_option linter.all false
set_option Elab.async false
set_option maxRecDepth 100000
set_option maxHeartbeats 8000000
set_option exponentiation.threshold 5000
/-! The law of prices. -/
namespace Py.Q
@[simp] theorem add_bt {m : Mem} {n : Nat} {P : Nat → Rat × Rat} {ys : List Val} : binAdd m (.val (vBn n P)) (.val (.tup ys)) = tupl ((arr n fun i => vPt (P i)) ++ ys) := by rfl
@[simp] theorem add_tb {m : Mem} {n : Nat} {P : Nat → Rat × Rat} {ys : List Val} : binAdd m (.val (.tup ys)) (.val (vBn n P)) = tupl (ys ++ arr n fun i => vPt (P i)) := by rfl
theorem nat_of {n : Int} (h : 0 ≤ n) : ∃ i : Nat, n = (i : Int) := ⟨n.toNat, by omega⟩
theorem turn84 (k : Nat) {m r : Mem} (hm : DOk m r) {en : List (Option SV)} (hl : en.length = 16) (h1 : en[1]? = some (V (.loc 0))) :
    ∃ en' m', en'.length = 16 ∧ en'[1]? = some (V (.loc 0)) ∧ DOk m' r ∧ exs (callK Pp (k + 20)) b_law_26_2 ⟨en, m⟩ = some (.ok .nx ⟨en', m'⟩) := by
  obtain ⟨v0, v1, v2, v3, v4, v5, v6, v7, v8, v9, v10, v11, v12, v13, v14, v15, rfl⟩ := ex16 hl
  have h1 : v1 = V (.loc 0) := by simpa using h1
  subst h1
  -- the draw
  obtain ⟨a1, m1, a10, a11, hm1, e1⟩ := take_ok (k + 19) 2 hm (by decide) (by decide)
  have gb : ∃ b : Int, 0 ≤ b ∧ b ≤ 300000 ∧ getI [.int 9, .int 300000] a1 = some (.int b) := by
    have : a1 = 0 ∨ a1 = 1 := by omega
    rcases this with rfl | rfl
    · exact ⟨9, by decide, by decide, rfl⟩
    · exact ⟨300000, by decide, by decide, rfl⟩
  obtain ⟨b, b0, b1, gb⟩ := gb
  obtain ⟨xs, m2, hx, hm2, e2⟩ := law_some_ok (k + 18) 7 b hm1 (by decide) (by decide) b0 (by omega)
  have e2 : callK Pp (k + 20) 19 [.loc 0, .int 7, .int b] m1 = some (.ok (.val (vI xs)) m2) := e2
  have hx : DrOk 7 300009 xs := hx.mono (by decide) (by unfold imax; split <;> omega)
  have hx30 : DrOk 30 1000000 xs := hx.mono (by decide) (by decide)
  have s := sum_bd' hx (by decide)
  have ps : ∀ m, prim m .sum [.val (vI xs)] = some (.val (.int xs.sum)) := fun m => p_sum (by rfl)
  -- bottom, level
  obtain ⟨a3, m3, a30, a31, hm3, e3⟩ := take_ok (k + 19) 3 hm2 (by decide) (by decide)
  have gB : ∃ B : Int, 0 < B ∧ B ≤ 2 ^ 22 ∧ getI [.int 2, .int 7, .int xs.sum] a3 = some (.int B) := by
    have : a3 = 0 ∨ a3 = 1 ∨ a3 = 2 := by omega
    rcases this with rfl | rfl | rfl
    · exact ⟨2, by decide, by decide, rfl⟩
    · exact ⟨7, by decide, by decide, rfl⟩
    · exact ⟨xs.sum, by omega, by omega, rfl⟩
  obtain ⟨B, B0, B1, gB⟩ := gB
  obtain ⟨a4, m4, a40, a41, hm4, e4⟩ := take_ok (k + 19) B hm3 (by omega) (by omega)
  have f4 := frac_q (k + 19) (1 + a4) B m4 B0 (sm_lit (by omega))
  have q4 : Qb 22 (Rat.divInt (1 + a4) B) := divInt_bd B0 (by omega) (by omega)
  have p4 : pLv (Rat.divInt (1 + a4) B) = true := by
    have h2 := divInt_01 (n := 1 + a4) (d := B) (by omega) (by omega) B0
    have h3 : 0 < Rat.divInt (1 + a4) B := by
      have := (divInt_lt (a := 0) (b := 1 + a4) B0).mpr (by omega)
      rwa [Rat.zero_divInt] at this
    unfold p01 at h2
    unfold pLv
    rw [Bool.and_eq_true] at h2
    rw [h2.2, decide_eq_true h3]
    rfl
  generalize Rat.divInt (1 + a4) B = lv at *
  have n4 : lv.num ≤ lv.den := by
    unfold pLv at p4
    rw [Bool.and_eq_true] at p4
    exact num_le_den.mpr (of_decide_eq_true p4.2)
  have t4 := t13_0 (k + 13) (value_at_ok (k + 15) m4 hx30 (q4.mono (by omega)) p4)
  have c4 := fun (t : Bool) (en : List (Option SV)) (m : Mem) h3 h5 hl => levels_c (callK Pp (k + 20)) t hx q4 (en := en) m h3 h5 hl
  have mn4 := min_of_levels m4 hx30 n4
  -- the part
  obtain ⟨a5, m5, a50, a51, hm5, e5⟩ := take_ok (k + 19) B hm4 (by omega) (by omega)
  have f5 := frac_q (k + 19) a5 B m5 B0 (sm_lit (by omega))
  have q5 : Qb 22 (Rat.divInt a5 B) := divInt_bd B0 (by omega) (by omega)
  have p5 : 0 ≤ Rat.divInt a5 B := divInt_nn B0 a50
  have p5' : Rat.divInt a5 B < 1 := by rw [← Rat.divInt_self' (n := B) (by omega), divInt_lt B0]; exact a51
  generalize Rat.divInt a5 B = pt at *
  have t5 := t13_1 (k + 13) (tail_mean_ok (k + 14) m5 hx q5 p5 p5')
  have l5 := law_tail_ok (k + 18) m5 hx q5 p5 p5'
  -- the bend
  obtain ⟨n, P, m6, hB, hm6, e6⟩ := law_bend_ok (k + 18) hm5
  have hn1 := hB.two
  have hn2 := hB.len
  obtain ⟨a7, m7, a70, a71, hm7, e7⟩ := take_ok (k + 19) 12 hm6 (by decide) (by decide)
  obtain ⟨a8, m8, a80, a81, hm8, e8⟩ := take_ok (k + 19) (1 + a7 + 1) hm7 (by omega) (by omega)
  have f8 := frac_q (k + 19) a8 (1 + a7) m8 (by omega) (sm_lit (by omega))
  have q8 : Qb 4 (Rat.divInt a8 (1 + a7)) := divInt_bd (by omega) (by omega) (by omega)
  have p8 : p01 (Rat.divInt a8 (1 + a7)) = true := divInt_01 (by omega) (by omega) (by omega)
  generalize Rat.divInt a8 (1 + a7) = at8 at *
  have i8 := is_bend_any (k + 16) (vBn n P) m8 (hB.sm (by omega))
  rw [hB.is] at i8
  have y8 := law_says_ok (k + 19) true true m8
  have t8 := t13_3 (k + 13) (bend_at_ok (k + 13) m8 (by omega) hB (q8.mono (by omega)) p8)
  have l8 := law_height_q (k + 17) n 3 4 P at8.num at8.den m8 (by omega) (by omega) (by omega) hB.pb hB.up (by have := at8.den_pos; omega) q8.bn q8.bd
  rw [Rat.num_divInt_den] at l8
  have t9 := t13_2 (k + 13) (premium_ok (k + 13) m8 hx hB)
  have l9 := law_premium_ok (k + 16) m8 hx hB
  -- other values
  obtain ⟨a9, m9, a90, a91, hm9, e9⟩ := take_ok (k + 19) n hm8 (by omega) (by omega)
  obtain ⟨i9, rfl⟩ := nat_of a90
  have g9 : getI (arr n fun i => vPt (P i)) (i9 : Int) = some (vPt (P i9)) := getI_arr (by omega)
  obtain ⟨a10, m10, a100, a101, hm10, e10⟩ := take_ok (k + 19) 5 hm9 (by decide) (by decide)
  obtain ⟨i10, rfl⟩ := nat_of a100
  have g10 : getI odd5 (i10 : Int) = some (gD odd5 .non i10) := getI_gD a100 a101
  have mw := gD_mem (xs := odd5) (d := .non) (i := i10) (by show i10 < 5; omega)
  generalize gD odd5 .non i10 = w at *
  have w_sm := odd5_sm w mw
  generalize hch : cut (arr n fun i => vPt (P i)) none (some (i9 : Int)) ++ Val.tup [vq (P i9).1, w] :: cut (arr n fun i => vPt (P i)) (some ((i9 : Int) + 1)) none = chl at *
  have ch_sm : smB (.tup chl) := by
    refine smB_tup fun x hx => ?_
    have hb : ∀ x ∈ arr n fun i => vPt (P i), smP x := by
      intro x hx
      obtain ⟨i, hi, rfl⟩ := List.mem_map.mp hx
      exact smP_vPt (hB.pb i (List.mem_range.mp hi)) (by omega)
    rw [← hch] at hx
    rcases List.mem_append.mp hx with h | h
    · exact hb x (cut_mem h)
    rcases List.mem_cons.mp h with h | h
    · subst h
      intro a b e
      injection e with e
      injection e with e1 e2
      injection e2 with e2
      subst e1 e2
      exact ⟨smV_vq (hB.pb i9 (by omega)).1 (by omega), w_sm⟩
    · exact hb x (cut_mem h)
  have z : ∀ l h, (cut (arr n fun i => vPt (P i)) l h).length ≤ 20 := fun l h => by
    have := cut_len (xs := arr n fun i => vPt (P i)) (l := l) (h := h)
    rw [arr_length] at this
    omega
  have z1 := z none (some (i9 : Int))
  have z2 := z (some ((i9 : Int) + 1)) none
  have z3 := z (some (-1)) none
  have z4 := z none (some 1)
  have w1 : (cut (arr n fun i => vPt (P i)) none (some (i9 : Int))).length + 1 ≤ 16777216 := by omega
  have w2 : chl.length ≤ 16777216 := by rw [← hch, List.length_append, List.length_cons]; omega
  have w3 : n + (cut (arr n fun i => vPt (P i)) (some (-1)) none).length ≤ 16777216 := by omega
  have w4 : (cut (arr n fun i => vPt (P i)) none (some 1)).length + n ≤ 16777216 := by omega
  have c11 := fun (t : Bool) (en : List (Option SV)) (m : Mem) h7 hl => lists_c (callK Pp (k + 20)) t (P := P) hn2 (en := en) m h7 hl
  obtain ⟨a12, m12, a120, a121, hm12, e12⟩ := take_ok (k + 19) 13 hm10 (by decide) (by decide)
  have g12 : getI (oth26 n P (.tup chl)) a12 = some (gD (oth26 n P (.tup chl)) .non a12.toNat) := getI_gD a120 (by show a12 < 13; exact a121)
  have mw2 := gD_mem (xs := oth26 n P (.tup chl)) (d := .non) (i := a12.toNat) (by show a12.toNat < 13; omega)
  generalize gD (oth26 n P (.tup chl)) .non a12.toNat = v at *
  have v_sm := oth26_sm n P (.tup chl) hB.pb ch_sm v mw2
  have ck := fun v hv v0 v1 v2 v4 v5 v6 v7 v8 v9 v10 v11 v13 v14 v15 => bend_check (k + 10) hx m12 v hv v0 v1 v2 v4 v5 v6 v7 v8 v9 v10 v11 v13 v14 v15
  -- what is no draw
  obtain ⟨a14, m14, a140, a141, hm14, e14⟩ := take_ok (k + 19) 3 hm12 (by decide) (by decide)
  obtain ⟨a15, m15, a150, a151, hm15, e15⟩ := take_ok (k + 19) 4 hm14 (by decide) (by decide)
  obtain ⟨a16, m16, a160, a161, hm16, e16⟩ := take_ok (k + 19) 3 hm15 (by decide) (by decide)
  have g15 : ∃ u, isDr u = false ∧ getI [.non, .tup [.int 0], .lst (xs.map .int), .tup []] a15 = some u := by
    have : a15 = 0 ∨ a15 = 1 ∨ a15 = 2 ∨ a15 = 3 := by omega
    rcases this with rfl | rfl | rfl | rfl
    · exact ⟨_, rfl, rfl⟩
    · exact ⟨_, by decide +kernel, rfl⟩
    · exact ⟨_, rfl, rfl⟩
    · exact ⟨_, by decide +kernel, rfl⟩
  obtain ⟨u, ud, g15⟩ := g15
  have g16 := getI_gD (xs := [.tup [.int 1, .int 2], .tup [.int 1, .int 2], vBn n P]) a160 a161
  generalize gD [.tup [.int 1, .int 2], .tup [.int 1, .int 2], vBn n P] .non a16.toNat = u2 at *
  have t16 : callK Pp (k + 20) 461 [.int a14, u, u2] m16 = some (.ok (.val (.str w_mal)) m16) := by
    have : a14 = 0 ∨ a14 = 1 ∨ a14 = 2 := by omega
    rcases this with rfl | rfl | rfl
    · exact e13_0 (k + 13) (value_at_ex (k + 15) u u2 m16 (.inl ud))
    · exact e13_1 (k + 13) (tail_mean_ex (k + 15) u u2 m16 (.inl ud))
    · exact e13_2 (k + 13) (premium_ex2 (k + 15) u u2 m16 ud)
  have se : ∀ m, eqS m (.val (.str w_mal)) (.val (.str w_mal)) = some true := fun m => by
    rw [sEq (by decide +kernel)]; simp
  -- what is no fraction
  obtain ⟨a17, m17, a170, a171, hm17, e17⟩ := take_ok (k + 19) 6 hm16 (by decide) (by decide)
  have g17 : getI wrong6 a17 = some (gD wrong6 .non a17.toNat) := getI_gD a170 (by show a17 < 6; exact a171)
  have mw3 := gD_mem (xs := wrong6) (d := .non) (i := a17.toNat) (by show a17.toNat < 6; omega)
  generalize gD wrong6 .non a17.toNat = u3 at *
  have n3 := wrong6_no u3 mw3
  have x1 := e13_0 (k + 13) (value_at_ex (k + 15) (vI xs) u3 m17 (.inr n3.1))
  have x2 := e13_1 (k + 13) (tail_mean_ex (k + 15) (vI xs) u3 m17 (.inr n3.2.1))
  have x3 := e13_3 (k + 13) (bend_at_ex (k + 13) u3 m17 (by omega) hB n3.2.2)
  have x4 := e13_0 (k + 13) (value_at_ex (k + 15) (vI xs) (.tup [.int 0, .int 1]) m17 (.inr (by
    rw [show Val.tup [.int 0, .int 1] = vq 0 from rfl, ratB_vq]; decide +kernel)))
  have x5 := e13_1 (k + 13) (tail_mean_ex (k + 15) (vI xs) (.tup [.int 1, .int 1]) m17 (.inr (by
    rw [show Val.tup [.int 1, .int 1] = vq 1 from rfl, ratB_vq]; decide +kernel)))
  have r5 : rOk 5 = true := by decide
  have q5' : eqS m17 (.own [.str w_mal, .str w_mal, .str w_mal, .str w_mal, .str w_mal]) (.own (arr 5 fun _ => .str w_mal)) = some true := eqS_self (v := .lst [.str w_mal, .str w_mal, .str w_mal, .str w_mal, .str w_mal]) rfl (by decide +kernel) rfl
  refine ⟨[v0, V (.loc 0), v2, V (vI xs), V (.int (1 + a7)), V (vq lv), V (vq pt), V (vBn n P), V (vq at8), V (.int i9), V (.tup chl), some (.own (oth26 n P (.tup chl))), V v, V u3, v14, v15], m17, rfl, rfl, hm17, ?_⟩
  simp only [oth26, odd5, wrong6] at g12 g10 g17
  simp [b_law_26_2, oth26, forc, forn, e1, gb, e2, ps, e3, gB, e4, f4, t4, c4, mn4, e5, f5, t5, l5, e6, e7, e8, f8, i8, y8, t8, l8, t9, l9, eqS_vq, g_num, g_den, e9, g9, e10, g10, w1, w2, w3, w4, hch, c11, e12, g12, ck, ch_sm, v_sm, e14, e15, g15, e16, g16, t16, se, e17, g17, x1, x2, x3, x4, x5, r5, q5']
theorem law_ok (ns : List Int) (h : ns.length ≤ 63) : ∃ m', callK Pp 40 462 [.scr (ns.map .int)] [] = some (.ok (.val (.bl true)) m') := by
  obtain ⟨m1, hm1, e1⟩ := draw_ok 38 ns h
  obtain ⟨⟨en, m2⟩, l, hl, h1, hm2⟩ := forM_arr (tg := .n 2) (body := exs (callK Pp 39) b_law_26_2) (v := fun i : Nat => .int (i : Int)) (n := 3)
    (fun j s => s.e.length = 16 ∧ s.e[1]? = some (V (.loc 0)) ∧ DOk s.m [])
    (by
      rintro j ⟨en, m⟩ hj ⟨hl, h1, hm⟩
      obtain ⟨en', m', a, b, c, d⟩ := turn84 19 hm (en := en.set 2 (V (.int (j : Int)))) (by simp; exact hl) (by rw [get_ne (by decide)]; exact h1)
      have hl : en.length = 16 := hl
      exact ⟨⟨en.set 2 (V (.int (j : Int))), m⟩, ⟨en', m'⟩, by simp [hl], d, a, b, c⟩)
    ⟨[V (.scr (ns.map .int)), V (.loc 0), none, none, none, none, none, none, none, none, none, none, none, none, none, none], m1⟩ ⟨rfl, rfl, hm1⟩
  have ro3 : rOk 3 = true := by decide
  rw [call_eq rfl rfl]
  simp [d_law_26, frame, e1, ro3, l]
end Py.Q
end

set_option Elab.async false
theorem PySem.Challenge.cw_drawnfurther_k84_prices_holds : PySem.Challenge.rw_drawnfurther_k84_prices.Holds := by
  exact k84_of Py.Q.law_ok
