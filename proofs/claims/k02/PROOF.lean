import PyProof.Rows.All
import Wide.All
import OpenK.AllK
import Wide.FinOn
import HandS.Base
import HandS.Call
import HandS.List
import HandS.Dict
import HandS.Words
import HandS.Deep
import HandS.TupAny
import HandS.TupLe
import HandS.Text
import HandS.IsInst
import KE.LtSeq
import HandS.TupLen
import HandS.WordsDict
import HandS.Comp
import HandS.DictComp
import HandS.NoneIn
import HandS.Iter
import HandS.Walk
import HandS.Property
import HandS.ExcOwn
import HandS.WordsExc
import HandS.Zip
import HandS.Small
import HandS.Style
import HandS.Flow
import KE.KExcIs
import HandS.ExcField
import HandS.ExcInit
import HandS.ExcIs
import HandS.Defaults
import HandS.Codes
import HandS.ClsMeth
import PySem.Str
import HandS.HeadNt
import HandS.HeadEnd
import HandS.Head2
import PyProof.TableCode
import PySem.Challenge.RW_kindgrows_k02_order_of_values
import HandS.HeadHook1
import HandS.HeadHook2
import Lean
set_option Elab.async false
set_option linter.all false
/-! K0: a small language with data as values and owned cells, and its evaluator. -/
namespace KG
abbrev Tx := List Nat

inductive Val where
  | none | bool (b : Bool) | int (i : Int) | str (s : Tx)
  | tup (xs : List Val) | lst (xs : List Val) | dct (t : Bool) (ks vs : List Val)
  | obj (c : Nat) (ns : List Nat) (vs : List Val)
deriving Inhabited

/-- a value, an owned cell, a tuple that the module's text has -/
inductive X where
  | v (a : Val) | r (n : Nat) | k (xs : List Val)

inductive Cell where
  | lst (xs : List Val)
  | rls (xs : List Nat)
  | dct (t : Bool) (ks vs : List Val)
  | ins (c : Nat) (ns : List Nat) (vs : List X)
  | dead

abbrev Store := List Cell
abbrev Env := List (Option X)
/-- the largest length -/
def LIM : Nat := 16777216

mutual
/-- the same datum, sign by sign -/
def Val.beq : Val → Val → Bool
  | .none, .none => true
  | .bool a, .bool b => a == b
  | .int a, .int b => a == b
  | .str a, .str b => a == b
  | .tup a, .tup b => beqL a b
  | .lst a, .lst b => beqL a b
  | .dct t a x, .dct u b y => t == u && beqL a b && beqL x y
  | .obj c n a, .obj d m b => c == d && n == m && beqL a b
  | _, _ => false
termination_by structural a => a
def beqL : List Val → List Val → Bool
  | [], [] => true
  | a :: x, b :: y => Val.beq a b && beqL x y
  | _, _ => false
termination_by structural a => a
end
mutual
/-- plain data: no dict, no instance -/
def Val.isD : Val → Bool
  | .tup a => isDL a
  | .lst a => isDL a
  | .dct _ _ _ => false
  | .obj _ _ _ => false
  | _ => true
termination_by structural a => a
def isDL : List Val → Bool
  | [] => true
  | a :: x => Val.isD a && isDL x
termination_by structural a => a
end
mutual
/-- levels -/
def Val.dep : Val → Nat
  | .tup a => depL a + 1
  | .lst a => depL a + 1
  | _ => 0
termination_by structural a => a
def depL : List Val → Nat
  | [] => 0
  | a :: x => max (Val.dep a) (depL x)
termination_by structural a => a
end
/-- fit to be compared -/
def Val.okD (a : Val) : Bool := a.isD && decide (a.dep ≤ 64)
mutual
/-- Python's == on plain data -/
def Val.eqv : Val → Val → Bool
  | .none, .none => true
  | .bool a, .bool b => a == b
  | .int a, .int b => a == b
  | .bool a, .int b => (if a then 1 else 0) == b
  | .int a, .bool b => a == (if b then 1 else 0)
  | .str a, .str b => a == b
  | .tup a, .tup b => eqvL a b
  | .lst a, .lst b => eqvL a b
  | _, _ => false
termination_by structural a => a
def eqvL : List Val → List Val → Bool
  | [], [] => true
  | a :: x, b :: y => Val.eqv a b && eqvL x y
  | _, _ => false
termination_by structural a => a
end

inductive BOp where | add | sub | mul | mod | fdiv | pow
inductive COp where | eq | ne | lt | le | gt | ge | isN | notN | inn | nin
inductive Ty where | int | bool | str | tup | lst
/-- built-in functions -/
inductive BI where | len | str | int | tuple | list | sorted | all | any | sum | min1 | max1 | max2 | min2 | dict1
/-- methods of built-in types -/
inductive BM where | append | extend | pop | insert | join | split | get2 | index | setdefault | strip | lstrip | popAt

mutual
inductive CE where
  | bad
  | cst (v : Val)
  | var (i : Nat)
  | glob (g : Nat)
  | bin (m : Bool) (op : BOp) (a b : CE)
  | neg (a : CE)
  | cmp (op : COp) (a b : CE)
  | chain (o p : COp) (a b c : CE)
  | and (a b : CE) | or (a b : CE) | not (a : CE)
  | ite (c : CT) (a b : CE)
  | tup (es : List CE)
  | lst (m : Bool) (es : List CE)
  | dic (m t : Bool) (kvs : List CE)
  | merge (a b : CE)
  | ix (a i : CE)
  | sl (m : Bool) (a : CE) (lo hi : Option CE)
  | at (a : CE) (n : Nat)
  | call (f : Nat) (as : List CE)
  | meth (o : CE) (n : Nat) (as : List CE)
  | make (m : Bool) (c : Nat) (as : List CE)
  | bi (m : Bool) (b : BI) (as : List CE)
  | bm (b : BM) (o : CE) (as : List CE)
  | isT (a : CE) (t : Ty)
  | isC (a : CE) (c : Nat)
  | lc (m : Bool) (t : Tg) (it : CI) (c : Option CT) (e : CE)
  | dc (t : Tg) (it : CI) (c : Option CT) (k e : CE)
  | dc2 (t : Tg) (it : CI) (t2 : Tg) (it2 : CI) (k e : CE)
/-- tests -/
inductive CT where
  | and (a b : CT) | or (a b : CT) | not (a : CT)
  | cmp (op : COp) (a b : CE)
  | chain (o p : COp) (a b c : CE)
  | tru (e : CE)
/-- targets of loops: names, tuples of names -/
inductive Tg where
  | nm (i : Nat) | tp (is : List Nat)
/-- what is walked -/
inductive CI where
  | over (e : CE) | rng1 (a : CE) | rng2 (a b : CE) | rng3 (a b c : CE) | enum (e : CE) | zip (a b : CE) | items (e : CE)
end
/-- targets of assignments -/
inductive TA where
  | nm (i : Nat) | at (o : CE) (n : Nat) | ix (o i : CE) | tp (ts : List TA)
/-- in an except suite -/
inductive HE where
  | cst (v : Val) | at (n : Nat) | isC (c : Nat) | isV | lst (es : List HE) | tup (es : List HE)
inductive HS where
  | asg (i : Nat) (e : HE) | ret (e : HE)
structure Hd where
  cls : Nat
  slot : Option Nat
  suite : List HS
inductive CS where
  | expr (e : CE)
  | asg (t : TA) (e : CE)
  | par (is : List Nat) (es : List CE)
  | frz (i : Nat)
  | aug (i : Nat) (op : BOp) (e : CE)
  | augAt (o : CE) (n : Nat) (op : BOp) (e : CE)
  | ret (e : CE) | retN
  | ifs (c : CT) (a b : List CS)
  | whl (c : CT) (b : List CS)
  | for (t : Tg) (it : CI) (b e : List CS)
  | brk | cnt | pass
  | raise (c : Nat) (as : List CE)
  | tr (b : List CS) (hs : List Hd)
  | bad

/-! ### results -/
inductive R (α : Type) where
  | bad | ok (a : α) (st : Store) | exc (c : Nat) (ns : List Nat) (vs : List Val) (st : Store)
def R.bind {α β : Type} : R α → (α → Store → R β) → R β
  | .bad, _ => .bad
  | .ok a st, f => f a st
  | .exc c n v st, _ => .exc c n v st
inductive S where
  | bad | nx (e : Env) (st : Store) | ret (x : X) (st : Store) | brk (e : Env) (st : Store) | cnt (e : Env) (st : Store)
  | exc (c : Nat) (ns : List Nat) (vs : List Val) (e : Env) (st : Store)
/-- nothing may be raised here -/
def noX {α : Type} : R α → R α
  | .exc _ _ _ _ => .bad
  | r => r
def R.run {α : Type} (e : Env) : R α → (α → Store → S) → S
  | .bad, _ => .bad
  | .ok a st, f => f a st
  | .exc c n v st, _ => .exc c n v e st
/-- a walk over a dict's pairs raises nothing -/
def noXI (it : CI) (r : S) : S := match it, r with
  | .items _, .exc _ _ _ _ _ => .bad
  | _, r => r
def S.next : S → (Env → Store → S) → S
  | .nx e st, f => f e st
  | r, _ => r

/-! ### plain operations -/
def newL (m : Bool) (xs : List Val) (st : Store) : R X :=
  if xs.length ≤ LIM then (if m then .ok (.r st.length) (st ++ [.lst xs]) else .ok (.v (.lst xs)) st) else .bad
def asList (x : X) (st : Store) : Option (List Val) := match x with
  | .v (.lst xs) => some xs
  | .r n => (match st[n]? with
    | some (.lst xs) => some xs
    | _ => none)
  | _ => none
def asSeq (x : X) (st : Store) : Option (List Val) := match x with
  | .v (.tup xs) => some xs
  | .k xs => some xs
  | x => asList x st
def asDict (x : X) (st : Store) : Option (Bool × List Val × List Val) := match x with
  | .v (.dct t ks vs) => some (t, ks, vs)
  | .r n => (match st[n]? with
    | some (.dct t ks vs) => some (t, ks, vs)
    | _ => none)
  | _ => none
/-- the value of x where it stands alone: an owned list as a list -/
def asVal (x : X) (st : Store) : Option Val := match x with
  | .v a => some a
  | .r n => (match st[n]? with
    | some (.lst xs) => some (.lst xs)
    | _ => none)
  | .k _ => none
def isInts : List Val → Option (List Int)
  | [] => some []
  | .int i :: r => (isInts r).map (i :: ·)
  | _ => none
def isBools : List Val → Option (List Bool)
  | [] => some []
  | .bool i :: r => (isBools r).map (i :: ·)
  | _ => none
def isStrs : List Val → Option (List Tx)
  | [] => some []
  | .str i :: r => (isStrs r).map (i :: ·)
  | _ => none
def small (i : Int) : Bool := decide (-(2 ^ 64) < i) && decide (i < 2 ^ 64)
def binV (m : Bool) (op : BOp) (x y : X) (st : Store) : R X := match op, x, y with
  | .add, .v (.int i), .v (.int j) => .ok (.v (.int (i + j))) st
  | .sub, .v (.int i), .v (.int j) => .ok (.v (.int (i - j))) st
  | .mul, .v (.int i), .v (.int j) => if small i || small j then .ok (.v (.int (i * j))) st else .bad
  | .mod, .v (.int i), .v (.int j) => if 0 < j then .ok (.v (.int (i % j))) st else .bad
  | .fdiv, .v (.int i), .v (.int j) => if 0 < j ∧ j < 1073741824 then .ok (.v (.int (i / j))) st else .bad
  | .pow, .v (.int i), .v (.int j) => if 0 ≤ j ∧ j ≤ 1000000 ∧ i.natAbs < 18446744073709551616 then .ok (.v (.int (i ^ j.toNat))) st else .bad
  | .add, .v (.str a), .v (.str b) => if a.length + b.length ≤ LIM then .ok (.v (.str (a ++ b))) st else .bad
  | .add, .v (.tup a), .v (.tup b) => if a.length + b.length ≤ LIM then .ok (.v (.tup (a ++ b))) st else .bad
  | .add, x, y => (match asList x st, asList y st with
    | some a, some b => newL m (a ++ b) st
    | _, _ => .bad)
  | _, _, _ => .bad
def lexLt : List Int → List Int → Bool
  | [], [] => false
  | [], _ :: _ => true
  | _ :: _, [] => false
  | a :: x, b :: y => if a == b then lexLt x y else decide (a < b)
def txLt : Tx → Tx → Bool
  | [], [] => false
  | [], _ :: _ => true
  | _ :: _, [] => false
  | a :: x, b :: y => if a == b then txLt x y else decide (a < b)
def isKey : Val → Bool
  | .str _ => true
  | .int _ => true
  | _ => false
def isTKey : Val → Bool
  | .tup xs => xs.all isKey
  | _ => false
/-- the value under a key -/
def dget : List Val → List Val → Val → Option Val
  | k :: ks, v :: vs, x => if k.beq x then some v else dget ks vs x
  | _, _, _ => none
def drep : List Val → List Val → Val → Val → List Val
  | k :: ks, v :: vs, x, y => (if k.beq x then y else v) :: drep ks vs x y
  | _, _, _, _ => []
/-- put under a key: the place of an old key stays, a new one goes behind -/
def dput (ks vs : List Val) (x y : Val) : List Val × List Val := if (dget ks vs x).isSome then (ks, drep ks vs x y) else (ks ++ [x], vs ++ [y])
/-- is x a fit key of such a dict -/
def fitKey (t : Bool) (x : Val) : Bool := if t then isTKey x else isKey x
def inV (x y : X) (st : Store) : Option Bool := match x, y with
  | .v (.str [c]), .v (.str s) => some (s.contains c)
  | .v a, y => (match asSeq y st with
    | some xs => if a.okD && isDL xs then some (xs.any fun b => b.eqv a) else none
    | none => (match asDict y st with
      | some (t, ks, vs) => if fitKey t a then some ((dget ks vs a).isSome) else none
      | none => none))
  | _, _ => none
def isNon (x : X) (st : Store) : Option Bool := match x with
  | .v .none => some true
  | .r n => (match st[n]? with
    | some .dead => none
    | some _ => some false
    | none => none)
  | _ => some false
def cmpV (op : COp) (x y : X) (st : Store) : Option Bool := match op with
  | .eq => (match asVal x st, asVal y st with
    | some a, some b => if a.okD && b.okD then some (a.eqv b) else none
    | _, _ => none)
  | .ne => (match asVal x st, asVal y st with
    | some a, some b => if a.okD && b.okD then some (!(a.eqv b)) else none
    | _, _ => none)
  | .lt => (match x, y with
    | .v (.int i), .v (.int j) => some (decide (i < j))
    | .v (.str i), .v (.str j) => some (txLt i j)
    | x, y => (match (asList x st).bind isInts, (asList y st).bind isInts with
      | some a, some b => some (lexLt a b)
      | _, _ => none))
  | .le => (match x, y with
    | .v (.int i), .v (.int j) => some (decide (i ≤ j))
    | _, _ => none)
  | .gt => (match x, y with
    | .v (.int i), .v (.int j) => some (decide (j < i))
    | _, _ => none)
  | .ge => (match x, y with
    | .v (.int i), .v (.int j) => some (decide (j ≤ i))
    | _, _ => none)
  | .isN => isNon x st
  | .notN => (isNon x st).map (!·)
  | .inn => inV x y st
  | .nin => (inV x y st).map (!·)
def truth (x : X) (st : Store) : Option Bool := match x with
  | .v .none => some false
  | .v (.bool b) => some b
  | .v (.int i) => some (i != 0)
  | .v (.str s) => if s.length ≤ LIM then some (s.length != 0) else none
  | .v (.tup xs) => some (!xs.isEmpty)
  | x => (match asList x st with
    | some xs => some (!xs.isEmpty)
    | none => none)
/-- a place in a row of n, from the end where it is negative -/
def ixAt (n : Nat) (i : Int) : Option Nat :=
  if 0 ≤ i then (if i < n then some i.toNat else none) else if -(n : Int) ≤ i then some (i + n).toNat else none
def ixV (x i : X) (st : Store) : Option Val := match x, i with
  | .v (.str s), .v (.int i) => if s.length ≤ LIM then (match ixAt s.length i with
    | some j => s[j]?.map fun c => .str [c]
    | none => none) else none
  | x, .v (.int i) => (match asSeq x st with
    | some xs => (match ixAt xs.length i with
      | some j => xs[j]?
      | none => none)
    | none => (match asDict x st with
      | some (t, ks, vs) => if fitKey t (.int i) then dget ks vs (.int i) else none
      | none => none))
  | x, .v k => (match asDict x st with
    | some (t, ks, vs) => if fitKey t k then dget ks vs k else none
    | none => none)
  | _, _ => none
/-- where a slice's bound lies -/
def slAt (n d : Nat) : Option Int → Nat
  | none => d
  | some i => if i < 0 then (i + n).toNat else min i.toNat n
def cut {α : Type} (xs : List α) (lo hi : Option Int) : List α :=
  (xs.drop (slAt xs.length 0 lo)).take (slAt xs.length xs.length hi - slAt xs.length 0 lo)
def slI (m : Bool) (x : X) (lo hi : Option Int) (st : Store) : R X := match x with
  | .v (.str s) => if s.length ≤ LIM then .ok (.v (.str (cut s lo hi))) st else .bad
  | .v (.tup xs) => .ok (.v (.tup (cut xs lo hi))) st
  | x => (match asList x st with
    | some xs => newL m (cut xs lo hi) st
    | none => .bad)
def flook {α : Type} : List Nat → List α → Nat → Option α
  | n :: ns, v :: vs, x => if n == x then some v else flook ns vs x
  | _, _, _ => none
def fput {α : Type} : List Nat → List α → Nat → α → List Nat × List α
  | n :: ns, v :: vs, x, y => if n == x then (n :: ns, y :: vs) else (n :: (fput ns vs x y).1, v :: (fput ns vs x y).2)
  | _, _, x, y => ([x], [y])
def clsOf (x : X) (st : Store) : Option Nat := match x with
  | .v (.obj c _ _) => some c
  | .r n => (match st[n]? with
    | some (.ins c _ _) => some c
    | _ => none)
  | _ => none
def fldV (x : X) (n : Nat) (st : Store) : Option X := match x with
  | .v (.obj _ ns vs) => (flook ns vs n).map X.v
  | .r a => (match st[a]? with
    | some (.ins _ ns vs) => flook ns vs n
    | _ => none)
  | _ => none
def isTV (x : X) (t : Ty) (st : Store) : Option Bool := match x, t with
  | .v (.int _), .int => some true
  | .v (.bool _), .int => some true
  | .v (.bool _), .bool => some true
  | .v (.str _), .str => some true
  | .v (.tup _), .tup => some true
  | .v (.lst _), .lst => some true
  | .v (.dct _ _ _), _ => none
  | .v (.obj _ _ _), _ => none
  | .v _, _ => some false
  | _, _ => none
/-! digits of a number -/
def digits : Nat → Nat → Tx
  | 0, _ => []
  | k + 1, n => if n < 10 then [48 + n] else digits k (n / 10) ++ [48 + n % 10]
def natTx (n : Nat) : Tx := digits (n + 1) n
def intTx (i : Int) : Tx := if i < 0 then 45 :: natTx (-i).toNat else natTx i.toNat
def isDig (c : Nat) : Bool := decide (48 ≤ c) && decide (c ≤ 57)
def txNat (s : Tx) : Nat := s.foldl (fun a c => a * 10 + (c - 48)) 0
/-- insertion by an order: stable -/
def insBy {α : Type} (lt : α → α → Bool) (x : α) : List α → List α
  | [] => [x]
  | y :: r => if lt x y then x :: y :: r else y :: insBy lt x r
def sortBy {α : Type} (lt : α → α → Bool) : List α → List α
  | [] => []
  | x :: r => insBy lt x (sortBy lt r)
def sortVals (xs : List Val) : Option (List Val) := match isStrs xs with
  | some ss => if ss.length < 64 then some ((sortBy txLt ss).map .str) else none
  | none => (match isInts xs with
    | some is => if is.length < 64 then some ((sortBy (fun a b => decide (a < b)) is).map .int) else none
    | none => none)
def minI : Int → List Int → Int
  | m, [] => m
  | m, x :: r => minI (if x < m then x else m) r
def maxI : Int → List Int → Int
  | m, [] => m
  | m, x :: r => maxI (if m < x then x else m) r
/-- the least of rows of ints -/
def minR : List Int → List (List Int) → List Int
  | m, [] => m
  | m, x :: r => minR (if lexLt x m then x else m) r
def isRows : List Val → Option (List (List Int))
  | [] => some []
  | .tup xs :: r => (match isInts xs, isRows r with
    | some is, some rs => some (is :: rs)
    | _, _ => none)
  | _ => none
def lenF (as : List X) (st : Store) : R X := match as with
  | [.v (.str s)] => if s.length ≤ LIM then .ok (.v (.int s.length)) st else .bad
  | [x] => (match asSeq x st with
    | some xs => .ok (.v (.int xs.length)) st
    | none => (match asDict x st with
      | some (_, ks, _) => .ok (.v (.int ks.length)) st
      | none => .bad))
  | _ => .bad
def intF (as : List X) (st : Store) : R X := match as with
  | [.v (.int i)] => .ok (.v (.int i)) st
  | [.v (.bool k)] => .ok (.v (.int (if k then 1 else 0))) st
  | _ => .bad
def tupleF (as : List X) (st : Store) : R X := match as with
  | [.v (.tup xs)] => .ok (.v (.tup xs)) st
  | [x] => (match asList x st with
    | some xs => .ok (.v (.tup xs)) st
    | none => .bad)
  | _ => .bad
def listF (m : Bool) (as : List X) (st : Store) : R X := match as with
  | [x] => (match asSeq x st with
    | some xs => newL m xs st
    | none => .bad)
  | _ => .bad
def allF (as : List X) (st : Store) : R X := match as with
  | [x] => (match (asList x st).bind isBools with
    | some bs => .ok (.v (.bool (bs.all id))) st
    | none => .bad)
  | _ => .bad
def anyF (as : List X) (st : Store) : R X := match as with
  | [x] => (match (asList x st).bind isBools with
    | some bs => .ok (.v (.bool (bs.any id))) st
    | none => .bad)
  | _ => .bad
def sumF (as : List X) (st : Store) : R X := match as with
  | [x] => (match (asList x st).bind isInts with
    | some is => .ok (.v (.int is.sum)) st
    | none => .bad)
  | _ => .bad
def max2F (as : List X) (st : Store) : R X := match as with
  | [.v (.int i), .v (.int j)] => .ok (.v (.int (if i < j then j else i))) st
  | _ => .bad
def min2F (as : List X) (st : Store) : R X := match as with
  | [.v (.int i), .v (.int j)] => .ok (.v (.int (if j < i then j else i))) st
  | _ => .bad
def biV (m : Bool) (b : BI) (as : List X) (st : Store) : R X := match b with
  | .len => lenF as st
  | .int => intF as st
  | .tuple => tupleF as st
  | .list => listF m as st
  | .all => allF as st
  | .any => anyF as st
  | .sum => sumF as st
  | .max2 => max2F as st
  | .min2 => min2F as st
  | _ => .bad
def setC (n : Nat) (c : Cell) (st : Store) : Store := st.set n c
def joinT (s : Tx) : List Tx → Tx
  | [] => []
  | [a] => a
  | a :: r => a ++ s ++ joinT s r
/-- split at each c -/
def splitC (c : Nat) : Tx → List Tx
  | [] => [[]]
  | x :: r => if x == c then [] :: splitC c r else (match splitC c r with
    | a :: t => (x :: a) :: t
    | [] => [[x]])
def totalLen (s : Tx) (xs : List Tx) : Nat := (xs.map List.length).sum + s.length * xs.length
def findIx (x : Val) : List Val → Nat → Option Nat
  | [], _ => none
  | y :: r, k => if y.eqv x then some k else findIx x r (k + 1)
/-- is x of the type that has the method -/
def bmTy (b : BM) (x : X) (st : Store) : Bool := match b with
  | .append => (match x with
    | .r n => (match st[n]? with
      | some (.lst _) => true
      | some (.rls _) => true
      | _ => false)
    | _ => false)
  | .extend => (asList x st).isSome
  | .pop => (asList x st).isSome
  | .index => (asList x st).isSome
  | .join => (match x with
    | .v (.str _) => true
    | _ => false)
  | .split => (match x with
    | .v (.str _) => true
    | _ => false)
  | .get2 => (asDict x st).isSome
  | _ => false
def appendF (o : X) (as : List X) (st : Store) : R X := match o, as with
  | .r n, [.v a] => (match st[n]? with
    | some (.lst xs) => if xs.length < LIM then .ok (.v .none) (setC n (.lst (xs ++ [a])) st) else .bad
    | _ => .bad)
  | .r n, [.r k] => (match st[n]? with
    | some (.rls xs) => if xs.length < LIM then .ok (.v .none) (setC n (.rls (xs ++ [k])) st) else .bad
    | _ => .bad)
  | _, _ => .bad
def extendF (o : X) (as : List X) (st : Store) : R X := match o, as with
  | .r n, [y] => (match st[n]?, asList y st with
    | some (.lst xs), some ys => if xs.length + ys.length ≤ LIM then .ok (.v .none) (setC n (.lst (xs ++ ys)) st) else .bad
    | _, _ => .bad)
  | _, _ => .bad
def popF (o : X) (as : List X) (st : Store) : R X := match o, as with
  | .r n, [] => (match st[n]? with
    | some (.lst xs) => (match xs[xs.length - 1]? with
      | some y => .ok (.v y) (setC n (.lst xs.dropLast) st)
      | none => .bad)
    | _ => .bad)
  | _, _ => .bad
def joinF (o : X) (as : List X) (st : Store) : R X := match o, as with
  | .v (.str s), [y] => (match (asSeq y st).bind isStrs with
    | some xs => if totalLen s xs ≤ LIM then .ok (.v (.str (joinT s xs))) st else .bad
    | none => .bad)
  | _, _ => .bad
def splitF (m : Bool) (o : X) (as : List X) (st : Store) : R X := match o, as with
  | .v (.str s), [.v (.str [c])] => if s.length + 2 ≤ LIM ∧ c < 256 then newL m ((splitC c s).map .str) st else .bad
  | _, _ => .bad
def get2F (o : X) (as : List X) (st : Store) : R X := match o, as with
  | o, [.v k, .v d] => (match asDict o st with
    | some (t, ks, vs) => if fitKey t k then .ok (.v ((dget ks vs k).getD d)) st else .bad
    | none => .bad)
  | _, _ => .bad
def posT (s : Tx) : List Tx → Nat → Option Nat
  | [], _ => none
  | a :: r, k => if a == s then some k else posT s r (k + 1)
def indexF (o : X) (as : List X) (st : Store) : R X := match as with
  | [.v (.str s)] => (match (asList o st).bind isStrs with
    | some xs => (match posT s xs 0 with
      | some j => .ok (.v (.int j)) st
      | none => .bad)
    | none => .bad)
  | _ => .bad
def bmV (b : BM) (o : X) (as : List X) (st : Store) : R X := match b with
  | .append => appendF o as st
  | .extend => extendF o as st
  | .pop => popF o as st
  | .join => joinF o as st
  | .split => splitF false o as st
  | .get2 => get2F o as st
  | .index => indexF o as st
  | _ => .bad
def rangeV (a b c : Int) : Option (List Val) :=
  if a.natAbs < 4611686018427387904 ∧ b.natAbs < 4611686018427387904 then
    (if c = 1 then some ((List.range (b - a).toNat).map fun i : Nat => .int (a + i)) else if c = -1 then some ((List.range (a - b).toNat).map fun i : Nat => .int (a - i)) else none)
  else none
def enumV (xs : List Val) : List Val := (xs.zipIdx).map fun p => .tup [.int p.2, p.1]
def zipV (xs ys : List Val) : List Val := (xs.zip ys).map fun p => .tup [p.1, p.2]
/-- a loop's target -/
def bindT (t : Tg) (v : Val) (env : Env) : Option Env := match t with
  | .nm i => some (env.set i (some (.v v)))
  | .tp is => (match v with
    | .tup xs => if xs.length = is.length then some ((is.zip xs).foldl (fun e p => e.set p.1 (some (.v p.2))) env) else none
    | .lst xs => if xs.length = is.length then some ((is.zip xs).foldl (fun e p => e.set p.1 (some (.v p.2))) env) else none
    | _ => none)
def tgSlots : Tg → List Nat
  | .nm i => [i]
  | .tp is => is
/-- the slots are empty again -/
def wipeE (env : Env) : List Nat → Env
  | [] => env
  | v :: vs => (wipeE env vs).set v none
def mapO {α β : Type} (f : α → Option β) : List α → Option (List β)
  | [] => some []
  | x :: r => (match f x, mapO f r with
    | some y, some ys => some (y :: ys)
    | _, _ => none)
/-- freezing: an owned cell from lo on becomes a value -/
def frz (lo : Nat) (st : Store) : Nat → X → Option Val
  | _, .v a => some a
  | _, .k _ => none
  | 0, .r _ => none
  | k + 1, .r n => if n < lo then none else (match st[n]? with
    | some (.lst xs) => some (.lst xs)
    | some (.dct t ks vs) => some (.dct t ks vs)
    | some (.rls xs) => (mapO (fun m => frz lo st k (.r m)) xs).map .lst
    | some (.ins c ns vs) => (mapO (fun x => frz lo st k x) vs).map (.obj c ns)
    | some .dead => none
    | none => none)
/-- no cell ahead of lo names one from lo on -/
def okX (lo : Nat) : X → Bool
  | .v _ => true
  | .r n => decide (n < lo)
  | .k _ => true
def okC (lo : Nat) : Cell → Bool
  | .lst _ => true
  | .dct _ _ _ => true
  | .rls xs => xs.all fun n => decide (n < lo)
  | .ins _ _ vs => vs.all (okX lo)
  | .dead => true

/-! ### the evaluator -/
structure Ctx where
  call : Nat → List X → Store → R X
  meth : Nat → Nat → Option Nat
  prop : Nat → Nat → Option Nat
  init : Nat → Option Nat
  glob : Nat → Option X
  sub : Nat → Nat → Bool
  flds : Nat → List Nat

def optR {α : Type} (o : Option α) (st : Store) : R α := match o with
  | some a => .ok a st
  | none => .bad
def boolR (o : Option Bool) (st : Store) : R X := match o with
  | some a => .ok (.v (.bool a)) st
  | none => .bad
/-- a walked owned list stands still -/
def okG (g : Option Nat) (all : List Val) (st : Store) : Bool := match g with
  | none => true
  | some n => (match st[n]? with
    | some (.lst ys) => beqL ys all
    | _ => false)
/-- what is walked: an owned list's cell, the items -/
structure Wk where
  g : Option Nat
  xs : List Val
def loopL {α : Type} (w : Wk) (f : Val → Store → R (List α)) : List Val → Store → R (List α)
  | [], st => if okG w.g w.xs st then .ok [] st else .bad
  | x :: r, st => if okG w.g w.xs st then (f x st).bind fun ys st1 => (loopL w f r st1).bind fun zs st2 => .ok (ys ++ zs) st2 else .bad
/-- a new instance, its __init__, and the freezing -/
def makeV (C : Ctx) (m : Bool) (c : Nat) (xs : List X) (st : Store) : R X := match C.init c with
  | some f => (C.call f (.r st.length :: xs) (st ++ [.ins c [] []])).bind fun y st1 => match y with
    | .v .none => if m then .ok (.r st.length) st1 else (match frz st.length st1 4 (.r st.length) with
      | some v => if (st1.take st.length).all (okC st.length) then .ok (.v v) (st1.take st.length) else .bad
      | none => .bad)
    | _ => .bad
  | none => .bad
def attrV (C : Ctx) (x : X) (n : Nat) (st : Store) : R X := match clsOf x st with
  | some c => (match C.prop c n with
    | some f => noX (C.call f [x] st)
    | none => (match C.meth c n with
      | some _ => .bad
      | none => optR (fldV x n st) st))
  | none => .bad
def methF (C : Ctx) (x : X) (n : Nat) (st : Store) : Option Nat := match clsOf x st with
  | some c => (match fldV x n st with
    | none => C.meth c n
    | some _ => none)
  | none => none
def dputs (t : Bool) : List Val → List Val → List (Val × Val) → Option (List Val × List Val)
  | ks, vs, [] => some (ks, vs)
  | ks, vs, (k, v) :: r => if fitKey t k then dputs t (dput ks vs k v).1 (dput ks vs k v).2 r else none
def toVals : List X → Option (List Val)
  | [] => some []
  | .v a :: r => (toVals r).map (a :: ·)
  | _ => none
def toRefs : List X → Option (List Nat)
  | [] => some []
  | .r a :: r => (toRefs r).map (a :: ·)
  | _ => none
def dictR (m t : Bool) (ks vs : List Val) (st : Store) : R X :=
  if ks.length ≤ LIM then (if m then .ok (.r st.length) (st ++ [.dct t ks vs]) else .ok (.v (.dct t ks vs)) st) else .bad

def pairUp : List Val → Option (List (Val × Val))
  | [] => some []
  | k :: v :: r => (pairUp r).map ((k, v) :: ·)
  | _ => none
def dictOf (m t : Bool) (ps : List (Val × Val)) (st : Store) : R X := match dputs t [] [] ps with
  | some (k, v) => dictR m t k v st
  | none => .bad
def dictF (m : Bool) (ps : List (Val × Val)) (st : Store) : R X := if ps.length < LIM then dictOf m false ps st else .bad
def lstV (m : Bool) (xs : List X) (st : Store) : R X := match toVals xs with
  | some vs => newL m vs st
  | none => (match m, toRefs xs with
    | true, some ns => if ns.length ≤ LIM then .ok (.r st.length) (st ++ [.rls ns]) else .bad
    | _, _ => .bad)
def tupV (xs : List X) (st : Store) : R X := match toVals xs with
  | some vs => if vs.length ≤ LIM then .ok (.v (.tup vs)) st else .bad
  | none => .bad
def dicV (m t : Bool) (xs : List X) (st : Store) : R X := match (toVals xs).bind pairUp with
  | some ps => if ps.length ≤ 15 then dictOf m t ps st else .bad
  | none => .bad
def mergeV (x y : X) (st : Store) : R X := match asDict x st, asDict y st with
  | some (false, k1, v1), some (false, k2, v2) => (match dputs false k1 v1 (k2.zip v2) with
    | some (k, v) => dictR false false k v st
    | none => .bad)
  | _, _ => .bad
def one (y : X) (st : Store) : R (List Val) := match y with
  | .v a => .ok [a] st
  | _ => .bad
def two (x y : X) (st : Store) : R (List (Val × Val)) := match x, y with
  | .v a, .v b => .ok [(a, b)] st
  | _, _ => .bad
def overV (x : X) (st : Store) : R Wk := match x with
  | .v (.lst xs) => .ok ⟨none, xs⟩ st
  | .v (.tup xs) => .ok ⟨none, xs⟩ st
  | .v (.str s) => .ok ⟨none, s.map fun c => .str [c]⟩ st
  | .r n => (match st[n]? with
    | some (.lst xs) => .ok ⟨some n, xs⟩ st
    | _ => .bad)
  | _ => .bad
def lstOf (x : X) : Option (List Val) := match x with
  | .v (.lst xs) => some xs
  | _ => none
def zip2 (x y : X) : Option (List Val) := match x, y with
  | .v (.lst xs), .v (.lst ys) => some (zipV xs ys)
  | .v (.tup xs), .v (.tup ys) => some (zipV xs ys)
  | _, _ => none
def negV (x : X) (st : Store) : R X := match x with
  | .v (.int i) => .ok (.v (.int (-i))) st
  | _ => .bad
def boolV (x : X) (st : Store) : R Bool := match x with
  | .v (.bool b) => .ok b st
  | _ => .bad
def wkR (o : Option (List Val)) (st : Store) : R Wk := match o with
  | some xs => .ok ⟨none, xs⟩ st
  | none => .bad
def rngV (x y z : X) (st : Store) : R Wk := match x, y, z with
  | .v (.int i), .v (.int j), .v (.int k) => wkR (rangeV i j k) st
  | _, _, _ => .bad
def isCV (C : Ctx) (x : X) (c : Nat) (st : Store) : Option Bool := match clsOf x st with
  | some d => some (C.sub d c)
  | none => none
def itemsV (x : X) : Option (List Val) := match x with
  | .v (.dct false ks vs) => some (zipV ks vs)
  | _ => none
def rngD (x y z : X) (st : Store) : R Wk := match x, y, z with
  | .v (.int i), .v (.int j), .v (.int (-1)) => wkR (rangeV i j (-1)) st
  | _, _, _ => .bad
/-- a field that no class has -/
def fldO (C : Ctx) (x : X) (n : Nat) (st : Store) : Option X := match clsOf x st with
  | some c => (match C.prop c n, C.meth c n with
    | none, none => fldV x n st
    | _, _ => none)
  | none => none
/-- a name, a field of a name: read -/
def pkE (C : Ctx) (e : CE) (env : Env) (st : Store) : Option X := match e with
  | .var i => env[i]?.join
  | .at (.var i) n => (match env[i]?.join with
    | some x => (match clsOf x st with
      | some c => (match C.prop c n, C.meth c n with
        | none, none => fldV x n st
        | _, _ => none)
      | none => none)
    | none => none)
  | _ => none

variable (C : Ctx)
mutual
def evE : CE → Env → Store → R X
  | .bad, _, _ => .bad
  | .cst v, _, st => .ok (.v v) st
  | .var i, env, st => optR (env[i]?.join) st
  | .glob g, _, st => optR (C.glob g) st
  | .bin m op a b, env, st => (evE a env st).bind fun x st => (evE b env st).bind fun y st => binV m op x y st
  | .neg a, env, st => (evE a env st).bind negV
  | .cmp op a b, env, st => (evE a env st).bind fun x st => (evE b env st).bind fun y st => boolR (cmpV op x y st) st
  | .chain o p a b c, env, st => (evE a env st).bind fun x st => (evE b env st).bind fun y st => (optR (cmpV o x y st) st).bind fun k st =>
      if k then (evE c env st).bind fun z st => boolR (cmpV p y z st) st else .ok (.v (.bool false)) st
  | .and a b, env, st => (evE a env st).bind fun x st => (boolV x st).bind fun k st => if k then evE b env st else .ok (.v (.bool false)) st
  | .or a b, env, st => (evE a env st).bind fun x st => (boolV x st).bind fun k st => if k then .ok (.v (.bool true)) st else evE b env st
  | .not a, env, st => (evE a env st).bind fun x st => (boolV x st).bind fun k st => .ok (.v (.bool (!k))) st
  | .ite c a b, env, st => (evT c env st).bind fun k st => if k then evE a env st else evE b env st
  | .tup es, env, st => (evEs es env st).bind tupV
  | .lst m es, env, st => (evEs es env st).bind (lstV m)
  | .dic m t es, env, st => (evEs es env st).bind (dicV m t)
  | .merge a b, env, st => (evE a env st).bind fun x st => (evE b env st).bind fun y st => mergeV x y st
  | .ix a i, env, st => (evE a env st).bind fun x st => (evE i env st).bind fun y st => optR ((ixV x y st).map .v) st
  | .sl m a lo hi, env, st => (evE a env st).bind fun x st => (evO lo env st).bind fun l st => (evO hi env st).bind fun h st => slI m x l h st
  | .at a n, env, st => (evE a env st).bind fun x st => attrV C x n st
  | .call f as, env, st => (evEs as env st).bind (C.call f)
  | .meth o n as, env, st => (evE o env st).bind fun x st => (optR (methF C x n st) st).bind fun f st => (evEs as env st).bind fun xs st => C.call f (x :: xs) st
  | .make m c as, env, st => (evEs as env st).bind (makeV C m c)
  | .bi m b as, env, st => (evEs as env st).bind (biV m b)
  | .bm b o as, env, st => (evE o env st).bind fun x st => if bmTy b x st then (evEs as env st).bind fun xs st => bmV b x xs st else .bad
  | .isT a t, env, st => (evE a env st).bind fun x st => boolR (isTV x t st) st
  | .isC a c, env, st => (evE a env st).bind fun x st => boolR (isCV C x c st) st
  | .lc m t it c e, env, st => (evI it env st).bind fun w st =>
      (noX (loopL w (fun v st => (optR (bindT t v env) st).bind fun env st => (evC c env st).bind fun k st =>
        if k then (evE e env st).bind one else .ok [] st) w.xs st)).bind (newL m)
  | .dc t it c k e, env, st => (evI it env st).bind fun w st =>
      (noX (loopL w (fun v st => (optR (bindT t v env) st).bind fun env st => (evC c env st).bind fun b st =>
        if b then (evE k env st).bind fun x st => (evE e env st).bind fun y st => two x y st else .ok [] st) w.xs st)).bind (dictF false)
  | .dc2 t it t2 it2 k e, env, st => (evI it env st).bind fun w st =>
      (noX (loopL w (fun v st => (optR (bindT t v (wipeE env (tgSlots t2))) st).bind fun env st => (evI it2 env st).bind fun w2 st =>
        loopL w2 (fun v st => (optR (bindT t2 v env) st).bind fun env st => (evE k env st).bind fun x st => (evE e env st).bind fun y st => two x y st) w2.xs st) w.xs st)).bind (dictF false)
termination_by structural a => a
/-- as a test -/
def evT : CT → Env → Store → R Bool
  | .and a b, env, st => (evT a env st).bind fun k st => if k then evT b env st else .ok false st
  | .or a b, env, st => (evT a env st).bind fun k st => if k then .ok true st else evT b env st
  | .not a, env, st => (evT a env st).bind fun k st => .ok (!k) st
  | .cmp op a b, env, st => (evE a env st).bind fun x st => (evE b env st).bind fun y st => optR (cmpV op x y st) st
  | .chain o p a b c, env, st => (evE a env st).bind fun x st => (evE b env st).bind fun y st => (optR (cmpV o x y st) st).bind fun k st =>
      if k then (evE c env st).bind fun z st => optR (cmpV p y z st) st else .ok false st
  | .tru e, env, st => (evE e env st).bind fun x st => optR (truth x st) st
termination_by structural a => a
def evEs : List CE → Env → Store → R (List X)
  | [], _, st => .ok [] st
  | e :: r, env, st => (evE e env st).bind fun x st => (evEs r env st).bind fun xs st => .ok (x :: xs) st
termination_by structural a => a
def evO : Option CE → Env → Store → R (Option Int)
  | none, _, st => .ok none st
  | some e, env, st => (evE e env st).bind fun x st => (match x with
    | .v (.int i) => .ok (some i) st
    | _ => .bad)
termination_by structural a => a
def evC : Option CT → Env → Store → R Bool
  | none, _, st => .ok true st
  | some e, env, st => evT e env st
termination_by structural a => a
def evI : CI → Env → Store → R Wk
  | .over e, env, st => (evE e env st).bind overV
  | .rng1 a, env, st => (evE a env st).bind fun x st => rngV (.v (.int 0)) x (.v (.int 1)) st
  | .rng2 a b, env, st => (evE a env st).bind fun x st => (evE b env st).bind fun y st => rngV x y (.v (.int 1)) st
  | .rng3 a b c, env, st => (evE a env st).bind fun x st => (evE b env st).bind fun y st => (evE c env st).bind fun z st => rngD x y z st
  | .enum e, env, st => (evE e env st).bind fun x st => wkR ((lstOf x).map enumV) st
  | .zip a b, env, st => (evE a env st).bind fun x st => (evE b env st).bind fun y st => wkR (zip2 x y) st
  | .items e, env, st => wkR ((pkE C e env st).bind itemsV) st
termination_by structural a => a
end

/-! ### statements -/
def forL (w : Wk) (f : Val → Env → Store → S) (els : Env → Store → S) : List Val → Env → Store → S
  | [], env, st => if okG w.g w.xs st then els env st else .bad
  | x :: r, env, st => if okG w.g w.xs st then (match f x env st with
    | .nx e s => forL w f els r e s
    | .cnt e s => forL w f els r e s
    | .brk e s => .nx e s
    | r => r) else .bad
def whlL (t : Env → Store → R Bool) (f : Env → Store → S) : Nat → Env → Store → S
  | 0, _, _ => .bad
  | n + 1, env, st => (t env st).run env fun k st => if k then (match f env st with
      | .nx e s => whlL t f n e s
      | .cnt e s => whlL t f n e s
      | .brk e s => .nx e s
      | r => r) else .nx env st
/-- the turns of a while -/
def WF : Nat := 1000000000
mutual
def evH (c : Nat) (ns : List Nat) (vs : List Val) : HE → Option Val
  | .cst v => some v
  | .at n => flook ns vs n
  | .isC d => some (.bool (C.sub c d))
  | .isV => some (.bool true)
  | .lst es => (evHs c ns vs es).map .lst
  | .tup es => (evHs c ns vs es).map .tup
termination_by structural a => a
def evHs (c : Nat) (ns : List Nat) (vs : List Val) : List HE → Option (List Val)
  | [] => some []
  | e :: r => (match evH c ns vs e, evHs c ns vs r with
    | some v, some w => some (v :: w)
    | _, _ => none)
termination_by structural a => a
end
def evHS (c : Nat) (ns : List Nat) (vs : List Val) : List HS → Env → Store → S
  | [], env, st => .nx env st
  | .asg i e :: r, env, st => (match evH C c ns vs e with
    | some v => evHS c ns vs r (env.set i (some (.v v))) st
    | none => .bad)
  | .ret e :: _, _, st => (match evH C c ns vs e with
    | some v => .ret (.v v) st
    | none => .bad)
/-- an exception meets the clauses -/
def handle (c : Nat) (ns : List Nat) (vs : List Val) (env : Env) (st : Store) : List Hd → S
  | [] => .exc c ns vs env st
  | h :: r => if C.sub c h.cls then (match h.slot with
      | some i => if i < env.length then evHS C c ns vs h.suite (env.set i none) st else .bad
      | none => evHS C c ns vs h.suite env st) else handle c ns vs env st r
def putAt (C : Ctx) (y : X) (n : Nat) (x : X) (env : Env) (st : Store) : S := match y with
  | .r a => (match st[a]? with
    | some (.ins c ns vs) => (match C.prop c n, C.meth c n with
      | none, none => if ns.length < 900 then .nx env (st.set a (.ins c (fput ns vs n x).1 (fput ns vs n x).2)) else .bad
      | _, _ => .bad)
    | _ => .bad)
  | _ => .bad
def putIx (y k x : X) (env : Env) (st : Store) : S := match y, k, x with
  | .r a, .v k, .v v => (match st[a]? with
    | some (.dct t ks vs) => if fitKey t k && decide (ks.length < LIM) then .nx env (st.set a (.dct t (dput ks vs k v).1 (dput ks vs k v).2)) else .bad
    | some (.lst xs) => (match k with
      | .int j => (match ixAt xs.length j with
        | some p => .nx env (st.set a (.lst (xs.set p v)))
        | none => .bad)
      | _ => .bad)
    | _ => .bad)
  | _, _, _ => .bad
/-- the items to which a value is unpacked -/
def unpack (x : X) : Option (List Val) := match x with
  | .v (.tup xs) => some xs
  | .v (.lst xs) => some xs
  | _ => none
mutual
def assign : TA → X → Env → Store → S
  | .nm i, x, env, st => .nx (env.set i (some x)) st
  | .at o n, x, env, st => (evE C o env st).run env fun y st => putAt C y n x env st
  | .ix o i, x, env, st => (evE C o env st).run env fun y st => (evE C i env st).run env fun k st => putIx y k x env st
  | .tp ts, x, env, st => (match unpack x with
    | some xs => assigns ts xs env st
    | none => .bad)
termination_by structural a => a
def assigns : List TA → List Val → Env → Store → S
  | [], [], env, st => .nx env st
  | t :: ts, x :: xs, env, st => (assign t (.v x) env st).next (assigns ts xs)
  | _, _, _, _ => .bad
termination_by structural a => a
end
/-- the names of a row of names -/
def allNm : List TA → Option (List Nat)
  | [] => some []
  | .nm i :: r => (allNm r).map (i :: ·)
  | _ => none
/-- what is added to a name, a field -/
def augV (op : BOp) (x y : X) (st : Store) : R X := match op, x, y with
  | .add, .v (.int i), .v (.int j) => .ok (.v (.int (i + j))) st
  | _, _, _ => .bad
/-- several names at once -/
def pars : List Nat → List X → Env → Env
  | i :: is, x :: xs, env => pars is xs (env.set i (some x))
  | _, _, env => env
/-- an owned list or dict becomes a value; its cell is given up -/
def frzS (i : Nat) (env : Env) (st : Store) : S := match env[i]?.join with
  | some (.r n) => (match st[n]? with
    | some (.lst xs) => .nx (env.set i (some (.v (.lst xs)))) (st.set n .dead)
    | some (.dct t ks vs) => .nx (env.set i (some (.v (.dct t ks vs)))) (st.set n .dead)
    | _ => .bad)
  | _ => .nx env st
def raiseV (c : Nat) (xs : List X) (env : Env) (st : Store) : S := match toVals xs with
  | some vs => if vs.length = (C.flds c).length ∧ 0 < vs.length ∧ vs.length ≤ 900 then .exc c (C.flds c) vs env st else .bad
  | none => .bad
mutual
def evS : CS → Env → Store → S
  | .bad, _, _ => .bad
  | .expr e, env, st => (evE C e env st).run env fun _ st => .nx env st
  | .asg t e, env, st => (evE C e env st).run env fun x st => assign C t x env st
  | .par is es, env, st => (evEs C es env st).run env fun xs st => if xs.length = is.length then .nx (pars is xs env) st else .bad
  | .frz i, env, st => frzS i env st
  | .aug i op e, env, st => (optR (env[i]?.join) st).run env fun x st => (evE C e env st).run env fun y st => (augV op x y st).run env fun z st => .nx (env.set i (some z)) st
  | .augAt o n op e, env, st => (evE C o env st).run env fun y st => (optR (fldO C y n st) st).run env fun x st => (evE C e env st).run env fun w st2 =>
      if clsOf y st2 == clsOf y st then (augV op x w st2).run env fun z st => putAt C y n z env st else .bad
  | .ret e, env, st => (evE C e env st).run env fun x st => .ret x st
  | .retN, _, st => .ret (.v .none) st
  | .ifs c a b, env, st => (evT C c env st).run env fun k st => if k then evSs a env st else evSs b env st
  | .whl c b, env, st => whlL (evT C c) (evSs b) WF env st
  | .for t it b e, env, st => (evI C it env st).run env fun w st => noXI it (forL w (fun v env st => (match bindT t v env with
      | some env => evSs b env st
      | none => .bad)) (evSs e) w.xs env st)
  | .brk, env, st => .brk env st
  | .cnt, env, st => .cnt env st
  | .pass, env, st => .nx env st
  | .raise c as, env, st => (evEs C as env st).run env fun xs st => raiseV C c xs env st
  | .tr b hs, env, st => (match evSs b env st with
    | .exc c ns vs e s => handle C c ns vs e s hs
    | r => r)
termination_by structural a => a
def evSs : List CS → Env → Store → S
  | [], env, st => .nx env st
  | s :: r, env, st => (evS s env st).next (evSs r)
termination_by structural a => a
end

/-! ### functions -/
/-- mode 0: arguments and result are values, nothing is written; 1: what is new is frozen or let go; 2: all stays -/
structure Fn where
  np : Nat
  ns : Nat
  mode : Nat
  body : List CS
def start (F : Fn) (xs : List X) : Env := xs.map some ++ List.replicate (F.ns - xs.length) none
def bodyR (C : Ctx) (F : Fn) (xs : List X) (st : Store) : R X := match evSs C F.body (start F xs) st with
  | .ret x st => .ok x st
  | .nx _ st => .ok (.v .none) st
  | .exc c ns vs _ st => .exc c ns vs st
  | _ => .bad
def sealV (n : Nat) (x : X) (st1 : Store) : R X := if (st1.take n).all (okC n) then (match okX n x with
  | true => .ok x (st1.take n)
  | false => (match frz n st1 4 x with
    | some v => .ok (.v v) (st1.take n)
    | none => .bad)) else .bad
def callF (C : Ctx) (F : Fn) (xs : List X) (st : Store) : R X :=
  if xs.length = F.np ∧ F.np ≤ F.ns then (match F.mode with
    | 0 => (match toVals xs with
      | some vs => (match bodyR C F (vs.map .v) [] with
        | .ok x st1 => (match frz 0 st1 4 x with
          | some v => .ok (.v v) st
          | none => .bad)
        | .exc c ns vs _ => .exc c ns vs st
        | .bad => .bad)
      | none => .bad)
    | 1 => (match bodyR C F xs st with
      | .ok x st1 => sealV st.length x st1
      | .exc c ns vs st1 => if (st1.take st.length).all (okC st.length) then .exc c ns vs (st1.take st.length) else .bad
      | .bad => .bad)
    | _ => bodyR C F xs st) else .bad
/-- a program -/
structure Prg where
  fn : Nat → Option Fn
  meth : Nat → Nat → Option Nat
  prop : Nat → Nat → Option Nat
  init : Nat → Option Nat
  glob : Nat → Option X
  sub : Nat → Nat → Bool
  flds : Nat → List Nat
def Prg.ctx (P : Prg) (call : Nat → List X → Store → R X) : Ctx := ⟨call, P.meth, P.prop, P.init, P.glob, P.sub, P.flds⟩
/-- calls, at most k deep -/
def callN (P : Prg) : Nat → Nat → List X → Store → R X
  | 0, _, _, _ => .bad
  | k + 1, f, xs, st => (match P.fn f with
    | some F => callF (P.ctx (callN P k)) F xs st
    | none => .bad)
end KG

set_option linter.all false
set_option maxRecDepth 100000
set_option maxHeartbeats 4000000
/-! K1a: values and cells against the abstract heap. -/
namespace KG
open PySem PySem.Spec PyProof.Rows L2

/-! ### keys -/
def KR : Val → Key → Prop
  | .str s, .inr x => x = ⟨s.toArray⟩ ∧ ∀ c ∈ s, c < 1114112
  | .int i, .inl j => j = i
  | _, _ => False
def KRT : Val → List Key → Prop
  | .tup xs, ks => Paired KR xs ks
  | _, _ => False

/-- names of classes and attributes, as the linked program has them -/
structure Nms where
  cls : Nat → Option Addr
  att : Nat → Str

section
variable (K : PySem.W.Frag) (M : Nms) (F : Addr → Prop) (H : Hp)
/-- a tuple that may be read: tracked and nobody's own, or written -/
def KTup (a : Addr) (ys : List V) : Prop := ∃ (o : Obj) (its : Array Value) (n : Nat), K.lookup a = some o ∧ o.cls = .type "tuple" ∧ o.data = .seq its n ∧ its.size ≤ sizeLine ∧ Vals ys its.toList
def TupAt (a : Addr) (ys : List V) : Prop := H a = some (.tup ys) ∧ F a
def LstAt (a : Addr) (ys : List V) : Prop := Rd H a (.lst ys) ∧ F a
/-- a value stands for x, so many levels deep -/
def VRn : Nat → Val → V → Prop
  | _, .none, x => x = .non
  | _, .bool b, x => x = .bl b
  | _, .int i, x => x = .int i
  | _, .str s, x => x = .str ⟨s.toArray⟩ ∧ ∀ c ∈ s, c < 1114112
  | 0, _, _ => False
  | n + 1, .tup xs, x => ∃ a ys, x = .ref a ∧ TupAt F H a ys ∧ Paired (VRn n) xs ys
  | n + 1, .lst xs, x => ∃ a ys, x = .ref a ∧ LstAt F H a ys ∧ Paired (VRn n) xs ys
  | n + 1, .dct t ks vs, x => ∃ a, x = .ref a ∧ F a ∧ ((∃ kvs : List (Key × V), t = false ∧ Rd H a (.dK kvs) ∧ Paired KR ks (kvs.map (·.1)) ∧ Paired (VRn n) vs (kvs.map (·.2))) ∨
      ∃ kvs : List (List Key × V), t = true ∧ Rd H a (.dT kvs) ∧ Paired KRT ks (kvs.map (·.1)) ∧ Paired (VRn n) vs (kvs.map (·.2)))
  | n + 1, .obj c ns vs, x => ∃ a C dx fs, x = .ref a ∧ F a ∧ H a = some (.ins C dx fs) ∧ M.cls c = some C ∧ fs.map (·.1) = ns.map M.att ∧ Paired (VRn n) vs (fs.map (·.2))
def VR (v : Val) (x : V) : Prop := ∃ n, VRn M F H n v x
end

section
variable {K : PySem.W.Frag} {M : Nms} {F F' : Addr → Prop} {H H' : Hp}
theorem pmono {α β : Type} {P Q : α → β → Prop} (h : ∀ a b, P a b → Q a b) : ∀ {xs : List α} {ys : List β}, Paired P xs ys → Paired Q xs ys
  | _, _, .nil => .nil
  | _, _, .cons p t => .cons (h _ _ p) (pmono h t)
theorem VRn.up : ∀ {n : Nat} {v : Val} {x : V}, VRn M F H n v x → VRn M F H (n + 1) v x
  | n, v, x, h => by
    induction n generalizing v x with
    | zero => cases v <;> first | exact h | exact h.elim
    | succ n ih0 =>
      have ih : ∀ v x, VRn M F H n v x → VRn M F H (n + 1) v x := ih0
      cases v with
      | none => exact h
      | bool b => exact h
      | int i => exact h
      | str s => exact h
      | tup xs => obtain ⟨a, ys, e, t, p⟩ := h; exact ⟨a, ys, e, t, pmono (ih · ·) p⟩
      | lst xs => obtain ⟨a, ys, e, t, p⟩ := h; exact ⟨a, ys, e, t, pmono (ih · ·) p⟩
      | dct t ks vs =>
        obtain ⟨a, e, f, h⟩ := h
        refine ⟨a, e, f, ?_⟩
        rcases h with ⟨kvs, te, r, p, q⟩ | ⟨kvs, te, r, p, q⟩
        · exact .inl ⟨kvs, te, r, p, pmono (ih · ·) q⟩
        · exact .inr ⟨kvs, te, r, p, pmono (ih · ·) q⟩
      | obj c ns vs => obtain ⟨a, C, dx, fs, e, f, r, c', d, p⟩ := h; exact ⟨a, C, dx, fs, e, f, r, c', d, pmono (ih · ·) p⟩
theorem VRn.le {n m : Nat} {v : Val} {x : V} (h : VRn M F H n v x) (l : n ≤ m) : VRn M F H m v x := by
  induction l with
  | refl => exact h
  | step _ ih => exact ih.up
theorem VR.all : ∀ {vs : List Val} {xs : List V}, Paired (VR M F H) vs xs → ∃ n, Paired (VRn M F H n) vs xs
  | _, _, .nil => ⟨0, .nil⟩
  | _, _, .cons ⟨n, p⟩ t => by
    obtain ⟨m, q⟩ := VR.all t
    exact ⟨max n m, .cons (p.le (Nat.le_max_left _ _)) (pmono (fun _ _ z => VRn.le z (Nat.le_max_right _ _)) q)⟩
theorem VR.of_all {n : Nat} {vs : List Val} {xs : List V} (h : Paired (VRn M F H n) vs xs) : Paired (VR M F H) vs xs := pmono (fun _ _ z => ⟨n, z⟩) h
/-! ### openings -/
theorem VR.none_i {x : V} : VR M F H .none x ↔ x = .non := ⟨fun ⟨n, h⟩ => by cases n <;> exact h, fun h => ⟨0, h⟩⟩
theorem VR.bool_i {b : Bool} {x : V} : VR M F H (.bool b) x ↔ x = .bl b := ⟨fun ⟨n, h⟩ => by cases n <;> exact h, fun h => ⟨0, h⟩⟩
theorem VR.int_i {i : Int} {x : V} : VR M F H (.int i) x ↔ x = .int i := ⟨fun ⟨n, h⟩ => by cases n <;> exact h, fun h => ⟨0, h⟩⟩
theorem VR.str_i {s : Tx} {x : V} : VR M F H (.str s) x ↔ x = .str ⟨s.toArray⟩ ∧ ∀ c ∈ s, c < 1114112 := ⟨fun ⟨n, h⟩ => by cases n <;> exact h, fun h => ⟨0, h⟩⟩
theorem VR.tup_i {vs : List Val} {x : V} : VR M F H (.tup vs) x ↔ ∃ a ys, x = .ref a ∧ TupAt F H a ys ∧ Paired (VR M F H) vs ys := by
  constructor
  · rintro ⟨n, h⟩
    cases n with
    | zero => exact h.elim
    | succ n => obtain ⟨a, ys, e, t, p⟩ := h; exact ⟨a, ys, e, t, VR.of_all p⟩
  · rintro ⟨a, ys, e, t, p⟩
    obtain ⟨n, q⟩ := VR.all p
    exact ⟨n + 1, a, ys, e, t, q⟩
theorem VR.lst_i {vs : List Val} {x : V} : VR M F H (.lst vs) x ↔ ∃ a ys, x = .ref a ∧ LstAt F H a ys ∧ Paired (VR M F H) vs ys := by
  constructor
  · rintro ⟨n, h⟩
    cases n with
    | zero => exact h.elim
    | succ n => obtain ⟨a, ys, e, t, p⟩ := h; exact ⟨a, ys, e, t, VR.of_all p⟩
  · rintro ⟨a, ys, e, t, p⟩
    obtain ⟨n, q⟩ := VR.all p
    exact ⟨n + 1, a, ys, e, t, q⟩
theorem VR.dct_i {t : Bool} {ks vs : List Val} {x : V} : VR M F H (.dct t ks vs) x ↔ ∃ a, x = .ref a ∧ F a ∧ ((∃ kvs : List (Key × V), t = false ∧ Rd H a (.dK kvs) ∧ Paired KR ks (kvs.map (·.1)) ∧ Paired (VR M F H) vs (kvs.map (·.2))) ∨
      ∃ kvs : List (List Key × V), t = true ∧ Rd H a (.dT kvs) ∧ Paired KRT ks (kvs.map (·.1)) ∧ Paired (VR M F H) vs (kvs.map (·.2))) := by
  constructor
  · rintro ⟨n, h⟩
    cases n with
    | zero => exact h.elim
    | succ n =>
      obtain ⟨a, e, f, h⟩ := h
      refine ⟨a, e, f, ?_⟩
      rcases h with ⟨kvs, te, r, p, q⟩ | ⟨kvs, te, r, p, q⟩
      · exact .inl ⟨kvs, te, r, p, VR.of_all q⟩
      · exact .inr ⟨kvs, te, r, p, VR.of_all q⟩
  · rintro ⟨a, e, f, h⟩
    rcases h with ⟨kvs, te, r, p, q⟩ | ⟨kvs, te, r, p, q⟩
    · obtain ⟨n, q⟩ := VR.all q
      exact ⟨n + 1, a, e, f, .inl ⟨kvs, te, r, p, q⟩⟩
    · obtain ⟨n, q⟩ := VR.all q
      exact ⟨n + 1, a, e, f, .inr ⟨kvs, te, r, p, q⟩⟩
theorem VR.obj_i {c : Nat} {ns : List Nat} {vs : List Val} {x : V} : VR M F H (.obj c ns vs) x ↔ ∃ a C dx fs, x = .ref a ∧ F a ∧ H a = some (.ins C dx fs) ∧ M.cls c = some C ∧ fs.map (·.1) = ns.map M.att ∧ Paired (VR M F H) vs (fs.map (·.2)) := by
  constructor
  · rintro ⟨n, h⟩
    cases n with
    | zero => exact h.elim
    | succ n => obtain ⟨a, C, dx, fs, e, f, r, c', d, p⟩ := h; exact ⟨a, C, dx, fs, e, f, r, c', d, VR.of_all p⟩
  · rintro ⟨a, C, dx, fs, e, f, r, c', d, p⟩
    obtain ⟨n, q⟩ := VR.all p
    exact ⟨n + 1, a, C, dx, fs, e, f, r, c', d, q⟩
end

section
variable {M : Nms} {F F' : Addr → Prop} {H : Hp}
theorem VRn.weak (hf : ∀ a, F a → F' a) : ∀ {n : Nat} {v : Val} {x : V}, VRn M F H n v x → VRn M F' H n v x := by
  intro n
  induction n with
  | zero => intro v x h; cases v <;> first | exact h | exact h.elim
  | succ n ih0 =>
    have ih : ∀ v x, VRn M F H n v x → VRn M F' H n v x := fun v x => ih0
    intro v x h
    cases v with
    | none => exact h
    | bool b => exact h
    | int i => exact h
    | str s => exact h
    | tup xs => obtain ⟨a, ys, e, t, p⟩ := h; exact ⟨a, ys, e, ⟨t.1, hf _ t.2⟩, pmono (ih · ·) p⟩
    | lst xs => obtain ⟨a, ys, e, t, p⟩ := h; exact ⟨a, ys, e, ⟨t.1, hf _ t.2⟩, pmono (ih · ·) p⟩
    | dct t ks vs =>
      obtain ⟨a, e, f, h⟩ := h
      rcases h with ⟨kvs, te, r, p, q⟩ | ⟨kvs, te, r, p, q⟩
      · exact ⟨a, e, hf _ f, .inl ⟨kvs, te, r, p, pmono (ih · ·) q⟩⟩
      · exact ⟨a, e, hf _ f, .inr ⟨kvs, te, r, p, pmono (ih · ·) q⟩⟩
    | obj c ns vs => obtain ⟨a, C, dx, fs, e, f, r, c', d, p⟩ := h; exact ⟨a, C, dx, fs, e, hf _ f, r, c', d, pmono (ih · ·) p⟩
theorem VR.weak (hf : ∀ a, F a → F' a) {v : Val} {x : V} : VR M F H v x → VR M F' H v x := fun ⟨n, h⟩ => ⟨n, h.weak hf⟩
end

/-! ### owned cells -/
abbrev Mu := List (Option Addr)
/-- nobody's own: neither guarded nor of a cell -/
def Fz (G : Addr → Prop) (μ : Mu) (a : Addr) : Prop := ¬ G a ∧ some a ∉ μ
section
variable (K : PySem.W.Frag) (M : Nms) (G : Addr → Prop) (μ : Mu) (H : Hp)
/-- what stands in a slot, a field -/
def XR : X → V → Prop
  | .v a, x => VR M (Fz G μ) H a x
  | .r n, x => n < μ.length ∧ ∀ a, μ[n]? = some (some a) → x = .ref a
  | .k xs, x => ∃ a ys, x = .ref a ∧ KTup K a ys ∧ Paired (VR M (fun _ => False) fun _ => none) xs ys
def CR : Cell → Addr → Prop
  | .lst xs, a => ∃ ys, H a = some (.lst ys) ∧ Paired (VR M (Fz G μ) H) xs ys
  | .rls ns, a => ∃ ys, H a = some (.lst ys) ∧ Paired (fun n y => XR K M G μ H (.r n) y) ns ys
  | .dct false ks vs, a => ∃ kvs : List (Key × V), H a = some (.dK kvs) ∧ Paired KR ks (kvs.map (·.1)) ∧ Paired (VR M (Fz G μ) H) vs (kvs.map (·.2))
  | .dct true ks vs, a => ∃ kvs : List (List Key × V), H a = some (.dT kvs) ∧ Paired KRT ks (kvs.map (·.1)) ∧ Paired (VR M (Fz G μ) H) vs (kvs.map (·.2))
  | .ins c ns vs, a => ∃ C dx fs, H a = some (.ins C dx fs) ∧ M.cls c = some C ∧ fs.map (·.1) = ns.map M.att ∧ Paired (XR K M G μ H) vs (fs.map (·.2))
  | .dead, _ => False
structure SR (st : Store) : Prop where
  len : μ.length = st.length
  nd : ∀ (i j : Nat) (a : Addr), μ[i]? = some (some a) → μ[j]? = some (some a) → i = j
  cell : ∀ (n : Nat) (a : Addr) (c : Cell), μ[n]? = some (some a) → st[n]? = some c → CR K M G μ H c a
  dead : ∀ n : Nat, μ[n]? = some none → st[n]? = some .dead
  apart : ∀ a, some a ∈ μ → ¬ G a
  there : ∀ a, G a → H a ≠ none
end
/-- from one state to a later one -/
structure Ext (μ : Mu) (H : Hp) (μ' : Mu) (H' : Hp) : Prop where
  len : μ.length ≤ μ'.length
  pre : ∀ (n : Nat) (a : Addr), n < μ.length → μ'[n]? = some (some a) → μ[n]? = some (some a)
  same : ∀ a o, H a = some o → some a ∉ μ → H' a = some o
  new : ∀ a, some a ∈ μ' → some a ∈ μ ∨ H a = none
def ER (K : PySem.W.Frag) (M : Nms) (G : Addr → Prop) (μ : Mu) (H : Hp) (env : Env) (σ : L2.St) : Prop :=
  env.length = σ.length ∧ ∀ (i : Nat) (x : X), env[i]? = some (some x) → ∃ y, σ[i]? = some (some y) ∧ XR K M G μ H x y

section
variable {K : PySem.W.Frag} {M : Nms} {G : Addr → Prop} {μ μ' μ'' : Mu} {H H' H'' : Hp} {st st' : Store}
theorem Ext.refl (μ : Mu) (H : Hp) : Ext μ H μ H := ⟨Nat.le_refl _, fun _ _ _ h => h, fun _ _ h _ => h, fun _ h => .inl h⟩
theorem Ext.trans (e : Ext μ H μ' H') (f : Ext μ' H' μ'' H'') : Ext μ H μ'' H'' where
  len := Nat.le_trans e.len f.len
  pre := fun n a hn h => e.pre n a hn (f.pre n a (Nat.lt_of_lt_of_le hn e.len) h)
  same := fun a o h hn => f.same a o (e.same a o h hn) fun q => (e.new a q).elim hn fun z => by rw [h] at z; cases z
  new := fun a h => (f.new a h).elim (e.new a) fun z => by
    by_cases q : some a ∈ μ
    · exact .inl q
    · refine .inr ?_
      cases h0 : H a with
      | none => rfl
      | some o => rw [e.same a o h0 q] at z; cases z
theorem Ext.fz (e : Ext μ H μ' H') {a : Addr} {o : HO} (h : H a = some o) (f : Fz G μ a) : Fz G μ' a := ⟨f.1, fun q => (e.new a q).elim f.2 fun z => by rw [h] at z; cases z⟩
theorem Ext.rd (e : Ext μ H μ' H') {a : Addr} {u : HO} (f : Fz G μ a) (r : Rd H a u) : Rd H' a u ∧ Fz G μ' a := by
  rcases r with r | ⟨o, r⟩
  · exact ⟨.inl (e.same a _ r f.2), e.fz r f⟩
  · exact ⟨.inr ⟨o, e.same a _ r f.2⟩, e.fz r f⟩
/-- an untracked address that is new to the owner -/
theorem VR.ext (e : Ext μ H μ' H') : ∀ {v : Val} {x : V}, VR M (Fz G μ) H v x → VR M (Fz G μ') H' v x := by
  have key : ∀ (n : Nat) (v : Val) (x : V), VRn M (Fz G μ) H n v x → VRn M (Fz G μ') H' n v x := by
    intro n
    induction n with
    | zero => intro v x h; cases v <;> first | exact h | exact h.elim
    | succ n ih =>
      intro v x h
      cases v with
      | none => exact h
      | bool b => exact h
      | int i => exact h
      | str s => exact h
      | tup xs =>
        obtain ⟨a, ys, e1, t, p⟩ := h
        refine ⟨a, ys, e1, ?_, pmono (ih · ·) p⟩
        exact ⟨e.same a _ t.1 t.2.2, e.fz t.1 t.2⟩
      | lst xs => 
        obtain ⟨a, ys, e1, ⟨t, f⟩, p⟩ := h
        obtain ⟨r, f'⟩ := e.rd f t
        exact ⟨a, ys, e1, ⟨r, f'⟩, pmono (ih · ·) p⟩
      | dct t ks vs =>
        obtain ⟨a, e1, f, h⟩ := h
        rcases h with ⟨kvs, te, r, p, q⟩ | ⟨kvs, te, r, p, q⟩
        · obtain ⟨r, f'⟩ := e.rd f r
          exact ⟨a, e1, f', .inl ⟨kvs, te, r, p, pmono (ih · ·) q⟩⟩
        · obtain ⟨r, f'⟩ := e.rd f r
          exact ⟨a, e1, f', .inr ⟨kvs, te, r, p, pmono (ih · ·) q⟩⟩
      | obj c ns vs =>
        obtain ⟨a, C, dx, fs, e1, f, r, c', d, p⟩ := h
        exact ⟨a, C, dx, fs, e1, e.fz r f, e.same a _ r f.2, c', d, pmono (ih · ·) p⟩
  intro v x ⟨n, h⟩
  exact ⟨n, key n v x h⟩
theorem VR.exts (e : Ext μ H μ' H') {vs : List Val} {xs : List V} (p : Paired (VR M (Fz G μ) H) vs xs) : Paired (VR M (Fz G μ') H') vs xs := pmono (fun _ _ q => q.ext e) p
theorem XR.ext (e : Ext μ H μ' H') : ∀ {x : X} {y : V}, XR K M G μ H x y → XR K M G μ' H' x y
  | .v a, y, h => VR.ext e (show VR M (Fz G μ) H a y from h)
  | .r n, y, h => by
    have h : n < μ.length ∧ ∀ a, μ[n]? = some (some a) → y = .ref a := h
    exact ⟨Nat.lt_of_lt_of_le h.1 e.len, fun a q => h.2 a (e.pre n a h.1 q)⟩
  | .k xs, y, h => h
theorem XR.exts (e : Ext μ H μ' H') {vs : List X} {xs : List V} (p : Paired (XR K M G μ H) vs xs) : Paired (XR K M G μ' H') vs xs := pmono (fun _ _ q => q.ext e) p
theorem ER.ext {env : Env} {σ : L2.St} (e : Ext μ H μ' H') (h : ER K M G μ H env σ) : ER K M G μ' H' env σ :=
  ⟨h.1, fun i x q => let ⟨y, q1, q2⟩ := h.2 i x q; ⟨y, q1, q2.ext e⟩⟩
theorem CR.ext (e : Ext μ H μ' H') {c : Cell} {a : Addr} (ha : H' a = H a) (h : CR K M G μ H c a) : CR K M G μ' H' c a := by
  cases c with
  | lst xs => obtain ⟨ys, q, p⟩ := h; exact ⟨ys, by rw [ha]; exact q, VR.exts e p⟩
  | rls ns => obtain ⟨ys, q, p⟩ := h; exact ⟨ys, by rw [ha]; exact q, pmono (fun _ _ q => q.ext e) p⟩
  | dct t ks vs =>
    cases t with
    | false => obtain ⟨kvs, q, p, r⟩ := h; exact ⟨kvs, by rw [ha]; exact q, p, VR.exts e r⟩
    | true => obtain ⟨kvs, q, p, r⟩ := h; exact ⟨kvs, by rw [ha]; exact q, p, VR.exts e r⟩
  | ins c ns vs => obtain ⟨C, dx, fs, q, c1, c2, r⟩ := h; exact ⟨C, dx, fs, by rw [ha]; exact q, c1, c2, XR.exts e r⟩
  | dead => exact h.elim
theorem CR.live {c : Cell} {a : Addr} (h : CR K M G μ H c a) : ∃ o, H a = some o := by
  cases c with
  | lst xs => obtain ⟨ys, q, p⟩ := h; exact ⟨_, q⟩
  | rls ns => obtain ⟨ys, q, p⟩ := h; exact ⟨_, q⟩
  | dct t ks vs =>
    cases t with
    | false => obtain ⟨kvs, q, p, r⟩ := h; exact ⟨_, q⟩
    | true => obtain ⟨kvs, q, p, r⟩ := h; exact ⟨_, q⟩
  | ins c ns vs => obtain ⟨C, dx, fs, q, c1, c2, r⟩ := h; exact ⟨_, q⟩
  | dead => exact h.elim
theorem SR.live (S : SR K M G μ H st) {a : Addr} (h : some a ∈ μ) : ∃ o, H a = some o := by
  obtain ⟨n, hn⟩ := List.getElem?_of_mem h
  have hl : n < st.length := by rw [← S.len]; exact (List.getElem?_eq_some_iff.mp hn).1
  exact (S.cell n a st[n] hn (by simp [hl])).live
/-- a new address is nobody's -/
theorem SR.fresh (S : SR K M G μ H st) {p : Addr} (h : H p = none) : Fz G μ p :=
  ⟨fun g => S.there p g h, fun q => by obtain ⟨o, e⟩ := S.live q; rw [h] at e; cases e⟩
theorem Ext.grow (h : ∀ a o, H a = some o → H' a = some o) : Ext μ H μ H' := ⟨Nat.le_refl _, fun _ _ _ q => q, fun a o q _ => h a o q, fun _ q => .inl q⟩
theorem SR.grow (S : SR K M G μ H st) (h : ∀ a o, H a = some o → H' a = some o) : SR K M G μ H' st where
  len := S.len
  nd := S.nd
  cell := fun n a c q1 q2 => by
    have r := S.cell n a c q1 q2
    obtain ⟨o, e⟩ := r.live
    exact r.ext (Ext.grow h) (by rw [e]; exact h a o e)
  dead := S.dead
  apart := S.apart
  there := fun a g q => by
    cases e : H a with
    | none => exact S.there a g e
    | some o => rw [h a o e] at q; cases q
theorem grow_upd {p : Addr} {o : HO} (h : H p = none) : ∀ a u, H a = some u → upd H p o a = some u := fun a u q => by rw [upd_ne (ne_of_none q h)]; exact q
theorem Ext.alloc {p : Addr} (h : ∀ a o, H a = some o → H' a = some o) (hp : H p = none) : Ext μ H (μ ++ [some p]) H' where
  len := by simp
  pre := fun n a hn q => by rw [List.getElem?_append_left hn] at q; exact q
  same := fun a o q _ => h a o q
  new := fun a q => by
    rcases List.mem_append.mp q with q | q
    · exact .inl q
    · have e : a = p := by simpa using q
      subst e
      exact .inr hp
/-- a new cell -/
theorem SR.alloc (S : SR K M G μ H st) {p : Addr} {c : Cell} (h : ∀ a o, H a = some o → H' a = some o) (hp : H p = none) (hc : CR K M G (μ ++ [some p]) H' c p) : SR K M G (μ ++ [some p]) H' (st ++ [c]) := by
  have E : Ext μ H (μ ++ [some p]) H' := Ext.alloc h hp
  have fp := S.fresh hp
  have at_ : ∀ (n : Nat) (a : Addr), (μ ++ [some p])[n]? = some (some a) → (n < μ.length ∧ μ[n]? = some (some a)) ∨ (n = μ.length ∧ a = p) := fun n a q => by
    by_cases hn : n < μ.length
    · rw [List.getElem?_append_left hn] at q; exact .inl ⟨hn, q⟩
    · rw [List.getElem?_append_right (by omega)] at q
      have h0 : n - μ.length = 0 := by
        cases h1 : n - μ.length with
        | zero => rfl
        | succ k => rw [h1] at q; simp at q
      rw [h0] at q
      have : p = a := by simpa using q
      exact .inr ⟨by omega, this.symm⟩
  refine ⟨by simp [S.len], fun i j a q1 q2 => ?_, fun n a c' q1 q2 => ?_, fun n q => ?_, fun a q => ?_, fun a g q => ?_⟩
  · rcases at_ i a q1 with ⟨h1, r1⟩ | ⟨h1, r1⟩ <;> rcases at_ j a q2 with ⟨h2, r2⟩ | ⟨h2, r2⟩
    · exact S.nd i j a r1 r2
    · subst r2; exact absurd (List.mem_of_getElem? r1) fp.2
    · subst r1; exact absurd (List.mem_of_getElem? r2) fp.2
    · omega
  · rcases at_ n a q1 with ⟨h1, r1⟩ | ⟨h1, r1⟩
    · rw [List.getElem?_append_left (by rw [← S.len]; exact h1)] at q2
      have r := S.cell n a c' r1 q2
      obtain ⟨o, e⟩ := r.live
      exact r.ext E (by rw [e]; exact h a o e)
    · subst r1
      rw [h1, S.len, List.getElem?_append_right (Nat.le_refl _)] at q2
      simp at q2
      subst q2
      exact hc
  · by_cases hn : n < μ.length
    · rw [List.getElem?_append_left hn] at q
      rw [List.getElem?_append_left (by rw [← S.len]; exact hn)]
      exact S.dead n q
    · rw [List.getElem?_append_right (by omega)] at q
      cases h1 : n - μ.length with
      | zero => rw [h1] at q; simp at q
      | succ k => rw [h1] at q; simp at q
  · rcases List.mem_append.mp q with q | q
    · exact S.apart a q
    · have e : a = p := by simpa using q
      subst e
      exact fp.1
  · cases e : H a with
    | none => exact S.there a g e
    | some o => rw [h a o e] at q; cases q
theorem XR.new {n : Nat} {p : Addr} (hn : n = μ.length) : XR K M G (μ ++ [some p]) H (.r n) (.ref p) := by
  subst hn
  exact ⟨by simp, fun a q => by rw [List.getElem?_append_right (Nat.le_refl _)] at q; simp at q; rw [q]⟩
theorem Ext.write {a : Addr} {o : HO} (h : some a ∈ μ) : Ext μ H μ (upd H a o) :=
  ⟨Nat.le_refl _, fun _ _ _ q => q, fun b u q hb => by rw [upd_ne (fun e : b = a => hb (by rw [e]; exact h))]; exact q, fun _ q => .inl q⟩
/-- a cell is changed -/
theorem SR.write (S : SR K M G μ H st) {n : Nat} {a : Addr} {o : HO} {c : Cell} (hn : μ[n]? = some (some a)) (hc : CR K M G μ (upd H a o) c a) : SR K M G μ (upd H a o) (st.set n c) := by
  have hm : some a ∈ μ := List.mem_of_getElem? hn
  have E : Ext μ H μ (upd H a o) := Ext.write hm
  refine ⟨by rw [List.length_set]; exact S.len, S.nd, fun i b c' q1 q2 => ?_, fun i q => ?_, S.apart, fun b g q => ?_⟩
  · by_cases hi : i = n
    · subst hi
      rw [hn] at q1
      cases q1
      rw [List.getElem?_set_self' ] at q2
      cases e : st[i]? with
      | none => rw [e] at q2; cases q2
      | some z => rw [e] at q2; cases q2; exact hc
    · rw [List.getElem?_set_ne (Ne.symm hi)] at q2
      have ne : b ≠ a := fun e => hi (S.nd i n a (e ▸ q1) hn)
      exact (S.cell i b c' q1 q2).ext E (upd_ne ne)
  · have hi : i ≠ n := fun e => by subst e; rw [hn] at q; cases q
    rw [List.getElem?_set_ne (Ne.symm hi)]
    exact S.dead i q
  · have ne : b ≠ a := fun e => S.apart a hm (e ▸ g)
    rw [upd_ne ne] at q
    exact S.there b g q
theorem Ext.kill {n : Nat} : Ext μ H (μ.set n none) H :=
  ⟨by simp, fun i a _ q => by
    by_cases hi : i = n
    · subst hi
      rw [List.getElem?_set_self'] at q
      cases e : μ[i]? with
      | none => rw [e] at q; cases q
      | some z => rw [e] at q; cases q
    · rw [List.getElem?_set_ne (Ne.symm hi)] at q; exact q, fun _ _ q _ => q, fun a q => .inl (by
      rcases List.mem_or_eq_of_mem_set q with q | q
      · exact q
      · cases q)⟩
/-- a cell is given up: what stood there is nobody's own any more -/
theorem SR.kill (S : SR K M G μ H st) {n : Nat} {a : Addr} (hn : μ[n]? = some (some a)) : SR K M G (μ.set n none) H (st.set n .dead) ∧ Fz G (μ.set n none) a := by
  have at_ : ∀ (i : Nat) (b : Addr), (μ.set n none)[i]? = some (some b) → i ≠ n ∧ μ[i]? = some (some b) := fun i b q => by
    by_cases hi : i = n
    · subst hi
      rw [List.getElem?_set_self'] at q
      cases e : μ[i]? with
      | none => rw [e] at q; cases q
      | some z => rw [e] at q; cases q
    · rw [List.getElem?_set_ne (Ne.symm hi)] at q; exact ⟨hi, q⟩
  have hl : n < st.length := by rw [← S.len]; exact (List.getElem?_eq_some_iff.mp hn).1
  refine ⟨⟨by simp [S.len], fun i j b q1 q2 => S.nd i j b (at_ i b q1).2 (at_ j b q2).2, fun i b c q1 q2 => ?_, fun i q => ?_, fun b q => ?_, S.there⟩, S.apart a (List.mem_of_getElem? hn), fun q => ?_⟩
  · obtain ⟨hi, q1⟩ := at_ i b q1
    rw [List.getElem?_set_ne (Ne.symm hi)] at q2
    exact (S.cell i b c q1 q2).ext Ext.kill rfl
  · by_cases hi : i = n
    · subst hi
      simp [hl]
    · rw [List.getElem?_set_ne (Ne.symm hi)] at q
      rw [List.getElem?_set_ne (Ne.symm hi)]
      exact S.dead i q
  · rcases List.mem_or_eq_of_mem_set q with q | q
    · exact S.apart b q
    · cases q
  · obtain ⟨i, hi⟩ := List.getElem?_of_mem q
    obtain ⟨h1, h2⟩ := at_ i a hi
    exact h1 (S.nd i n a h2 hn)
/-- the address of a living cell -/
theorem SR.addr (S : SR K M G μ H st) {n : Nat} {c : Cell} (h : st[n]? = some c) (hc : c ≠ .dead) : ∃ a, μ[n]? = some (some a) ∧ CR K M G μ H c a := by
  have hl : n < μ.length := by rw [S.len]; exact (List.getElem?_eq_some_iff.mp h).1
  cases e : μ[n] with
  | none =>
    have := S.dead n (by simp [hl, e])
    rw [h] at this
    cases this
    exact absurd rfl hc
  | some a =>
    have q : μ[n]? = some (some a) := by simp [hl, e]
    exact ⟨a, q, S.cell n a c q h⟩
theorem XR.at {n : Nat} {a : Addr} {y : V} (h : XR K M G μ H (.r n) y) (q : μ[n]? = some (some a)) : y = .ref a := (show n < μ.length ∧ ∀ a, μ[n]? = some (some a) → y = .ref a from h).2 a q
theorem XR.of {n : Nat} {a : Addr} (q : μ[n]? = some (some a)) : XR K M G μ H (.r n) (.ref a) :=
  ⟨(List.getElem?_eq_some_iff.mp q).1, fun b q' => by rw [q] at q'; cases q'; rfl⟩
end
/-- what stands there, whether it is walked or not -/
def core : HO → HO
  | .frz _ (.lst xs) => .lst xs
  | .frz _ (.dK xs) => .dK xs
  | .frz _ (.dT xs) => .dT xs
  | o => o
theorem core_tup {o : HO} {xs : List V} (h : core o = .tup xs) : o = .tup xs := by
  cases o with
  | frz p u => cases u <;> first | (cases h; done) | exact h
  | _ => exact h
theorem core_ins {o : HO} {C dx : Addr} {fs : List (Str × V)} (h : core o = .ins C dx fs) : o = .ins C dx fs := by
  cases o with
  | frz p u => cases u <;> first | (cases h; done) | exact h
  | _ => exact h
/-- a list, a dict -/
structure LD (u : HO) : Prop where
  c : core u = u
  f : ∀ p, core (.frz p u) = u
  i : ∀ o, core o = u → o = u ∨ ∃ p, o = .frz p u
theorem LD.lst {xs : List V} : LD (.lst xs) := ⟨rfl, fun _ => rfl, fun o h => by
  cases o with
  | frz p u => cases u <;> first | (cases h; done) | (cases h; exact .inr ⟨p, rfl⟩)
  | _ => exact .inl h⟩
theorem LD.dK {xs : List (Key × V)} : LD (.dK xs) := ⟨rfl, fun _ => rfl, fun o h => by
  cases o with
  | frz p u => cases u <;> first | (cases h; done) | (cases h; exact .inr ⟨p, rfl⟩)
  | _ => exact .inl h⟩
theorem LD.dT {xs : List (List Key × V)} : LD (.dT xs) := ⟨rfl, fun _ => rfl, fun o h => by
  cases o with
  | frz p u => cases u <;> first | (cases h; done) | (cases h; exact .inr ⟨p, rfl⟩)
  | _ => exact .inl h⟩
/-- the same but for walks -/
def Lk (F : Addr → Prop) (H H' : Hp) : Prop := ∀ a o, F a → H a = some o → ∃ o', H' a = some o' ∧ core o' = core o
section
variable {K : PySem.W.Frag} {M : Nms} {G : Addr → Prop} {μ : Mu} {F : Addr → Prop} {H H' : Hp} {st : Store}
theorem Lk.rd (e : Lk F H H') {a : Addr} {u : HO} (l : LD u) (f : F a) (r : Rd H a u) : Rd H' a u := by
  have key : ∀ o, H a = some o → core o = u → Rd H' a u := fun o h c => by
    obtain ⟨o1, h1, c1⟩ := e a o f h
    rcases l.i o1 (c1.trans c) with z | ⟨p, z⟩
    · rw [z] at h1; exact .inl h1
    · rw [z] at h1; exact .inr ⟨p, h1⟩
  rcases r with r | ⟨o, r⟩
  · exact key _ r l.c
  · exact key _ r (l.f o)
theorem Lk.tup (e : Lk F H H') {a : Addr} {xs : List V} (f : F a) (h : H a = some (.tup xs)) : H' a = some (.tup xs) := by
  obtain ⟨o1, h1, c1⟩ := e a _ f h
  rw [core_tup c1] at h1
  exact h1
theorem Lk.ins (e : Lk F H H') {a C dx : Addr} {fs : List (Str × V)} (f : F a) (h : H a = some (.ins C dx fs)) : H' a = some (.ins C dx fs) := by
  obtain ⟨o1, h1, c1⟩ := e a _ f h
  rw [core_ins c1] at h1
  exact h1
theorem VR.lk (e : Lk F H H') : ∀ {v : Val} {x : V}, VR M F H v x → VR M F H' v x := by
  have key : ∀ (n : Nat) (v : Val) (x : V), VRn M F H n v x → VRn M F H' n v x := by
    intro n
    induction n with
    | zero => intro v x h; cases v <;> first | exact h | exact h.elim
    | succ n ih =>
      intro v x h
      cases v with
      | none => exact h
      | bool b => exact h
      | int i => exact h
      | str s => exact h
      | tup xs => obtain ⟨a, ys, e1, t, p⟩ := h; exact ⟨a, ys, e1, ⟨e.tup t.2 t.1, t.2⟩, pmono (ih · ·) p⟩
      | lst xs => obtain ⟨a, ys, e1, ⟨t, f⟩, p⟩ := h; exact ⟨a, ys, e1, ⟨e.rd LD.lst f t, f⟩, pmono (ih · ·) p⟩
      | dct t ks vs =>
        obtain ⟨a, e1, f, h⟩ := h
        rcases h with ⟨kvs, te, r, p, q⟩ | ⟨kvs, te, r, p, q⟩
        · exact ⟨a, e1, f, .inl ⟨kvs, te, e.rd LD.dK f r, p, pmono (ih · ·) q⟩⟩
        · exact ⟨a, e1, f, .inr ⟨kvs, te, e.rd LD.dT f r, p, pmono (ih · ·) q⟩⟩
      | obj c ns vs => obtain ⟨a, C, dx, fs, e1, f, r, c', d, p⟩ := h; exact ⟨a, C, dx, fs, e1, f, e.ins f r, c', d, pmono (ih · ·) p⟩
  intro v x ⟨n, h⟩
  exact ⟨n, key n v x h⟩
theorem XR.lk (e : Lk (Fz G μ) H H') : ∀ {x : X} {y : V}, XR K M G μ H x y → XR K M G μ H' x y
  | .v _, _, h => VR.lk e h
  | .r _, _, h => h
  | .k _, _, h => h
theorem CR.lk (e : Lk (Fz G μ) H H') {c : Cell} {a : Addr} (ha : H' a = H a) (h : CR K M G μ H c a) : CR K M G μ H' c a := by
  cases c with
  | lst xs => obtain ⟨ys, q, p⟩ := h; exact ⟨ys, by rw [ha]; exact q, pmono (fun _ _ q => q.lk e) p⟩
  | rls ns => obtain ⟨ys, q, p⟩ := h; exact ⟨ys, by rw [ha]; exact q, pmono (fun _ _ q => q.lk e) p⟩
  | dct t ks vs =>
    cases t with
    | false => obtain ⟨kvs, q, p, r⟩ := h; exact ⟨kvs, by rw [ha]; exact q, p, pmono (fun _ _ q => q.lk e) r⟩
    | true => obtain ⟨kvs, q, p, r⟩ := h; exact ⟨kvs, by rw [ha]; exact q, p, pmono (fun _ _ q => q.lk e) r⟩
  | ins c ns vs => obtain ⟨C, dx, fs, q, c1, c2, r⟩ := h; exact ⟨C, dx, fs, by rw [ha]; exact q, c1, c2, pmono (fun _ _ q => q.lk e) r⟩
  | dead => exact h.elim
theorem SR.lk (S : SR K M G μ H st) (e : Lk (fun _ => True) H H') (hm : ∀ a, some a ∈ μ → H' a = H a) : SR K M G μ H' st where
  len := S.len
  nd := S.nd
  cell := fun n a c q1 q2 => (S.cell n a c q1 q2).lk (fun b o _ h => e b o trivial h) (hm a (List.mem_of_getElem? q1))
  dead := S.dead
  apart := S.apart
  there := fun a g q => by
    cases h : H a with
    | none => exact S.there a g h
    | some o => obtain ⟨o', h1, _⟩ := e a o trivial h; rw [h1] at q; cases q
theorem ER.lk {env : Env} {σ : L2.St} (e : Lk (Fz G μ) H H') (h : ER K M G μ H env σ) : ER K M G μ H' env σ :=
  ⟨h.1, fun i x q => let ⟨y, q1, q2⟩ := h.2 i x q; ⟨y, q1, q2.lk e⟩⟩
/-- taken up -/
theorem Lk.up {d : Addr} {u : HO} {od : Obj} (l : LD u) (h : H d = some u) : Lk (fun _ => True) H (upd H d (.frz od u)) := fun a o _ q => by
  by_cases e : a = d
  · subst e; rw [h] at q; cases q; exact ⟨_, upd_same, (l.f od).trans l.c.symm⟩
  · exact ⟨o, by rw [upd_ne e]; exact q, rfl⟩
/-- laid down -/
theorem Lk.down {d : Addr} {u : HO} {od : Obj} (l : LD u) (h : H d = some (.frz od u)) : Lk (fun _ => True) H (upd H d u) := fun a o _ q => by
  by_cases e : a = d
  · subst e; rw [h] at q; cases q; exact ⟨_, upd_same, l.c.trans (l.f od).symm⟩
  · exact ⟨o, by rw [upd_ne e]; exact q, rfl⟩
/-- what a walk's work leaves, seen from ahead of the walk -/
theorem Ext.walked {μ' : Mu} {d : Addr} {u : HO} {od : Obj} (h : H d = some u) (e : Ext μ (upd H d (.frz od u)) μ' H') : Ext μ H μ' (upd H' d u) where
  len := e.len
  pre := e.pre
  same := fun a o q hn => by
    by_cases z : a = d
    · subst z; rw [h] at q; cases q; exact upd_same
    · rw [upd_ne z]; exact e.same a o (by rw [upd_ne z]; exact q) hn
  new := fun a q => (e.new a q).imp id fun z => by
    by_cases y : a = d
    · subst y; rw [upd_same] at z; cases z
    · rw [upd_ne y] at z; exact z
end
end KG

set_option linter.all false
set_option maxRecDepth 100000
set_option maxHeartbeats 4000000
/-! K1b: what a result is to be; plain operations. -/
namespace KG
open PySem PySem.Spec PyProof.Rows L2

/-- what an exception is wanted to be: class, fields, store, owners, heap -/
abbrev EW := Nat → List Nat → List Val → Store → Mu → Hp → Prop
section
variable (K : PySem.W.Frag) (M : Nms) (G : Addr → Prop)
/-- a result and what is wanted of it -/
def Post {α β : Type} (rel : Mu → Hp → α → β → Prop) (μ : Mu) (H : Hp) (r : R α) (Q : β → Hp → Prop) (B : EW) : Prop := match r with
  | .bad => False
  | .ok a st' => ∀ μ' H' b, Ext μ H μ' H' → SR K M G μ' H' st' → rel μ' H' a b → Q b H'
  | .exc c ns vs st' => ∀ μ' H', Ext μ H μ' H' → SR K M G μ' H' st' → B c ns vs st' μ' H'
abbrev relX : Mu → Hp → X → V → Prop := fun μ H => XR K M G μ H
abbrev relXs : Mu → Hp → List X → List V → Prop := fun μ H => Paired (XR K M G μ H)
abbrev relB : Mu → Hp → Bool → Bool → Prop := fun _ _ a b => a = b
end
section
variable {K : PySem.W.Frag} {M : Nms} {G : Addr → Prop} {α β γ δ : Type} {rel : Mu → Hp → α → β → Prop} {rel1 : Mu → Hp → γ → δ → Prop} {μ μ1 : Mu} {H H1 : Hp} {B : EW}
theorem Post.later {r : R α} {Q : β → Hp → Prop} (e : Ext μ H μ1 H1) (h : Post K M G rel μ H r Q B) : Post K M G rel μ1 H1 r Q B := by
  cases r with
  | bad => exact h
  | ok a st => exact fun μ' H' b e' s q => h μ' H' b (e.trans e') s q
  | exc c ns vs st => exact fun μ' H' e' s => h μ' H' (e.trans e') s
theorem Post.imp {r : R α} {Q Q' : β → Hp → Prop} (h : Post K M G rel μ H r Q B) (hq : ∀ b H', Q b H' → Q' b H') : Post K M G rel μ H r Q' B := by
  cases r with
  | bad => exact h
  | ok a st => exact fun μ' H' b e' s q => hq _ _ (h μ' H' b e' s q)
  | exc c ns vs st => exact h
/-- the first part, with what it leaves for the rest -/
theorem Post.bind {m : R γ} {f : γ → Store → R α} {Q : β → Hp → Prop} (h : Post K M G rel μ H (m.bind f) Q B) :
    Post K M G rel1 μ H m (fun b H1 => ∃ a st1 μ1, SR K M G μ1 H1 st1 ∧ Ext μ H μ1 H1 ∧ rel1 μ1 H1 a b ∧ Post K M G rel μ1 H1 (f a st1) Q B) B := by
  cases m with
  | bad => exact h
  | ok a st => exact fun μ' H' b e s q => ⟨a, st, μ', s, e, q, Post.later e (show Post K M G rel μ H (f a st) Q B from h)⟩
  | exc c ns vs st => exact h
/-- a result that is there -/
theorem Post.here {a : α} {st : Store} {Q : β → Hp → Prop} {b : β} (h : Post K M G rel μ H (.ok a st) Q B) (S : SR K M G μ H st) (q : rel μ H a b) : Q b H := h μ H b (Ext.refl _ _) S q
theorem Post.at {a : α} {st : Store} {Q : β → Hp → Prop} {b : β} (h : Post K M G rel μ H (.ok a st) Q B) (e : Ext μ H μ1 H1) (S : SR K M G μ1 H1 st) (q : rel μ1 H1 a b) : Q b H1 := h μ1 H1 b e S q
/-- a value that needs no place -/
theorem Post.flat {v : Val} {st : Store} {Q : V → Hp → Prop} {y : V} (h : Post K M G (relX K M G) μ H (.ok (.v v) st) Q B) (S : SR K M G μ H st) (q : VR M (Fz G μ) H v y) : Q y H := h μ H y (Ext.refl _ _) S q
end

/-! ### sequences that are read -/
section
variable {K : PySem.W.Frag} {M : Nms} {G : Addr → Prop} {μ : Mu} {H : Hp} {st : Store}
theorem TupAt.sq {F : Addr → Prop} {a : Addr} {ys : List V} (h : TupAt F H a ys) : SqT K H a ys := .inl (.inl h.1)
/-- a value that needs no heap -/
theorem VR.none_any {F : Addr → Prop} {v : Val} {x : V} (h : VR M (fun _ => False) (fun _ => none) v x) : VR M F H v x := by
  obtain ⟨n, h⟩ := h
  cases n with
  | zero => cases v <;> first | exact ⟨0, h⟩ | exact h.elim
  | succ n =>
    cases v with
    | none => exact ⟨0, h⟩
    | bool b => exact ⟨0, h⟩
    | int i => exact ⟨0, h⟩
    | str s => exact ⟨0, h⟩
    | tup xs => obtain ⟨a, ys, e, t, p⟩ := h; exact t.2.elim
    | lst xs => obtain ⟨a, ys, e, t, p⟩ := h; exact t.2.elim
    | dct t ks vs => obtain ⟨a, e, f, h⟩ := h; exact f.elim
    | obj c ns vs => obtain ⟨a, C, dx, fs, e, f, r⟩ := h; exact f.elim
theorem LstAt.sq {F : Addr → Prop} {a : Addr} {ys : List V} (h : LstAt F H a ys) : SqL K H a ys := .inl h.1
theorem asList_ok {x : X} {y : V} {xs : List Val} (S : SR K M G μ H st) (r : XR K M G μ H x y) (h : asList x st = some xs) : ∃ a ys, y = .ref a ∧ Rd H a (.lst ys) ∧ Paired (VR M (Fz G μ) H) xs ys := by
  cases x with
  | v v =>
    cases v with
    | lst zs =>
      cases h
      obtain ⟨a, ys, e, t, p⟩ := VR.lst_i.mp r
      exact ⟨a, ys, e, t.1, p⟩
    | _ => cases h
  | r n =>
    have h1 : (match st[n]? with
      | some (.lst xs) => some xs
      | _ => none) = some xs := h
    cases e : st[n]? with
    | none => rw [e] at h1; cases h1
    | some c =>
      rw [e] at h1
      cases c with
      | lst zs =>
        cases h1
        obtain ⟨a, ha, c⟩ := S.addr e (by simp)
        obtain ⟨ys, q, p⟩ := c
        exact ⟨a, ys, r.at ha, .inl q, p⟩
      | _ => cases h1
  | k xs => cases h
theorem asSeq_ok {x : X} {y : V} {xs : List Val} (S : SR K M G μ H st) (r : XR K M G μ H x y) (h : asSeq x st = some xs) :
    ∃ a ys, y = .ref a ∧ (SqL K H a ys ∨ SqT K H a ys) ∧ Paired (VR M (Fz G μ) H) xs ys := by
  have go : asList x st = some xs → ∃ a ys, y = .ref a ∧ (SqL K H a ys ∨ SqT K H a ys) ∧ Paired (VR M (Fz G μ) H) xs ys := fun h => by
    obtain ⟨a, ys, e, t, p⟩ := asList_ok S r h
    exact ⟨a, ys, e, .inl (.inl t), p⟩
  cases x with
  | v v =>
    cases v with
    | tup zs =>
      cases h
      obtain ⟨a, ys, e, t, p⟩ := VR.tup_i.mp r
      exact ⟨a, ys, e, .inr t.sq, p⟩
    | _ => exact go h
  | r n => exact go h
  | k zs =>
    cases h
    obtain ⟨a, ys, e, t, p⟩ := r
    exact ⟨a, ys, e, .inr (.inr t), pmono (fun _ _ q => q.none_any) p⟩
theorem plen {α β : Type} {P : α → β → Prop} {xs : List α} {ys : List β} (p : Paired P xs ys) : xs.length = ys.length := Paired.length p
theorem papp {α β : Type} {P : α → β → Prop} : ∀ {xs xs' : List α} {ys ys' : List β}, Paired P xs ys → Paired P xs' ys' → Paired P (xs ++ xs') (ys ++ ys')
  | _, _, _, _, .nil, q => q
  | _, _, _, _, .cons p t, q => .cons p (papp t q)
theorem pget {α β : Type} {P : α → β → Prop} : ∀ {xs : List α} {ys : List β} {i : Nat} {x : α}, Paired P xs ys → xs[i]? = some x → ∃ y, ys[i]? = some y ∧ P x y
  | _, _, _, _, .nil, h => by simp at h
  | _, _, 0, _, .cons p t, h => by simp at h; subst h; exact ⟨_, rfl, p⟩
  | _, _, i + 1, _, .cons p t, h => by
    obtain ⟨y, h1, h2⟩ := pget t (show _ = some _ by simpa using h)
    exact ⟨y, by simpa using h1, h2⟩
theorem pget' {α β : Type} {P : α → β → Prop} : ∀ {xs : List α} {ys : List β} {i : Nat} {y : β}, Paired P xs ys → ys[i]? = some y → ∃ x, xs[i]? = some x ∧ P x y
  | _, _, _, _, .nil, h => by simp at h
  | _, _, 0, _, .cons p t, h => by simp at h; subst h; exact ⟨_, rfl, p⟩
  | _, _, i + 1, _, .cons p t, h => by
    obtain ⟨y, h1, h2⟩ := pget' t (show _ = some _ by simpa using h)
    exact ⟨y, by simpa using h1, h2⟩
theorem ptake {α β : Type} {P : α → β → Prop} : ∀ {xs : List α} {ys : List β} (n : Nat), Paired P xs ys → Paired P (xs.take n) (ys.take n)
  | _, _, 0, _ => .nil
  | _, _, _ + 1, .nil => .nil
  | _, _, n + 1, .cons p t => .cons p (ptake n t)
theorem pdrop {α β : Type} {P : α → β → Prop} : ∀ {xs : List α} {ys : List β} (n : Nat), Paired P xs ys → Paired P (xs.drop n) (ys.drop n)
  | _, _, 0, r => r
  | _, _, _ + 1, .nil => .nil
  | _, _, n + 1, .cons _ t => pdrop n t
theorem pset {α β : Type} {P : α → β → Prop} {x : α} {y : β} (q : P x y) : ∀ {xs : List α} {ys : List β} (i : Nat), Paired P xs ys → Paired P (xs.set i x) (ys.set i y)
  | _, _, _, .nil => .nil
  | _, _, 0, .cons _ t => .cons q t
  | _, _, i + 1, .cons r t => .cons r (pset q i t)
theorem prep {α β : Type} {P : α → β → Prop} {xs : List α} {ys : List β} (p : Paired P xs ys) : ∀ n : Nat, Paired P (List.replicate n xs).flatten (List.replicate n ys).flatten
  | 0 => .nil
  | n + 1 => by rw [List.replicate_succ, List.replicate_succ, List.flatten_cons, List.flatten_cons]; exact papp p (prep p n)
theorem pdropLast {α β : Type} {P : α → β → Prop} {xs : List α} {ys : List β} (p : Paired P xs ys) : Paired P xs.dropLast ys.dropLast := by
  rw [List.dropLast_eq_take, List.dropLast_eq_take, plen p]
  exact ptake _ p
theorem LIM_eq : LIM = sizeLine := by rw [sizeLine_eq]; rfl
/-- a new list: a value, or an own cell -/
theorem newL_ok {m : Bool} {xs : List Val} {ys : List V} {Q : V → Hp → Prop} {B : EW} (S : SR K M G μ H st) (p : Paired (VR M (Fz G μ) H) xs ys) (h : Post K M G (relX K M G) μ H (newL m xs st) Q B) :
    ys.length ≤ sizeLine ∧ ∀ q, H q = none → Q (.ref q) (upd H q (.lst ys)) := by
  unfold newL at h
  by_cases hl : xs.length ≤ LIM
  · rw [if_pos hl] at h
    refine ⟨by rw [← plen p, ← LIM_eq]; exact hl, fun q hq => ?_⟩
    have g := grow_upd (o := .lst ys) hq
    cases m with
    | false =>
      refine h.at (Ext.grow g) (S.grow g) ?_
      exact VR.lst_i.mpr ⟨q, ys, rfl, ⟨.inl upd_same, S.fresh hq⟩, VR.exts (Ext.grow g) p⟩
    | true =>
      have E : Ext μ H (μ ++ [some q]) (upd H q (.lst ys)) := Ext.alloc g hq
      refine h.at E (S.alloc g hq ⟨ys, upd_same, VR.exts E p⟩) (XR.new S.len.symm)
  · rw [if_neg hl] at h
    exact h.elim
theorem newT_ok {xs : List Val} {ys : List V} {Q : V → Hp → Prop} {B : EW} (S : SR K M G μ H st) (p : Paired (VR M (Fz G μ) H) xs ys) (h : Post K M G (relX K M G) μ H (.ok (.v (.tup xs)) st) Q B) :
    ∀ q, H q = none → Q (.ref q) (upd H q (.tup ys)) := fun q hq => by
  have g := grow_upd (o := .tup ys) hq
  refine h.at (Ext.grow g) (S.grow g) ?_
  exact VR.tup_i.mpr ⟨q, ys, rfl, ⟨upd_same, S.fresh hq⟩, VR.exts (Ext.grow g) p⟩
end

/-! ### lists, by Rd -/
section
variable {X : Cx}
theorem Inv.lstR {pins : List (Addr × Obj)} {σ : L2.St} {H : Hp} {s : Shared} {a : Addr} {xs : List V} (I : Inv X pins σ H s) (h : Rd H a (.lst xs)) :
    xs.length ≤ sizeLine ∧ ∃ (its : List Value) (n : Nat), Vals xs its ∧ s.heap.get? a = some { cls := .type "list", data := .seq its.toArray n } := h.ok I.hok
theorem op_catR : OpR X (binaryOp .Add) (fun x y H Q => ∃ (l b : Addr) (xs zs : List V), x = V.ref l ∧ y = V.ref b ∧ Rd H l (.lst xs) ∧ Rd H b (.lst zs) ∧
    (xs ++ zs).length ≤ sizeLine ∧ ∀ p, H p = none → Q (.ref p) (upd H p (.lst (xs ++ zs)))) := by
  intro pins s σ H x y v u Q I rx ry h
  obtain ⟨l, b, xs, zs, rfl, rfl, h1, h2, hz, q⟩ := h
  cases rx
  cases ry
  obtain ⟨_, its, n, r, e⟩ := Inv.lstR I h1
  obtain ⟨_, jts, m, r', e'⟩ := Inv.lstR I h2
  have l1 := r.length
  have l2 := r'.length
  rw [List.length_append] at hz
  refine PySem.P.add_list e e' ?_ (by simp only [List.size_toArray]; omega)
  have ea : its.toArray ++ jts.toArray = (its ++ jts).toArray := by simp
  rw [ea]
  exact ⟨.ref _, _, I.lnew (t' := s.toks) (r.append r') (by rw [List.length_append]; omega), rfl, q _ I.fresh⟩
end
end KG

set_option linter.all false
set_option maxRecDepth 100000
set_option maxHeartbeats 4000000
/-! K1c: operators. -/
namespace KG
open PySem PySem.Spec PyProof.Rows L2
def bop : BOp → Operator
  | .add => .Add | .sub => .Sub | .mul => .Mult | .mod => .Mod | .fdiv => .FloorDiv | .pow => .Pow
section
variable {X : Cx} {M : Nms} {B : EW}
/-- what a two-place operation of the small language asks -/
def rBin (K : PySem.W.Frag) (M : Nms) (B : EW) (f : KG.X → KG.X → Store → R KG.X) : R2 := fun x y H Q =>
  ∃ (G : Addr → Prop) (μ : Mu) (st : Store) (a b : KG.X), SR K M G μ H st ∧ XR K M G μ H a x ∧ XR K M G μ H b y ∧ Post K M G (relX K M G) μ H (f a b st) Q B
theorem strApp (a b : List Nat) : (⟨a.toArray⟩ : Str) ++ (⟨b.toArray⟩ : Str) = ⟨(a ++ b).toArray⟩ := by
  show Str.mk (a.toArray ++ b.toArray) = _
  simp
theorem fits_of {k : Int} (h1 : 0 ≤ k) (h2 : k ≤ 1000000) : -(2 ^ 63) ≤ k ∧ k < 2 ^ 63 := ⟨by omega, by omega⟩
theorem small_or {i j : Int} (h : (small i || small j) = true) : (-(2 ^ 64) < i ∧ i < 2 ^ 64) ∨ (-(2 ^ 64) < j ∧ j < 2 ^ 64) := by
  unfold small at h
  simp only [Bool.or_eq_true, Bool.and_eq_true, decide_eq_true_eq] at h
  exact h
theorem bin_ok {op : BOp} {m : Bool} : OpR X (binaryOp (bop op)) (rBin X.K M B (binV m op)) := by
  intro pins s σ H x y v u Q I rx ry h
  obtain ⟨G, μ, st, a, b, S, ra, rb, h⟩ := h
  unfold binV at h
  split at h
  · -- int + int
    cases VR.int_i.mp ra; cases VR.int_i.mp rb
    exact op_add pins s σ H _ _ v u Q I rx ry ⟨_, _, rfl, rfl, h.flat S (VR.int_i.mpr rfl)⟩
  · cases VR.int_i.mp ra; cases VR.int_i.mp rb
    exact op_sub pins s σ H _ _ v u Q I rx ry ⟨_, _, rfl, rfl, h.flat S (VR.int_i.mpr rfl)⟩
  · cases VR.int_i.mp ra; cases VR.int_i.mp rb
    split at h
    · rename_i hs
      exact op_mul pins s σ H _ _ v u Q I rx ry ⟨_, _, rfl, rfl, small_or hs, h.flat S (VR.int_i.mpr rfl)⟩
    · exact h.elim
  · cases VR.int_i.mp ra; cases VR.int_i.mp rb
    split at h
    · rename_i hs
      exact op_mod pins s σ H _ _ v u Q I rx ry ⟨_, _, rfl, rfl, hs, h.flat S (VR.int_i.mpr rfl)⟩
    · exact h.elim
  · cases VR.int_i.mp ra; cases VR.int_i.mp rb
    split at h
    · rename_i hs
      exact op_fdiv pins s σ H _ _ v u Q I rx ry ⟨_, _, rfl, rfl, hs, h.flat S (VR.int_i.mpr rfl)⟩
    · exact h.elim
  · cases VR.int_i.mp ra; cases VR.int_i.mp rb
    split at h
    · rename_i hs
      exact op_pow pins s σ H _ _ v u Q I rx ry ⟨_, _, rfl, rfl, hs, h.flat S (VR.int_i.mpr rfl)⟩
    · exact h.elim
  · -- str + str
    obtain ⟨rfl, ca⟩ := VR.str_i.mp ra
    obtain ⟨rfl, cb⟩ := VR.str_i.mp rb
    split at h
    · rename_i hs
      refine op_add_str pins s σ H _ _ v u Q I rx ry ⟨_, _, rfl, rfl, by rw [← LIM_eq]; simpa [Str.length] using hs, h.flat S (VR.str_i.mpr ⟨?_, ?_⟩)⟩
      · exact congrArg V.str (strApp _ _)
      · intro c hc
        rcases List.mem_append.mp hc with hc | hc
        · exact ca c hc
        · exact cb c hc
    · exact h.elim
  · -- tuple + tuple
    obtain ⟨p, ys, rfl, t1, p1⟩ := VR.tup_i.mp ra
    obtain ⟨q, zs, rfl, t2, p2⟩ := VR.tup_i.mp rb
    split at h
    · rename_i hz
      refine op_catA pins s σ H _ _ v u Q I rx ry ⟨p, q, ys, zs, rfl, rfl, t1.sq, t2.sq, by rw [← plen p1, ← plen p2, ← LIM_eq]; exact hz, fun e => ?_, fun _ e => ?_, fun _ _ => newT_ok S (papp p1 p2) h⟩
      · subst e
        cases p1
        exact h.flat S rb
      · subst e
        cases p2
        rw [List.append_nil] at h
        exact h.flat S ra
    · exact h.elim
  · -- list + list
    split at h
    · rename_i xs zs e1 e2
      obtain ⟨p, ys, rfl, t1, p1⟩ := asList_ok S ra e1
      obtain ⟨q, ws, rfl, t2, p2⟩ := asList_ok S rb e2
      obtain ⟨hz, hq⟩ := newL_ok S (papp p1 p2) h
      exact op_catR pins s σ H _ _ v u Q I rx ry ⟨p, q, ys, ws, rfl, rfl, t1, t2, hz, hq⟩
    · exact h.elim
  · exact h.elim
end
end KG

set_option linter.all false
set_option maxRecDepth 100000
set_option maxHeartbeats 4000000
/-! K1d: data, comparisons. -/
namespace KG
open PySem PySem.Spec PyProof.Rows L2

/-! ### data -/
mutual
def toD : Val → PyData
  | .none => .none
  | .bool b => .bool b
  | .int i => .int i
  | .str s => .str ⟨s.toArray⟩
  | .tup xs => .tuple (toDs xs)
  | .lst xs => .list (toDs xs)
  | .dct _ _ _ => .none
  | .obj _ _ _ => .none
termination_by structural a => a
def toDs : List Val → List PyData
  | [] => []
  | x :: r => toD x :: toDs r
termination_by structural a => a
end
mutual
theorem toD_eqv : ∀ a b : Val, a.isD = true → b.isD = true → PyData.eqv (toD a) (toD b) = a.eqv b
  | .none, b, _, hb => by cases b <;> first | rfl | (simp [toD, PyData.eqv, Val.eqv]; done) | (simp [Val.isD] at hb)
  | .bool a, b, _, hb => by cases b <;> first | rfl | (simp [toD, PyData.eqv, Val.eqv]; done) | (simp [Val.isD] at hb)
  | .int a, b, _, hb => by cases b <;> first | rfl | (simp [toD, PyData.eqv, Val.eqv]; done) | (simp [Val.isD] at hb)
  | .str a, b, _, hb => by
    cases b with
    | str t =>
      simp only [toD, PyData.eqv, Val.eqv]
      rw [Bool.eq_iff_iff]
      simp
    | dct _ _ _ => simp [Val.isD] at hb
    | obj _ _ _ => simp [Val.isD] at hb
    | _ => first | rfl | (simp [toD, PyData.eqv, Val.eqv]; done)
  | .tup a, b, ha, hb => by
    cases b with
    | tup t =>
      simp only [toD, PyData.eqv, Val.eqv]
      exact toDs_eqv a t (by simpa [Val.isD] using ha) (by simpa [Val.isD] using hb)
    | dct _ _ _ => simp [Val.isD] at hb
    | obj _ _ _ => simp [Val.isD] at hb
    | _ => first | rfl | (simp [toD, PyData.eqv, Val.eqv]; done)
  | .lst a, b, ha, hb => by
    cases b with
    | lst t =>
      simp only [toD, PyData.eqv, Val.eqv]
      exact toDs_eqv a t (by simpa [Val.isD] using ha) (by simpa [Val.isD] using hb)
    | dct _ _ _ => simp [Val.isD] at hb
    | obj _ _ _ => simp [Val.isD] at hb
    | _ => first | rfl | (simp [toD, PyData.eqv, Val.eqv]; done)
  | .dct _ _ _, _, ha, _ => by simp [Val.isD] at ha
  | .obj _ _ _, _, ha, _ => by simp [Val.isD] at ha
theorem toDs_eqv : ∀ a b : List Val, isDL a = true → isDL b = true → PyData.eqvAll (toDs a) (toDs b) = eqvL a b
  | [], [], _, _ => by simp [toDs, PyData.eqvAll, eqvL]
  | [], _ :: _, _, _ => by simp [toDs, PyData.eqvAll, eqvL]
  | _ :: _, [], _, _ => by simp [toDs, PyData.eqvAll, eqvL]
  | x :: r, y :: t, ha, hb => by
    simp only [isDL, Bool.and_eq_true] at ha hb
    simp only [toDs, PyData.eqvAll, eqvL]
    rw [toD_eqv x y ha.1 hb.1, toDs_eqv r t ha.2 hb.2]
end
section
variable {K : PySem.W.Frag} {M : Nms} {G : Addr → Prop} {F : Addr → Prop} {μ : Mu} {H : Hp} {st : Store}
mutual
theorem VR.dp : ∀ {v : Val} {x : V}, VR M F H v x → v.isD = true → Dp K H x (toD v) ∧ (toD v).canLay0 = true
  | .none, x, h, _ => by cases VR.none_i.mp h; exact ⟨.non, by simp [toD, PyData.canLay0]⟩
  | .bool b, x, h, _ => by cases VR.bool_i.mp h; exact ⟨.bl b, by simp [toD, PyData.canLay0]⟩
  | .int i, x, h, _ => by cases VR.int_i.mp h; exact ⟨.int i, by simp [toD, PyData.canLay0]⟩
  | .str s, x, h, _ => by
    obtain ⟨rfl, hc⟩ := VR.str_i.mp h
    refine ⟨.str _, ?_⟩
    simp only [toD, PyData.canLay0, PyData.strOk]
    simpa using hc
  | .tup xs, x, h, hd => by
    obtain ⟨a, ys, rfl, t, p⟩ := VR.tup_i.mp h
    obtain ⟨q1, q2⟩ := VR.dps p (by simpa [Val.isD] using hd)
    exact ⟨by simp only [toD]; exact .tup t.sq q1, by simpa [toD, PyData.canLay0] using q2⟩
  | .lst xs, x, h, hd => by
    obtain ⟨a, ys, rfl, t, p⟩ := VR.lst_i.mp h
    obtain ⟨q1, q2⟩ := VR.dps p (by simpa [Val.isD] using hd)
    exact ⟨by simp only [toD]; exact .lst t.sq q1, by simpa [toD, PyData.canLay0] using q2⟩
  | .dct _ _ _, _, _, hd => by simp [Val.isD] at hd
  | .obj _ _ _, _, _, hd => by simp [Val.isD] at hd
theorem VR.dps : ∀ {vs : List Val} {xs : List V}, Paired (VR M F H) vs xs → isDL vs = true → DpAll K H xs (toDs vs) ∧ PyData.canLayAll0 (toDs vs) = true
  | [], _, .nil, _ => ⟨by simp only [toDs]; exact .nil, by simp [toDs, PyData.canLayAll0]⟩
  | v :: vs, _, .cons p t, hd => by
    simp only [isDL, Bool.and_eq_true] at hd
    obtain ⟨q1, q2⟩ := VR.dp p hd.1
    obtain ⟨q3, q4⟩ := VR.dps t hd.2
    exact ⟨by simp only [toDs]; exact .cons q1 q3, by simp [toDs, PyData.canLayAll0, q2, q4]⟩
end
mutual
theorem toD_depth : ∀ v : Val, v.isD = true → (toD v).depth = v.dep
  | .none, _ => by simp [toD, PyData.depth, Val.dep]
  | .bool _, _ => by simp [toD, PyData.depth, Val.dep]
  | .int _, _ => by simp [toD, PyData.depth, Val.dep]
  | .str _, _ => by simp [toD, PyData.depth, Val.dep]
  | .tup xs, h => by
    simp only [toD, PyData.depth, Val.dep]
    rw [toDs_depth xs (by simpa [Val.isD] using h)]
  | .lst xs, h => by
    simp only [toD, PyData.depth, Val.dep]
    rw [toDs_depth xs (by simpa [Val.isD] using h)]
  | .dct _ _ _, h => by simp [Val.isD] at h
  | .obj _ _ _, h => by simp [Val.isD] at h
theorem toDs_depth : ∀ vs : List Val, isDL vs = true → PyData.depthAll (toDs vs) = depL vs
  | [], _ => by simp [toDs, PyData.depthAll, depL]
  | x :: r, h => by
    simp only [isDL, Bool.and_eq_true] at h
    simp only [toDs, PyData.depthAll, depL]
    rw [toD_depth x h.1, toDs_depth r h.2]
end
theorem VR.shaped {v : Val} {x : V} (h : VR M F H v x) (hd : v.okD = true) : Dp K H x (toD v) ∧ SeqAt.shaped (toD v) = true := by
  unfold Val.okD at hd
  simp only [Bool.and_eq_true, decide_eq_true_eq] at hd
  obtain ⟨q1, q2⟩ := VR.dp (K := K) h hd.1
  refine ⟨q1, ?_⟩
  show ((toD v).canLay0 && decide ((toD v).depth ≤ 64)) = true
  rw [q2, toD_depth v hd.1]
  simp [hd.2]
theorem asVal_ok {x : X} {y : V} {v : Val} (S : SR K M G μ H st) (r : XR K M G μ H x y) (h : asVal x st = some v) : ∃ F' : Addr → Prop, VR M F' H v y := by
  cases x with
  | v a => cases h; exact ⟨_, r⟩
  | k xs => cases h
  | r n =>
    have h1 : (match st[n]? with
      | some (.lst xs) => some (.lst xs)
      | _ => none) = some v := h
    cases e : st[n]? with
    | none => rw [e] at h1; cases h1
    | some c =>
      rw [e] at h1
      cases c with
      | lst zs =>
        cases h1
        obtain ⟨a, ha, ys, q, p⟩ := S.addr e (by simp)
        refine ⟨fun b => Fz G μ b ∨ b = a, VR.lst_i.mpr ⟨a, ys, r.at ha, ⟨.inl q, .inr rfl⟩, ?_⟩⟩
        exact pmono (fun _ _ z => VR.weak (fun _ f => .inl f) z) p
      | _ => cases h1
end

/-! ### comparisons -/
def cop : COp → CmpOp
  | .eq => .Eq | .ne => .NotEq | .lt => .Lt | .le => .LtE | .gt => .Gt | .ge => .GtE | .isN => .Is | .notN => .IsNot | .inn => .In | .nin => .NotIn
theorem toDs_map : ∀ xs : List Val, toDs xs = xs.map toD
  | [] => by simp [toDs]
  | x :: r => by simp [toDs, toDs_map r]
theorem any_eqv {a : Val} (ha : a.isD = true) : ∀ xs : List Val, isDL xs = true → ((toDs xs).any fun z => PyData.eqv z (toD a)) = xs.any fun b => b.eqv a
  | [], _ => by simp [toDs]
  | x :: r, h => by
    simp only [isDL, Bool.and_eq_true] at h
    simp only [toDs, List.any_cons]
    rw [toD_eqv x a h.1 ha, any_eqv ha r h.2]
section
variable {K : PySem.W.Frag} {M : Nms} {G : Addr → Prop} {F : Addr → Prop} {μ : Mu} {H : Hp} {st : Store}
/-! keys -/
theorem KR.v {v : Val} {k : Key} {x : V} (h : KR v k) (r : VR M F H v x) : x = kV k := by
  cases v with
  | str s =>
    cases k with
    | inr z => obtain ⟨rfl, _⟩ := h; obtain ⟨rfl, _⟩ := VR.str_i.mp r; rfl
    | inl i => exact h.elim
  | int i =>
    cases k with
    | inl j => cases (show j = i from h); cases VR.int_i.mp r; rfl
    | inr z => exact h.elim
  | _ => exact (show False from h).elim
theorem isKey_k {v : Val} {x : V} (h : isKey v = true) (r : VR M F H v x) : ∃ k, KR v k := by
  cases v with
  | str s => obtain ⟨_, hc⟩ := VR.str_i.mp r; exact ⟨.inr ⟨s.toArray⟩, rfl, hc⟩
  | int i => exact ⟨.inl i, rfl⟩
  | _ => cases h
theorem KR.eq {v w : Val} {k l : Key} (h : KR v k) (h' : KR w l) : v.beq w = decide (k = l) := by
  cases v with
  | str s =>
    cases k with
    | inl i => exact (show False from h).elim
    | inr z =>
      obtain ⟨rfl, _⟩ := h
      cases w with
      | str t =>
        cases l with
        | inl i => exact (show False from h').elim
        | inr z' =>
          obtain ⟨rfl, _⟩ := h'
          simp only [Val.beq]
          rw [Bool.eq_iff_iff]
          simp
      | int j =>
        cases l with
        | inl i => simp [Val.beq]
        | inr z' => exact (show False from h').elim
      | _ => exact (show False from h').elim
  | int i =>
    cases k with
    | inr z => exact (show False from h).elim
    | inl i' =>
      cases (show i' = i from h)
      cases w with
      | int j =>
        cases l with
        | inl j' => cases (show j' = j from h'); simp only [Val.beq]; rw [Bool.eq_iff_iff]; simp
        | inr z' => exact (show False from h').elim
      | str t =>
        cases l with
        | inl j' => exact (show False from h').elim
        | inr z' => simp [Val.beq]
      | _ => exact (show False from h').elim
  | _ => exact (show False from h).elim
theorem KRs.eq : ∀ {vs ws : List Val} {ks ls : List Key}, Paired KR vs ks → Paired KR ws ls → beqL vs ws = decide (ks = ls)
  | [], [], _, _, .nil, .nil => by simp [beqL]
  | [], _ :: _, _, _, .nil, .cons _ _ => by simp [beqL]
  | _ :: _, [], _, _, .cons _ _, .nil => by simp [beqL]
  | v :: vs, w :: ws, _, _, .cons p t, .cons p' t' => by
    simp only [beqL]
    rw [KR.eq p p', KRs.eq t t', Bool.eq_iff_iff]
    simp
theorem KRT.eq {v w : Val} {k l : List Key} (h : KRT v k) (h' : KRT w l) : v.beq w = decide (k = l) := by
  cases v with
  | tup xs =>
    cases w with
    | tup ys => simp only [Val.beq]; exact KRs.eq h h'
    | _ => exact (show False from h').elim
  | _ => exact (show False from h).elim
/-- looking up, side by side -/
theorem dget_ok {κ : Type} [DecidableEq κ] {RK : Val → κ → Prop} {P : Val → V → Prop} (inj : ∀ {v w : Val} {k l : κ}, RK v k → RK w l → v.beq w = decide (k = l)) {x : Val} {k : κ} (hx : RK x k) :
    ∀ {kvs : List (κ × V)} {ks vs : List Val}, Paired RK ks (kvs.map (·.1)) → Paired P vs (kvs.map (·.2)) → (∀ v, dget ks vs x = some v → ∃ y, valV kvs k = some y ∧ P v y) ∧ (dget ks vs x = none → valV kvs k = none) := by
  intro kvs
  induction kvs with
  | nil =>
    intro ks vs p q
    have e1 : ks = [] := by cases p; rfl
    subst e1
    exact ⟨fun v h => (by simp [dget] at h), fun _ => rfl⟩
  | cons a r ih =>
    intro ks vs p q
    obtain ⟨k0, y0⟩ := a
    cases p with
    | cons p1 p2 =>
      cases q with
      | cons q1 q2 =>
        rename_i k1 ks' v1 vs'
        have e := inj p1 hx
        have ih := ih p2 q2
        by_cases hk : k0 = k
        · have e1 : k1.beq x = true := by rw [e]; simpa using hk
          have ev : dget (k1 :: ks') (v1 :: vs') x = some v1 := by simp [dget, e1]
          rw [ev, valV_pos (p := (k0, y0)) hk]
          exact ⟨fun v h => (by cases h; exact ⟨_, rfl, q1⟩), fun h => (by cases h)⟩
        · have e1 : k1.beq x = false := by rw [e]; simpa using hk
          have ev : dget (k1 :: ks') (v1 :: vs') x = dget ks' vs' x := by simp [dget, e1]
          rw [ev, valV_neg (p := (k0, y0)) hk]
          exact ih
/-- a dict as it may be read -/
theorem asDict_ok {x : X} {y : V} {t : Bool} {ks vs : List Val} (S : SR K M G μ H st) (r : XR K M G μ H x y) (h : asDict x st = some (t, ks, vs)) :
    ∃ a, y = .ref a ∧ ((∃ kvs : List (Key × V), t = false ∧ Rd H a (.dK kvs) ∧ Paired KR ks (kvs.map (·.1)) ∧ Paired (VR M (Fz G μ) H) vs (kvs.map (·.2))) ∨
      ∃ kvs : List (List Key × V), t = true ∧ Rd H a (.dT kvs) ∧ Paired KRT ks (kvs.map (·.1)) ∧ Paired (VR M (Fz G μ) H) vs (kvs.map (·.2))) := by
  cases x with
  | v v =>
    cases v with
    | dct u zs ws =>
      cases h
      obtain ⟨a, e, f, q⟩ := VR.dct_i.mp r
      exact ⟨a, e, q⟩
    | _ => cases h
  | k xs => cases h
  | r n =>
    have h1 : (match st[n]? with
      | some (.dct t ks vs) => some (t, ks, vs)
      | _ => none) = some (t, ks, vs) := h
    cases e : st[n]? with
    | none => rw [e] at h1; cases h1
    | some c =>
      rw [e] at h1
      cases c with
      | dct u zs ws =>
        cases h1
        obtain ⟨a, ha, c⟩ := S.addr e (by simp)
        refine ⟨a, r.at ha, ?_⟩
        cases t with
        | false => obtain ⟨kvs, q, p, r⟩ := c; exact .inl ⟨kvs, rfl, .inl q, p, r⟩
        | true => obtain ⟨kvs, q, p, r⟩ := c; exact .inr ⟨kvs, rfl, .inl q, p, r⟩
      | _ => cases h1
theorem tkey_of {v : Val} {x : V} (h : isTKey v = true) (r : VR M F H v x) : ∃ (k : List Key) (b : Addr), KRT v k ∧ x = .ref b ∧ H b = some (.tup (k.map kV)) := by
  cases v with
  | tup xs =>
    obtain ⟨a, ys, rfl, t, p⟩ := VR.tup_i.mp r
    have go : ∀ {xs : List Val} {ys : List V}, xs.all isKey = true → Paired (VR M F H) xs ys → ∃ k : List Key, Paired KR xs k ∧ ys = k.map kV := by
      intro xs
      induction xs with
      | nil => intro ys _ p; cases p; exact ⟨[], .nil, rfl⟩
      | cons x xs ih =>
        intro ys h p
        simp only [List.all_cons, Bool.and_eq_true] at h
        cases p with
        | cons p1 p2 =>
          obtain ⟨k, hk⟩ := isKey_k h.1 p1
          obtain ⟨ks, h1, h2⟩ := ih h.2 p2
          exact ⟨k :: ks, .cons hk h1, by rw [hk.v p1, h2]; rfl⟩
    obtain ⟨k, h1, h2⟩ := go h p
    exact ⟨k, a, h1, rfl, by rw [← h2]; exact t.1⟩
  | _ => cases h
/-- what a dict holds under a fit key -/
theorem dictGet_ok {x : X} {y z : V} {t : Bool} {ks vs : List Val} {k : Val} (S : SR K M G μ H st) (r : XR K M G μ H x y) (h : asDict x st = some (t, ks, vs)) (hf : fitKey t k = true) (rk : VR M (Fz G μ) H k z) :
    ∃ a o, y = .ref a ∧ DGet H a z o ∧ (∀ v, dget ks vs k = some v → ∃ w, o = some w ∧ VR M (Fz G μ) H v w) ∧ (dget ks vs k = none → o = none) := by
  obtain ⟨a, rfl, q⟩ := asDict_ok S r h
  rcases q with ⟨kvs, rfl, t, p, q⟩ | ⟨kvs, rfl, t, p, q⟩
  · obtain ⟨kk, hkk⟩ := isKey_k (show isKey k = true from hf) rk
    have g := dget_ok KR.eq hkk p q
    exact ⟨a, valV kvs kk, rfl, .inl ⟨kvs, kk, t, hkk.v rk, rfl⟩, g.1, g.2⟩
  · obtain ⟨kk, b, hkk, rfl, hb⟩ := tkey_of (show isTKey k = true from hf) rk
    have g := dget_ok KRT.eq hkk p q
    exact ⟨a, valV kvs kk, rfl, .inr ⟨kvs, kk, b, t, rfl, hb, rfl⟩, g.1, g.2⟩
end

section
variable {X : Cx} {M : Nms}
/-- what a comparison of the small language asks -/
def rCmp (K : PySem.W.Frag) (M : Nms) (f : KG.X → KG.X → Store → Option Bool) : R2 := fun x y H Q =>
  ∃ (G : Addr → Prop) (μ : Mu) (st : Store) (a b : KG.X) (k : Bool), SR K M G μ H st ∧ XR K M G μ H a x ∧ XR K M G μ H b y ∧ f a b st = some k ∧ Q (.bl k) H
theorem eq_ok (hu : X.A.units + 65 < cLine) : OpR X (compareOp .Eq) (rCmp X.K M (cmpV .eq)) := by
  intro pins s σ H x y v u Q I rx ry h
  obtain ⟨G, μ, st, a, b, k, S, ra, rb, h, q⟩ := h
  unfold cmpV at h
  simp only at h
  split at h
  · rename_i va vb e1 e2
    split at h
    · rename_i hd
      simp only [Bool.and_eq_true] at hd
      cases h
      obtain ⟨F1, q1⟩ := asVal_ok S ra e1
      obtain ⟨F2, q2⟩ := asVal_ok S rb e2
      obtain ⟨d1, s1⟩ := VR.shaped (K := X.K) q1 hd.1
      obtain ⟨d2, s2⟩ := VR.shaped (K := X.K) q2 hd.2
      refine op_eqD (by omega) pins s σ H x y v u Q I rx ry ⟨_, _, d1, d2, s1, s2, ?_⟩
      rw [toD_eqv va vb (by have := hd.1; simp only [Val.okD, Bool.and_eq_true] at this; exact this.1) (by have := hd.2; simp only [Val.okD, Bool.and_eq_true] at this; exact this.1)]
      exact q
    · cases h
  · cases h
theorem ne_ok (hu : X.A.units + 65 < cLine) : OpR X (compareOp .NotEq) (rCmp X.K M (cmpV .ne)) := by
  intro pins s σ H x y v u Q I rx ry h
  obtain ⟨G, μ, st, a, b, k, S, ra, rb, h, q⟩ := h
  unfold cmpV at h
  simp only at h
  split at h
  · rename_i va vb e1 e2
    split at h
    · rename_i hd
      simp only [Bool.and_eq_true] at hd
      cases h
      obtain ⟨F1, q1⟩ := asVal_ok S ra e1
      obtain ⟨F2, q2⟩ := asVal_ok S rb e2
      obtain ⟨d1, s1⟩ := VR.shaped (K := X.K) q1 hd.1
      obtain ⟨d2, s2⟩ := VR.shaped (K := X.K) q2 hd.2
      refine op_neD (by omega) pins s σ H x y v u Q I rx ry ⟨_, _, d1, d2, s1, s2, ?_⟩
      rw [toD_eqv va vb (by have := hd.1; simp only [Val.okD, Bool.and_eq_true] at this; exact this.1) (by have := hd.2; simp only [Val.okD, Bool.and_eq_true] at this; exact this.1)]
      exact q
    · cases h
  · cases h
theorem txLt_eq : ∀ a b : List Nat, txLt a b = decide (a < b)
  | [], [] => by simp [txLt]
  | [], b :: y => by simp [txLt]
  | a :: x, [] => by simp [txLt]
  | a :: x, b :: y => by
    simp only [txLt]
    rw [txLt_eq x y]
    by_cases e : a = b
    · subst e; simp
    · have e' : (a == b) = false := by simpa using e
      rw [e']
      simp [List.cons_lt_cons_iff, e]
theorem lexLt_eq : ∀ x y : List Int, lexLt x y = HT.lexLt x y
  | [], [] => rfl
  | [], _ :: _ => rfl
  | _ :: _, [] => rfl
  | a :: x, b :: y => by
    have e1 : lexLt (a :: x) (b :: y) = if a == b then lexLt x y else decide (a < b) := rfl
    rw [e1, HT.lexLt_cons, lexLt_eq x y]
    by_cases h : a = b
    · rw [if_pos (by simpa using h), if_pos h]
    · rw [if_neg (by simpa using h), if_neg h]
theorem firstLt_lex : ∀ (ns ms : List Int) (k : Nat) (e r : Nat → Bool), (∀ i, i < ns.length → i < ms.length → e (k + i) = decide (ns[i]? = ms[i]?)) → (∀ i (a b : Int), ns[i]? = some a → ms[i]? = some b → r (k + i) = decide (a < b)) →
    SeqAt.firstLt e r (decide (ns.length < ms.length)) (List.range' k (min ns.length ms.length)) = HT.lexLt ns ms
  | [], [], k, e, r, _, _ => rfl
  | [], b :: y, k, e, r, _, _ => by simp [SeqAt.firstLt, HT.lexLt]
  | a :: x, [], k, e, r, _, _ => by simp [SeqAt.firstLt, HT.lexLt]
  | a :: x, b :: y, k, e, r, he, hr => by
    have h0 := he 0 (by simp) (by simp)
    have h1 := hr 0 a b rfl rfl
    have ih := firstLt_lex x y (k + 1) e r (fun i h1 h2 => by
      have := he (i + 1) (by simpa using h1) (by simpa using h2)
      rw [show k + 1 + i = k + (i + 1) by omega]
      simpa using this) (fun i a b h1 h2 => by
      have := hr (i + 1) a b (by simpa using h1) (by simpa using h2)
      rw [show k + 1 + i = k + (i + 1) by omega]
      exact this)
    have hm : min (a :: x).length (b :: y).length = min x.length y.length + 1 := by simp
    have hd : decide ((a :: x).length < (b :: y).length) = decide (x.length < y.length) := by simp
    rw [hm, hd, List.range'_succ, HT.lexLt_cons]
    simp at h0 h1
    by_cases h : a = b
    · rw [if_pos h, SeqAt.firstLt_yes (by rw [h0]; simpa using h)]
      exact ih
    · rw [if_neg h, SeqAt.firstLt_no (by rw [h0]; simpa using h), h1]
theorem op_ltL (hu : X.A.units < cLine) : OpR X (compareOp .Lt) (fun x y H Q => ∃ a b ns ms, x = .ref a ∧ y = .ref b ∧ SqL X.K H a (ns.map V.int) ∧ SqL X.K H b (ms.map V.int) ∧ Q (.bl (HT.lexLt ns ms)) H) := by
  intro pins s σ H x y v u Q I rx ry h
  obtain ⟨a, b, ns, ms, rfl, rfl, ha, hb, q⟩ := h
  cases rx
  cases ry
  obtain ⟨its, r1, p1, _⟩ := I.list ha
  obtain ⟨its2, r2, p2, _⟩ := I.list hb
  have l1 : its.length = ns.length := by have := r1.length; simp at this; omega
  have l2 : its2.length = ms.length := by have := r2.length; simp at this; omega
  have i1 : ∀ (i : Nat) (n : Int), ns[i]? = some n → ∃ t, its[i]? = some (.int n t) := fun i n hn => by
    obtain ⟨w, hw, rw'⟩ := r1.get (i := i) (x := .int n) (by simp [hn])
    obtain ⟨t, rfl⟩ := rw'
    exact ⟨t, hw⟩
  have i2 : ∀ (i : Nat) (n : Int), ms[i]? = some n → ∃ t, its2[i]? = some (.int n t) := fun i n hn => by
    obtain ⟨w, hw, rw'⟩ := r2.get (i := i) (x := .int n) (by simp [hn])
    obtain ⟨t, rfl⟩ := rw'
    exact ⟨t, hw⟩
  have key := SeqAt.RcLt.lists (A := X.A) (s := s) (e := fun i => decide (ns[i]? = ms[i]?)) (r := fun i => decide (ns[i]?.getD 0 < ms[i]?.getD 0)) p1.isList p2.isList hu (fun j j1 j2 => by
    have j1' : j < ns.length := by simpa [l1] using j1
    have j2' : j < ms.length := by simpa [l2] using j2
    obtain ⟨t, ht⟩ := i1 j ns[j] (List.getElem?_eq_getElem j1')
    obtain ⟨t2, ht2⟩ := i2 j ms[j] (List.getElem?_eq_getElem j2')
    have e1 : its.toArray[j] = .int ns[j] t := by
      have := (List.getElem?_eq_some_iff.mp ht).2
      simpa using this
    have e2 : its2.toArray[j] = .int ms[j] t2 := by
      have := (List.getElem?_eq_some_iff.mp ht2).2
      simpa using this
    rw [e1, e2]
    have := SeqAt.EqAt.int_int (A := X.A.in1) (s := s) ns[j] t ms[j] t2
    have e3 : decide (ns[j]? = ms[j]?) = (ns[j] == ms[j]) := by
      rw [List.getElem?_eq_getElem j1', List.getElem?_eq_getElem j2']
      simp [Bool.beq_eq_decide_eq]
    rw [e3]
    exact this) (fun j j1 j2 _ => by
    have j1' : j < ns.length := by simpa [l1] using j1
    have j2' : j < ms.length := by simpa [l2] using j2
    obtain ⟨t, ht⟩ := i1 j ns[j] (List.getElem?_eq_getElem j1')
    obtain ⟨t2, ht2⟩ := i2 j ms[j] (List.getElem?_eq_getElem j2')
    have e1 : its.toArray[j] = .int ns[j] t := by
      have := (List.getElem?_eq_some_iff.mp ht).2
      simpa using this
    have e2 : its2.toArray[j] = .int ms[j] t2 := by
      have := (List.getElem?_eq_some_iff.mp ht2).2
      simpa using this
    rw [e1, e2, List.getElem?_eq_getElem j1', List.getElem?_eq_getElem j2']
    exact fun prog w E Q h => lt_int h)
  refine key X.prog X.w X.xe _ ?_
  have e := firstLt_lex ns ms 0 (fun i => decide (ns[i]? = ms[i]?)) (fun i => decide (ns[i]?.getD 0 < ms[i]?.getD 0)) (fun i _ _ => by simp) (fun i a b h1 h2 => by simp [h1, h2])
  rw [List.range_eq_range', List.size_toArray, List.size_toArray, l1, l2, e]
  exact ⟨.bl (HT.lexLt ns ms), H, I, rfl, q⟩
theorem intsL_of {F : Addr → Prop} {H : Hp} : ∀ {vs : List Val} {is : List Int} {ys : List V}, isInts vs = some is → Paired (VR M F H) vs ys → ys = is.map V.int
  | [], is, _, h, .nil => by cases h; rfl
  | .int i :: r, is, _, h, .cons p t => by
    obtain ⟨js, h1, rfl⟩ := Option.map_eq_some_iff.mp (show (isInts r).map (i :: ·) = some is from h)
    cases VR.int_i.mp p
    rw [intsL_of h1 t]
    rfl
theorem lt_ok (hu : X.A.units + 65 < cLine) : OpR X (compareOp .Lt) (rCmp X.K M (cmpV .lt)) := by
  intro pins s σ H x y v u Q I rx ry h
  obtain ⟨G, μ, st, a, b, k, S, ra, rb, h, q⟩ := h
  unfold cmpV at h
  simp only at h
  split at h
  · cases VR.int_i.mp ra; cases VR.int_i.mp rb
    cases h
    exact op_lt pins s σ H _ _ v u Q I rx ry ⟨_, _, rfl, rfl, q⟩
  · obtain ⟨rfl, _⟩ := VR.str_i.mp ra
    obtain ⟨rfl, _⟩ := VR.str_i.mp rb
    cases h
    refine op_lt_str pins s σ H _ _ v u Q I rx ry ⟨_, _, rfl, rfl, ?_⟩
    rw [txLt_eq] at q
    exact q
  · split at h
    · rename_i ns ms e1 e2
      cases h
      obtain ⟨xs, f1, g1⟩ := Option.bind_eq_some_iff.mp e1
      obtain ⟨ys, f2, g2⟩ := Option.bind_eq_some_iff.mp e2
      obtain ⟨p1, z1, rfl, s1, w1⟩ := asList_ok S ra f1
      obtain ⟨p2, z2, rfl, s2, w2⟩ := asList_ok S rb f2
      cases intsL_of g1 w1
      cases intsL_of g2 w2
      rw [lexLt_eq] at q
      exact op_ltL (by omega) pins s σ H _ _ v u Q I rx ry ⟨p1, p2, ns, ms, rfl, rfl, .inl s1, .inl s2, q⟩
    · cases h
theorem le_ok : OpR X (compareOp .LtE) (rCmp X.K M (cmpV .le)) := by
  intro pins s σ H x y v u Q I rx ry h
  obtain ⟨G, μ, st, a, b, k, S, ra, rb, h, q⟩ := h
  unfold cmpV at h
  simp only at h
  split at h
  · cases VR.int_i.mp ra; cases VR.int_i.mp rb
    cases h
    exact op_le pins s σ H _ _ v u Q I rx ry ⟨_, _, rfl, rfl, q⟩
  · cases h
theorem gt_ok : OpR X (compareOp .Gt) (rCmp X.K M (cmpV .gt)) := by
  intro pins s σ H x y v u Q I rx ry h
  obtain ⟨G, μ, st, a, b, k, S, ra, rb, h, q⟩ := h
  unfold cmpV at h
  simp only at h
  split at h
  · cases VR.int_i.mp ra; cases VR.int_i.mp rb
    cases h
    exact op_gt pins s σ H _ _ v u Q I rx ry ⟨_, _, rfl, rfl, q⟩
  · cases h
theorem ge_ok : OpR X (compareOp .GtE) (rCmp X.K M (cmpV .ge)) := by
  intro pins s σ H x y v u Q I rx ry h
  obtain ⟨G, μ, st, a, b, k, S, ra, rb, h, q⟩ := h
  unfold cmpV at h
  simp only at h
  split at h
  · cases VR.int_i.mp ra; cases VR.int_i.mp rb
    cases h
    exact op_ge pins s σ H _ _ v u Q I rx ry ⟨_, _, rfl, rfl, q⟩
  · cases h
theorem XR.non {K : PySem.W.Frag} {G : Addr → Prop} {μ : Mu} {H : Hp} {st : Store} {a : KG.X} {x : V} (S : SR K M G μ H st) (r : XR K M G μ H a x) :
    (match a with
    | .v .none => decide (x = .non) = true
    | .r n => (∃ c, st[n]? = some c ∧ c ≠ .dead) → decide (x = .non) = false
    | _ => decide (x = .non) = false) := by
  cases a with
  | v v =>
    cases v with
    | none => cases VR.none_i.mp r; rfl
    | bool b => cases VR.bool_i.mp r; rfl
    | int b => cases VR.int_i.mp r; rfl
    | str b => obtain ⟨rfl, _⟩ := VR.str_i.mp r; rfl
    | tup b => obtain ⟨_, _, rfl, _⟩ := VR.tup_i.mp r; rfl
    | lst b => obtain ⟨_, _, rfl, _⟩ := VR.lst_i.mp r; rfl
    | dct t b c => obtain ⟨_, rfl, _⟩ := VR.dct_i.mp r; rfl
    | obj c b d => obtain ⟨_, _, _, _, rfl, _⟩ := VR.obj_i.mp r; rfl
  | r n =>
    rintro ⟨c, e, hc⟩
    obtain ⟨b, hb, _⟩ := S.addr e hc
    cases r.at hb
    rfl
  | k xs => obtain ⟨_, _, rfl, _⟩ := r; rfl
theorem isNon_ok {K : PySem.W.Frag} {G : Addr → Prop} {μ : Mu} {H : Hp} {st : Store} {a : KG.X} {x : V} {k : Bool} (S : SR K M G μ H st) (r : XR K M G μ H a x) (h : isNon a st = some k) : decide (x = .non) = k := by
  have q := XR.non S r
  cases a with
  | v v =>
    cases v with
    | none => cases h; exact q
    | _ => cases h; exact q
  | k xs => cases h; exact q
  | r n =>
    have h1 : (match st[n]? with
      | some .dead => none
      | some _ => some false
      | none => none) = some k := h
    cases e : st[n]? with
    | none => rw [e] at h1; cases h1
    | some c =>
      rw [e] at h1
      cases c <;> first | (cases h1; done) | (cases h1; exact q ⟨_, e, by simp⟩)
theorem isN_ok {b : Expr} {j : Nat} {pos : Pos} {ta : TE} {e : Expr} (h : PE X e ta) : PC X .Is e (.Constant .none j pos) (fun σ H Q => ta σ H fun x H1 => Q (.bl (decide (x = .non))) H1) := pc_isN h
theorem inSeq_ok (hu : X.A.units + 65 < cLine) {pins : List (Addr × Obj)} {s : Shared} {σ : L2.St} {H : Hp} {x y : V} {v u : Value} {F F' : Addr → Prop} {a : Val} {xs : List Val} {ys : List V} {p : Addr} (I : Inv X pins σ H s) (rx : RelV x v) (ry : RelV y u)
    (hy : y = .ref p) (hs : SqL X.K H p ys ∨ SqT X.K H p ys) (pq : Paired (VR M F' H) xs ys) (ra : VR M F H a x) (hd : a.okD = true) (hxs : isDL xs = true) {E : Value → Shared → Prop} :
    (∀ Q : Value → Shared → Prop, Q (.bool (xs.any fun b => b.eqv a)) s → wpAny (model X.prog X.w) X.A (compareOp .In v u) Q E s) ∧
    (∀ Q : Value → Shared → Prop, Q (.bool (!(xs.any fun b => b.eqv a))) s → wpAny (model X.prog X.w) X.A (compareOp .NotIn v u) Q E s) := by
  subst hy
  have hd' : a.isD = true := by simp only [Val.okD, Bool.and_eq_true] at hd; exact hd.1
  obtain ⟨d1, s1⟩ := VR.shaped (K := X.K) ra hd
  obtain ⟨d2, c2⟩ := VR.dps (K := X.K) pq hxs
  obtain ⟨as, r1⟩ := Dp.reads I _ x v d1 rx
  have e := any_eqv hd' xs hxs
  rcases hs with hs | hs
  · obtain ⟨bs, r2⟩ := Dp.reads I _ _ u (Dp.lst hs d2) ry
    exact ⟨fun Q q => SeqAt.in_list_reads r2 r1 c2 (SeqAt.canLay_of_shaped s1) (room_in_shaped s1 hu) (by rw [e]; exact q), fun Q q => SeqAt.notIn_list_reads r2 r1 c2 (SeqAt.canLay_of_shaped s1) (room_in_shaped s1 hu) (by rw [e]; exact q)⟩
  · obtain ⟨bs, r2⟩ := Dp.reads I _ _ u (Dp.tup hs d2) ry
    exact ⟨fun Q q => SeqAt.in_tuple_reads r2 r1 c2 (SeqAt.canLay_of_shaped s1) (room_in_shaped s1 hu) (by rw [e]; exact q), fun Q q => SeqAt.notIn_tuple_reads r2 r1 c2 (SeqAt.canLay_of_shaped s1) (room_in_shaped s1 hu) (by rw [e]; exact q)⟩
theorem isSome_of {α : Type} {o : Option V} {p : Option Val} (h1 : ∀ v, p = some v → ∃ w, o = some w ∧ True) (h2 : p = none → o = none) : o.isSome = p.isSome := by
  cases p with
  | none => rw [h2 rfl]; rfl
  | some v => obtain ⟨w, e, _⟩ := h1 v rfl; rw [e]; rfl
theorem inn_ok (hu : X.A.units + 65 < cLine) : OpR X (compareOp .In) (rCmp X.K M inV) ∧ OpR X (compareOp .NotIn) (rCmp X.K M fun a b st => (inV a b st).map (!·)) := by
  have key : ∀ (pins : List (Addr × Obj)) (s : Shared) (σ : L2.St) (H : Hp) (x y : V) (v u : Value) (G : Addr → Prop) (μ : Mu) (st : Store) (a b : KG.X) (k : Bool), Inv X pins σ H s → RelV x v → RelV y u → SR X.K M G μ H st → XR X.K M G μ H a x → XR X.K M G μ H b y →
      inV a b st = some k → (∀ Q, Q (.bl k) H → wpAny (model X.prog X.w) X.A (compareOp .In v u) (EP X pins σ Q) X.xe s) ∧ (∀ Q, Q (.bl (!k)) H → wpAny (model X.prog X.w) X.A (compareOp .NotIn v u) (EP X pins σ Q) X.xe s) := by
    intro pins s σ H x y v u G μ st a b k I rx ry S ra rb h
    unfold inV at h
    split at h
    · -- a sign in a text
      obtain ⟨rfl, _⟩ := VR.str_i.mp ra
      obtain ⟨rfl, _⟩ := VR.str_i.mp rb
      cases h
      refine ⟨fun Q q => op_in_sign pins s σ H _ _ v u Q I rx ry ⟨_, _, rfl, rfl, ?_⟩, fun Q q => op_notIn_sign pins s σ H _ _ v u Q I rx ry ⟨_, _, rfl, rfl, ?_⟩⟩
      · simpa [List.contains_iff_mem] using q
      · simpa [List.contains_iff_mem] using q
    · split at h
      · rename_i xs e
        split at h
        · rename_i hd
          simp only [Bool.and_eq_true] at hd
          cases h
          obtain ⟨p, ys, ey, hs, pq⟩ := asSeq_ok S rb e
          have z := inSeq_ok (X := X) hu I rx ry ey hs pq ra hd.1 hd.2 (E := X.xe)
          exact ⟨fun Q q => z.1 _ ⟨.bl _, H, I, rfl, q⟩, fun Q q => z.2 _ ⟨.bl _, H, I, rfl, q⟩⟩
        · cases h
      · split at h
        · rename_i t ks vs e
          split at h
          · rename_i hf
            cases h
            obtain ⟨p, o, ey, g, g1, g2⟩ := dictGet_ok S rb e hf ra
            subst ey
            obtain rfl : u = Value.ref p := ry
            have eo : o.isSome = (dget ks vs _).isSome := isSome_of (α := Unit) (fun v h => let ⟨w, e, _⟩ := g1 v h; ⟨w, e, trivial⟩) g2
            exact ⟨fun Q q => d_in (by omega) I g rx fun s3 I3 => ⟨.bl o.isSome, H, I3, rfl, by rw [eo]; exact q⟩, fun Q q => d_notIn (by omega) I g rx fun s3 I3 => ⟨.bl (!o.isSome), H, I3, rfl, by rw [eo]; exact q⟩⟩
          · cases h
        · cases h
    · cases h
  refine ⟨?_, ?_⟩
  · intro pins s σ H x y v u Q I rx ry h
    obtain ⟨G, μ, st, a, b, k, S, ra, rb, h, q⟩ := h
    exact (key pins s σ H x y v u G μ st a b k I rx ry S ra rb h).1 Q q
  · intro pins s σ H x y v u Q I rx ry h
    obtain ⟨G, μ, st, a, b, k, S, ra, rb, h, q⟩ := h
    have h : (inV a b st).map (!·) = some k := h
    cases e : inV a b st with
    | none => rw [e] at h; cases h
    | some k' =>
      rw [e] at h
      cases h
      exact (key pins s σ H x y v u G μ st a b k' I rx ry S ra rb e).2 Q q
end
end KG

set_option linter.all false
set_option maxRecDepth 100000
set_option maxHeartbeats 4000000
/-! K1e: subscripts, slices, built-in functions. -/
namespace KG
open PySem PySem.Spec PyProof.Rows L2
section
variable {X : Cx} {M : Nms} {B : EW}
theorem ixAt_eq (n : Nat) (i : Int) : ixAt n i = ixN n i := rfl
theorem slAt_eq (n d : Nat) (o : Option Int) : slAt n d o = HT.sIx n d o := by cases o <;> rfl
theorem cut_pair {α β : Type} {P : α → β → Prop} {xs : List α} {ys : List β} (p : Paired P xs ys) (lo hi : Option Int) : Paired P (cut xs lo hi) (cut ys lo hi) := by
  unfold cut
  rw [plen p]
  exact ptake _ (pdrop _ p)
theorem cutV_eq (ys : List V) (lo hi : Option Int) : cutV ys lo hi = cut ys lo hi := by
  unfold cutV cut
  rw [slAt_eq, slAt_eq]
theorem ix_dict (hu : X.A.units + 1 < cLine) : IxR X (fun x y H Q => ∃ a v, x = .ref a ∧ DGet H a y (some v) ∧ Q v H) := by
  intro value slice pins s σ H x y v u Q I rx ry h hs
  obtain ⟨a, w, rfl, g, q⟩ := h
  obtain rfl : v = Value.ref a := rx
  exact tail_any (dict_typeIs I g) PySem.F.slot_dict_getitem.lookup (d_getItem hu I g ry fun w' s3 I3 rw' => ⟨w, H, I3, rw', q⟩) hs
def rIxV (K : PySem.W.Frag) (M : Nms) : R2 := fun x y H Q =>
  ∃ (G : Addr → Prop) (μ : Mu) (st : Store) (a b : KG.X) (w : Val), SR K M G μ H st ∧ XR K M G μ H a x ∧ XR K M G μ H b y ∧ ixV a b st = some w ∧ ∀ z, VR M (Fz G μ) H w z → Q z H
theorem ix_ok (hu : X.A.units + 1 < cLine) : IxR X (rIxV X.K M) := by
  intro value slice pins s σ H x y v u Q I rx ry h hs
  obtain ⟨G, μ, st, a, b, w, S, ra, rb, h, q⟩ := h
  have dic : ∀ (t : Bool) (ks vs : List Val) (k : Val) (z : V), asDict a st = some (t, ks, vs) → fitKey t k = true → dget ks vs k = some w → VR M (Fz G μ) H k z → z = y → wpAny (model X.prog X.w) X.A (subscriptTail value slice v u) (EP X pins σ Q) X.xe s := by
    intro t ks vs k z e hf hg rk ez
    subst ez
    obtain ⟨p, o, ey, g, g1, g2⟩ := dictGet_ok S ra e hf rk
    obtain ⟨w', e', r'⟩ := g1 w hg
    subst e'
    exact ix_dict hu value slice pins s σ H x z v u Q I rx ry ⟨p, w', ey, g, q w' r'⟩ hs
  unfold ixV at h
  split at h
  · obtain ⟨rfl, hc⟩ := VR.str_i.mp ra
    cases VR.int_i.mp rb
    rename_i s0 i
    split at h
    · rename_i hl
      split at h
      · rename_i j ej
        cases e : s0[j]? with
        | none => rw [e] at h; cases h
        | some c =>
          rw [e] at h
          cases h
          refine ix_str value slice pins s σ H _ _ v u Q I rx ry ⟨_, i, c, rfl, rfl, by rw [← LIM_eq]; simpa [Str.length] using hl, ?_, q _ (VR.str_i.mpr ⟨rfl, fun c' hc' => ?_⟩)⟩ hs
          · unfold atI
            simp only
            rw [← ixAt_eq, ej]
            exact e
          · have : c' = c := by simpa using hc'
            subst this
            exact hc _ (List.mem_of_getElem? e)
      · cases h
    · cases h
  · cases VR.int_i.mp rb
    rename_i i _
    split at h
    · rename_i xs e
      obtain ⟨p, ys, rfl, hq, pq⟩ := asSeq_ok S ra e
      split at h
      · rename_i j ej
        obtain ⟨z, hz, rz⟩ := pget pq h
        have hat : atI ys i = some z := by
          unfold atI
          rw [← ixAt_eq, ← plen pq, ej]
          exact hz
        rcases hq with hq | hq
        · exact ix_list value slice pins s σ H _ _ v u Q I rx ry ⟨p, ys, i, z, rfl, rfl, hq, hat, q z rz⟩ hs
        · exact ix_tup value slice pins s σ H _ _ v u Q I rx ry ⟨p, ys, i, z, rfl, rfl, hq, hat, q z rz⟩ hs
      · cases h
    · split at h
      · rename_i t ks vs e
        split at h
        · rename_i hf
          exact dic t ks vs _ _ e hf h (VR.int_i.mpr rfl) rfl
        · cases h
      · cases h
  · split at h
    · rename_i t ks vs e
      split at h
      · rename_i hf
        exact dic t ks vs _ _ e hf h rb rfl
      · cases h
    · cases h
  · cases h
/-! ### slices -/
def rSlV (K : PySem.W.Frag) (M : Nms) (B : EW) (m : Bool) : V → Option Int → Option Int → Hp → VK → Prop := fun x lo hi H Q =>
  ∃ (G : Addr → Prop) (μ : Mu) (st : Store) (a : KG.X), SR K M G μ H st ∧ XR K M G μ H a x ∧ Post K M G (relX K M G) μ H (slI m a lo hi st) Q B
theorem sl_ok {m : Bool} : SlR X (rSlV X.K M B m) := by
  intro pins s σ H x v vl vu lo hi sl Q I rx hs pl pu h
  obtain ⟨G, μ, st, a, S, ra, h⟩ := h
  unfold slI at h
  split at h
  · rename_i s0
    obtain ⟨rfl, hc⟩ := VR.str_i.mp ra
    split at h
    · rename_i hl
      refine sl_str pins s σ H _ v vl vu lo hi sl Q I rx hs pl pu ⟨_, rfl, by rw [← LIM_eq]; simpa [Str.length] using hl, h.flat S (VR.str_i.mpr ⟨?_, fun c hc' => ?_⟩)⟩
      · unfold cutS cut
        simp [Str.length, slAt_eq]
      · exact hc c (List.mem_of_mem_drop (List.mem_of_mem_take hc'))
    · exact h.elim
  · obtain ⟨p, ys, rfl, t, pq⟩ := VR.tup_i.mp ra
    refine sl_tupA pins s σ H _ v vl vu lo hi sl Q I rx hs pl pu ⟨p, ys, rfl, t.sq, fun e => ?_, fun _ => ?_⟩
    · rename_i xs
      have e0 : cut xs lo hi = xs := by
        unfold cut
        rw [slAt_eq, slAt_eq, plen pq, e.1, e.2]
        rw [← plen pq]
        simp
      rw [e0] at h
      exact h.flat S ra
    · rw [cutV_eq]
      exact newT_ok S (cut_pair pq lo hi) h
  · split at h
    · rename_i xs e
      obtain ⟨p, ys, rfl, t, pq⟩ := asList_ok S ra e
      obtain ⟨hz, hq⟩ := newL_ok S (cut_pair pq lo hi) h
      refine sl_list pins s σ H _ v vl vu lo hi sl Q I rx hs pl pu ⟨p, ys, rfl, .inl t, ?_⟩
      rw [cutV_eq]
      exact hq
    · exact h.elim
/-! ### built-in functions -/
def rFn (K : PySem.W.Frag) (M : Nms) (B : EW) (f : List KG.X → Store → R KG.X) : List V → Hp → VK → Prop := fun xs H Q =>
  ∃ (G : Addr → Prop) (μ : Mu) (st : Store) (as : List KG.X), SR K M G μ H st ∧ Paired (XR K M G μ H) as xs ∧ Post K M G (relX K M G) μ H (f as st) Q B
theorem p1 {α β : Type} {P : α → β → Prop} {a : α} {ys : List β} (p : Paired P [a] ys) : ∃ y, ys = [y] ∧ P a y := by
  cases p with
  | cons q t => cases t; exact ⟨_, rfl, q⟩
theorem p2 {α β : Type} {P : α → β → Prop} {a b : α} {ys : List β} (p : Paired P [a, b] ys) : ∃ y z, ys = [y, z] ∧ P a y ∧ P b z := by
  cases p with
  | cons q t =>
    cases t with
    | cons q' t' => cases t'; exact ⟨_, _, rfl, q, q'⟩
theorem bi_len : CallR X (.builtin "len") (rFn X.K M B lenF) := by
  intro pins s σ H xs us Q I r h
  obtain ⟨G, μ, st, as, S, p, h⟩ := h
  unfold lenF at h
  split at h
  · obtain ⟨y, rfl, ry⟩ := p1 p
    obtain ⟨rfl, hc⟩ := VR.str_i.mp ry
    split at h
    · rename_i s0 hl
      refine call_len pins s σ H _ us Q I r ⟨_, s0.length, rfl, ⟨by rw [← LIM_eq]; simpa [Str.length] using hl, by simp [Str.length]⟩, h.flat S (VR.int_i.mpr rfl)⟩
    · exact h.elim
  · obtain ⟨y, rfl, ry⟩ := p1 p
    split at h
    · rename_i xs e
      obtain ⟨q, ys, rfl, hq, pq⟩ := asSeq_ok S ry e
      refine call_len pins s σ H _ us Q I r ⟨_, ys.length, rfl, ?_, h.flat S (VR.int_i.mpr (by rw [plen pq]))⟩
      rcases hq with hq | hq
      · exact .inl ⟨ys, hq, rfl⟩
      · exact .inr ⟨ys, hq, rfl⟩
    · split at h
      · rename_i t ks vs e
        obtain ⟨q, rfl, hq⟩ := asDict_ok S ry e
        obtain ⟨u, rfl, ru⟩ := vals1 r
        obtain rfl : u = Value.ref q := ru
        rcases hq with ⟨kvs, _, hq, p1, p2⟩ | ⟨kvs, _, hq, p1, p2⟩
        · exact d_len I hq fun t s' I' => ⟨.int kvs.length, H, I', ⟨t, rfl⟩, h.flat S (VR.int_i.mpr (by rw [plen p1, List.length_map]))⟩
        · obtain ⟨z, hd, zs, rel, dd⟩ := dt_rd I.hok hq
          have hl : kvs.length = zs.length := Paired.length rel
          rw [sizeLine_eq] at z
          refine call_len_dictH hd dd (by omega) ?_
          rw [← hl]
          exact ⟨.int kvs.length, H, I.tok _, ⟨_, rfl⟩, h.flat S (VR.int_i.mpr (by rw [plen p1, List.length_map]))⟩
      · exact h.elim
  · exact h.elim
theorem bi_int : CallR X (.type "int") (rFn X.K M B intF) := by
  intro pins s σ H xs us Q I r h
  obtain ⟨G, μ, st, as, S, p, h⟩ := h
  unfold intF at h
  split at h
  · obtain ⟨y, rfl, ry⟩ := p1 p
    cases VR.int_i.mp ry
    exact call_int1 pins s σ H _ us Q I r (.inl ⟨_, rfl, h.flat S (VR.int_i.mpr rfl)⟩)
  · obtain ⟨y, rfl, ry⟩ := p1 p
    cases VR.bool_i.mp ry
    exact call_int1 pins s σ H _ us Q I r (.inr ⟨_, rfl, h.flat S (VR.int_i.mpr rfl)⟩)
  · exact h.elim
theorem bi_tuple : CallR X (.type "tuple") (rFn X.K M B tupleF) := by
  intro pins s σ H xs us Q I r h
  obtain ⟨G, μ, st, as, S, p, h⟩ := h
  unfold tupleF at h
  split at h
  · obtain ⟨y, rfl, ry⟩ := p1 p
    obtain ⟨q, ys, rfl, t, pq⟩ := VR.tup_i.mp ry
    exact call_tuple_of pins s σ H _ us Q I r ⟨q, ys, rfl, .inr ⟨t.sq, h.flat S ry⟩⟩
  · obtain ⟨y, rfl, ry⟩ := p1 p
    split at h
    · rename_i xs e
      obtain ⟨q, ys, rfl, hq, pq⟩ := asList_ok S ry e
      exact call_tuple_of pins s σ H _ us Q I r ⟨q, ys, rfl, .inl ⟨.inl hq, newT_ok S pq h⟩⟩
    · exact h.elim
  · exact h.elim
theorem bi_list {m : Bool} : CallR X (.type "list") (rFn X.K M B (listF m)) := by
  intro pins s σ H xs us Q I r h
  obtain ⟨G, μ, st, as, S, p, h⟩ := h
  unfold listF at h
  split at h
  · obtain ⟨y, rfl, ry⟩ := p1 p
    split at h
    · rename_i xs e
      obtain ⟨q, ys, rfl, hq, pq⟩ := asSeq_ok S ry e
      obtain ⟨hz, hn⟩ := newL_ok S pq h
      exact call_list_of pins s σ H _ us Q I r ⟨q, ys, rfl, hq, hn⟩
    · exact h.elim
  · exact h.elim
theorem bools_of {F : Addr → Prop} {H : Hp} : ∀ {vs : List Val} {ys : List V} {bs : List Bool}, isBools vs = some bs → Paired (VR M F H) vs ys → ys = bs.map V.bl
  | [], _, _, h, p => by cases p; cases h; rfl
  | v :: vs, _, bs, h, p => by
    cases p with
    | cons p1 p2 =>
      cases v with
      | bool b =>
        have h1 : (isBools vs).map (b :: ·) = some bs := h
        cases e : isBools vs with
        | none => rw [e] at h1; cases h1
        | some cs => rw [e] at h1; cases h1; cases VR.bool_i.mp p1; rw [bools_of e p2]; rfl
      | _ => cases h
theorem ints_of {F : Addr → Prop} {H : Hp} : ∀ {vs : List Val} {ys : List V} {bs : List Int}, isInts vs = some bs → Paired (VR M F H) vs ys → ys = bs.map V.int
  | [], _, _, h, p => by cases p; cases h; rfl
  | v :: vs, _, bs, h, p => by
    cases p with
    | cons p1 p2 =>
      cases v with
      | int b =>
        have h1 : (isInts vs).map (b :: ·) = some bs := h
        cases e : isInts vs with
        | none => rw [e] at h1; cases h1
        | some cs => rw [e] at h1; cases h1; cases VR.int_i.mp p1; rw [ints_of e p2]; rfl
      | _ => cases h
theorem strs_of {F : Addr → Prop} {H : Hp} : ∀ {vs : List Val} {ys : List V} {bs : List Tx}, isStrs vs = some bs → Paired (VR M F H) vs ys → ys = (bs.map fun b => (⟨b.toArray⟩ : Str)).map V.str ∧ ∀ b ∈ bs, ∀ c ∈ b, c < 1114112
  | [], _, _, h, p => by cases p; cases h; exact ⟨rfl, fun _ h => nomatch h⟩
  | v :: vs, _, bs, h, p => by
    cases p with
    | cons p1 p2 =>
      cases v with
      | str b =>
        have h1 : (isStrs vs).map (b :: ·) = some bs := h
        cases e : isStrs vs with
        | none => rw [e] at h1; cases h1
        | some cs =>
          rw [e] at h1
          cases h1
          obtain ⟨rfl, hc⟩ := VR.str_i.mp p1
          obtain ⟨e1, e2⟩ := strs_of e p2
          exact ⟨by rw [e1]; rfl, fun b' hb => (List.mem_cons.mp hb).elim (fun q => by subst q; exact hc) (e2 b')⟩
      | _ => cases h
theorem bi_all (hc : X.calm = true) : CallR X (.builtin "all") (rFn X.K M B allF) := by
  intro pins s σ H xs us Q I r h
  obtain ⟨G, μ, st, as, S, p, h⟩ := h
  unfold allF at h
  split at h
  · obtain ⟨y, rfl, ry⟩ := p1 p
    split at h
    · rename_i bs e
      obtain ⟨xs, e1, e2⟩ := Option.bind_eq_some_iff.mp e
      obtain ⟨q, ys, rfl, hq, pq⟩ := asList_ok S ry e1
      cases bools_of e2 pq
      exact cr_all hc pins s σ H _ us Q I r ⟨q, bs, rfl, .inl hq, h.flat S (VR.bool_i.mpr rfl)⟩
    · exact h.elim
  · exact h.elim
theorem bi_any (hc : X.calm = true) : CallR X (.builtin "any") (rFn X.K M B anyF) := by
  intro pins s σ H xs us Q I r h
  obtain ⟨G, μ, st, as, S, p, h⟩ := h
  unfold anyF at h
  split at h
  · obtain ⟨y, rfl, ry⟩ := p1 p
    split at h
    · rename_i bs e
      obtain ⟨xs, e1, e2⟩ := Option.bind_eq_some_iff.mp e
      obtain ⟨q, ys, rfl, hq, pq⟩ := asList_ok S ry e1
      cases bools_of e2 pq
      exact cr_any hc pins s σ H _ us Q I r ⟨q, bs, rfl, .inl hq, h.flat S (VR.bool_i.mpr rfl)⟩
    · exact h.elim
  · exact h.elim
theorem bi_sum (hc : X.calm = true) : CallR X (.builtin "sum") (rFn X.K M B sumF) := by
  intro pins s σ H xs us Q I r h
  obtain ⟨G, μ, st, as, S, p, h⟩ := h
  unfold sumF at h
  split at h
  · obtain ⟨y, rfl, ry⟩ := p1 p
    split at h
    · rename_i bs e
      obtain ⟨xs, e1, e2⟩ := Option.bind_eq_some_iff.mp e
      obtain ⟨q, ys, rfl, hq, pq⟩ := asList_ok S ry e1
      cases ints_of e2 pq
      exact cr_sum hc pins s σ H _ us Q I r ⟨q, bs, rfl, .inl hq, h.flat S (VR.int_i.mpr rfl)⟩
    · exact h.elim
  · exact h.elim
theorem bi_max2 (hc : X.calm = true) : CallR X (.builtin "max") (rFn X.K M B max2F) := by
  intro pins s σ H xs us Q I r h
  obtain ⟨G, μ, st, as, S, p, h⟩ := h
  unfold max2F at h
  split at h
  · obtain ⟨y, z, rfl, ry, rz⟩ := p2 p
    cases VR.int_i.mp ry
    cases VR.int_i.mp rz
    exact call_max2 hc pins s σ H _ us Q I r ⟨_, _, rfl, h.flat S (VR.int_i.mpr rfl)⟩
  · exact h.elim
theorem bi_min2 (hc : X.calm = true) : CallR X (.builtin "min") (rFn X.K M B min2F) := by
  intro pins s σ H xs us Q I r h
  obtain ⟨G, μ, st, as, S, p, h⟩ := h
  unfold min2F at h
  split at h
  · obtain ⟨y, z, rfl, ry, rz⟩ := p2 p
    cases VR.int_i.mp ry
    cases VR.int_i.mp rz
    exact call_min2 hc pins s σ H _ us Q I r ⟨_, _, rfl, h.flat S (VR.int_i.mpr rfl)⟩
  · exact h.elim
end
end KG

set_option linter.all false
set_option maxRecDepth 100000
set_option maxHeartbeats 4000000
/-! K1f: methods of built-in types. -/
namespace KG
open PySem PySem.Spec PyProof.Rows L2
section
variable {X : Cx} {M : Nms} {B : EW}
def rMt (K : PySem.W.Frag) (M : Nms) (B : EW) (f : KG.X → List KG.X → Store → R KG.X) : V → List V → Hp → VK → Prop := fun x xs H Q =>
  ∃ (G : Addr → Prop) (μ : Mu) (st : Store) (a : KG.X) (as : List KG.X), SR K M G μ H st ∧ XR K M G μ H a x ∧ Paired (XR K M G μ H) as xs ∧ Post K M G (relX K M G) μ H (f a as st) Q B
/-- an own cell is written -/
theorem setC_ok {K : PySem.W.Frag} {G : Addr → Prop} {μ : Mu} {H : Hp} {st : Store} {n : Nat} {a : Addr} {o : HO} {c : Cell} {v : Val} {y : V} {Q : VK} (S : SR K M G μ H st) (hn : μ[n]? = some (some a)) (hc : CR K M G μ (upd H a o) c a)
    (h : Post K M G (relX K M G) μ H (.ok (.v v) (setC n c st)) Q B) (r : VR M (Fz G μ) (upd H a o) v y) : Q y (upd H a o) :=
  h.at (Ext.write (List.mem_of_getElem? hn)) (S.write hn hc) r
theorem bm_append : MtM X "list.append" (rMt X.K M B appendF) := by
  intro pins s σ H x xs v us Q I rx rs h
  obtain ⟨G, μ, st, a, as, S, ra, p, h⟩ := h
  unfold appendF at h
  split at h
  · rename_i n w
    split at h
    · rename_i ys e
      split at h
      · rename_i hl
        obtain ⟨y, rfl, ry⟩ := p1 p
        obtain ⟨b, hb, zs, hH, pz⟩ := S.addr e (by simp)
        cases ra.at hb
        refine mt_append pins s σ H _ _ v us Q I rx rs ⟨b, zs, y, rfl, rfl, hH, by rw [← plen pz, ← LIM_eq]; exact hl, ?_⟩
        have E : Ext μ H μ (upd H b (.lst (zs ++ [y]))) := Ext.write (List.mem_of_getElem? hb)
        exact setC_ok (c := .lst (ys ++ [w])) S hb ⟨_, upd_same, VR.exts E (papp pz (.cons ry .nil))⟩ h (VR.none_i.mpr rfl)
      · exact h.elim
    · exact h.elim
  · rename_i n k
    split at h
    · rename_i ys e
      split at h
      · rename_i hl
        obtain ⟨y, rfl, ry⟩ := p1 p
        obtain ⟨b, hb, zs, hH, pz⟩ := S.addr e (by simp)
        cases ra.at hb
        refine mt_append pins s σ H _ _ v us Q I rx rs ⟨b, zs, y, rfl, rfl, hH, by rw [← plen pz, ← LIM_eq]; exact hl, ?_⟩
        have E : Ext μ H μ (upd H b (.lst (zs ++ [y]))) := Ext.write (List.mem_of_getElem? hb)
        exact setC_ok (c := .rls (ys ++ [k])) S hb ⟨_, upd_same, pmono (fun _ _ q => q.ext E) (papp pz (.cons ry .nil))⟩ h (VR.none_i.mpr rfl)
      · exact h.elim
    · exact h.elim
  · exact h.elim
theorem mt_extendR : MtM X "list.extend" (fun x vs H Q => ∃ (l b : Addr) (xs zs : List V), x = V.ref l ∧ vs = [V.ref b] ∧ H l = some (.lst xs) ∧ H b = some (.lst zs) ∧ xs.length + zs.length ≤ sizeLine ∧ Q V.non (upd H l (.lst (xs ++ zs)))) := mt_extend
theorem bm_pop : MtM X "list.pop" (rMt X.K M B popF) := by
  intro pins s σ H x xs v us Q I rx rs h
  obtain ⟨G, μ, st, a, as, S, ra, p, h⟩ := h
  unfold popF at h
  split at h
  · rename_i n
    split at h
    · rename_i ys e
      split at h
      · rename_i w ew
        cases p
        obtain ⟨b, hb, zs, hH, pz⟩ := S.addr e (by simp)
        cases ra.at hb
        obtain ⟨y, hy, ry⟩ := pget pz ew
        refine mt_pop pins s σ H _ _ v us Q I rx rs ⟨b, zs, y, rfl, rfl, hH, by rw [← plen pz]; exact hy, ?_⟩
        have E : Ext μ H μ (upd H b (.lst zs.dropLast)) := Ext.write (List.mem_of_getElem? hb)
        exact setC_ok (c := .lst ys.dropLast) S hb ⟨_, upd_same, VR.exts E (pdropLast pz)⟩ h (ry.ext E)
      · exact h.elim
    · exact h.elim
  · exact h.elim
theorem joinT_eq (s : List Nat) : ∀ xs : List (List Nat), joinT s xs = TL.joinL s xs
  | [] => rfl
  | [a] => rfl
  | a :: b :: r => by
    show a ++ s ++ joinT s (b :: r) = a ++ (s ++ TL.joinL s (b :: r))
    rw [joinT_eq s (b :: r), List.append_assoc]
theorem joinT_mem (s : List Nat) : ∀ (xs : List (List Nat)) (c : Nat), c ∈ joinT s xs → c ∈ s ∨ ∃ x ∈ xs, c ∈ x
  | [], c, h => by cases h
  | [a], c, h => .inr ⟨a, List.mem_singleton.mpr rfl, h⟩
  | a :: b :: r, c, h => by
    have h : c ∈ a ++ s ++ joinT s (b :: r) := h
    rcases List.mem_append.mp h with h | h
    · rcases List.mem_append.mp h with h | h
      · exact .inr ⟨a, List.mem_cons_self, h⟩
      · exact .inl h
    · rcases joinT_mem s (b :: r) c h with h | ⟨x, hx, h⟩
      · exact .inl h
      · exact .inr ⟨x, List.mem_cons_of_mem _ hx, h⟩
theorem tl_mk (l : List Nat) : TL.tl (⟨l.toArray⟩ : Str) = l := by simp [TL.tl]
theorem join_tx (s : List Nat) (xs : List (List Nat)) : Txt.join (⟨s.toArray⟩ : Str) (xs.map fun b => (⟨b.toArray⟩ : Str)) = ⟨(joinT s xs).toArray⟩ := by
  rw [TL.join_eq]
  have h := TL.tl_join (⟨s.toArray⟩ : Str) (xs.map fun b => (⟨b.toArray⟩ : Str))
  rw [tl_mk, List.map_map] at h
  have e : (xs.map (TL.tl ∘ fun b => (⟨b.toArray⟩ : Str))) = xs := by
    rw [show (TL.tl ∘ fun b : List Nat => (⟨b.toArray⟩ : Str)) = id from funext fun b => tl_mk b, List.map_id]
  rw [e, ← joinT_eq] at h
  have h2 : (Str.join (⟨s.toArray⟩ : Str) (xs.map fun b => (⟨b.toArray⟩ : Str))).cps = (joinT s xs).toArray := by
    rw [← h]
  calc Str.join (⟨s.toArray⟩ : Str) (xs.map fun b => (⟨b.toArray⟩ : Str)) = ⟨(Str.join (⟨s.toArray⟩ : Str) (xs.map fun b => (⟨b.toArray⟩ : Str))).cps⟩ := rfl
    _ = _ := by rw [h2]
theorem bm_join : MtR X "str.join" (rMt X.K M B joinF) := by
  intro pins s σ H x xs v us Q I rx rs h
  obtain ⟨G, μ, st, a, as, S, ra, p, h⟩ := h
  unfold joinF at h
  split at h
  · rename_i z y0
    split at h
    · rename_i ts e
      split at h
      · rename_i hl
        obtain ⟨y, rfl, ry⟩ := p1 p
        obtain ⟨rfl, hc⟩ := VR.str_i.mp ra
        obtain ⟨zs, e1, e2⟩ := Option.bind_eq_some_iff.mp e
        obtain ⟨q, ys, rfl, hq, pq⟩ := asSeq_ok S ry e1
        obtain ⟨e3, hcs⟩ := strs_of e2 pq
        subst e3
        refine mt_join pins s σ H _ _ v us Q I rx rs ⟨_, q, ts.map fun b => (⟨b.toArray⟩ : Str), rfl, rfl, hq, ?_, ?_⟩
        · have e4 : (List.map (fun x : Str => x.length) (ts.map fun b => (⟨b.toArray⟩ : Str))).sum = (ts.map List.length).sum := by
            rw [List.map_map]
            congr 1
          unfold totalLen LIM at hl
          have e5 : (⟨z.toArray⟩ : Str).length = z.length := by simp [Str.length]
          rw [e4, List.length_map, e5, Nat.mul_comm]
          exact hl
        · rw [join_tx]
          refine h.flat S (VR.str_i.mpr ⟨rfl, fun c hc' => ?_⟩)
          rcases joinT_mem z ts c hc' with h1 | ⟨b, hb, h1⟩
          · exact hc c h1
          · exact hcs b hb c h1
      · exact h.elim
    · exact h.elim
  · exact h.elim
/-! split at one sign -/
theorem splitC_ne (c : Nat) : ∀ l, splitC c l ≠ []
  | [] => by simp [splitC]
  | x :: r => by
    unfold splitC
    by_cases h : x == c
    · rw [if_pos h]; simp
    · rw [if_neg h]
      cases e : splitC c r with
      | nil => simp
      | cons a t => simp
theorem spl_one (c : Nat) : ∀ (l acc : List Nat), TL.spl [c] 0 acc l = (match splitC c l with
    | a :: t => (acc ++ a) :: t
    | [] => [acc])
  | [], acc => by simp [TL.spl, splitC]
  | x :: r, acc => by
    have hp : TL.pre [c] (x :: r) = (x == c) := by
      simp [TL.pre]
    unfold splitC
    cases h : (x == c) with
    | true =>
      rw [TL.spl_hit (by rw [hp]; exact h), if_pos rfl]
      show acc :: TL.spl [c] 0 [] r = (acc ++ []) :: splitC c r
      rw [spl_one c r [], List.append_nil]
      cases e : splitC c r with
      | nil => exact absurd e (splitC_ne c r)
      | cons a t => simp
    | false =>
      rw [TL.spl_miss (by rw [hp]; exact h), if_neg (by simp), spl_one c r (acc ++ [x])]
      cases e : splitC c r with
      | nil => exact absurd e (splitC_ne c r)
      | cons a t => simp
theorem splitC_mem (c : Nat) : ∀ (l : List Nat) (p : List Nat), p ∈ splitC c l → ∀ d ∈ p, d ∈ l
  | [], p, h, d, hd => by
    have : p = [] := by simpa [splitC] using h
    subst this
    exact hd
  | x :: r, p, h, d, hd => by
    unfold splitC at h
    by_cases hx : x == c
    · rw [if_pos hx] at h
      rcases List.mem_cons.mp h with h | h
      · subst h; cases hd
      · exact List.mem_cons_of_mem _ (splitC_mem c r p h d hd)
    · rw [if_neg hx] at h
      cases e : splitC c r with
      | nil =>
        rw [e] at h
        have : p = [x] := by simpa using h
        subst this
        exact List.mem_cons.mpr (.inl (by simpa using hd))
      | cons a t =>
        rw [e] at h
        rcases List.mem_cons.mp h with h | h
        · subst h
          rcases List.mem_cons.mp hd with h1 | h1
          · subst h1; exact List.mem_cons_self
          · exact List.mem_cons_of_mem _ (splitC_mem c r a (by rw [e]; exact List.mem_cons_self) d h1)
        · exact List.mem_cons_of_mem _ (splitC_mem c r p (by rw [e]; exact List.mem_cons_of_mem _ h) d hd)
theorem split_tx (s : List Nat) (c : Nat) (hc : c < 256) : Txt.split (⟨s.toArray⟩ : Str) (⟨#[c]⟩ : Str) = (splitC c s).map fun b => (⟨b.toArray⟩ : Str) := by
  refine TL.map_tl_inj ?_
  rw [TL.split_spl _ _ (by simp [TL.tl]) (TL.kind_ok (by simpa using hc))]
  have e1 : TL.tl (⟨#[c]⟩ : Str) = [c] := by simp [TL.tl]
  rw [e1, tl_mk, spl_one, List.map_map]
  have e2 : (TL.tl ∘ fun b : List Nat => (⟨b.toArray⟩ : Str)) = id := funext fun b => tl_mk b
  rw [e2, List.map_id]
  cases e : splitC c s with
  | nil => exact absurd e (splitC_ne c s)
  | cons a t => simp
theorem vr_strs {F : Addr → Prop} {H : Hp} : ∀ xs : List (List Nat), (∀ p ∈ xs, ∀ d ∈ p, d < 1114112) → Paired (VR M F H) (xs.map Val.str) ((xs.map fun b => (⟨b.toArray⟩ : Str)).map V.str)
  | [], _ => .nil
  | x :: r, h => .cons (VR.str_i.mpr ⟨rfl, h x List.mem_cons_self⟩) (vr_strs r fun p hp => h p (List.mem_cons_of_mem _ hp))
theorem bm_split {m : Bool} : MtR X "str.split" (rMt X.K M B (splitF m)) := by
  intro pins s σ H x xs v us Q I rx rs h
  obtain ⟨G, μ, st, a, as, S, ra, p, h⟩ := h
  unfold splitF at h
  split at h
  · rename_i z c
    split at h
    · rename_i hl
      obtain ⟨y, rfl, ry⟩ := p1 p
      obtain ⟨rfl, hc⟩ := VR.str_i.mp ra
      obtain ⟨rfl, _⟩ := VR.str_i.mp ry
      obtain ⟨hz, hn⟩ := newL_ok S (vr_strs (splitC c z) fun p hp d hd => hc d (splitC_mem c z p hp d hd)) h
      refine mt_split pins s σ H _ _ v us Q I rx rs ⟨_, _, rfl, rfl, ?_, ?_, ?_⟩
      · simp [Str.length]
      · rw [← LIM_eq]; simpa [Str.length] using hl.1
      · have e := split_tx z c hl.2
        show rNewStrs (Txt.split (⟨z.toArray⟩ : Str) (⟨#[c]⟩ : Str)) H Q
        rw [e]
        exact hn
    · exact h.elim
  · exact h.elim
theorem getD_ok {F : Addr → Prop} {H : Hp} {o : Option V} {p : Option Val} {d : Val} {z : V} (h1 : ∀ v, p = some v → ∃ w, o = some w ∧ VR M F H v w) (h2 : p = none → o = none) (hd : VR M F H d z) : VR M F H (p.getD d) (o.getD z) := by
  cases p with
  | none => rw [h2 rfl]; exact hd
  | some v => obtain ⟨w, e, r⟩ := h1 v rfl; rw [e]; exact r
theorem bm_get2 (hu : X.A.units + 1 < cLine) : MtR X "dict.get" (rMt X.K M B get2F) := by
  intro pins s σ H x xs v us Q I rx rs h
  obtain ⟨G, μ, st, a, as, S, ra, p, h⟩ := h
  unfold get2F at h
  split at h
  · rename_i k d
    split at h
    · rename_i t ks vs e
      split at h
      · rename_i hf
        obtain ⟨y, z, rfl, ry, rz⟩ := p2 p
        obtain ⟨q, o, rfl, g, g1, g2⟩ := dictGet_ok S ra e hf ry
        obtain rfl : v = Value.ref q := rx
        obtain ⟨u1, u2, rfl, r1, r2⟩ := vals2 rs
        exact d_get2 hu I g r1 r2 fun w' s' I' r' => ⟨_, H, I', r', h.flat S (getD_ok g1 g2 rz)⟩
      · exact h.elim
    · exact h.elim
  · exact h.elim
/-! the place of a text in a list of texts -/
theorem posT_at (z : Tx) : ∀ (ss : List Tx) (k j : Nat), posT z ss k = some j → ∃ i, j = k + i ∧ ss[i]? = some z ∧ ∀ m y, m < i → ss[m]? = some y → y ≠ z
  | [], k, j, h => by cases h
  | a :: r, k, j, h => by
    unfold posT at h
    by_cases e : a = z
    · rw [if_pos (by simpa using e)] at h
      cases h
      exact ⟨0, rfl, by simp [e], fun m y hm => absurd hm (by omega)⟩
    · rw [if_neg (by simpa using e)] at h
      obtain ⟨i, h1, h2, h3⟩ := posT_at z r (k + 1) j h
      refine ⟨i + 1, by omega, by simpa using h2, fun m y hm hy => ?_⟩
      cases m with
      | zero =>
        have : a = y := by simpa using hy
        rw [← this]; exact e
      | succ m => exact h3 m y (by omega) (by simpa using hy)
theorem bm_index : MtR X "list.index" (rMt X.K M B indexF) := by
  intro pins s σ H x xs v us Q I rx rs h
  obtain ⟨G, μ, st, a, as, S, ra, p, h⟩ := h
  unfold indexF at h
  split at h
  · rename_i z
    split at h
    · rename_i ts e
      split at h
      · rename_i j hj
        obtain ⟨y, rfl, ry⟩ := p1 p
        obtain ⟨rfl, hc⟩ := VR.str_i.mp ry
        obtain ⟨zs, e1, e2⟩ := Option.bind_eq_some_iff.mp e
        obtain ⟨q, ys, rfl, hq, pq⟩ := asList_ok S ra e1
        obtain ⟨e3, hcs⟩ := strs_of e2 pq
        subst e3
        obtain ⟨i, rfl, g1, g2⟩ := posT_at z ts 0 j hj
        refine mt_index pins s σ H _ _ v us Q I rx rs ⟨q, _, _, i, .str (⟨z.toArray⟩ : Str), rfl, rfl, .inl hq, rfl, ?_, ?_, ?_, ?_, ?_⟩
        · simp [List.all_map, flatV]
        · simp [g1]
        · simp [eqV]
        · intro m z' hm hz'
          rw [List.getElem?_map, List.getElem?_map] at hz'
          cases ht : ts[m]? with
          | none => rw [ht] at hz'; cases hz'
          | some t =>
            rw [ht] at hz'
            have hz'' : V.str (⟨t.toArray⟩ : Str) = z' := by simpa using hz'
            rw [← hz'']
            have := g2 m t hm ht
            simp [eqV]
            intro hh
            exact this (by simpa using hh)
        · refine h.flat S (VR.int_i.mpr ?_)
          simp
      · exact h.elim
    · exact h.elim
  · exact h.elim
end
end KG

set_option linter.all false
set_option maxRecDepth 100000
set_option maxHeartbeats 4000000
/-! K1g: readings of the small language's expressions; the rules, one a construct. -/
namespace KG
open PySem PySem.Spec PyProof.Rows L2

/-- the tables of a linked program -/
structure Tab where
  fnm : Nat → Option Str
  fad : Nat → Option Addr
  cnm : Nat → Option Str
  gnm : Nat → Option Str
  xnm : Nat → Option Str
  xad : Nat → Option Addr
  natt : Nat
  nms : Nms

/-- an exception that lies on the ground: its class, its own dict's address -/
def ExR (T : Tab) (G : Addr → Prop) (μ : Mu) (H : Hp) (c : Nat) (ns : List Nat) (vs : List Val) (cls : Value) (d : Option Addr) : Prop :=
  ∃ C dx fs, cls = .ref C ∧ T.xad c = some C ∧ d = some dx ∧ H dx = some (.xd fs) ∧ Fz G μ dx ∧
    ∀ n v, flook ns vs n = some v → ∃ y, fs.lookup (T.nms.att n) = some y ∧ VR T.nms (Fz G μ) H v y
/-- a wish of exceptions, as one of the small language's -/
def bW (T : Tab) (G : Addr → Prop) (W : WX) (σ : L2.St) : EW := fun c ns vs _ μ' H' => ∀ cls d, ExR T G μ' H' c ns vs cls d → W cls d σ H'
def bE (T : Tab) (G : Addr → Prop) (E : XK) : EW := fun c ns vs _ μ' H' => ∀ cls d, ExR T G μ' H' c ns vs cls d → E cls d H'

section
variable (K : PySem.W.Frag) (T : Tab) (W : WX)
/-- an expression's reading -/
def tE (f : KG.Env → Store → R KG.X) : TE := fun σ H Q => ∃ (G : Addr → Prop) (μ : Mu) (env : KG.Env) (st : Store), SR K T.nms G μ H st ∧ ER K T.nms G μ H env σ ∧ Post K T.nms G (relX K T.nms G) μ H (f env st) Q (bW T G W σ)
def tT (f : KG.Env → Store → R Bool) : TT := fun σ H Q => ∃ (G : Addr → Prop) (μ : Mu) (env : KG.Env) (st : Store), SR K T.nms G μ H st ∧ ER K T.nms G μ H env σ ∧ Post K T.nms G relB μ H (f env st) Q (bW T G W σ)
def tA (f : KG.Env → Store → R (List KG.X)) : L2.TA := fun σ H Q => ∃ (G : Addr → Prop) (μ : Mu) (env : KG.Env) (st : Store), SR K T.nms G μ H st ∧ ER K T.nms G μ H env σ ∧ Post K T.nms G (relXs K T.nms G) μ H (f env st) Q (bW T G W σ)
def tO (f : KG.Env → Store → R (Option Int)) : L2.TO := fun σ H Q => ∃ (G : Addr → Prop) (μ : Mu) (env : KG.Env) (st : Store), SR K T.nms G μ H st ∧ ER K T.nms G μ H env σ ∧ Post K T.nms G (fun _ _ a b => a = b) μ H (f env st) Q (bW T G W σ)
end
theorem _root_.L2.PE.weak {X : Cx} {e : Expr} {t t' : TE} (h : PE X e t) (w : ∀ σ H Q, t' σ H Q → t σ H Q) : PE X e t' := ⟨fun pins s σ H Q I q => h.run pins s σ H Q I (w σ H Q q)⟩
theorem _root_.L2.PT.weak {X : Cx} {e : Expr} {t t' : TT} (h : PT X e t) (w : ∀ σ H Q, t' σ H Q → t σ H Q) : PT X e t' := ⟨fun pins s σ H Q I q => h.run pins s σ H Q I (w σ H Q q)⟩
theorem _root_.L2.PW.weak {X : Cx} {e : Expr} {t t' : TT} (h : PW X e t) (w : ∀ σ H Q, t' σ H Q → t σ H Q) : PW X e t' := ⟨fun wh pins s σ H Q I q => h.run wh pins s σ H Q I (w σ H Q q)⟩
theorem _root_.L2.PA.weak {X : Cx} {es : List Expr} {t t' : L2.TA} (h : PA X es t) (w : ∀ σ H Q, t' σ H Q → t σ H Q) : PA X es t' := ⟨fun p pins s σ H Q I q => h.run p pins s σ H Q I (w σ H Q q)⟩
theorem _root_.L2.PO.weak {X : Cx} {e : Option Expr} {t t' : L2.TO} (h : PO X e t) (w : ∀ σ H Q, t' σ H Q → t σ H Q) : PO X e t' := ⟨fun pins s σ H Q I q => h.run pins s σ H Q I (w σ H Q q)⟩
/-- what can't be is read as nothing -/
theorem _root_.L2.PE.bad {X : Cx} {e : Expr} {t : TE} (w : ∀ σ H Q, ¬ t σ H Q) : PE X e t := ⟨fun _ _ σ H Q _ h => absurd h (w σ H Q)⟩
theorem _root_.L2.PT.bad {X : Cx} {e : Expr} {t : TT} (w : ∀ σ H Q, ¬ t σ H Q) : PT X e t := ⟨fun _ _ σ H Q _ h => absurd h (w σ H Q)⟩

section
variable {X : Cx} {T : Tab} {W : WX} {a b c e : Expr} {pos : Pos} {f g h : KG.Env → Store → R KG.X} {G : Addr → Prop} {μ : Mu} {H : Hp} {st : Store} {env : KG.Env} {σ : L2.St} {α : Type}
/-- first f -/
theorem tE.fst {K : PySem.W.Frag} {k : KG.X → Store → R α} {β : Type} {rel : Mu → Hp → α → β → Prop} {Q : β → Hp → Prop} (S : SR K T.nms G μ H st) (E : ER K T.nms G μ H env σ) (P : Post K T.nms G rel μ H ((f env st).bind k) Q (bW T G W σ)) {Q' : VK}
    (hq : ∀ x a st1 μ1 H1, SR K T.nms G μ1 H1 st1 → ER K T.nms G μ1 H1 env σ → Ext μ H μ1 H1 → XR K T.nms G μ1 H1 a x → Post K T.nms G rel μ1 H1 (k a st1) Q (bW T G W σ) → Q' x H1) : tE K T W f σ H Q' :=
  ⟨G, μ, env, st, S, E, (Post.bind (rel1 := relX K T.nms G) P).imp fun x H1 ⟨a, st1, μ1, S1, E1, r1, P1⟩ => hq x a st1 μ1 H1 S1 (E.ext E1) E1 r1 P1⟩
theorem tT.fst {K : PySem.W.Frag} {f : KG.Env → Store → R Bool} {k : Bool → Store → R α} {β : Type} {rel : Mu → Hp → α → β → Prop} {Q : β → Hp → Prop} (S : SR K T.nms G μ H st) (E : ER K T.nms G μ H env σ) (P : Post K T.nms G rel μ H ((f env st).bind k) Q (bW T G W σ)) {Q' : Bool → Hp → Prop}
    (hq : ∀ x st1 μ1 H1, SR K T.nms G μ1 H1 st1 → ER K T.nms G μ1 H1 env σ → Ext μ H μ1 H1 → Post K T.nms G rel μ1 H1 (k x st1) Q (bW T G W σ) → Q' x H1) : tT K T W f σ H Q' :=
  ⟨G, μ, env, st, S, E, (Post.bind (rel1 := relB) P).imp fun x H1 ⟨a, st1, μ1, S1, E1, r1, P1⟩ => by cases (show a = x from r1); exact hq _ st1 μ1 H1 S1 (E.ext E1) E1 P1⟩
theorem tA.fst {K : PySem.W.Frag} {f : KG.Env → Store → R (List KG.X)} {k : List KG.X → Store → R α} {β : Type} {rel : Mu → Hp → α → β → Prop} {Q : β → Hp → Prop} (S : SR K T.nms G μ H st) (E : ER K T.nms G μ H env σ) (P : Post K T.nms G rel μ H ((f env st).bind k) Q (bW T G W σ)) {Q' : List V → Hp → Prop}
    (hq : ∀ x a st1 μ1 H1, SR K T.nms G μ1 H1 st1 → ER K T.nms G μ1 H1 env σ → Ext μ H μ1 H1 → Paired (XR K T.nms G μ1 H1) a x → Post K T.nms G rel μ1 H1 (k a st1) Q (bW T G W σ) → Q' x H1) : tA K T W f σ H Q' :=
  ⟨G, μ, env, st, S, E, (Post.bind (rel1 := relXs K T.nms G) P).imp fun x H1 ⟨a, st1, μ1, S1, E1, r1, P1⟩ => hq x a st1 μ1 H1 S1 (E.ext E1) E1 r1 P1⟩
theorem tO.fst {K : PySem.W.Frag} {f : KG.Env → Store → R (Option Int)} {k : Option Int → Store → R α} {β : Type} {rel : Mu → Hp → α → β → Prop} {Q : β → Hp → Prop} (S : SR K T.nms G μ H st) (E : ER K T.nms G μ H env σ) (P : Post K T.nms G rel μ H ((f env st).bind k) Q (bW T G W σ)) {Q' : Option Int → Hp → Prop}
    (hq : ∀ x st1 μ1 H1, SR K T.nms G μ1 H1 st1 → ER K T.nms G μ1 H1 env σ → Ext μ H μ1 H1 → Post K T.nms G rel μ1 H1 (k x st1) Q (bW T G W σ) → Q' x H1) : tO K T W f σ H Q' :=
  ⟨G, μ, env, st, S, E, (Post.bind (rel1 := fun _ _ a b => a = b) P).imp fun x H1 ⟨a, st1, μ1, S1, E1, r1, P1⟩ => by cases (show a = x from r1); exact hq _ st1 μ1 H1 S1 (E.ext E1) E1 P1⟩
theorem optR_some {K : PySem.W.Frag} {M : Nms} {β : Type} {rel : Mu → Hp → α → β → Prop} {o : Option α} {Q : β → Hp → Prop} {B : EW} (h : Post K M G rel μ H (optR o st) Q B) : ∃ a, o = some a ∧ Post K M G rel μ H (.ok a st) Q B := by
  cases o with
  | none => exact h.elim
  | some a => exact ⟨a, rfl, h⟩
theorem optR_bind {K : PySem.W.Frag} {M : Nms} {β γ : Type} {rel : Mu → Hp → γ → β → Prop} {o : Option α} {k : α → Store → R γ} {Q : β → Hp → Prop} {B : EW} (h : Post K M G rel μ H ((optR o st).bind k) Q B) : ∃ a, o = some a ∧ Post K M G rel μ H (k a st) Q B := by
  cases o with
  | none => exact h.elim
  | some a => exact ⟨a, rfl, h⟩
theorem boolV_bind {K : PySem.W.Frag} {M : Nms} {β : Type} {rel : Mu → Hp → α → β → Prop} {x : KG.X} {k : Bool → Store → R α} {Q : β → Hp → Prop} {B : EW} (h : Post K M G rel μ H ((boolV x st).bind k) Q B) : ∃ d, x = .v (.bool d) ∧ Post K M G rel μ H (k d st) Q B := by
  unfold boolV at h
  split at h
  · exact ⟨_, rfl, h⟩
  · exact h.elim

/-! ### constants, names -/
theorem e_cst_none {j : Nat} : PE X (.Constant .none j pos) (tE X.K T W fun _ st => .ok (.v .none) st) :=
  pe_non.weak fun σ H Q ⟨G, μ, env, st, S, E, P⟩ => P.flat S (VR.none_i.mpr rfl)
theorem e_cst_bool {d : Bool} {j : Nat} : PE X (.Constant (.bool d) j pos) (tE X.K T W fun _ st => .ok (.v (.bool d)) st) :=
  pe_bl.weak fun σ H Q ⟨G, μ, env, st, S, E, P⟩ => P.flat S (VR.bool_i.mpr rfl)
theorem e_cst_int {d : Int} {j : Nat} : PE X (.Constant (.int d) j pos) (tE X.K T W fun _ st => .ok (.v (.int d)) st) :=
  pe_int.weak fun σ H Q ⟨G, μ, env, st, S, E, P⟩ => P.flat S (VR.int_i.mpr rfl)
theorem e_cst_str {x : Str} {d : Tx} {j : Nat} (hx : x = ⟨d.toArray⟩) (hc : ∀ c ∈ d, c < 1114112) : PE X (.Constant (.str x) j pos) (tE X.K T W fun _ st => .ok (.v (.str d)) st) :=
  pe_str.weak fun σ H Q ⟨G, μ, env, st, S, E, P⟩ => P.flat S (VR.str_i.mpr ⟨by rw [hx], hc⟩)
theorem e_var {i : Nat} {x : Str} (hN : X.N[i]? = some x) (hv : Vis X.env.scope x) (hd : (x == ("__debug__" : Str)) = false) (hcd : (x == ("__classdict__" : Str)) = false) : PE X (.Name x pos) (tE X.K T W fun env st => optR (env[i]?.join) st) :=
  (pe_var hN hv hd hcd).weak fun σ H Q ⟨G, μ, env, st, S, E, P⟩ => by
    obtain ⟨a, e, P⟩ := optR_some P
    cases e1 : env[i]? with
    | none => rw [e1] at e; cases e
    | some o =>
      rw [e1] at e
      have e : o = some a := e
      subst e
      obtain ⟨y, h1, h2⟩ := E.2 i a e1
      exact ⟨y, h1, P.here S h2⟩
theorem e_glob {x : Str} {v : V} {u : Value} {o : KG.X} (hg : Gl X x) (hm : X.mg x = some u) (r : RelV v u) (hr : ∀ G μ H, XR X.K T.nms G μ H o v) (hd : (x == ("__debug__" : Str)) = false) : PE X (.Name x pos) (tE X.K T W fun _ st => .ok o st) :=
  (pe_glob hg hm r hd).weak fun σ H Q ⟨G, μ, env, st, S, E, P⟩ => P.here S (hr G μ H)
/-! ### operators -/
theorem e_bin {op : BOp} {m : Bool} (ha : PE X a (tE X.K T W f)) (hb : PE X b (tE X.K T W g)) :
    PE X (.BinOp a (bop op) b pos) (tE X.K T W fun env st => (f env st).bind fun x st => (g env st).bind fun y st => binV m op x y st) :=
  ⟨fun pins s σ H Q I ⟨G, μ, env, st, S, E, P⟩ => (pe_op (bin_ok (M := T.nms) (B := bW T G W σ) (m := m)) ha hb).run pins s σ H Q I
    (tE.fst S E P fun x a st1 μ1 H1 S1 E1 X1 r1 P1 => tE.fst S1 E1 P1 fun y b st2 μ2 H2 S2 E2 X2 r2 P2 => ⟨G, μ2, st2, a, b, S2, r1.ext X2, r2, P2⟩)⟩
theorem e_neg (ha : PE X a (tE X.K T W f)) : PE X (.UnaryOp .USub a pos) (tE X.K T W fun env st => (f env st).bind negV) :=
  (pe_un un_neg ha).weak fun σ H Q ⟨G, μ, env, st, S, E, P⟩ => tE.fst S E P fun x a st1 μ1 H1 S1 E1 X1 r1 P1 => by
    unfold negV at P1
    split at P1
    · cases VR.int_i.mp r1
      exact ⟨_, rfl, P1.flat S1 (VR.int_i.mpr rfl)⟩
    · exact P1.elim
theorem boolR_some {K : PySem.W.Frag} {M : Nms} {o : Option Bool} {Q : VK} {B : EW} (S : SR K M G μ H st) (h : Post K M G (relX K M G) μ H (boolR o st) Q B) : ∃ a, o = some a ∧ Q (.bl a) H := by
  cases o with
  | none => exact h.elim
  | some a => exact ⟨a, rfl, h.flat S (VR.bool_i.mpr rfl)⟩
theorem e_cmp {op : COp} {o : CmpOp} (ho : OpR X (compareOp o) (rCmp X.K T.nms (cmpV op))) (ha : PE X a (tE X.K T W f)) (hb : PE X b (tE X.K T W g)) (hm : behindInMarks o b = false) :
    PE X (.Compare a [o] [b] pos) (tE X.K T W fun env st => (f env st).bind fun x st => (g env st).bind fun y st => boolR (cmpV op x y st) st) :=
  (pe_cmpR ho ha hb hm).weak fun σ H Q ⟨G, μ, env, st, S, E, P⟩ => tE.fst S E P fun x a st1 μ1 H1 S1 E1 X1 r1 P1 => tE.fst S1 E1 P1 fun y b st2 μ2 H2 S2 E2 X2 r2 P2 => by
    obtain ⟨k, e, q⟩ := boolR_some S2 P2
    exact ⟨G, μ2, st2, a, b, k, S2, r1.ext X2, r2, e, q⟩
theorem t_cmp {op : COp} {o : CmpOp} (ho : OpR X (compareOp o) (rCmp X.K T.nms (cmpV op))) (ha : PE X a (tE X.K T W f)) (hb : PE X b (tE X.K T W g)) (hm : behindInMarks o b = false) :
    PT X (.Compare a [o] [b] pos) (tT X.K T W fun env st => (f env st).bind fun x st => (g env st).bind fun y st => optR (cmpV op x y st) st) :=
  (pt_cmpR ho ha hb hm).weak fun σ H Q ⟨G, μ, env, st, S, E, P⟩ => tE.fst S E P fun x a st1 μ1 H1 S1 E1 X1 r1 P1 => tE.fst S1 E1 P1 fun y b st2 μ2 H2 S2 E2 X2 r2 P2 => by
    obtain ⟨k, e, P3⟩ := optR_some P2
    exact ⟨G, μ2, st2, a, b, k, S2, r1.ext X2, r2, e, k, rfl, P3.here S2 rfl⟩
/-- is None -/
theorem e_isN {j : Nat} {p2 : Pos} (ha : PE X a (tE X.K T W f)) :
    PE X (.Compare a [.Is] [.Constant .none j p2] pos) (tE X.K T W fun env st => (f env st).bind fun x st => (R.ok (KG.X.v Val.none) st).bind fun y st => boolR (isNon x st) st) :=
  (pe_cmp (pc_isN ha) rfl).weak fun σ H Q ⟨G, μ, env, st, S, E, P⟩ => tE.fst S E P fun x a st1 μ1 H1 S1 E1 X1 r1 P1 => by
    obtain ⟨k, e, q⟩ := boolR_some S1 P1
    show Q (.bl (decide (x = .non))) H1
    rw [isNon_ok S1 r1 e]
    exact q
theorem e_notN {j : Nat} {p2 : Pos} (ha : PE X a (tE X.K T W f)) :
    PE X (.Compare a [.IsNot] [.Constant .none j p2] pos) (tE X.K T W fun env st => (f env st).bind fun x st => (R.ok (KG.X.v Val.none) st).bind fun y st => boolR ((isNon x st).map (!·)) st) :=
  (pe_cmp (pc_notN ha) rfl).weak fun σ H Q ⟨G, μ, env, st, S, E, P⟩ => tE.fst S E P fun x a st1 μ1 H1 S1 E1 X1 r1 P1 => by
    obtain ⟨k, e, q⟩ := boolR_some S1 P1
    show Q (.bl (!decide (x = .non))) H1
    cases e1 : isNon a st1 with
    | none => rw [e1] at e; cases e
    | some k1 => rw [e1] at e; cases e; rw [isNon_ok S1 r1 e1]; exact q
theorem t_isN {j : Nat} {p2 : Pos} (ha : PE X a (tE X.K T W f)) :
    PT X (.Compare a [.Is] [.Constant .none j p2] pos) (tT X.K T W fun env st => (f env st).bind fun x st => (R.ok (KG.X.v Val.none) st).bind fun y st => optR (isNon x st) st) :=
  (pt_cmp (pc_isN ha) rfl).weak fun σ H Q ⟨G, μ, env, st, S, E, P⟩ => tE.fst S E P fun x a st1 μ1 H1 S1 E1 X1 r1 P1 => by
    obtain ⟨k, e, P2⟩ := optR_some (show Post X.K T.nms G relB μ1 H1 (optR (isNon a st1) st1) Q (bW T G W σ) from P1)
    refine ⟨_, rfl, ?_⟩
    rw [isNon_ok S1 r1 e]
    exact P2.here S1 rfl
theorem t_notN {j : Nat} {p2 : Pos} (ha : PE X a (tE X.K T W f)) :
    PT X (.Compare a [.IsNot] [.Constant .none j p2] pos) (tT X.K T W fun env st => (f env st).bind fun x st => (R.ok (KG.X.v Val.none) st).bind fun y st => optR ((isNon x st).map (!·)) st) :=
  (pt_cmp (pc_notN ha) rfl).weak fun σ H Q ⟨G, μ, env, st, S, E, P⟩ => tE.fst S E P fun x a st1 μ1 H1 S1 E1 X1 r1 P1 => by
    obtain ⟨k, e, P2⟩ := optR_some (show Post X.K T.nms G relB μ1 H1 (optR ((isNon a st1).map (!·)) st1) Q (bW T G W σ) from P1)
    refine ⟨_, rfl, ?_⟩
    cases e1 : isNon a st1 with
    | none => rw [e1] at e; cases e
    | some k1 => rw [e1] at e; cases e; rw [isNon_ok S1 r1 e1]; exact P2.here S1 rfl
theorem e_chain {o p : COp} {oo pp : CmpOp} (ho : OpR X (compareOp oo) (rCmp X.K T.nms (cmpV o))) (hp : OpR X (compareOp pp) (rCmp X.K T.nms (cmpV p))) (ha : PE X a (tE X.K T W f)) (hb : PE X b (tE X.K T W g)) (hc : PE X c (tE X.K T W h)) (hm : lastMarks [oo, pp] [b, c] = false) :
    PE X (.Compare a [oo, pp] [b, c] pos) (tE X.K T W fun env st => (f env st).bind fun x st => (g env st).bind fun y st => (optR (cmpV o x y st) st).bind fun k st =>
      if k then (h env st).bind fun z st => boolR (cmpV p y z st) st else .ok (.v (.bool false)) st) :=
  (pe_chain ho hp ha hb hc hm).weak fun σ H Q ⟨G, μ, env, st, S, E, P⟩ => tE.fst S E P fun x a st1 μ1 H1 S1 E1 X1 r1 P1 => tE.fst S1 E1 P1 fun y b st2 μ2 H2 S2 E2 X2 r2 P2 => by
    obtain ⟨k, e, P3⟩ := optR_bind P2
    refine ⟨G, μ2, st2, a, b, k, S2, r1.ext X2, r2, e, k, rfl, ?_⟩
    cases k with
    | false => exact (show Post X.K T.nms G (relX X.K T.nms G) μ2 H2 (.ok (.v (.bool false)) st2) Q _ from P3).flat S2 (VR.bool_i.mpr rfl)
    | true =>
      refine tE.fst S2 E2 (show Post X.K T.nms G (relX X.K T.nms G) μ2 H2 ((h env st2).bind fun z st => boolR (cmpV p b z st) st) Q _ from P3) fun z d st3 μ3 H3 S3 E3 X3 r3 P4 => ?_
      obtain ⟨k, e, q⟩ := boolR_some S3 P4
      exact ⟨G, μ3, st3, b, d, k, S3, r2.ext X3, r3, e, q⟩
theorem t_chain {o p : COp} {oo pp : CmpOp} (ho : OpR X (compareOp oo) (rCmp X.K T.nms (cmpV o))) (hp : OpR X (compareOp pp) (rCmp X.K T.nms (cmpV p))) (ha : PE X a (tE X.K T W f)) (hb : PE X b (tE X.K T W g)) (hc : PE X c (tE X.K T W h)) (hm : lastMarks [oo, pp] [b, c] = false) :
    PT X (.Compare a [oo, pp] [b, c] pos) (tT X.K T W fun env st => (f env st).bind fun x st => (g env st).bind fun y st => (optR (cmpV o x y st) st).bind fun k st =>
      if k then (h env st).bind fun z st => optR (cmpV p y z st) st else .ok false st) :=
  (pt_chain ho hp ha hb hc hm).weak fun σ H Q ⟨G, μ, env, st, S, E, P⟩ => tE.fst S E P fun x a st1 μ1 H1 S1 E1 X1 r1 P1 => tE.fst S1 E1 P1 fun y b st2 μ2 H2 S2 E2 X2 r2 P2 => by
    obtain ⟨k, e, P3⟩ := optR_bind P2
    refine ⟨G, μ2, st2, a, b, k, S2, r1.ext X2, r2, e, k, rfl, ?_⟩
    cases k with
    | false => exact ⟨false, rfl, (show Post X.K T.nms G relB μ2 H2 (.ok false st2) Q _ from P3).here S2 rfl⟩
    | true =>
      refine tE.fst S2 E2 (show Post X.K T.nms G relB μ2 H2 ((h env st2).bind fun z st => optR (cmpV p b z st) st) Q _ from P3) fun z d st3 μ3 H3 S3 E3 X3 r3 P4 => ?_
      obtain ⟨k, e, P5⟩ := optR_some P4
      exact ⟨G, μ3, st3, b, d, k, S3, r2.ext X3, r3, e, k, rfl, P5.here S3 rfl⟩
/-! ### and, or, not -/
variable {rest : List Expr}
theorem e_and (ha : PE X a (tE X.K T W f)) (hb : PE X (.BoolOp .And (b :: rest) pos) (tE X.K T W g)) :
    PE X (.BoolOp .And (a :: b :: rest) pos) (tE X.K T W fun env st => (f env st).bind fun x st => (boolV x st).bind fun k st => if k then g env st else .ok (.v (.bool false)) st) :=
  (pe_and ha hb).weak fun σ H Q ⟨G, μ, env, st, S, E, P⟩ => tE.fst S E P fun x a st1 μ1 H1 S1 E1 X1 r1 P1 => by
    obtain ⟨k, e, P2⟩ := boolV_bind P1
    subst e
    cases VR.bool_i.mp r1
    refine ⟨k, rfl, ?_⟩
    cases k with
    | true => exact ⟨G, μ1, env, st1, S1, E1, P2⟩
    | false => exact (show Post X.K T.nms G (relX X.K T.nms G) μ1 H1 (.ok (.v (.bool false)) st1) Q _ from P2).flat S1 (VR.bool_i.mpr rfl)
theorem e_or (ha : PE X a (tE X.K T W f)) (hb : PE X (.BoolOp .Or (b :: rest) pos) (tE X.K T W g)) :
    PE X (.BoolOp .Or (a :: b :: rest) pos) (tE X.K T W fun env st => (f env st).bind fun x st => (boolV x st).bind fun k st => if k then .ok (.v (.bool true)) st else g env st) :=
  (pe_or ha hb).weak fun σ H Q ⟨G, μ, env, st, S, E, P⟩ => tE.fst S E P fun x a st1 μ1 H1 S1 E1 X1 r1 P1 => by
    obtain ⟨k, e, P2⟩ := boolV_bind P1
    subst e
    cases VR.bool_i.mp r1
    refine ⟨k, rfl, ?_⟩
    cases k with
    | false => exact ⟨G, μ1, env, st1, S1, E1, P2⟩
    | true => exact (show Post X.K T.nms G (relX X.K T.nms G) μ1 H1 (.ok (.v (.bool true)) st1) Q _ from P2).flat S1 (VR.bool_i.mpr rfl)
theorem e_not (ha : PE X a (tE X.K T W f)) : PE X (.UnaryOp .Not a pos) (tE X.K T W fun env st => (f env st).bind fun x st => (boolV x st).bind fun k st => .ok (.v (.bool (!k))) st) :=
  (pe_not ha).weak fun σ H Q ⟨G, μ, env, st, S, E, P⟩ => tE.fst S E P fun x a st1 μ1 H1 S1 E1 X1 r1 P1 => by
    obtain ⟨k, e, P2⟩ := boolV_bind P1
    subst e
    cases VR.bool_i.mp r1
    exact ⟨k, rfl, P2.flat S1 (VR.bool_i.mpr rfl)⟩
variable {t u : KG.Env → Store → R Bool}
theorem w_and (ha : PT X a (tT X.K T W t)) (hb : PW X (.BoolOp .And (b :: rest) pos) (tT X.K T W u)) : PW X (.BoolOp .And (a :: b :: rest) pos) (tT X.K T W fun env st => (t env st).bind fun k st => if k then u env st else .ok false st) :=
  (pw_and ha hb).weak fun σ H Q ⟨G, μ, env, st, S, E, P⟩ => tT.fst S E P fun k st1 μ1 H1 S1 E1 X1 P1 => by
    cases k with
    | true => exact ⟨G, μ1, env, st1, S1, E1, P1⟩
    | false => exact (show Post X.K T.nms G relB μ1 H1 (.ok false st1) Q _ from P1).here S1 rfl
theorem w_or (ha : PT X a (tT X.K T W t)) (hb : PW X (.BoolOp .Or (b :: rest) pos) (tT X.K T W u)) : PW X (.BoolOp .Or (a :: b :: rest) pos) (tT X.K T W fun env st => (t env st).bind fun k st => if k then .ok true st else u env st) :=
  (pw_or ha hb).weak fun σ H Q ⟨G, μ, env, st, S, E, P⟩ => tT.fst S E P fun k st1 μ1 H1 S1 E1 X1 P1 => by
    cases k with
    | false => exact ⟨G, μ1, env, st1, S1, E1, P1⟩
    | true => exact (show Post X.K T.nms G relB μ1 H1 (.ok true st1) Q _ from P1).here S1 rfl
theorem t_not (ha : PT X a (tT X.K T W t)) : PT X (.UnaryOp .Not a pos) (tT X.K T W fun env st => (t env st).bind fun k st => .ok (!k) st) :=
  (pt_not ha).weak fun σ H Q ⟨G, μ, env, st, S, E, P⟩ => tT.fst S E P fun k st1 μ1 H1 S1 E1 X1 P1 => P1.here S1 rfl
theorem e_ite (hc : PT X c (tT X.K T W t)) (ha : PE X a (tE X.K T W f)) (hb : PE X b (tE X.K T W g)) : PE X (.IfExp c a b pos) (tE X.K T W fun env st => (t env st).bind fun k st => if k then f env st else g env st) :=
  (pe_ifExp hc ha hb).weak fun σ H Q ⟨G, μ, env, st, S, E, P⟩ => tT.fst S E P fun k st1 μ1 H1 S1 E1 X1 P1 => by
    cases k with
    | true => exact ⟨G, μ1, env, st1, S1, E1, P1⟩
    | false => exact ⟨G, μ1, env, st1, S1, E1, P1⟩
theorem bne_cast (n : Nat) : (n != 0) = ((n : Int) != 0) := by
  cases n with
  | zero => rfl
  | succ n => simp; omega
theorem truth_ok {K : PySem.W.Frag} {M : Nms} {x : KG.X} {y : V} {k : Bool} (S : SR K M G μ H st) (r : XR K M G μ H x y) (h : truth x st = some k) : TruV K y H k := by
  have seq : (match asList x st with
      | some xs => some (!xs.isEmpty)
      | none => none) = some k → TruV K y H k := fun h => by
    cases e : asList x st with
    | none => rw [e] at h; cases h
    | some xs =>
      rw [e] at h
      cases h
      obtain ⟨a, ys, rfl, t, p⟩ := asList_ok S r e
      refine .inl ⟨ys, .inl t, ?_⟩
      cases p <;> rfl
  unfold truth at h
  split at h
  · cases VR.none_i.mp r; cases h; rfl
  · cases VR.bool_i.mp r; cases h; rfl
  · cases VR.int_i.mp r; cases h; rfl
  · obtain ⟨rfl, hc⟩ := VR.str_i.mp r
    split at h
    · rename_i hl
      cases h
      refine ⟨by rw [← LIM_eq]; simpa [Str.length] using hl, ?_⟩
      simp only [Str.length, List.size_toArray]
      exact bne_cast _
    · cases h
  · obtain ⟨a, ys, rfl, t, p⟩ := VR.tup_i.mp r
    cases h
    refine .inr (.inl ⟨ys, t.sq, ?_⟩)
    cases p <;> rfl
  · exact seq h
theorem t_tru (ha : PE X a (tE X.K T W f)) (he : ∀ whole, isTrue a X.env whole = (do let v ← whole; standAt a.pos; holding [v] (truthy v))) : PT X a (tT X.K T W fun env st => (f env st).bind fun x st => optR (truth x st) st) :=
  (pt_truth ha he).weak fun σ H Q ⟨G, μ, env, st, S, E, P⟩ => tE.fst S E P fun x a st1 μ1 H1 S1 E1 X1 r1 P1 => by
    obtain ⟨k, e, P2⟩ := optR_some P1
    exact ⟨k, truth_ok S1 r1 e, P2.here S1 rfl⟩
end
end KG

set_option linter.all false
set_option maxRecDepth 100000
set_option maxHeartbeats 4000000
/-! K1h: displays, subscripts, built-ins, attributes, calls. -/
namespace KG
open PySem PySem.Spec PyProof.Rows L2

/-! ### what the text is asked -/
def notStar : Expr → Bool
  | .Starred _ _ => false
  | _ => true
theorem star_ok {e : Expr} {es : List Expr} {env : PySem.Env} (h : notStar e = true) : starEach (e :: es) env = (false, eval e env) :: starEach es env := by
  cases e <;> first | rfl | cases h
theorem stars_ok {env : PySem.Env} : ∀ {es : List Expr}, es.all notStar = true → (starEach es env).any (·.1) = false
  | [], _ => rfl
  | e :: es, h => by
    simp only [List.all_cons, Bool.and_eq_true] at h
    rw [star_ok h.1, List.any_cons]
    exact stars_ok h.2
theorem back_ok {env : PySem.Env} {pos : Pos} {es : List Expr} (h : es.all notStar = true) : (backTo pos (starEach es env)).any (·.1) = false := by
  unfold backTo
  rw [List.any_map]
  exact stars_ok h
theorem back_all {env : PySem.Env} {pos : Pos} {es : List Expr} (h : es.all notStar = true) : (backTo pos (starEach es env)).all (fun x => !x.1) = true := by
  have q := back_ok (env := env) (pos := pos) h
  rw [List.any_eq_false] at q
  rw [List.all_eq_true]
  intro x hx
  have := q x hx
  simpa using this
/-- no super() -/
def notSuper : Expr → Bool
  | .Call (.Name _ _) [] [] _ => false
  | _ => true
theorem base_ok {e : Expr} {f : Str} {env : PySem.Env} (h : notSuper e = true) : attributeBase e f env (eval e env) = eval e env := by
  unfold attributeBase
  split
  · cases h
  · rfl
def notSlice : Expr → Bool
  | .Slice _ _ _ _ => false
  | _ => true
theorem ix_plain {b : Expr} (h : notSlice b = true) : PlainIx b := fun o i => by
  cases b <;> first | rfl | cases h
def notBE : Expr → Bool
  | .UnaryOp .Not _ _ => false
  | .BoolOp _ _ _ => false
  | .IfExp _ _ _ _ => false
  | .Compare _ _ _ _ => false
  | _ => true
theorem tru_ok' {e : Expr} {env : PySem.Env} (h : notBE e = true) : ∀ whole, isTrue e env whole = (do let v ← whole; standAt e.pos; holding [v] (truthy v)) := fun whole => by
  cases e with
  | UnaryOp op x p => cases op <;> first | rfl | cases h
  | _ => first | rfl | cases h
def notSet : Expr → Bool
  | .Set _ _ _ => false
  | _ => true
theorem set_ok {e : Expr} {env : PySem.Env} (h : notSet e = true) : ∀ x, foldedSetIterable e env x = pure x := fun x => by
  cases e <;> first | rfl | cases h
theorem beh_ok {e : Expr} {o : CmpOp} (h : notSet e = true) : behindInMarks o e = false := by
  cases e <;> first | rfl | cases h
theorem last_ok {b c : Expr} {o p : CmpOp} (h : notSet c = true) : lastMarks [o, p] [b, c] = false := by
  show behindInMarks p c = false
  exact beh_ok h

section
variable {X : Cx} {T : Tab} {W : WX} {a b c e : Expr} {es : List Expr} {pos apos : Pos} {f g h : KG.Env → Store → R KG.X} {fs : KG.Env → Store → R (List KG.X)}
/-! ### argument lists, displays -/
theorem a_nil : PA X [] (tA X.K T W fun _ st => .ok [] st) := pa_nil.weak fun σ H Q ⟨G, μ, env, st, S, E, P⟩ => P.here S .nil
theorem a_cons (ha : PE X e (tE X.K T W f)) (hr : PA X es (tA X.K T W fs)) (hs : notStar e = true) :
    PA X (e :: es) (tA X.K T W fun env st => (f env st).bind fun x st => (fs env st).bind fun xs st => .ok (x :: xs) st) :=
  (pa_cons ha hr (star_ok hs)).weak fun σ H Q ⟨G, μ, env, st, S, E, P⟩ => tE.fst S E P fun x a st1 μ1 H1 S1 E1 X1 r1 P1 => tA.fst S1 E1 P1 fun xs as st2 μ2 H2 S2 E2 X2 r2 P2 =>
    P2.here S2 (.cons (r1.ext X2) r2)
theorem toVals_ok {K : PySem.W.Frag} {M : Nms} {G : Addr → Prop} {μ : Mu} {H : Hp} : ∀ {xs : List KG.X} {ys : List V} {vs : List Val}, Paired (XR K M G μ H) xs ys → toVals xs = some vs → Paired (VR M (Fz G μ) H) vs ys ∧ xs = vs.map KG.X.v
  | [], _, _, .nil, h => by cases h; exact ⟨.nil, rfl⟩
  | .v a :: r, _, vs, .cons p t, h => by
    have h1 : (toVals r).map (a :: ·) = some vs := h
    cases e : toVals r with
    | none => rw [e] at h1; cases h1
    | some ws => rw [e] at h1; cases h1; obtain ⟨q1, q2⟩ := toVals_ok t e; exact ⟨.cons p q1, by rw [q2]; rfl⟩
  | .r _ :: _, _, _, _, h => nomatch h
  | .k _ :: _, _, _, _, h => nomatch h
theorem toRefs_ok {K : PySem.W.Frag} {M : Nms} {G : Addr → Prop} {μ : Mu} {H : Hp} : ∀ {xs : List KG.X} {ys : List V} {ns : List Nat}, Paired (XR K M G μ H) xs ys → toRefs xs = some ns → Paired (fun n y => XR K M G μ H (.r n) y) ns ys
  | [], _, _, .nil, h => by cases h; exact .nil
  | .r a :: r, _, vs, .cons p t, h => by
    have h1 : (toRefs r).map (a :: ·) = some vs := h
    cases e : toRefs r with
    | none => rw [e] at h1; cases h1
    | some ws => rw [e] at h1; cases h1; exact .cons p (toRefs_ok t e)
  | .v _ :: _, _, _, _, h => nomatch h
  | .k _ :: _, _, _, _, h => nomatch h
theorem e_tup {k : Nat} (ha : PA X es (tA X.K T W fs)) : PE X (.Tuple es k pos) (tE X.K T W fun env st => (fs env st).bind tupV) :=
  (pe_tup ha).weak fun σ H Q ⟨G, μ, env, st, S, E, P⟩ => tA.fst S E P fun xs as st1 μ1 H1 S1 E1 X1 r1 P1 => by
    unfold tupV at P1
    split at P1
    · rename_i vs e
      split at P1
      · rename_i hl
        obtain ⟨q, _⟩ := toVals_ok r1 e
        exact ⟨by rw [← plen q, ← LIM_eq]; exact hl, newT_ok S1 q P1⟩
      · exact P1.elim
    · exact P1.elim
theorem e_lst {m : Bool} (ha : PA X es (tA X.K T W fs)) : PE X (.List es pos) (tE X.K T W fun env st => (fs env st).bind (lstV m)) :=
  (pe_lst ha).weak fun σ H Q ⟨G, μ, env, st, S, E, P⟩ => tA.fst S E P fun xs as st1 μ1 H1 S1 E1 X1 r1 P1 => by
    unfold lstV at P1
    split at P1
    · rename_i vs e
      obtain ⟨q, _⟩ := toVals_ok r1 e
      exact newL_ok S1 q P1
    · cases m with
      | false => exact P1.elim
      | true =>
        cases e : toRefs as with
        | none => rw [e] at P1; exact P1.elim
        | some ns =>
          rw [e] at P1
          simp only at P1
          split at P1
          · rename_i hl
            have q := toRefs_ok r1 e
            refine ⟨by rw [← plen q, ← LIM_eq]; exact hl, fun p hp => ?_⟩
            have g := grow_upd (o := .lst xs) hp
            have E2 : Ext μ1 H1 (μ1 ++ [some p]) (upd H1 p (.lst xs)) := Ext.alloc g hp
            exact P1.at E2 (S1.alloc g hp ⟨xs, upd_same, pmono (fun _ _ z => z.ext E2) q⟩) (XR.new S1.len.symm)
          · exact P1.elim
/-! ### subscripts -/
theorem e_ix (hu : X.A.units + 1 < cLine) (ha : PE X a (tE X.K T W f)) (hb : PE X b (tE X.K T W g)) (hs : notSlice b = true) :
    PE X (.Subscript a b pos) (tE X.K T W fun env st => (f env st).bind fun x st => (g env st).bind fun y st => optR ((ixV x y st).map .v) st) :=
  (pe_ix (ix_ok (M := T.nms) hu) ha hb (ix_plain hs)).weak fun σ H Q ⟨G, μ, env, st, S, E, P⟩ => tE.fst S E P fun x a st1 μ1 H1 S1 E1 X1 r1 P1 => tE.fst S1 E1 P1 fun y b st2 μ2 H2 S2 E2 X2 r2 P2 => by
    obtain ⟨w, e, P3⟩ := optR_some P2
    cases e1 : ixV a b st2 with
    | none => rw [e1] at e; cases e
    | some v => rw [e1] at e; cases e; exact ⟨G, μ2, st2, a, b, v, S2, r1.ext X2, r2, e1, fun z hz => P3.flat S2 hz⟩
theorem o_none : PO X none (tO X.K T W fun _ st => .ok none st) := po_none.weak fun σ H Q ⟨G, μ, env, st, S, E, P⟩ => P.here S rfl
theorem o_some (ha : PE X e (tE X.K T W f)) : PO X (some e) (tO X.K T W fun env st => (f env st).bind fun x st => (match x with
    | .v (.int i) => .ok (some i) st
    | _ => .bad)) :=
  (po_some ha).weak fun σ H Q ⟨G, μ, env, st, S, E, P⟩ => tE.fst S E P fun x a st1 μ1 H1 S1 E1 X1 r1 P1 => by
    split at P1
    · cases VR.int_i.mp r1
      exact ⟨_, rfl, P1.here S1 rfl⟩
    · exact P1.elim
theorem e_sl {m : Bool} {lo hi : Option Expr} {l u : KG.Env → Store → R (Option Int)} {p2 : Pos} (ha : PE X a (tE X.K T W f)) (hl : PO X lo (tO X.K T W l)) (hh : PO X hi (tO X.K T W u)) :
    PE X (.Subscript a (.Slice lo hi none p2) pos) (tE X.K T W fun env st => (f env st).bind fun x st => (l env st).bind fun l st => (u env st).bind fun h st => slI m x l h st) :=
  ⟨fun pins s σ H Q I ⟨G, μ, env, st, S, E, P⟩ => (pe_slice (sl_ok (M := T.nms) (B := bW T G W σ) (m := m)) ha hl hh).run pins s σ H Q I
    (tE.fst S E P fun x a st1 μ1 H1 S1 E1 X1 r1 P1 => tO.fst S1 E1 P1 fun lo st2 μ2 H2 S2 E2 X2 P2 => tO.fst S2 E2 P2 fun hi st3 μ3 H3 S3 E3 X3 P3 =>
      ⟨G, μ3, st3, a, S3, (r1.ext X2).ext X3, P3⟩)⟩
/-! ### built-ins -/
theorem e_fnB {x : Str} {id : String} {p : Pos} {k : List KG.X → Store → R KG.X} (hc : ∀ B, CallR X (.builtin id) (rFn X.K T.nms B k)) (hg : Gl X x) (hm : X.mg x = none) (hv : bootBuiltins x = some (.builtin id)) (ha : PA X (e :: es) (tA X.K T W fs))
    (hs : (e :: es).all notStar = true) (hn : x ≠ "__name__") (hdb : (x == ("__debug__" : Str)) = false) : PE X (.Call (.Name x p) (e :: es) [] pos) (tE X.K T W fun env st => (fs env st).bind k) :=
  ⟨fun pins s σ H Q I ⟨G, μ, env, st, S, E, P⟩ => by
    simp only [List.all_cons, Bool.and_eq_true] at hs
    exact (pe_callB (hc (bW T G W σ)) hg hm hv ha hn hdb (star_ok hs.1) (back_ok hs.2)).run pins s σ H Q I
      (tA.fst S E P fun xs as st1 μ1 H1 S1 E1 X1 r1 P1 => ⟨G, μ1, st1, as, S1, r1, P1⟩)⟩
theorem e_fnT {x : Str} {id : String} {p : Pos} {k : List KG.X → Store → R KG.X} (hc : ∀ B, CallR X (.type id) (rFn X.K T.nms B k)) (hg : Gl X x) (hm : X.mg x = none) (hv : bootBuiltins x = some (.type id)) (ha : PA X (e :: es) (tA X.K T W fs))
    (hs : (e :: es).all notStar = true) (hn : x ≠ "__name__") (hdb : (x == ("__debug__" : Str)) = false) : PE X (.Call (.Name x p) (e :: es) [] pos) (tE X.K T W fun env st => (fs env st).bind k) :=
  ⟨fun pins s σ H Q I ⟨G, μ, env, st, S, E, P⟩ => by
    simp only [List.all_cons, Bool.and_eq_true] at hs
    exact (pe_callTy (hc (bW T G W σ)) hg hm hv ha hn hdb (star_ok hs.1) (back_ok hs.2)).run pins s σ H Q I
      (tA.fst S E P fun xs as st1 μ1 H1 S1 E1 X1 r1 P1 => ⟨G, μ1, st1, as, S1, r1, P1⟩)⟩
theorem few_ok {env : PySem.Env} {pos : Pos} {es : List Expr} (hs : es.all notStar = true) (hl : decide (es.length < 30) = true) :
    ((backTo pos (starEach es env)).all (fun x => !x.1) && (backToKw pos (keywordEach [] env)).all (fun x => x.1.isSome)
      && decide (es.length + ([] : List Keyword).length + (if ([] : List Keyword).isEmpty then 0 else 1) < 30)) = true := by
  rw [back_all hs]
  simpa [backToKw, keywordEach] using hl
/-- a method of a built-in type -/
theorem e_bm {T0 id : String} {name : Str} {cpos : Pos} {ty : KG.X → Store → Bool} {k : KG.X → List KG.X → Store → R KG.X} (pa : PlainAttrs T0) (slot : Slot T0 name id) (hty : typeOf (.builtin id) = pure (.type "method_descriptor")) (hm : ∀ B, MtR X id (rMt X.K T.nms B k))
    (htt : ∀ G μ H st x y, SR X.K T.nms G μ H st → XR X.K T.nms G μ H x y → ty x st = true → tyV X.K T0 y H) (ho : PE X a (tE X.K T W f)) (ha : PA X (e :: es) (tA X.K T W fs)) (hb : notSuper a = true) (hs : (e :: es).all notStar = true)
    (hl : decide ((e :: es).length < 30) = true) (hline : (apos.endLine == cpos.line) = true) :
    PE X (.Call (.Attribute a name apos) (e :: es) [] cpos) (tE X.K T W fun env st => (f env st).bind fun x st => if ty x st then (fs env st).bind fun xs st => k x xs st else .bad) :=
  ⟨fun pins s σ H Q I ⟨G, μ, env, st, S, E, P⟩ => by
    have hs' := hs
    simp only [List.all_cons, Bool.and_eq_true] at hs'
    refine (pe_bm pa slot hty (hm (bW T G W σ)) ho ha (base_ok hb) (few_ok hs hl) hline (star_ok hs'.1) (back_ok hs'.2)).run pins s σ H Q I
      (tE.fst S E P fun x a st1 μ1 H1 S1 E1 X1 r1 P1 => ?_)
    cases h : ty a st1 with
    | false => rw [h] at P1; exact P1.elim
    | true =>
      rw [h] at P1
      exact ⟨htt _ _ _ _ _ _ S1 r1 h, tA.fst S1 E1 P1 fun xs as st2 μ2 H2 S2 E2 X2 r2 P2 => ⟨G, μ2, st2, a, as, S2, r1.ext X2, r2, P2⟩⟩⟩
theorem e_bm0 {T0 id : String} {name : Str} {cpos : Pos} {ty : KG.X → Store → Bool} {k : KG.X → List KG.X → Store → R KG.X} (pa : PlainAttrs T0) (slot : Slot T0 name id) (hty : typeOf (.builtin id) = pure (.type "method_descriptor")) (hm : ∀ B, MtR X id (rMt X.K T.nms B k))
    (htt : ∀ G μ H st x y, SR X.K T.nms G μ H st → XR X.K T.nms G μ H x y → ty x st = true → tyV X.K T0 y H) (ho : PE X a (tE X.K T W f)) (hb : notSuper a = true) (hline : (apos.endLine == cpos.line) = true) :
    PE X (.Call (.Attribute a name apos) [] [] cpos) (tE X.K T W fun env st => (f env st).bind fun x st => if ty x st then (R.ok [] st).bind fun xs st => k x xs st else .bad) :=
  ⟨fun pins s σ H Q I ⟨G, μ, env, st, S, E, P⟩ => by
    refine (pe_bm0 pa slot hty (hm (bW T G W σ)) ho (base_ok hb) hline).run pins s σ H Q I
      (tE.fst S E P fun x a st1 μ1 H1 S1 E1 X1 r1 P1 => ?_)
    cases h : ty a st1 with
    | false => rw [h] at P1; exact P1.elim
    | true =>
      rw [h] at P1
      exact ⟨htt _ _ _ _ _ _ S1 r1 h, G, μ1, st1, a, [], S1, r1, .nil, P1⟩⟩
theorem ty_index {K : PySem.W.Frag} {M : Nms} {G : Addr → Prop} {μ : Mu} {H : Hp} {st : Store} {x : KG.X} {y : V} (S : SR K M G μ H st) (r : XR K M G μ H x y) (h : bmTy .index x st = true) : tyV K "list" y H := by
  obtain ⟨xs, e⟩ := Option.isSome_iff_exists.mp (show (asList x st).isSome = true from h)
  obtain ⟨p, ys, rfl, t, _⟩ := asList_ok S r e
  exact .inl ⟨rfl, ys, .inl t⟩
theorem ty_list {K : PySem.W.Frag} {M : Nms} {G : Addr → Prop} {μ : Mu} {H : Hp} {st : Store} {x : KG.X} {y : V} {b : BM} (hb : b = .append ∨ b = .extend ∨ b = .pop) (S : SR K M G μ H st) (r : XR K M G μ H x y) (h : bmTy b x st = true) : tyV K "list" y H := by
  have seq : (asList x st).isSome = true → tyV K "list" y H := fun h => by
    obtain ⟨xs, e⟩ := Option.isSome_iff_exists.mp h
    obtain ⟨p, ys, rfl, t, _⟩ := asList_ok S r e
    exact .inl ⟨rfl, ys, .inl t⟩
  rcases hb with rfl | rfl | rfl
  · unfold bmTy at h
    simp only at h
    split at h
    · rename_i n
      split at h
      · rename_i xs e
        exact seq (by unfold asList; simp only [e]; rfl)
      · rename_i xs e
        obtain ⟨p, hp, zs, q, _⟩ := S.addr e (by simp)
        cases r.at hp
        exact .inl ⟨rfl, zs, .inl (.inl q)⟩
      · cases h
    · cases h
  · exact seq h
  · exact seq h
theorem ty_str {K : PySem.W.Frag} {M : Nms} {G : Addr → Prop} {μ : Mu} {H : Hp} {st : Store} {x : KG.X} {y : V} {b : BM} (hb : b = .join ∨ b = .split) (S : SR K M G μ H st) (r : XR K M G μ H x y) (h : bmTy b x st = true) : tyV K "str" y H := by
  rcases hb with rfl | rfl
  · unfold bmTy at h
    simp only at h
    split at h
    · obtain ⟨rfl, _⟩ := VR.str_i.mp r; rfl
    · cases h
  · unfold bmTy at h
    simp only at h
    split at h
    · obtain ⟨rfl, _⟩ := VR.str_i.mp r; rfl
    · cases h
/-- d.get(k, e) -/
theorem e_get2 {b c : Expr} {cpos : Pos} (hu : X.A.units + 1 < cLine) (ho : PE X a (tE X.K T W f)) (hb : PE X b (tE X.K T W g)) (hc : PE X c (tE X.K T W h)) (hsu : notSuper a = true) (hs : [b, c].all notStar = true) (hline : (apos.endLine == cpos.line) = true) :
    PE X (.Call (.Attribute a "get" apos) [b, c] [] cpos) (tE X.K T W fun env st => (f env st).bind fun x st => if (asDict x st).isSome then ((g env st).bind fun y st => ((h env st).bind fun z st => (R.ok [] st).bind fun xs st => .ok (z :: xs) st).bind fun xs st => .ok (y :: xs) st).bind fun xs st => get2F x xs st else .bad) := by
  have hs' := hs
  simp only [List.all_cons, Bool.and_eq_true] at hs'
  refine (pe_dget2 hu ho hb hc ⟨base_ok hsu, few_ok hs rfl, hline, ?_⟩).weak fun σ H Q ⟨G, μ, env, st, S, E, P⟩ => tE.fst S E P fun x a st1 μ1 H1 S1 E1 X1 r1 P1 => ?_
  · rw [star_ok hs'.1, star_ok hs'.2.1]; rfl
  cases hd : asDict a st1 with
  | none => rw [hd] at P1; exact P1.elim
  | some d =>
    obtain ⟨t, ks, vs⟩ := d
    rw [hd] at P1
    obtain ⟨p, rfl, hq⟩ := asDict_ok S1 r1 hd
    refine ⟨p, rfl, ?_, ?_⟩
    · rcases hq with ⟨kvs, _, t, _⟩ | ⟨kvs, _, t, _⟩
      · exact .inl ⟨kvs, t⟩
      · exact .inr ⟨kvs, t⟩
    · have P1 : Post X.K T.nms G (relX X.K T.nms G) μ1 H1 ((g env st1).bind fun y st => (h env st).bind fun z st => get2F a [y, z] st) Q (bW T G W σ) := by
        have e : (((g env st1).bind fun y st => ((h env st).bind fun z st => (R.ok [] st).bind fun xs st => .ok (z :: xs) st).bind fun xs st => .ok (y :: xs) st).bind fun xs st => get2F a xs st) = ((g env st1).bind fun y st => (h env st).bind fun z st => get2F a [y, z] st) := by
          cases g env st1 with
          | bad => rfl
          | exc => rfl
          | ok y st2 =>
            show (((h env st2).bind fun z st => (R.ok [] st).bind fun xs st => .ok (z :: xs) st).bind fun xs st => R.ok (y :: xs) st).bind (fun xs st => get2F a xs st) = (h env st2).bind fun z st => get2F a [y, z] st
            cases h env st2 <;> rfl
        rw [← e]
        exact P1
      refine tE.fst S1 E1 P1 fun y b st2 μ2 H2 S2 E2 X2 r2 P2 => tE.fst S2 E2 P2 fun z c st3 μ3 H3 S3 E3 X3 r3 P3 => ?_
      cases b with
      | v k =>
        cases c with
        | v d =>
          simp only [get2F] at P3
          split at P3
          · rename_i t' ks' vs' hd'
            split at P3
            · rename_i hf
              obtain ⟨q, o, e, gg, g1, g2⟩ := dictGet_ok S3 ((r1.ext X2).ext X3) hd' hf (show VR T.nms (Fz G μ3) H3 k y from r2.ext X3)
              cases e
              exact ⟨o, gg, P3.flat S3 (getD_ok g1 g2 r3)⟩
            · exact P3.elim
          · exact P3.elim
        | r n => exact P3.elim
        | k xs => exact P3.elim
      | r n => exact P3.elim
      | k xs => exact P3.elim
end
end KG

set_option linter.all false
set_option maxRecDepth 100000
set_option maxHeartbeats 4000000
/-! K1i: own cells that become values; attributes, calls, instances. -/
namespace KG
open PySem PySem.Spec PyProof.Rows L2

section
variable {K : PySem.W.Frag} {M : Nms} {G : Addr → Prop} {μ μ' : Mu} {H H' : Hp} {st : Store} {lo : Nat}
theorem Fz.cut {a : Addr} (f : Fz G μ a) : Fz G (μ.take lo) a := ⟨f.1, fun q => f.2 (List.mem_of_mem_take q)⟩
theorem VR.cut {v : Val} {x : V} (h : VR M (Fz G μ) H v x) : VR M (Fz G (μ.take lo)) H v x := h.weak fun _ => Fz.cut
theorem VR.cuts {vs : List Val} {xs : List V} (h : Paired (VR M (Fz G μ) H) vs xs) : Paired (VR M (Fz G (μ.take lo)) H) vs xs := pmono (fun _ _ => VR.cut) h
theorem mapO_ok {α β : Type} {f : α → Option β} {P : α → V → Prop} {R : β → V → Prop} (h : ∀ a b y, f a = some b → P a y → R b y) : ∀ {xs : List α} {zs : List β} {ys : List V}, mapO f xs = some zs → Paired P xs ys → Paired R zs ys
  | [], _, _, e, .nil => by cases e; exact .nil
  | x :: r, zs, _, e, .cons p t => by
    unfold mapO at e
    split at e
    · rename_i y ys e1 e2
      cases e
      exact .cons (h _ _ _ e1 p) (mapO_ok h e2 t)
    · cases e
/-- an own cell becomes a value -/
theorem frz_ok (S : SR K M G μ H st) : ∀ (k : Nat) (x : X) (v : Val) (y : V), XR K M G μ H x y → frz lo st k x = some v → VR M (Fz G (μ.take lo)) H v y := by
  intro k
  induction k with
  | zero =>
    intro x v y r h
    cases x with
    | v a => cases h; exact VR.cut (show VR M (Fz G μ) H _ y from r)
    | r n => cases h
    | k xs => cases h
  | succ k ih =>
    intro x v y r h
    cases x with
    | v a => cases h; exact VR.cut (show VR M (Fz G μ) H _ y from r)
    | k xs => cases h
    | r n =>
      unfold frz at h
      split at h
      · cases h
      · rename_i hlo
        have key : ∀ c, st[n]? = some c → c ≠ .dead → ∃ a, y = .ref a ∧ CR K M G μ H c a ∧ Fz G (μ.take lo) a := fun c e hc => by
          obtain ⟨a, ha, q⟩ := S.addr e hc
          refine ⟨a, r.at ha, q, S.apart a (List.mem_of_getElem? ha), fun hm => ?_⟩
          obtain ⟨i, hi⟩ := List.getElem?_of_mem hm
          rw [List.getElem?_take] at hi
          split at hi
          · rename_i hl
            have := S.nd i n a hi ha
            omega
          · cases hi
        split at h
        · rename_i xs e
          cases h
          obtain ⟨a, rfl, ⟨ys, q, p⟩, f⟩ := key _ e (by simp)
          exact VR.lst_i.mpr ⟨a, ys, rfl, ⟨.inl q, f⟩, VR.cuts p⟩
        · rename_i t ks vs e
          cases h
          obtain ⟨a, rfl, q, f⟩ := key _ e (by simp)
          cases t with
          | false => obtain ⟨kvs, q, p1, p2⟩ := q; exact VR.dct_i.mpr ⟨a, rfl, f, .inl ⟨kvs, rfl, .inl q, p1, VR.cuts p2⟩⟩
          | true => obtain ⟨kvs, q, p1, p2⟩ := q; exact VR.dct_i.mpr ⟨a, rfl, f, .inr ⟨kvs, rfl, .inl q, p1, VR.cuts p2⟩⟩
        · rename_i xs e
          obtain ⟨a, rfl, ⟨ys, q, p⟩, f⟩ := key _ e (by simp)
          obtain ⟨ws, e1, e2⟩ := Option.map_eq_some_iff.mp h
          subst e2
          exact VR.lst_i.mpr ⟨a, ys, rfl, ⟨.inl q, f⟩, mapO_ok (fun m b y h1 h2 => ih (.r m) b y h2 h1) e1 p⟩
        · rename_i c ns vs e
          obtain ⟨a, rfl, ⟨C, dx, fs, q, c1, c2, p⟩, f⟩ := key _ e (by simp)
          obtain ⟨ws, e1, e2⟩ := Option.map_eq_some_iff.mp h
          subst e2
          exact VR.obj_i.mpr ⟨a, C, dx, fs, rfl, f, q, c1, c2, mapO_ok (fun m b y h1 h2 => ih m b y h2 h1) e1 p⟩
        · cases h
        · cases h
theorem XR.cut {x : X} {y : V} (ho : okX lo x = true) (h : XR K M G μ H x y) : XR K M G (μ.take lo) H x y := by
  cases x with
  | v a => exact VR.cut (show VR M (Fz G μ) H a y from h)
  | k xs => exact h
  | r n =>
    have hn : n < lo := by simpa [okX] using ho
    obtain ⟨h1, h2⟩ := (show n < μ.length ∧ ∀ a, μ[n]? = some (some a) → y = .ref a from h)
    exact ⟨by rw [List.length_take]; omega, fun a q => h2 a (by rw [List.getElem?_take, if_pos hn] at q; exact q)⟩
theorem CR.cut {c : Cell} {a : Addr} (ho : okC lo c = true) (h : CR K M G μ H c a) : CR K M G (μ.take lo) H c a := by
  cases c with
  | lst xs => obtain ⟨ys, q, p⟩ := h; exact ⟨ys, q, VR.cuts p⟩
  | rls ns =>
    obtain ⟨ys, q, p⟩ := h
    refine ⟨ys, q, ?_⟩
    have go : ∀ {ns : List Nat} {ys : List V}, (ns.all fun n => decide (n < lo)) = true → Paired (fun n y => XR K M G μ H (.r n) y) ns ys → Paired (fun n y => XR K M G (μ.take lo) H (.r n) y) ns ys := by
      intro ns
      induction ns with
      | nil => intro ys _ p; cases p; exact .nil
      | cons n ns ih =>
        intro ys h p
        cases p with
        | cons p1 p2 =>
          simp only [List.all_cons, Bool.and_eq_true] at h
          exact .cons (XR.cut (show okX lo (.r n) = true from h.1) p1) (ih h.2 p2)
    exact go ho p
  | dct t ks vs =>
    cases t with
    | false => obtain ⟨kvs, q, p, r⟩ := h; exact ⟨kvs, q, p, VR.cuts r⟩
    | true => obtain ⟨kvs, q, p, r⟩ := h; exact ⟨kvs, q, p, VR.cuts r⟩
  | ins c ns vs =>
    obtain ⟨C, dx, fs, q, c1, c2, r⟩ := h
    refine ⟨C, dx, fs, q, c1, c2, ?_⟩
    have go : ∀ {vs : List X} {ys : List V}, vs.all (okX lo) = true → Paired (XR K M G μ H) vs ys → Paired (XR K M G (μ.take lo) H) vs ys := by
      intro vs
      induction vs with
      | nil => intro ys _ p; cases p; exact .nil
      | cons n ns ih =>
        intro ys h p
        cases p with
        | cons p1 p2 =>
          simp only [List.all_cons, Bool.and_eq_true] at h
          exact .cons (XR.cut h.1 p1) (ih h.2 p2)
    exact go ho r
  | dead => exact h.elim
/-- what is new is let go -/
theorem SR.cut (S : SR K M G μ H st) (ho : (st.take lo).all (okC lo) = true) : SR K M G (μ.take lo) H (st.take lo) where
  len := by rw [List.length_take, List.length_take, S.len]
  nd := fun i j a q1 q2 => by
    rw [List.getElem?_take] at q1 q2
    split at q1
    · split at q2
      · exact S.nd i j a q1 q2
      · cases q2
    · cases q1
  cell := fun n a c q1 q2 => by
    have hc : okC lo c = true := List.all_eq_true.mp ho c (List.mem_of_getElem? q2)
    rw [List.getElem?_take] at q1 q2
    split at q1
    · rename_i hn
      rw [if_pos hn] at q2
      exact (S.cell n a c q1 q2).cut hc
    · cases q1
  dead := fun n q => by
    rw [List.getElem?_take] at q ⊢
    split at q
    · rename_i hn
      rw [if_pos hn]
      exact S.dead n q
    · cases q
  apart := fun a q => S.apart a (List.mem_of_mem_take q)
  there := S.there
theorem Ext.cut (e : Ext μ H μ' H') (hl : lo = μ.length) : Ext μ H (μ'.take lo) H' where
  len := by rw [List.length_take]; have := e.len; omega
  pre := fun n a hn q => by
    rw [List.getElem?_take, if_pos (by omega)] at q
    exact e.pre n a hn q
  same := e.same
  new := fun a q => e.new a (List.mem_of_mem_take q)
/-! ### fields -/
theorem flook_ok {α : Type} {att : Nat → Str} {R : α → V → Prop} (inj : ∀ n m, att n = att m → n = m) (n : Nat) : ∀ {ns : List Nat} {vs : List α} {fs : List (Str × V)}, fs.map (·.1) = ns.map att → Paired R vs (fs.map (·.2)) →
    (∀ z, flook ns vs n = some z → ∃ v, fs.lookup (att n) = some v ∧ R z v) ∧ (flook ns vs n = none → fs.lookup (att n) = none)
  | ns, vs, [], e, p => by
    have e1 : ns = [] := by cases ns with
      | nil => rfl
      | cons a r => cases e
    subst e1
    exact ⟨fun z h => by (cases vs <;> cases h), fun _ => rfl⟩
  | [], _, f :: fs, e, p => by cases e
  | m :: ns, vs, (k, v) :: fs, e, p => by
    have p : Paired R vs (v :: fs.map (·.2)) := p
    cases p with
    | @cons z _ zs _ p1 p2 =>
      have e : k :: fs.map (·.1) = att m :: ns.map att := e
      have ek : k = att m := List.head_eq_of_cons_eq e
      have et : fs.map (·.1) = ns.map att := List.tail_eq_of_cons_eq e
      obtain ⟨h1, h2⟩ := flook_ok inj n et p2
      rw [List.lookup_cons]
      show (∀ w, (if m == n then some z else flook ns zs n) = some w → _) ∧ ((if m == n then some z else flook ns zs n) = none → _)
      by_cases h : m = n
      · subst h
        subst ek
        simp only [beq_self_eq_true, if_true]
        exact ⟨fun w hw => by cases hw; exact ⟨v, rfl, p1⟩, fun hw => nomatch hw⟩
      · have hb : (m == n) = false := by simpa using h
        have hk : (att n == k) = false := by
          rw [beq_eq_false_iff_ne]
          intro q
          exact h (inj m n (ek.symm.trans q.symm))
        simp only [hb, hk, Bool.false_eq_true, if_false]
        exact ⟨h1, h2⟩
theorem clsOf_ok {M : Nms} (inj : ∀ n m, M.att n = M.att m → n = m) {x : X} {y : V} {c : Nat} (S : SR K M G μ H st) (r : XR K M G μ H x y) (h : clsOf x st = some c) :
    ∃ a C dx fs, y = .ref a ∧ H a = some (.ins C dx fs) ∧ M.cls c = some C ∧ ∀ n, (∀ z, fldV x n st = some z → ∃ v, fs.lookup (M.att n) = some v ∧ XR K M G μ H z v) ∧ (fldV x n st = none → fs.lookup (M.att n) = none) := by
  unfold clsOf at h
  split at h
  · rename_i d ns vs
    cases h
    obtain ⟨a, C, dx, fs, rfl, f, q, c1, c2, p⟩ := VR.obj_i.mp r
    refine ⟨a, C, dx, fs, rfl, q, c1, fun n => ?_⟩
    obtain ⟨h1, h2⟩ := flook_ok inj n c2 p
    refine ⟨fun z hz => ?_, fun hz => ?_⟩
    · have hz : (flook ns vs n).map X.v = some z := hz
      obtain ⟨w, e1, e2⟩ := Option.map_eq_some_iff.mp hz
      subst e2
      exact h1 w e1
    · have hz : (flook ns vs n).map X.v = none := hz
      exact h2 (Option.map_eq_none_iff.mp hz)
  · rename_i n
    split at h
    · rename_i d ns vs e
      cases h
      obtain ⟨a, ha, C, dx, fs, q, c1, c2, p⟩ := S.addr e (by simp)
      refine ⟨a, C, dx, fs, r.at ha, q, c1, fun m => ?_⟩
      obtain ⟨h1, h2⟩ := flook_ok inj m c2 p
      have e1 : fldV (.r n) m st = flook ns vs m := by
        simp only [fldV, e]
      rw [e1]
      exact ⟨h1, h2⟩
    · cases h
  · cases h
end

/-! ### what is known of the linked program -/
/-- what a def keeps: the small language's function -/
def spF (K : PySem.W.Frag) (T : Tab) (P : Prg) (n f : Nat) : Sp := fun vs H Q E => ∃ (G : Addr → Prop) (μ : Mu) (st : Store) (as : List X), SR K T.nms G μ H st ∧ Paired (XR K T.nms G μ H) as vs ∧
  Post K T.nms G (relX K T.nms G) μ H (callN P n f as st) Q (bE T G E)
structure ClsI (K : PySem.W.Frag) (C : Addr) : Prop where
  at_ : PySem.W.findIn K (.ref C) "__class__" = some (some (.builtin "object.__class__"))
  sp : PySem.W.specialIn K (.builtin "object.__class__") "__get__" = some (some (.builtin "getset_descriptor.__get__"))
  tk : PySem.W.takesIn K (.builtin "object.__class__") = some true
  mr : PySem.W.mroIn K C (.type "object") = some true
/-- the built-in names -/
def blts : List Str := ["len", "int", "str", "bool", "tuple", "list", "sorted", "all", "any", "sum", "min", "max", "dict", "isinstance", "range", "enumerate", "zip", "ValueError"]
structure Lnk (prog : Program) (w : World) (K : PySem.W.Frag) (mg : Str → Option Value) (base : Heap) (T : Tab) (P : Prg) (n lv : Nat) : Prop where
  fn : ∀ f a, T.fad f = some a → ∃ fd ps, FnOk prog w K mg base (L2.CX prog w) lv a fd ps (spF K T P n f) ∧ Binds K fd ps []
  fnm : ∀ f x, T.fnm f = some x → ∃ a, T.fad f = some a ∧ mg x = some (.ref a) ∧ PySem.W.keepIn K (.ref a) = true
  cls : ∀ c C, T.nms.cls c = some C → Cls K C ∧ ClsI K C
  cnm : ∀ c x, T.cnm c = some x → ∃ C, T.nms.cls c = some C ∧ mg x = some (.ref C)
  meth : ∀ c C m f, T.nms.cls c = some C → P.meth c m = some f → ∃ a, T.fad f = some a ∧ Meth K C (T.nms.att m) a
  prop : ∀ c C m f, T.nms.cls c = some C → P.prop c m = some f → ∃ p a, T.fad f = some a ∧ PropOf K C (T.nms.att m) p a
  fld : ∀ c C m, T.nms.cls c = some C → m < T.natt → P.meth c m = none → P.prop c m = none → NoAttr K C (T.nms.att m)
  init : ∀ c C f, T.nms.cls c = some C → P.init c = some f → ∃ a, T.fad f = some a ∧ Mk K C a
  sub : ∀ c d C D, T.nms.cls c = some C → T.nms.cls d = some D → PySem.W.kitOne K (.ref C) (.ref D) = some (P.sub c d)
  inj : ∀ n m, T.nms.att n = T.nms.att m → n = m
  glob : ∀ g x o, T.gnm g = some x → P.glob g = some o → ∃ u v, mg x = some u ∧ RelV v u ∧ ∀ G μ H, XR K T.nms G μ H o v
  blt : ∀ x ∈ blts, mg x = none

section
variable {X : Cx} {T : Tab} {P : Prg} {k lv : Nat} {W : WX} {a b c e : Expr} {es : List Expr} {pos apos p : Pos} {f g h : KG.Env → Store → R KG.X} {fs : KG.Env → Store → R (List KG.X)}
theorem noX_post {α β : Type} {K : PySem.W.Frag} {M : Nms} {G : Addr → Prop} {rel : Mu → Hp → α → β → Prop} {μ : Mu} {H : Hp} {r : R α} {Q : β → Hp → Prop} {B B' : EW} (h : Post K M G rel μ H (noX r) Q B) : Post K M G rel μ H r Q B' := by
  cases r with
  | bad => exact h
  | ok a st => exact h
  | exc c ns vs st => exact h.elim
theorem meth_eval {o : Expr} {m : Str} {env : PySem.Env} (hb : notSuper o = true) (hs : es.all notStar = true) (hl : decide (es.length < 30) = true) (hline : (apos.endLine == pos.line) = true) :
    eval (.Call (.Attribute o m apos) es [] pos) env = (do
      let ov ← eval o env
      standAt apos.atName
      let (f, first) ← holding [ov] (getMethod ov m (do return (← importBound o env).getD true))
      callWith pos f first (backTo pos (starEach es env)) (backToKw pos (keywordEach [] env))) := by
  have h2 : methodCallPos true o env apos pos = pure pos := by unfold methodCallPos; simp [hline]
  have h1 : methodCallForm (es.length + ([] : List Keyword).length) (backTo pos (starEach es env)) (backToKw pos (keywordEach [] env)) = true := few_ok hs hl
  rw [arm_eval_Call, base_ok hb]
  unfold methodCall
  rw [h1, h2]
  rfl
/-! ### calls -/
theorem e_call {fi : Nat} {x : Str} (L : Lnk X.prog X.w X.K X.mg X.base T P k lv) (hr : Room lv X.A) (tk : Takes X W) (hx : T.fnm fi = some x) (hg : Gl X x) (ha : PA X (e :: es) (tA X.K T W fs)) (hs : (e :: es).all notStar = true) (hdb : (x == ("__debug__" : Str)) = false) :
    PE X (.Call (.Name x p) (e :: es) [] pos) (tE X.K T W fun env st => (fs env st).bind (callN P k fi)) := by
  obtain ⟨ad, h1, h2, h3⟩ := L.fnm fi x hx
  obtain ⟨fd, ps, F, hb⟩ := L.fn fi ad h1
  simp only [List.all_cons, Bool.and_eq_true] at hs
  exact (pe_callS F hr hg h2 h3 hb (passAt tk) ha hdb (star_ok hs.1) (back_ok hs.2)).weak fun σ H Q ⟨G, μ, env, st, S, E, P⟩ =>
    tA.fst S E P fun xs as st1 μ1 H1 S1 E1 X1 r1 P1 => ⟨G, μ1, st1, as, S1, r1, P1⟩
theorem e_meth {n : Nat} (L : Lnk X.prog X.w X.K X.mg X.base T P k lv) (hr : Room lv X.A) (tk : Takes X W) (ho : PE X a (tE X.K T W f)) (ha : PA X (e :: es) (tA X.K T W fs)) (hs : (e :: es).all notStar = true) (hb : notSuper a = true) (hl : decide ((e :: es).length < 30) = true) (hline : (apos.endLine == pos.line) = true) :
    PE X (.Call (.Attribute a (T.nms.att n) apos) (e :: es) [] pos) (tE X.K T W fun env st => (f env st).bind fun x st => (optR (methF (P.ctx (callN P k)) x n st) st).bind fun fi st => (fs env st).bind fun xs st => callN P k fi (x :: xs) st) := by
  have hev := meth_eval (env := X.env) (m := T.nms.att n) hb hs hl hline
  simp only [List.all_cons, Bool.and_eq_true] at hs
  refine ⟨fun pins s σ H Q I ⟨G, μ, env, st, S, E, Po⟩ => ?_⟩
  refine PySem.W.methodCall_KW (thn (ho.run pins s σ H (fun x H1 => ∃ z st1 μ1, SR X.K T.nms G μ1 H1 st1 ∧ ER X.K T.nms G μ1 H1 env σ ∧ XR X.K T.nms G μ1 H1 z x ∧ Post X.K T.nms G (relX X.K T.nms G) μ1 H1 ((optR (methF (P.ctx (callN P k)) z n st1) st1).bind fun fi st => (fs env st).bind fun xs st => callN P k fi (z :: xs) st) Q (bW T G W σ)) I
    (tE.fst S E Po fun x z st1 μ1 H1 S1 E1 X1 r1 P1 => ⟨z, st1, μ1, S1, E1, r1, P1⟩)) fun u0 s1 ⟨x, H1, I1, rx, z, st1, μ1, S1, E1, r1, P1⟩ => ?_) hev
  obtain ⟨fi, e1, P2⟩ := optR_bind P1
  unfold methF at e1
  split at e1
  · rename_i c hc
    split at e1
    · rename_i hf
      obtain ⟨ad, C, dx, fl, rfl, ea, hC, hfl⟩ := clsOf_ok L.inj S1 r1 hc
      obtain rfl : u0 = Value.ref ad := rx
      obtain ⟨fa, hfa, hm⟩ := L.meth c C n fi hC e1
      obtain ⟨fd, ps, F, hb⟩ := L.fn fi fa hfa
      refine getmeth_ok I1 ea (L.cls c C hC).1 hm ((hfl n).2 hf) ?_
      refine PySem.W.callWith_K (first := [.ref ad]) (h₀ := X.base) I.ok.mod.kin hm.kp (thn (ha.run pos pins s1 σ H1 (fun xs H2 => spF X.K T P k fi (.ref ad :: xs) H2 Q (WE W σ)) I1
        (tA.fst S1 E1 P2 fun xs as st2 μ2 H2 S2 E2 X2 r2 P3 => ⟨G, μ2, st2, z :: as, S2, .cons (r1.ext X2) r2, P3⟩)) fun us s2 ⟨vs, H2, I2, r, q2⟩ => ⟨I2.kIn, ?_⟩) (star_ok hs.1) (back_ok hs.2)
      exact run_fnS (us := .ref ad :: us) (vs := .ref ad :: vs) (E := WE W) F hr hb (passAt tk σ) I2 (.cons rfl r) q2
    · cases e1
  · cases e1
theorem e_meth0 {n : Nat} (L : Lnk X.prog X.w X.K X.mg X.base T P k lv) (hr : Room lv X.A) (tk : Takes X W) (ho : PE X a (tE X.K T W f)) (hb : notSuper a = true) (hline : (apos.endLine == pos.line) = true) :
    PE X (.Call (.Attribute a (T.nms.att n) apos) [] [] pos) (tE X.K T W fun env st => (f env st).bind fun x st => (optR (methF (P.ctx (callN P k)) x n st) st).bind fun fi st => (R.ok [] st).bind fun xs st => callN P k fi (x :: xs) st) := by
  refine ⟨fun pins s σ H Q I ⟨G, μ, env, st, S, E, Po⟩ => ?_⟩
  refine PySem.W.methodCall_KW (thn (ho.run pins s σ H (fun x H1 => ∃ z st1 μ1, SR X.K T.nms G μ1 H1 st1 ∧ ER X.K T.nms G μ1 H1 env σ ∧ XR X.K T.nms G μ1 H1 z x ∧ Post X.K T.nms G (relX X.K T.nms G) μ1 H1 ((optR (methF (P.ctx (callN P k)) z n st1) st1).bind fun fi st => callN P k fi [z] st) Q (bW T G W σ)) I
    (tE.fst S E Po fun x z st1 μ1 H1 S1 E1 X1 r1 P1 => ⟨z, st1, μ1, S1, E1, r1, P1⟩)) fun u0 s1 ⟨x, H1, I1, rx, z, st1, μ1, S1, E1, r1, P1⟩ => ?_) (meth_eval hb rfl rfl hline)
  obtain ⟨fi, e1, P2⟩ := optR_bind P1
  unfold methF at e1
  split at e1
  · rename_i c hc
    split at e1
    · rename_i hf
      obtain ⟨ad, C, dx, fl, rfl, ea, hC, hfl⟩ := clsOf_ok L.inj S1 r1 hc
      obtain rfl : u0 = Value.ref ad := rx
      obtain ⟨fa, hfa, hm⟩ := L.meth c C n fi hC e1
      obtain ⟨fd, ps, F, hb⟩ := L.fn fi fa hfa
      refine getmeth_ok I1 ea (L.cls c C hC).1 hm ((hfl n).2 hf) ?_
      exact PySem.W.callWith_K0 (first := [.ref ad]) I1.kIn hm.kp (run_fnS (us := [.ref ad]) (vs := [.ref ad]) (E := WE W) F hr hb (passAt tk σ) I1 (.cons rfl .nil) ⟨G, μ1, st1, [z], S1, .cons r1 .nil, P2⟩)
    · cases e1
  · cases e1
/-! ### attributes -/
theorem e_at {n : Nat} (L : Lnk X.prog X.w X.K X.mg X.base T P k lv) (hr : Room (lv + 1) X.A) (ho : PE X a (tE X.K T W f)) (hb : notSuper a = true) (hn : n < T.natt) :
    PE X (.Attribute a (T.nms.att n) pos) (tE X.K T W fun env st => (f env st).bind fun x st => attrV (P.ctx (callN P k)) x n st) := by
  refine ⟨fun pins s σ H Q I ⟨G, μ, env, st, S, E, Po⟩ => ?_⟩
  refine attr_of (base_ok hb) (thn (ho.run pins s σ H (fun x H1 => ∃ z st1 μ1, SR X.K T.nms G μ1 H1 st1 ∧ XR X.K T.nms G μ1 H1 z x ∧ Post X.K T.nms G (relX X.K T.nms G) μ1 H1 (attrV (P.ctx (callN P k)) z n st1) Q (bW T G W σ)) I
    (tE.fst S E Po fun x z st1 μ1 H1 S1 E1 X1 r1 P1 => ⟨z, st1, μ1, S1, r1, P1⟩)) fun u0 s1 ⟨x, H1, I1, rx, z, st1, μ1, S1, r1, P1⟩ => ?_)
  unfold attrV at P1
  split at P1
  · rename_i c hc
    obtain ⟨ad, C, dx, fl, rfl, ea, hC, hfl⟩ := clsOf_ok L.inj S1 r1 hc
    obtain rfl : u0 = Value.ref ad := rx
    split at P1
    · rename_i fi hp
      obtain ⟨pa, fa, hfa, hP⟩ := L.prop c C n fi hC hp
      obtain ⟨fd, ps, F, hbi⟩ := L.fn fi fa hfa
      exact getprop_ok (ds := []) (dvs := []) (E := E0) I1 ea (L.cls c C hC).1 hP F hr hbi .nil passL ⟨G, μ1, st1, [z], S1, .cons r1 .nil, noX_post P1⟩
    · rename_i hp
      split at P1
      · exact P1.elim
      · rename_i hm
        obtain ⟨w, e1, P2⟩ := optR_some P1
        obtain ⟨v, l, rv⟩ := (hfl n).1 w e1
        exact getattr_ok I1 ea (L.cls c C hC).1 (L.fld c C n hC hn hm hp) l fun u s2 I2 ru => ⟨v, H1, I2, ru, P2.here S1 rv⟩
  · exact P1.elim
/-! ### isinstance -/
def tyS : Ty → String
  | .int => "int" | .bool => "bool" | .str => "str" | .tup => "tuple" | .lst => "list"
theorem isTV_ok {K : PySem.W.Frag} {M : Nms} {G : Addr → Prop} {μ : Mu} {H : Hp} {st : Store} {x : KG.X} {y : V} {t : Ty} {d : Bool} (S : SR K M G μ H st) (r : XR K M G μ H x y) (h : isTV x t st = some d) :
    ∃ ty, TyX K H y (.type ty) ∧ PySem.W.kitOne K (.type ty) (.type (tyS t)) = some d := by
  cases x with
  | r n => cases t <;> cases h
  | k xs => cases t <;> cases h
  | v a =>
    cases a with
    | none => cases VR.none_i.mp r; refine ⟨_, .base .non, kit_ty ?_⟩; cases t <;> cases h <;> decide +kernel
    | bool b => cases VR.bool_i.mp r; refine ⟨_, .base (.bl b), kit_ty ?_⟩; cases t <;> cases h <;> decide +kernel
    | int i => cases VR.int_i.mp r; refine ⟨_, .base (.int i), kit_ty ?_⟩; cases t <;> cases h <;> decide +kernel
    | str s => obtain ⟨rfl, _⟩ := VR.str_i.mp r; refine ⟨_, .base (.str _), kit_ty ?_⟩; cases t <;> cases h <;> decide +kernel
    | tup xs =>
      obtain ⟨p, ys, rfl, q, _⟩ := VR.tup_i.mp r
      refine ⟨_, .base (.tup q.1), kit_ty ?_⟩; cases t <;> cases h <;> decide +kernel
    | lst xs =>
      obtain ⟨p, ys, rfl, q, _⟩ := VR.lst_i.mp r
      have hk : kitB "list" (tyS t) = some d := by cases t <;> cases h <;> decide +kernel
      rcases q.1 with q | ⟨o, q⟩
      · exact ⟨_, .base (.lst q), kit_ty hk⟩
      · exact ⟨_, .base (.frz q), kit_ty hk⟩
    | dct t' ks vs => cases t <;> cases h
    | obj c ns vs => cases t <;> cases h
theorem tyBoot (t : Ty) : bootBuiltins (Str.ofString (tyS t)) = some (.type (tyS t)) := by
  cases t
  · exact PyProof.Rows.Boot.«int»
  · exact PyProof.Rows.Boot.«bool»
  · exact PyProof.Rows.Boot.«str»
  · exact PyProof.Rows.Boot.«tuple»
  · exact PyProof.Rows.Boot.«list»
theorem e_isT {t : Ty} {p2 : Pos} (hm : X.mg "isinstance" = none) (hm2 : X.mg (Str.ofString (tyS t)) = none) (hg : Gl X "isinstance") (hg2 : Gl X (Str.ofString (tyS t))) (ha : PE X a (tE X.K T W f)) (hs : notStar a = true) :
    PE X (.Call (.Name "isinstance" p) [a, .Name (Str.ofString (tyS t)) p2] [] pos) (tE X.K T W fun env st => (f env st).bind fun x st => boolR (isTV x t st) st) := by
  have hb : PE X (.Name (Str.ofString (tyS t)) p2) (tC (.ty (tyS t))) := pe_bltn hg2 hm2 (tyBoot t) rfl (by cases t <;> decide) (by cases t <;> decide)
  refine (pe_callB call_isi hg hm PyProof.Rows.Boot.«isinstance» (pa_cons ha (pa_cons hb pa_nil rfl) (star_ok hs)) (by decide) (by decide) (star_ok hs) rfl).weak fun σ H Q ⟨G, μ, env, st, S, E, Po⟩ => tE.fst S E Po fun x z st1 μ1 H1 S1 E1 X1 r1 P1 => ?_
  obtain ⟨d, e1, q⟩ := boolR_some S1 P1
  obtain ⟨ty, h1, h2⟩ := isTV_ok S1 r1 e1
  exact ⟨x, _, _, _, d, rfl, .ty _, h1, h2, q⟩
theorem e_isC {ci : Nat} {x : Str} {p2 : Pos} (L : Lnk X.prog X.w X.K X.mg X.base T P k lv) (hm : X.mg "isinstance" = none) (hg : Gl X "isinstance") (hx : T.cnm ci = some x) (hg2 : Gl X x) (ha : PE X a (tE X.K T W f)) (hs : notStar a = true) (hdb : (x == ("__debug__" : Str)) = false) :
    PE X (.Call (.Name "isinstance" p) [a, .Name x p2] [] pos) (tE X.K T W fun env st => (f env st).bind fun x st => boolR (isCV (P.ctx (callN P k)) x ci st) st) := by
  obtain ⟨D, hD, hmD⟩ := L.cnm ci x hx
  have hb : PE X (.Name x p2) (tC (.ref D)) := pe_glob hg2 hmD rfl hdb
  refine (pe_callB call_isi hg hm PyProof.Rows.Boot.«isinstance» (pa_cons ha (pa_cons hb pa_nil rfl) (star_ok hs)) (by decide) (by decide) (star_ok hs) rfl).weak fun σ H Q ⟨G, μ, env, st, S, E, Po⟩ => tE.fst S E Po fun x z st1 μ1 H1 S1 E1 X1 r1 P1 => ?_
  obtain ⟨d, e1, q⟩ := boolR_some S1 P1
  unfold isCV at e1
  split at e1
  · rename_i c hc
    cases e1
    obtain ⟨ad, C, dx, fl, rfl, ea, hC, hfl⟩ := clsOf_ok L.inj S1 r1 hc
    obtain ⟨hcl, hci⟩ := L.cls c C hC
    exact ⟨_, _, _, _, _, rfl, .own D, .base (.ins ea hcl hci.at_ hci.sp hci.tk hci.mr), L.sub c ci C D hC hD, q⟩
  · cases e1
end
end KG

set_option linter.all false
set_option maxRecDepth 100000
set_option maxHeartbeats 4000000
/-! K1j: new instances, new dicts. -/
namespace KG
open PySem PySem.Spec PyProof.Rows L2

section
variable {X : Cx} {T : Tab} {P : Prg} {k lv : Nat} {W : WX} {a b c e : Expr} {es : List Expr} {pos apos p : Pos} {f g h : KG.Env → Store → R KG.X} {fs : KG.Env → Store → R (List KG.X)}
theorem run_new {C fa : Addr} {fd : FuncData} {ps : List Str} {sp : Sp} {pins : List (Addr × Obj)} {σ : L2.St} {H : Hp} {s : Shared} {Q : VK} {us : List Value} {vs : List V} (mk : Mk X.K C fa) (F : FnOk X.prog X.w X.K X.mg X.base (L2.CX X.prog X.w) lv fa fd ps sp)
    (room : Room (lv + 1) X.A) (bd : Binds X.K fd ps []) (tk : Takes X W) (I : Inv X pins σ H s) (rv : Vals vs us)
    (spr : ∀ x dx, H x = none → H dx = none → dx ≠ x → sp (.ref x :: vs) (upd (upd H dx (.own x)) x (.ins C dx [])) (fun v H2 => v = .non ∧ Q (.ref x) H2) (WE W σ)) :
    wpAny (model X.prog X.w) X.A (call (.ref C) us) (EP X pins σ Q) X.xe s := by
  generalize hsz : s.heap.objs.size = z at *
  have free1 : H z = none := by rw [← hsz]; exact I.hok.fresh (Nat.le_refl _)
  have free2 : H (z + 1) = none := by rw [← hsz]; exact I.hok.fresh (Nat.le_succ _)
  have want := spr (z + 1) z free2 free1 (Nat.ne_of_lt (Nat.lt_succ_self z))
  have J := Inv.made (C := C) I
  rw [hsz] at J
  have rv' : Vals (V.ref (z + 1) :: vs) (Value.ref (z + 1) :: us) := .cons rfl rv
  have number : (Value.ref (z + 1) :: us).length = ps.length := rv'.length.symm.trans (F.len _ _ _ _ want)
  have bound := bd { s with heap := (s.heap.push PySem.W.emptyDict).push (PySem.W.instObj C z) } (Value.ref (z + 1) :: us) J.kIn (by rw [List.append_nil]; exact number)
  rw [List.append_nil] at bound
  have runs := F.run _ X.stack _ _ ⟨Value.ref (z + 1) :: us, []⟩ _ _ _ _ (room.make C us []) (J.env0.make C us []) bound rv' want
  subst hsz
  refine wpAny_call (make_map (f := fa) I.kIn mk.makes mk.init (beq_iff_eq.mp mk.fn) (codeAny_mono runs fun res s2 told => ?_))
  match res, told with
  | .error er, told => exact passAt tk σ pins _ _ er s2 J told
  | .ok (.ret u), told =>
    obtain ⟨v, H2, J2, r2, none2, q2⟩ := J.after told
    subst none2
    exact ⟨r2, V.ref _, H2, J2, rfl, q2⟩
  | .ok .next, told => exact told.elim
  | .ok .brk, told => exact told.elim
  | .ok .cont, told => exact told.elim
theorem Post.bind0 {K : PySem.W.Frag} {M : Nms} {G : Addr → Prop} {α β γ δ : Type} {rel : Mu → Hp → α → β → Prop} {rel1 : Mu → Hp → γ → δ → Prop} {μ0 μ : Mu} {H0 H : Hp} {B : EW} {m : R γ} {f : γ → Store → R α} {Q : β → Hp → Prop} (e0 : Ext μ0 H0 μ H) (h : Post K M G rel μ0 H0 (m.bind f) Q B) :
    Post K M G rel1 μ H m (fun b H1 => ∃ a st1 μ1, SR K M G μ1 H1 st1 ∧ Ext μ H μ1 H1 ∧ rel1 μ1 H1 a b ∧ Post K M G rel μ0 H0 (f a st1) Q B) B := by
  cases m with
  | bad => exact h
  | ok a st => exact fun μ' H' b e s q => ⟨a, st, μ', s, e, q, h⟩
  | exc c ns vs st => exact fun μ' H' e s => h μ' H' (e0.trans e) s
/-- C(..) -/
theorem make_post {pins : List (Addr × Obj)} {σ : L2.St} {G : Addr → Prop} {μ : Mu} {H : Hp} {st : Store} {s : Shared} {Q : VK} {us : List Value} {vs : List V} {as : List KG.X} {m : Bool} {ci : Nat} {C : Addr} (L : Lnk X.prog X.w X.K X.mg X.base T P k lv) (hr : Room (lv + 1) X.A) (tk : Takes X W)
    (hC : T.nms.cls ci = some C) (I : Inv X pins σ H s) (rv : Vals vs us) (S : SR X.K T.nms G μ H st) (ra : Paired (XR X.K T.nms G μ H) as vs)
    (Po : Post X.K T.nms G (relX X.K T.nms G) μ H (makeV (P.ctx (callN P k)) m ci as st) Q (bW T G W σ)) : wpAny (model X.prog X.w) X.A (call (.ref C) us) (EP X pins σ Q) X.xe s := by
  unfold makeV at Po
  split at Po
  · rename_i fi hi
    obtain ⟨fa, hfa, mk⟩ := L.init ci C fi hC hi
    obtain ⟨fd, ps, F, hb⟩ := L.fn fi fa hfa
    refine run_new mk F hr hb tk I rv fun x dx hx hdx hne => ?_
    have g : ∀ a o, H a = some o → upd (upd H dx (.own x)) x (.ins C dx []) a = some o := fun a o q => by
      rw [upd_ne (ne_of_none q hx), upd_ne (ne_of_none q hdx)]; exact q
    have E1 : Ext μ H (μ ++ [some x]) (upd (upd H dx (.own x)) x (.ins C dx [])) := Ext.alloc g hx
    have S1 : SR X.K T.nms G (μ ++ [some x]) (upd (upd H dx (.own x)) x (.ins C dx [])) (st ++ [.ins ci [] []]) := S.alloc g hx ⟨C, dx, [], upd_same, hC, rfl, .nil⟩
    have rx : XR X.K T.nms G (μ ++ [some x]) (upd (upd H dx (.own x)) x (.ins C dx [])) (.r st.length) (.ref x) := XR.new S.len.symm
    refine ⟨G, μ ++ [some x], st ++ [.ins ci [] []], .r st.length :: as, S1, .cons rx (XR.exts E1 ra), ?_⟩
    refine (Post.bind0 (rel1 := relX X.K T.nms G) E1 Po).imp fun y H2 ⟨z, st2, μ2, S2, E2, r2, P2⟩ => ?_
    split at P2
    · cases VR.none_i.mp r2
      refine ⟨rfl, ?_⟩
      split at P2
      · exact P2.at (E1.trans E2) S2 (rx.ext E2)
      · split at P2
        · rename_i v hv
          split at P2
          · rename_i ho
            exact P2.at (Ext.cut (E1.trans E2) S.len.symm) (S2.cut ho) (frz_ok S2 4 (.r st.length) v (.ref x) (rx.ext E2) hv)
          · exact P2.elim
        · exact P2.elim
    · exact P2.elim
  · exact Po.elim
theorem e_make {m : Bool} {ci : Nat} {x : Str} (L : Lnk X.prog X.w X.K X.mg X.base T P k lv) (hr : Room (lv + 1) X.A) (tk : Takes X W) (hx : T.cnm ci = some x) (hg : Gl X x) (ha : PA X (e :: es) (tA X.K T W fs)) (hs : (e :: es).all notStar = true)
    (hdb : (x == ("__debug__" : Str)) = false) (hi : (P.init ci).isSome = true) :
    PE X (.Call (.Name x p) (e :: es) [] pos) (tE X.K T W fun env st => (fs env st).bind (makeV (P.ctx (callN P k)) m ci)) := by
  obtain ⟨C, hC, hmC⟩ := L.cnm ci x hx
  obtain ⟨fi, hfi⟩ := Option.isSome_iff_exists.mp hi
  obtain ⟨fa, hfa, mk⟩ := L.init ci C fi hC hfi
  simp only [List.all_cons, Bool.and_eq_true] at hs
  refine ⟨fun pins s σ H Q I ⟨G, μ, env, st, S, E, Po⟩ => ?_⟩
  refine wpAny_Call_Name_kw (ld_glob I hg hmC ?_ hdb)
  refine PySem.W.callWith_K (h₀ := X.base) I.ok.mod.kin mk.kp (thn (ha.run pos pins s σ H (fun xs H1 => ∃ as st1 μ1, SR X.K T.nms G μ1 H1 st1 ∧ Paired (XR X.K T.nms G μ1 H1) as xs ∧ Post X.K T.nms G (relX X.K T.nms G) μ1 H1 (makeV (P.ctx (callN P k)) m ci as st1) Q (bW T G W σ)) I
    (tA.fst S E Po fun xs as st1 μ1 H1 S1 E1 X1 r1 P1 => ⟨as, st1, μ1, S1, r1, P1⟩)) fun us s1 ⟨xs, H1, I1, rv, as, st1, μ1, S1, r1, P1⟩ => ⟨I1.kIn, ?_⟩) (star_ok hs.1) (back_ok hs.2)
  exact make_post L hr tk hC I1 rv S1 r1 P1
/-! ### {} -/
theorem dictR_ok {K : PySem.W.Frag} {M : Nms} {G : Addr → Prop} {μ : Mu} {H : Hp} {st : Store} {m t : Bool} {Q : VK} {B : EW} {o : HO} (ho : (t = false ∧ o = .dK []) ∨ (t = true ∧ o = .dT [])) (S : SR K M G μ H st) (h : Post K M G (relX K M G) μ H (dictR m t [] [] st) Q B) :
    ∀ q, H q = none → Q (.ref q) (upd H q o) := fun q hq => by
  unfold dictR at h
  rw [if_pos (show ([] : List Val).length ≤ LIM from Nat.zero_le _)] at h
  have g := grow_upd (o := o) hq
  cases m with
  | false =>
    refine h.at (Ext.grow g) (S.grow g) (VR.dct_i.mpr ⟨q, rfl, S.fresh hq, ?_⟩)
    rcases ho with ⟨rfl, rfl⟩ | ⟨rfl, rfl⟩
    · exact .inl ⟨[], rfl, .inl upd_same, .nil, .nil⟩
    · exact .inr ⟨[], rfl, .inl upd_same, .nil, .nil⟩
  | true =>
    have E : Ext μ H (μ ++ [some q]) (upd H q o) := Ext.alloc g hq
    refine h.at E (S.alloc g hq ?_) (XR.new S.len.symm)
    rcases ho with ⟨rfl, rfl⟩ | ⟨rfl, rfl⟩
    · exact ⟨[], upd_same, .nil, .nil⟩
    · exact ⟨[], upd_same, .nil, .nil⟩
theorem e_dic0 {m t : Bool} : PE X (.Dict [] [] pos) (tE X.K T W fun env st => (R.ok [] st).bind (dicV m t)) := by
  cases t with
  | false => exact pe_dnewK.weak fun σ H Q ⟨G, μ, env, st, S, E, P⟩ => dictR_ok (.inl ⟨rfl, rfl⟩) S (show Post X.K T.nms G (relX X.K T.nms G) μ H (dictR m false [] [] st) Q _ from P)
  | true => exact pe_dnewT.weak fun σ H Q ⟨G, μ, env, st, S, E, P⟩ => dictR_ok (.inr ⟨rfl, rfl⟩) S (show Post X.K T.nms G (relX X.K T.nms G) μ H (dictR m true [] [] st) Q _ from P)
end
end KG

set_option linter.all false
set_option maxRecDepth 100000
set_option maxHeartbeats 4000000
/-! K1k: what is walked; targets. -/
namespace KG
open PySem PySem.Spec PyProof.Rows L2

section
variable {K : PySem.W.Frag} {M : Nms} {G : Addr → Prop} {μ : Mu} {H H' : Hp} {st : Store} {F F' : Addr → Prop}
theorem Rd.live {a : Addr} {u : HO} (h : Rd H a u) : H a ≠ none := by
  rcases h with h | ⟨o, h⟩ <;> rw [h] <;> simp
/-- weakened where something stands -/
theorem VR.weakL (hf : ∀ a, H a ≠ none → F a → F' a) : ∀ {v : Val} {x : V}, VR M F H v x → VR M F' H v x := by
  have key : ∀ (n : Nat) (v : Val) (x : V), VRn M F H n v x → VRn M F' H n v x := by
    intro n
    induction n with
    | zero => intro v x h; cases v <;> first | exact h | exact h.elim
    | succ n ih =>
      intro v x h
      cases v with
      | none => exact h
      | bool b => exact h
      | int i => exact h
      | str s => exact h
      | tup xs => obtain ⟨a, ys, e, t, p⟩ := h; exact ⟨a, ys, e, ⟨t.1, hf _ (by rw [t.1]; simp) t.2⟩, pmono (ih · ·) p⟩
      | lst xs => obtain ⟨a, ys, e, t, p⟩ := h; exact ⟨a, ys, e, ⟨t.1, hf _ (Rd.live t.1) t.2⟩, pmono (ih · ·) p⟩
      | dct t ks vs =>
        obtain ⟨a, e, f, h⟩ := h
        rcases h with ⟨kvs, te, r, p, q⟩ | ⟨kvs, te, r, p, q⟩
        · exact ⟨a, e, hf _ (Rd.live r) f, .inl ⟨kvs, te, r, p, pmono (ih · ·) q⟩⟩
        · exact ⟨a, e, hf _ (Rd.live r) f, .inr ⟨kvs, te, r, p, pmono (ih · ·) q⟩⟩
      | obj c ns vs => obtain ⟨a, C, dx, fs, e, f, r, c', d, p⟩ := h; exact ⟨a, C, dx, fs, e, hf _ (by rw [r]; simp) f, r, c', d, pmono (ih · ·) p⟩
  intro v x ⟨n, h⟩
  exact ⟨n, key n v x h⟩
theorem XR.weakG {G' : Addr → Prop} (hf : ∀ a, H a ≠ none → Fz G μ a → Fz G' μ a) : ∀ {x : X} {y : V}, XR K M G μ H x y → XR K M G' μ H x y
  | .v _, _, h => VR.weakL hf h
  | .r _, _, h => h
  | .k _, _, h => h
theorem CR.weakG {G' : Addr → Prop} (hf : ∀ a, H a ≠ none → Fz G μ a → Fz G' μ a) {c : Cell} {a : Addr} (h : CR K M G μ H c a) : CR K M G' μ H c a := by
  cases c with
  | lst xs => obtain ⟨ys, q, p⟩ := h; exact ⟨ys, q, pmono (fun _ _ q => VR.weakL hf q) p⟩
  | rls ns => obtain ⟨ys, q, p⟩ := h; exact ⟨ys, q, p⟩
  | dct t ks vs =>
    cases t with
    | false => obtain ⟨kvs, q, p, r⟩ := h; exact ⟨kvs, q, p, pmono (fun _ _ q => VR.weakL hf q) r⟩
    | true => obtain ⟨kvs, q, p, r⟩ := h; exact ⟨kvs, q, p, pmono (fun _ _ q => VR.weakL hf q) r⟩
  | ins c ns vs => obtain ⟨C, dx, fs, q, c1, c2, r⟩ := h; exact ⟨C, dx, fs, q, c1, c2, pmono (fun _ _ q => XR.weakG hf q) r⟩
  | dead => exact h.elim
theorem ER.weakG {G' : Addr → Prop} {env : Env} {σ : L2.St} (hf : ∀ a, H a ≠ none → Fz G μ a → Fz G' μ a) (h : ER K M G μ H env σ) : ER K M G' μ H env σ :=
  ⟨h.1, fun i x q => let ⟨y, q1, q2⟩ := h.2 i x q; ⟨y, q1, q2.weakG hf⟩⟩

/-! ### a thing that the machine makes meanwhile -/
/-- one more is guarded -/
def Gd (G : Addr → Prop) (D : Addr) : Addr → Prop := fun a => G a ∨ a = D
variable {D : Addr} {o : HO}
theorem Gd.fz (hD : H D = none) : ∀ a, H a ≠ none → Fz G μ a → Fz (Gd G D) μ a := fun a h f => ⟨fun q => q.elim f.1 fun e => by subst e; exact h hD, f.2⟩
theorem Gd.un : ∀ a, H a ≠ none → Fz (Gd G D) μ a → Fz G μ a := fun a _ f => ⟨fun g => f.1 (.inl g), f.2⟩
/-- it is laid -/
theorem SR.gd (S : SR K M G μ H st) (hD : H D = none) : SR K M (Gd G D) μ (upd H D o) st := by
  have g := grow_upd (o := o) hD
  have S1 := S.grow g
  refine ⟨S.len, S.nd, fun n a c q1 q2 => ?_, S.dead, fun a q z => z.elim (S.apart a q) fun e => ?_, fun a z q => ?_⟩
  · have r := S.cell n a c q1 q2
    obtain ⟨u, e⟩ := r.live
    exact (r.weakG (Gd.fz hD)).ext (Ext.grow g) (by rw [e]; exact g a u e)
  · subst e
    obtain ⟨u, e⟩ := S.live q
    rw [hD] at e
    cases e
  · rcases z with z | z
    · exact S1.there a z q
    · subst z; rw [upd_same] at q; cases q
theorem ER.gd {env : Env} {σ : L2.St} (h : ER K M G μ H env σ) (hD : H D = none) : ER K M (Gd G D) μ (upd H D o) env σ := (h.weakG (Gd.fz hD)).ext (Ext.grow (grow_upd hD))
/-- it is written -/
theorem lk_gd : Lk (Fz (Gd G D) μ) H (upd H D o) := fun a u f h => ⟨u, by rw [upd_ne (fun e : a = D => f.1 (.inr e))]; exact h, rfl⟩
theorem SR.gdw (S : SR K M (Gd G D) μ H st) : SR K M (Gd G D) μ (upd H D o) st := by
  refine ⟨S.len, S.nd, fun n a c q1 q2 => ?_, S.dead, S.apart, fun a z q => ?_⟩
  · have ne : a ≠ D := fun e => S.apart a (List.mem_of_getElem? q1) (.inr e)
    exact (S.cell n a c q1 q2).lk lk_gd (upd_ne ne)
  · by_cases e : a = D
    · subst e; rw [upd_same] at q; cases q
    · rw [upd_ne e] at q; exact S.there a z q
theorem ER.gdw {env : Env} {σ : L2.St} (h : ER K M (Gd G D) μ H env σ) : ER K M (Gd G D) μ (upd H D o) env σ := h.lk lk_gd
theorem VR.gdw {v : Val} {x : V} (h : VR M (Fz (Gd G D) μ) H v x) : VR M (Fz (Gd G D) μ) (upd H D o) v x := h.lk lk_gd
/-- it is let go as nobody's -/
theorem SR.ungd (S : SR K M (Gd G D) μ H st) : SR K M G μ H st :=
  ⟨S.len, S.nd, fun n a c q1 q2 => (S.cell n a c q1 q2).weakG Gd.un, S.dead, fun a q g => S.apart a q (.inl g), fun a g => S.there a (.inl g)⟩
theorem SR.gd_fz (S : SR K M (Gd G D) μ H st) (hg : ¬ G D) : Fz G μ D := ⟨hg, fun q => S.apart D q (.inr rfl)⟩
theorem VR.ungd {v : Val} {x : V} (h : VR M (Fz (Gd G D) μ) H v x) : VR M (Fz G μ) H v x := h.weakL Gd.un
/-- it becomes an own cell -/
theorem fz_adopt {a : Addr} (f : Fz (Gd G D) μ a) : Fz G (μ ++ [some D]) a := ⟨fun g => f.1 (.inl g), fun q => by
  rcases List.mem_append.mp q with q | q
  · exact f.2 q
  · have e : a = D := by simpa using q
    exact f.1 (.inr e)⟩
theorem VR.adopt {v : Val} {x : V} (h : VR M (Fz (Gd G D) μ) H v x) : VR M (Fz G (μ ++ [some D])) H v x := h.weakL fun _ _ f => fz_adopt f
theorem XR.adopt {x : X} {y : V} (h : XR K M (Gd G D) μ H x y) : XR K M G (μ ++ [some D]) H x y := by
  cases x with
  | v a => exact VR.adopt (show VR M (Fz (Gd G D) μ) H a y from h)
  | k xs => exact h
  | r n =>
    obtain ⟨h1, h2⟩ := (show n < μ.length ∧ ∀ a, μ[n]? = some (some a) → y = .ref a from h)
    exact ⟨by simp; omega, fun a q => h2 a (by rw [List.getElem?_append_left h1] at q; exact q)⟩
theorem CR.adopt {c : Cell} {a : Addr} (h : CR K M (Gd G D) μ H c a) : CR K M G (μ ++ [some D]) H c a := by
  cases c with
  | lst xs => obtain ⟨ys, q, p⟩ := h; exact ⟨ys, q, pmono (fun _ _ => VR.adopt) p⟩
  | rls ns => obtain ⟨ys, q, p⟩ := h; exact ⟨ys, q, pmono (fun _ _ => XR.adopt) p⟩
  | dct t ks vs =>
    cases t with
    | false => obtain ⟨kvs, q, p, r⟩ := h; exact ⟨kvs, q, p, pmono (fun _ _ => VR.adopt) r⟩
    | true => obtain ⟨kvs, q, p, r⟩ := h; exact ⟨kvs, q, p, pmono (fun _ _ => VR.adopt) r⟩
  | ins c ns vs => obtain ⟨C, dx, fs, q, c1, c2, r⟩ := h; exact ⟨C, dx, fs, q, c1, c2, pmono (fun _ _ => XR.adopt) r⟩
  | dead => exact h.elim
theorem SR.adopt (S : SR K M (Gd G D) μ H st) (hg : ¬ G D) {c : Cell} (hc : CR K M (Gd G D) μ H c D) : SR K M G (μ ++ [some D]) H (st ++ [c]) := by
  have at_ : ∀ (n : Nat) (a : Addr), (μ ++ [some D])[n]? = some (some a) → (n < μ.length ∧ μ[n]? = some (some a)) ∨ (n = μ.length ∧ a = D) := fun n a q => by
    by_cases hn : n < μ.length
    · rw [List.getElem?_append_left hn] at q; exact .inl ⟨hn, q⟩
    · rw [List.getElem?_append_right (by omega)] at q
      have h0 : n - μ.length = 0 := by
        cases h1 : n - μ.length with
        | zero => rfl
        | succ k => rw [h1] at q; simp at q
      rw [h0] at q
      have : D = a := by simpa using q
      exact .inr ⟨by omega, this.symm⟩
  have fp := S.gd_fz hg
  refine ⟨by simp [S.len], fun i j a q1 q2 => ?_, fun n a c' q1 q2 => ?_, fun n q => ?_, fun a q => ?_, fun a g => S.there a (.inl g)⟩
  · rcases at_ i a q1 with ⟨h1, r1⟩ | ⟨h1, r1⟩ <;> rcases at_ j a q2 with ⟨h2, r2⟩ | ⟨h2, r2⟩
    · exact S.nd i j a r1 r2
    · subst r2; exact absurd (List.mem_of_getElem? r1) fp.2
    · subst r1; exact absurd (List.mem_of_getElem? r2) fp.2
    · omega
  · rcases at_ n a q1 with ⟨h1, r1⟩ | ⟨h1, r1⟩
    · rw [List.getElem?_append_left (by rw [← S.len]; exact h1)] at q2
      exact (S.cell n a c' r1 q2).adopt
    · subst r1
      rw [h1, S.len, List.getElem?_append_right (Nat.le_refl _)] at q2
      simp at q2
      subst q2
      exact hc.adopt
  · by_cases hn : n < μ.length
    · rw [List.getElem?_append_left hn] at q
      rw [List.getElem?_append_left (by rw [← S.len]; exact hn)]
      exact S.dead n q
    · rw [List.getElem?_append_right (by omega)] at q
      cases h1 : n - μ.length with
      | zero => rw [h1] at q; simp at q
      | succ k => rw [h1] at q; simp at q
  · rcases List.mem_append.mp q with q | q
    · exact fun g => S.apart a q (.inl g)
    · have e : a = D := by simpa using q
      subst e
      exact hg
end

/-! ### what is walked -/
/-- J walks w, from the state μ1 H1 on -/
structure Jw0 (K : PySem.W.Frag) (M : Nms) (G : Addr → Prop) (J : It) (w : Wk) (μ1 : Mu) (H1 : Hp) : Prop where
  turn : ∀ (G' : Addr → Prop) (μ : Mu) (H : Hp) (st : Store) (i : Nat) (x : Val), (∀ a, G' a → G a ∨ H1 a = none) → Ext μ1 H1 μ H → SR K M G' μ H st → okG w.g w.xs st = true → w.xs[i]? = some x →
    J.go i H ∧ ∀ y H', J.yld i H y H' → (∀ a o, H a = some o → H' a = some o) ∧ VR M (Fz G' μ) H' x y
  stop : ∀ (G' : Addr → Prop) (μ : Mu) (H : Hp) (st : Store), (∀ a, G' a → G a ∨ H1 a = none) → Ext μ1 H1 μ H → SR K M G' μ H st → okG w.g w.xs st = true → J.stop w.xs.length H
section
variable {K : PySem.W.Frag} {M : Nms} {G : Addr → Prop} {μ1 : Mu} {H1 : Hp}
/-- a value that is there at the beginning stays -/
theorem stays {G' : Addr → Prop} {μ : Mu} {H : Hp} {v : Val} {y : V} (hg : ∀ a, G' a → G a ∨ H1 a = none) (e : Ext μ1 H1 μ H) (h : VR M (Fz G μ1) H1 v y) : VR M (Fz G' μ) H v y :=
  VR.ext e (h.weakL fun a ha f => ⟨fun g => (hg a g).elim f.1 ha, f.2⟩)
theorem jw0_list {a : Addr} {xs : List Val} {ys : List V} (h : LstAt (Fz G μ1) H1 a ys) (p : Paired (VR M (Fz G μ1) H1) xs ys) : Jw0 K M G (Itl K a) ⟨none, xs⟩ μ1 H1 := by
  have rd : ∀ {G' : Addr → Prop} {μ : Mu} {H : Hp}, Ext μ1 H1 μ H → SqL K H a ys := fun e => .inl (e.rd h.2 h.1).1
  refine ⟨fun G' μ H st i x hg e S _ hx => ?_, fun G' μ H st hg e S _ => ⟨ys, rd (G' := G') e, by rw [← plen p]; exact Nat.le_refl _⟩⟩
  obtain ⟨y, hy, ry⟩ := pget p (show xs[i]? = some x from hx)
  refine ⟨⟨ys, y, rd (G' := G') e, hy⟩, fun z H' hz => ?_⟩
  obtain ⟨rfl, hz⟩ := hz
  have := hz ys (rd (G' := G') e)
  rw [hy] at this
  cases this
  exact ⟨fun _ _ q => q, stays hg e ry⟩
theorem jw0_tup {a : Addr} {xs : List Val} {ys : List V} (h : TupAt (Fz G μ1) H1 a ys) (p : Paired (VR M (Fz G μ1) H1) xs ys) : Jw0 K M G (Itt K a) ⟨none, xs⟩ μ1 H1 := by
  have rd : ∀ {G' : Addr → Prop} {μ : Mu} {H : Hp}, Ext μ1 H1 μ H → SqT K H a ys := fun e => .inl (.inl (e.same a _ h.1 h.2.2))
  refine ⟨fun G' μ H st i x hg e S _ hx => ?_, fun G' μ H st hg e S _ => ⟨ys, rd (G' := G') e, by rw [← plen p]; exact Nat.le_refl _⟩⟩
  obtain ⟨y, hy, ry⟩ := pget p (show xs[i]? = some x from hx)
  refine ⟨⟨ys, y, rd (G' := G') e, hy⟩, fun z H' hz => ?_⟩
  obtain ⟨rfl, hz⟩ := hz
  have := hz ys (rd (G' := G') e)
  rw [hy] at this
  cases this
  exact ⟨fun _ _ q => q, stays hg e ry⟩
mutual
theorem beq_eq : ∀ a b : Val, a.beq b = true → a = b
  | .none, b, h => by cases b <;> first | rfl | (simp [Val.beq] at h)
  | .bool a, b, h => by cases b <;> first | (simp [Val.beq] at h; subst h; rfl) | (simp [Val.beq] at h)
  | .int a, b, h => by cases b <;> first | (simp [Val.beq] at h; subst h; rfl) | (simp [Val.beq] at h)
  | .str a, b, h => by cases b <;> first | (simp [Val.beq] at h; subst h; rfl) | (simp [Val.beq] at h)
  | .tup a, b, h => by
    cases b with
    | tup c => simp only [Val.beq] at h; rw [beqs_eq a c h]
    | _ => simp [Val.beq] at h
  | .lst a, b, h => by
    cases b with
    | lst c => simp only [Val.beq] at h; rw [beqs_eq a c h]
    | _ => simp [Val.beq] at h
  | .dct t ks vs, b, h => by
    cases b with
    | dct u k2 v2 =>
      simp only [Val.beq, Bool.and_eq_true, beq_iff_eq] at h
      obtain ⟨⟨h1, h2⟩, h3⟩ := h
      rw [h1, beqs_eq ks k2 h2, beqs_eq vs v2 h3]
    | _ => simp [Val.beq] at h
  | .obj c ns vs, b, h => by
    cases b with
    | obj d ms ws =>
      simp only [Val.beq, Bool.and_eq_true, beq_iff_eq] at h
      obtain ⟨⟨h1, h2⟩, h3⟩ := h
      rw [h1, h2, beqs_eq vs ws h3]
    | _ => simp [Val.beq] at h
theorem beqs_eq : ∀ a b : List Val, beqL a b = true → a = b
  | [], b, h => by cases b <;> first | rfl | (simp [beqL] at h)
  | x :: r, b, h => by
    cases b with
    | nil => simp [beqL] at h
    | cons y t =>
      simp only [beqL, Bool.and_eq_true] at h
      rw [beq_eq x y h.1, beqs_eq r t h.2]
end
theorem jw0_own {n : Nat} {a : Addr} {xs : List Val} (hn : μ1[n]? = some (some a)) (hl : n < μ1.length) : Jw0 K M G (Itl K a) ⟨some n, xs⟩ μ1 H1 := by
  have at_ : ∀ {G' : Addr → Prop} {μ : Mu} {H : Hp} {st : Store}, Ext μ1 H1 μ H → SR K M G' μ H st → okG (some n) xs st = true → ∃ ys, H a = some (.lst ys) ∧ Paired (VR M (Fz G' μ) H) xs ys := fun {G' μ H st} e S ok => by
    unfold okG at ok
    simp only at ok
    split at ok
    · rename_i zs hz
      have := beqs_eq _ _ ok
      subst this
      obtain ⟨b, hb, ys, q, p⟩ := S.addr hz (by simp)
      have e1 := e.pre n b hl hb
      rw [hn] at e1
      cases e1
      exact ⟨ys, q, p⟩
    · cases ok
  refine ⟨fun G' μ H st i x hg e S ok hx => ?_, fun G' μ H st hg e S ok => ?_⟩
  · obtain ⟨ys, q, p⟩ := at_ e S ok
    obtain ⟨y, hy, ry⟩ := pget p (show xs[i]? = some x from hx)
    refine ⟨⟨ys, y, .inl (.inl q), hy⟩, fun z H' hz => ?_⟩
    obtain ⟨rfl, hz⟩ := hz
    have := hz ys (.inl (.inl q))
    rw [hy] at this
    cases this
    exact ⟨fun _ _ q => q, ry⟩
  · obtain ⟨ys, q, p⟩ := at_ e S ok
    exact ⟨ys, .inl (.inl q), by rw [← plen p]; exact Nat.le_refl _⟩
theorem jw0_str {s : Tx} (hc : ∀ c ∈ s, c < 1114112) : Jw0 K M G (Its (⟨s.toArray⟩ : Str)) ⟨none, s.map fun c => .str [c]⟩ μ1 H1 := by
  refine ⟨fun G' μ H st i x hg e S _ hx => ?_, fun G' μ H st hg e S _ => by simp [Its]⟩
  have hx : (s.map fun c => Val.str [c])[i]? = some x := hx
  rw [List.getElem?_map] at hx
  cases e1 : s[i]? with
  | none => rw [e1] at hx; cases hx
  | some c =>
    rw [e1] at hx
    cases hx
    have hi : i < s.length := (List.getElem?_eq_some_iff.mp e1).1
    refine ⟨by simpa [Its] using hi, fun z H' hz => ?_⟩
    obtain ⟨rfl, d, hd, rfl⟩ := hz
    have : d = c := by
      have h2 : (s.toArray)[i]? = some d := hd
      rw [List.getElem?_toArray, e1] at h2
      exact (Option.some.inj h2).symm
    subst this
    refine ⟨fun _ _ q => q, VR.str_i.mpr ⟨rfl, fun c' h' => ?_⟩⟩
    have : c' = d := by simpa using h'
    subst this
    exact hc _ (List.mem_of_getElem? e1)
theorem jw0_range {lo : Int} {n : Nat} : Jw0 K M G (Itr lo n) ⟨none, (List.range n).map fun i : Nat => .int (lo + i)⟩ μ1 H1 := by
  refine ⟨fun G' μ H st i x hg e S _ hx => ?_, fun G' μ H st hg e S _ => by simp [Itr]⟩
  have hx : ((List.range n).map fun i : Nat => Val.int (lo + i))[i]? = some x := hx
  rw [List.getElem?_map] at hx
  by_cases hi : i < n
  · rw [List.getElem?_range hi] at hx
    cases hx
    refine ⟨hi, fun z H' hz => ?_⟩
    obtain ⟨rfl, rfl⟩ := hz
    exact ⟨fun _ _ q => q, VR.int_i.mpr rfl⟩
  · rw [List.getElem?_eq_none (by simpa using hi)] at hx
    cases hx
theorem jw0_rangeC {lo : Int} {n : Nat} : Jw0 K M G (Itc lo (-1) n) ⟨none, (List.range n).map fun i : Nat => .int (lo - i)⟩ μ1 H1 := by
  refine ⟨fun G' μ H st i x hg e S _ hx => ?_, fun G' μ H st hg e S _ => by simp [Itc]⟩
  have hx : ((List.range n).map fun i : Nat => Val.int (lo - i))[i]? = some x := hx
  rw [List.getElem?_map] at hx
  by_cases hi : i < n
  · rw [List.getElem?_range hi] at hx
    cases hx
    refine ⟨hi, fun z H' hz => ?_⟩
    obtain ⟨rfl, rfl⟩ := hz
    exact ⟨fun _ _ q => q, VR.int_i.mpr (by congr 1; omega)⟩
  · rw [List.getElem?_eq_none (by simpa using hi)] at hx
    cases hx
/-- a new pair -/
theorem pair_new {G' : Addr → Prop} {μ : Mu} {H : Hp} {st : Store} {t : Addr} {x y : V} {v w : Val} (S : SR K M G' μ H st) (ht : H t = none) (hx : VR M (Fz G' μ) H v x) (hy : VR M (Fz G' μ) H w y) :
    (∀ a o, H a = some o → upd H t (.tup [x, y]) a = some o) ∧ VR M (Fz G' μ) (upd H t (.tup [x, y])) (.tup [v, w]) (.ref t) := by
  have g := grow_upd (o := HO.tup [x, y]) ht
  exact ⟨g, VR.tup_i.mpr ⟨t, [x, y], rfl, ⟨upd_same, S.fresh ht⟩, .cons (hx.ext (Ext.grow g)) (.cons (hy.ext (Ext.grow g)) .nil)⟩⟩
theorem enumV_get {xs : List Val} {i : Nat} {x : Val} (h : (enumV xs)[i]? = some x) : ∃ y, xs[i]? = some y ∧ x = .tup [.int i, y] := by
  unfold enumV at h
  rw [List.getElem?_map, List.getElem?_zipIdx] at h
  cases e : xs[i]? with
  | none => rw [e] at h; cases h
  | some y => rw [e] at h; cases h; exact ⟨y, rfl, by simp⟩
theorem jw0_enum {a : Addr} {xs : List Val} {ys : List V} (h : LstAt (Fz G μ1) H1 a ys) (p : Paired (VR M (Fz G μ1) H1) xs ys) : Jw0 K M G (Ite K a) ⟨none, enumV xs⟩ μ1 H1 := by
  have rd : ∀ {G' : Addr → Prop} {μ : Mu} {H : Hp}, Ext μ1 H1 μ H → SqL K H a ys := fun e => .inl (e.rd h.2 h.1).1
  refine ⟨fun G' μ H st i x hg e S _ hx => ?_, fun G' μ H st hg e S _ => ⟨ys, rd (G' := G') e, by rw [← plen p]; simp [enumV]⟩⟩
  obtain ⟨v, hv, rfl⟩ := enumV_get (show (enumV xs)[i]? = some x from hx)
  obtain ⟨y, hy, ry⟩ := pget p hv
  refine ⟨⟨ys, y, rd (G' := G') e, hy⟩, fun z H' hz => ?_⟩
  obtain ⟨t, y', rfl, ht, rfl, hz⟩ := hz
  have := hz ys (rd (G' := G') e)
  rw [hy] at this
  cases this
  exact pair_new S ht (VR.int_i.mpr rfl) (stays hg e ry)
theorem zipV_get : ∀ {xs ys : List Val} {i : Nat} {x : Val}, (zipV xs ys)[i]? = some x → ∃ v w, xs[i]? = some v ∧ ys[i]? = some w ∧ x = .tup [v, w]
  | [], _, _, _, h => by simp [zipV] at h
  | _ :: _, [], _, _, h => by simp [zipV] at h
  | a :: xs, b :: ys, 0, x, h => by
    have h : some (Val.tup [a, b]) = some x := h
    cases h
    exact ⟨a, b, rfl, rfl, rfl⟩
  | a :: xs, b :: ys, i + 1, x, h => by
    obtain ⟨v, w, h1, h2, h3⟩ := zipV_get (xs := xs) (ys := ys) (i := i) (x := x) h
    exact ⟨v, w, h1, h2, h3⟩
theorem jw0_zipL {a b : Addr} {xs zs : List Val} {ys ws : List V} (h : LstAt (Fz G μ1) H1 a ys) (h' : LstAt (Fz G μ1) H1 b ws) (p : Paired (VR M (Fz G μ1) H1) xs ys) (p' : Paired (VR M (Fz G μ1) H1) zs ws) : Jw0 K M G (Itz K a b) ⟨none, zipV xs zs⟩ μ1 H1 := by
  have rd : ∀ {G' : Addr → Prop} {μ : Mu} {H : Hp}, Ext μ1 H1 μ H → SqL K H a ys ∧ SqL K H b ws := fun e => ⟨.inl (e.rd h.2 h.1).1, .inl (e.rd h'.2 h'.1).1⟩
  refine ⟨fun G' μ H st i x hg e S _ hx => ?_, fun G' μ H st hg e S _ => ⟨ys, ws, (rd (G' := G') e).1, (rd (G' := G') e).2, by rw [← plen p, ← plen p']; simp [zipV]; omega⟩⟩
  obtain ⟨v, w, hv, hw, rfl⟩ := zipV_get (show (zipV xs zs)[i]? = some x from hx)
  obtain ⟨y, hy, ry⟩ := pget p hv
  obtain ⟨y2, hy2, ry2⟩ := pget p' hw
  refine ⟨⟨ys, ws, y, y2, (rd (G' := G') e).1, (rd (G' := G') e).2, hy, hy2⟩, fun z H' hz => ?_⟩
  obtain ⟨t, a1, a2, rfl, ht, rfl, hz, hz2⟩ := hz
  have e1 := hz ys (rd (G' := G') e).1
  have e2 := hz2 ws (rd (G' := G') e).2
  rw [hy] at e1
  rw [hy2] at e2
  cases e1
  cases e2
  exact pair_new S ht (stays hg e ry) (stays hg e ry2)
theorem jw0_zipT {a b : Addr} {xs zs : List Val} {ys ws : List V} (h : TupAt (Fz G μ1) H1 a ys) (h' : TupAt (Fz G μ1) H1 b ws) (p : Paired (VR M (Fz G μ1) H1) xs ys) (p' : Paired (VR M (Fz G μ1) H1) zs ws) : Jw0 K M G (RZ.ItzT K a b) ⟨none, zipV xs zs⟩ μ1 H1 := by
  have rd : ∀ {G' : Addr → Prop} {μ : Mu} {H : Hp}, Ext μ1 H1 μ H → SqT K H a ys ∧ SqT K H b ws := fun e => ⟨.inl (.inl (e.same a _ h.1 h.2.2)), .inl (.inl (e.same b _ h'.1 h'.2.2))⟩
  refine ⟨fun G' μ H st i x hg e S _ hx => ?_, fun G' μ H st hg e S _ => ⟨ys, ws, (rd (G' := G') e).1, (rd (G' := G') e).2, by rw [← plen p, ← plen p']; simp [zipV]; omega⟩⟩
  obtain ⟨v, w, hv, hw, rfl⟩ := zipV_get (show (zipV xs zs)[i]? = some x from hx)
  obtain ⟨y, hy, ry⟩ := pget p hv
  obtain ⟨y2, hy2, ry2⟩ := pget p' hw
  refine ⟨⟨ys, ws, y, y2, (rd (G' := G') e).1, (rd (G' := G') e).2, hy, hy2⟩, fun z H' hz => ?_⟩
  obtain ⟨t, a1, a2, rfl, ht, rfl, hz, hz2⟩ := hz
  have e1 := hz ys (rd (G' := G') e).1
  have e2 := hz2 ws (rd (G' := G') e).2
  rw [hy] at e1
  rw [hy2] at e2
  cases e1
  cases e2
  exact pair_new S ht (stays hg e ry) (stays hg e ry2)
/-- the pairs of a dict that is held -/
theorem jw0_items {d : Addr} {od : Obj} {kvs : List (Key × V)} {ks vs : List Val} (h : H1 d = some (.frz od (.dK kvs))) (hd : some d ∉ μ1) (pk : Paired KR ks (kvs.map (·.1))) (pv : Paired (VR M (Fz G μ1) H1) vs (kvs.map (·.2))) :
    Jw0 K M G (Iti d od kvs) ⟨none, zipV ks vs⟩ μ1 H1 := by
  have rd : ∀ {G' : Addr → Prop} {μ : Mu} {H : Hp}, Ext μ1 H1 μ H → H d = some (.frz od (.dK kvs)) := fun e => e.same d _ h hd
  have hlen : (zipV ks vs).length = kvs.length := by
    have h1 := plen pk
    have h2 := plen pv
    simp only [List.length_map] at h1 h2
    simp [zipV, h1, h2]
  refine ⟨fun G' μ H st i x hg e S _ hx => ?_, fun G' μ H st hg e S _ => ⟨rd (G' := G') e, Nat.le_of_eq hlen.symm⟩⟩
  obtain ⟨v, w, hv, hw, rfl⟩ := zipV_get (show (zipV ks vs)[i]? = some x from hx)
  obtain ⟨k1, hk1, rk1⟩ := pget pk hv
  obtain ⟨y1, hy1, ry1⟩ := pget pv hw
  have hi : i < kvs.length := by
    have := (List.getElem?_eq_some_iff.mp hk1).1
    simpa using this
  refine ⟨⟨rd (G' := G') e, hi⟩, fun z H' hz => ?_⟩
  obtain ⟨t, k2, v2, e1, rfl, ht, rfl⟩ := hz
  rw [List.getElem?_map, e1] at hk1 hy1
  cases hk1
  cases hy1
  refine pair_new S ht ?_ (stays hg e ry1)
  cases v with
  | str s =>
    cases k2 with
    | inl i => exact rk1.elim
    | inr z => obtain ⟨rfl, hc⟩ := rk1; exact VR.str_i.mpr ⟨rfl, hc⟩
  | int j =>
    cases k2 with
    | inl i => cases (show i = j from rk1); exact VR.int_i.mpr rfl
    | inr z => exact rk1.elim
  | _ => exact (show False from rk1).elim
/-- H0 has what H1 has, but for what is guarded -/
def Wo (G : Addr → Prop) (H0 H1 : Hp) : Prop := ∀ a, ¬ G a → H0 a = H1 a
/-- J walks w, whatever becomes of what is guarded -/
def Jw (K : PySem.W.Frag) (M : Nms) (G : Addr → Prop) (J : It) (w : Wk) (μ1 : Mu) (H1 : Hp) : Prop := ∀ H0, Wo G H0 H1 → Jw0 K M G J w μ1 H0
theorem Jw.turn {J : It} {w : Wk} (h : Jw K M G J w μ1 H1) (G' : Addr → Prop) (μ : Mu) (H : Hp) (st : Store) (i : Nat) (x : Val) (hg : ∀ a, G' a → G a ∨ H1 a = none) (e : Ext μ1 H1 μ H) (S : SR K M G' μ H st) (ok : okG w.g w.xs st = true) (hx : w.xs[i]? = some x) :
    J.go i H ∧ ∀ y H', J.yld i H y H' → (∀ a o, H a = some o → H' a = some o) ∧ VR M (Fz G' μ) H' x y := (h H1 fun _ _ => rfl).turn G' μ H st i x hg e S ok hx
theorem Jw.stop {J : It} {w : Wk} (h : Jw K M G J w μ1 H1) (G' : Addr → Prop) (μ : Mu) (H : Hp) (st : Store) (hg : ∀ a, G' a → G a ∨ H1 a = none) (e : Ext μ1 H1 μ H) (S : SR K M G' μ H st) (ok : okG w.g w.xs st = true) : J.stop w.xs.length H := (h H1 fun _ _ => rfl).stop G' μ H st hg e S ok
theorem Wo.lk {H0 : Hp} (h : Wo G H0 H1) : Lk (Fz G μ1) H1 H0 := fun a o f q => ⟨o, (h a f.1).trans q, rfl⟩
theorem Wo.vr {H0 : Hp} (h : Wo G H0 H1) {v : Val} {y : V} (r : VR M (Fz G μ1) H1 v y) : VR M (Fz G μ1) H0 v y := r.lk h.lk
theorem Wo.vrs {H0 : Hp} (h : Wo G H0 H1) {xs : List Val} {ys : List V} (p : Paired (VR M (Fz G μ1) H1) xs ys) : Paired (VR M (Fz G μ1) H0) xs ys := pmono (fun _ _ q => h.vr q) p
theorem Wo.lst {H0 : Hp} (h : Wo G H0 H1) {a : Addr} {ys : List V} (l : LstAt (Fz G μ1) H1 a ys) : LstAt (Fz G μ1) H0 a ys := ⟨l.1.imp (fun q => (h a l.2.1).trans q) fun ⟨o, q⟩ => ⟨o, (h a l.2.1).trans q⟩, l.2⟩
theorem Wo.tup {H0 : Hp} (h : Wo G H0 H1) {a : Addr} {ys : List V} (l : TupAt (Fz G μ1) H1 a ys) : TupAt (Fz G μ1) H0 a ys := ⟨(h a l.2.1).trans l.1, l.2⟩
theorem jw_list {a : Addr} {xs : List Val} {ys : List V} (h : LstAt (Fz G μ1) H1 a ys) (p : Paired (VR M (Fz G μ1) H1) xs ys) : Jw K M G (Itl K a) ⟨none, xs⟩ μ1 H1 := fun _ o => jw0_list (o.lst h) (o.vrs p)
theorem jw_tup {a : Addr} {xs : List Val} {ys : List V} (h : TupAt (Fz G μ1) H1 a ys) (p : Paired (VR M (Fz G μ1) H1) xs ys) : Jw K M G (Itt K a) ⟨none, xs⟩ μ1 H1 := fun _ o => jw0_tup (o.tup h) (o.vrs p)
theorem jw_own {n : Nat} {a : Addr} {xs : List Val} (hn : μ1[n]? = some (some a)) (hl : n < μ1.length) : Jw K M G (Itl K a) ⟨some n, xs⟩ μ1 H1 := fun _ _ => jw0_own hn hl
theorem jw_str {s : Tx} (hc : ∀ c ∈ s, c < 1114112) : Jw K M G (Its (⟨s.toArray⟩ : Str)) ⟨none, s.map fun c => .str [c]⟩ μ1 H1 := fun _ _ => jw0_str hc
theorem jw_range {lo : Int} {n : Nat} : Jw K M G (Itr lo n) ⟨none, (List.range n).map fun i : Nat => .int (lo + i)⟩ μ1 H1 := fun _ _ => jw0_range
theorem jw_rangeC {lo : Int} {n : Nat} : Jw K M G (Itc lo (-1) n) ⟨none, (List.range n).map fun i : Nat => .int (lo - i)⟩ μ1 H1 := fun _ _ => jw0_rangeC
theorem jw_enum {a : Addr} {xs : List Val} {ys : List V} (h : LstAt (Fz G μ1) H1 a ys) (p : Paired (VR M (Fz G μ1) H1) xs ys) : Jw K M G (Ite K a) ⟨none, enumV xs⟩ μ1 H1 := fun _ o => jw0_enum (o.lst h) (o.vrs p)
theorem jw_zipL {a b : Addr} {xs zs : List Val} {ys ws : List V} (h : LstAt (Fz G μ1) H1 a ys) (h' : LstAt (Fz G μ1) H1 b ws) (p : Paired (VR M (Fz G μ1) H1) xs ys) (p' : Paired (VR M (Fz G μ1) H1) zs ws) : Jw K M G (Itz K a b) ⟨none, zipV xs zs⟩ μ1 H1 := fun _ o => jw0_zipL (o.lst h) (o.lst h') (o.vrs p) (o.vrs p')
theorem jw_zipT {a b : Addr} {xs zs : List Val} {ys ws : List V} (h : TupAt (Fz G μ1) H1 a ys) (h' : TupAt (Fz G μ1) H1 b ws) (p : Paired (VR M (Fz G μ1) H1) xs ys) (p' : Paired (VR M (Fz G μ1) H1) zs ws) : Jw K M G (RZ.ItzT K a b) ⟨none, zipV xs zs⟩ μ1 H1 := fun _ o => jw0_zipT (o.tup h) (o.tup h') (o.vrs p) (o.vrs p')
theorem jw_items {d : Addr} {od : Obj} {kvs : List (Key × V)} {ks vs : List Val} (h : H1 d = some (.frz od (.dK kvs))) (fd : Fz G μ1 d) (pk : Paired KR ks (kvs.map (·.1))) (pv : Paired (VR M (Fz G μ1) H1) vs (kvs.map (·.2))) :
    Jw K M G (Iti d od kvs) ⟨none, zipV ks vs⟩ μ1 H1 := fun _ o => jw0_items ((o d fd.1).trans h) fd.2 pk (o.vrs pv)
end
end KG

set_option linter.all false
set_option maxRecDepth 100000
set_option maxHeartbeats 4000000
/-! K1l: iterables, targets. -/
namespace KG
open PySem PySem.Spec PyProof.Rows L2

def tI (K : PySem.W.Frag) (T : Tab) (W : WX) (f : KG.Env → Store → R Wk) : TI := fun σ H R => ∃ (G : Addr → Prop) (μ : Mu) (env : KG.Env) (st : Store), SR K T.nms G μ H st ∧ ER K T.nms G μ H env σ ∧
  Post K T.nms G (fun μ H w J => Jw K T.nms G J w μ H) μ H (f env st) R (bW T G W σ)
theorem _root_.L2.PI.weak {X : Cx} {tg e : Expr} {t t' : TI} (h : PI X tg e t) (w : ∀ σ H Q, t' σ H Q → t σ H Q) : PI X tg e t' := ⟨fun pins s σ H Q I q => h.run pins s σ H Q I (w σ H Q q)⟩
section
variable {X : Cx} {T : Tab} {P : Prg} {k lv : Nat} {W : WX} {a b c e tg : Expr} {es : List Expr} {pos apos p : Pos} {f g h : KG.Env → Store → R KG.X}
theorem i_over (ha : PE X a (tE X.K T W f)) : PI X tg a (tI X.K T W fun env st => (f env st).bind overV) := by
  refine ⟨fun pins s σ H R I ⟨G, μ, env, st, S, E, Po⟩ => ?_⟩
  have Po : Post X.K T.nms G (fun μ H w J => Jw X.K T.nms G J w μ H) μ H ((f env st).bind overV) R (bW T G W σ) := Po
  cases hf : f env st with
  | bad => rw [hf] at Po; exact Po.elim
  | exc c ns vs st1 =>
    rw [hf] at Po
    exact (pi_list ha).run pins s σ H R I ⟨G, μ, env, st, S, E, by rw [hf]; exact Po⟩
  | ok x st1 =>
    rw [hf] at Po
    have Po : Post X.K T.nms G (fun μ H w J => Jw X.K T.nms G J w μ H) μ H (overV x st1) R (bW T G W σ) := Po
    unfold overV at Po
    split at Po
    · refine (pi_list ha).run pins s σ H R I ⟨G, μ, env, st, S, E, ?_⟩
      rw [hf]
      intro μ' H' y e S' r
      obtain ⟨ad, ys, rfl, q, pq⟩ := VR.lst_i.mp r
      exact ⟨ad, rfl, ⟨ys, .inl q.1⟩, Po.at e S' (jw_list q pq)⟩
    · refine (pi_tup ha).run pins s σ H R I ⟨G, μ, env, st, S, E, ?_⟩
      rw [hf]
      intro μ' H' y e S' r
      obtain ⟨ad, ys, rfl, q, pq⟩ := VR.tup_i.mp r
      exact ⟨ad, rfl, ⟨ys, q.sq⟩, Po.at e S' (jw_tup q pq)⟩
    · refine (pi_str ha).run pins s σ H R I ⟨G, μ, env, st, S, E, ?_⟩
      rw [hf]
      intro μ' H' y e S' r
      obtain ⟨rfl, hc⟩ := VR.str_i.mp r
      exact ⟨_, rfl, Po.at e S' (jw_str hc)⟩
    · rename_i n
      split at Po
      · rename_i xs hx
        refine (pi_list ha).run pins s σ H R I ⟨G, μ, env, st, S, E, ?_⟩
        rw [hf]
        intro μ' H' y e S' r
        obtain ⟨ad, had, ys, q, pq⟩ := S'.addr hx (by simp)
        have hy := r.at had
        subst hy
        exact ⟨ad, rfl, ⟨ys, .inl (.inl q)⟩, Po.at e S' (jw_own had (List.getElem?_eq_some_iff.mp had).1)⟩
      · exact Po.elim
    · exact Po.elim
theorem wkR_some {K : PySem.W.Frag} {M : Nms} {G : Addr → Prop} {μ : Mu} {H : Hp} {st : Store} {β : Type} {rel : Mu → Hp → Wk → β → Prop} {o : Option (List Val)} {Q : β → Hp → Prop} {B : EW} (h : Post K M G rel μ H (wkR o st) Q B) : ∃ xs, o = some xs ∧ Post K M G rel μ H (.ok ⟨none, xs⟩ st) Q B := by
  cases o with
  | none => exact h.elim
  | some a => exact ⟨a, rfl, h⟩
theorem rangeV_up {i j : Int} {xs : List Val} (h : rangeV i j 1 = some xs) : (-(2 ^ 62) ≤ i ∧ i < 2 ^ 62 ∧ -(2 ^ 62) ≤ j ∧ j < 2 ^ 62) ∧ xs = (List.range (j - i).toNat).map fun n : Nat => .int (i + n) := by
  unfold rangeV at h
  split at h
  · rename_i hb
    rw [if_pos rfl] at h
    cases h
    have e : (2 : Int) ^ 62 = 4611686018427387904 := by decide
    rw [e]
    exact ⟨⟨by omega, by omega, by omega, by omega⟩, rfl⟩
  · cases h
theorem rangeV_dn {i j : Int} {xs : List Val} (h : rangeV i j (-1) = some xs) : (-(2 ^ 62) ≤ i ∧ i < 2 ^ 62 ∧ -(2 ^ 62) ≤ j ∧ j < 2 ^ 62) ∧ xs = (List.range (i - j).toNat).map fun n : Nat => .int (i - n) := by
  unfold rangeV at h
  split at h
  · rename_i hb
    rw [if_neg (by decide), if_pos rfl] at h
    cases h
    have e : (2 : Int) ^ 62 = 4611686018427387904 := by decide
    rw [e]
    exact ⟨⟨by omega, by omega, by omega, by omega⟩, rfl⟩
  · cases h
theorem i_rng1 (hg : Gl X "range") (hm : X.mg "range" = none) (ha : PE X a (tE X.K T W f)) (hs : notStar a = true) :
    PI X tg (.Call (.Name "range" p) [a] [] pos) (tI X.K T W fun env st => (f env st).bind fun x st => rngV (.v (.int 0)) x (.v (.int 1)) st) :=
  (pi_range1 hg hm (pa_cons ha pa_nil (star_ok hs)) (star_ok hs)).weak fun σ H R ⟨G, μ, env, st, S, E, Po⟩ => tE.fst S E Po fun x z st1 μ1 H1 S1 E1 X1 r1 P1 => by
    cases z with
    | r n => exact P1.elim
    | k xs => exact P1.elim
    | v v =>
      cases v with
      | int j =>
        cases VR.int_i.mp (show VR T.nms (Fz G μ1) H1 _ _ from r1)
        obtain ⟨xs, e, P2⟩ := wkR_some (show Post X.K T.nms G (fun μ H w J => Jw X.K T.nms G J w μ H) μ1 H1 (wkR (rangeV 0 j 1) st1) R (bW T G W σ) from P1)
        obtain ⟨hb, rfl⟩ := rangeV_up e
        refine ⟨_, rfl, hb.2.2.1, hb.2.2.2, P2.here S1 ?_⟩
        rw [Int.sub_zero]
        exact jw_range
      | _ => exact P1.elim
theorem i_rng2 (hg : Gl X "range") (hm : X.mg "range" = none) (ha : PE X a (tE X.K T W f)) (hb : PE X b (tE X.K T W g)) (hs : [a, b].all notStar = true) :
    PI X tg (.Call (.Name "range" p) [a, b] [] pos) (tI X.K T W fun env st => (f env st).bind fun x st => (g env st).bind fun y st => rngV x y (.v (.int 1)) st) := by
  simp only [List.all_cons, Bool.and_eq_true] at hs
  refine (pi_range2 hg hm (pa_cons ha (pa_cons hb pa_nil (star_ok hs.2.1)) (star_ok hs.1)) (by rw [star_ok hs.1, star_ok hs.2.1]; rfl) (star_ok hs.2.1)).weak fun σ H R ⟨G, μ, env, st, S, E, Po⟩ =>
    tE.fst S E Po fun x z st1 μ1 H1 S1 E1 X1 r1 P1 => tE.fst S1 E1 P1 fun y z2 st2 μ2 H2 S2 E2 X2 r2 P2 => ?_
  unfold rngV at P2
  split at P2
  · rename_i i j k' e3
    cases e3
    cases VR.int_i.mp (show VR T.nms (Fz G μ1) H1 _ _ from r1)
    cases VR.int_i.mp (show VR T.nms (Fz G μ2) H2 _ _ from r2)
    obtain ⟨xs, e, P3⟩ := wkR_some P2
    obtain ⟨hb, rfl⟩ := rangeV_up e
    exact ⟨i, j, rfl, hb, P3.here S2 jw_range⟩
  · exact P2.elim
theorem i_rng3 (hg : Gl X "range") (hm : X.mg "range" = none) (ha : PE X a (tE X.K T W f)) (hb : PE X b (tE X.K T W g)) (hc : PE X c (tE X.K T W h)) (hs : [a, b, c].all notStar = true) :
    PI X tg (.Call (.Name "range" p) [a, b, c] [] pos) (tI X.K T W fun env st => (f env st).bind fun x st => (g env st).bind fun y st => (h env st).bind fun z st => rngD x y z st) := by
  have hs' := hs
  simp only [List.all_cons, Bool.and_eq_true] at hs
  refine (pi_range3 hg hm (pa_cons ha (pa_cons hb (pa_cons hc pa_nil (star_ok hs.2.2.1)) (star_ok hs.2.1)) (star_ok hs.1)) (star_ok hs.1) (back_ok (by simp only [List.all_cons, Bool.and_eq_true]; exact hs.2))).weak fun σ H R ⟨G, μ, env, st, S, E, Po⟩ =>
    tE.fst S E Po fun x z st1 μ1 H1 S1 E1 X1 r1 P1 => tE.fst S1 E1 P1 fun y z2 st2 μ2 H2 S2 E2 X2 r2 P2 => tE.fst S2 E2 P2 fun y3 z3 st3 μ3 H3 S3 E3 X3 r3 P3 => ?_
  unfold rngD at P3
  split at P3
  · rename_i i j
    cases VR.int_i.mp (show VR T.nms (Fz G μ1) H1 _ _ from r1)
    cases VR.int_i.mp (show VR T.nms (Fz G μ2) H2 _ _ from r2)
    cases VR.int_i.mp (show VR T.nms (Fz G μ3) H3 _ _ from r3)
    obtain ⟨xs, e, P4⟩ := wkR_some P3
    obtain ⟨hb, rfl⟩ := rangeV_dn e
    exact ⟨i, j, -1, (i - j).toNat, rfl, RgC.neg hb.1 hb.2.1 hb.2.2.1 hb.2.2.2, P4.here S3 jw_rangeC⟩
  · exact P3.elim
theorem i_enum {els : List Expr} {kk : Nat} {tpos : Pos} (hg : Gl X "enumerate") (hm : X.mg "enumerate" = none) (ha : PE X a (tE X.K T W f)) (hs : notStar a = true) :
    PI X (.Tuple els kk tpos) (.Call (.Name "enumerate" p) [a] [] pos) (tI X.K T W fun env st => (f env st).bind fun x st => wkR ((lstOf x).map enumV) st) :=
  (pi_enum hg hm (pa_cons ha pa_nil (star_ok hs)) (star_ok hs)).weak fun σ H R ⟨G, μ, env, st, S, E, Po⟩ => tE.fst S E Po fun x z st1 μ1 H1 S1 E1 X1 r1 P1 => by
    obtain ⟨xs, e, P2⟩ := wkR_some P1
    obtain ⟨ys, e1, e2⟩ := Option.map_eq_some_iff.mp e
    subst e2
    unfold lstOf at e1
    split at e1
    · cases e1
      obtain ⟨ad, ys, rfl, q, pq⟩ := VR.lst_i.mp r1
      exact ⟨ad, ys, rfl, .inl q.1, P2.here S1 (jw_enum q pq)⟩
    · cases e1
theorem i_zip {els : List Expr} {kk : Nat} {tpos : Pos} (hg : Gl X "zip") (hm : X.mg "zip" = none) (ha : PE X a (tE X.K T W f)) (hb : PE X b (tE X.K T W g)) (hs : [a, b].all notStar = true) :
    PI X (.Tuple els kk tpos) (.Call (.Name "zip" p) [a, b] [] pos) (tI X.K T W fun env st => (f env st).bind fun x st => (g env st).bind fun y st => wkR (zip2 x y) st) := by
  simp only [List.all_cons, Bool.and_eq_true] at hs
  refine (RZ.pi_zipA hg hm (pa_cons ha (pa_cons hb pa_nil (star_ok hs.2.1)) (star_ok hs.1)) (star_ok hs.1) (back_ok (by simp only [List.all_cons, Bool.and_eq_true]; exact hs.2))).weak fun σ H R ⟨G, μ, env, st, S, E, Po⟩ =>
    tE.fst S E Po fun x z st1 μ1 H1 S1 E1 X1 r1 P1 => tE.fst S1 E1 P1 fun y z2 st2 μ2 H2 S2 E2 X2 r2 P2 => ?_
  obtain ⟨xs, e, P3⟩ := wkR_some P2
  unfold zip2 at e
  split at e
  · cases e
    obtain ⟨ad, ys, rfl, q, pq⟩ := VR.lst_i.mp (show VR T.nms (Fz G μ2) H2 _ _ from r1.ext X2)
    obtain ⟨bd, zs, rfl, q', pq'⟩ := VR.lst_i.mp (show VR T.nms (Fz G μ2) H2 _ _ from r2)
    exact ⟨ad, bd, ys, zs, rfl, .inl ⟨.inl q.1, .inl q'.1, P3.here S2 (jw_zipL q q' pq pq')⟩⟩
  · cases e
    obtain ⟨ad, ys, rfl, q, pq⟩ := VR.tup_i.mp (show VR T.nms (Fz G μ2) H2 _ _ from r1.ext X2)
    obtain ⟨bd, zs, rfl, q', pq'⟩ := VR.tup_i.mp (show VR T.nms (Fz G μ2) H2 _ _ from r2)
    exact ⟨ad, bd, ys, zs, rfl, .inr ⟨q.sq, q'.sq, P3.here S2 (jw_zipT q q' pq pq')⟩⟩
  · cases e
/-! ### a dict that is held -/
theorem pk_ev {C : Ctx} {ce : CE} {env : KG.Env} {st : Store} {x : KG.X} (h : pkE C ce env st = some x) : evE C ce env st = .ok x st := by
  unfold pkE at h
  split at h
  · simp only [evE]; rw [h]; rfl
  · rename_i i n
    split at h
    · rename_i y hy
      simp only [evE]
      rw [hy]
      show attrV C y n st = _
      unfold attrV
      split at h
      · rename_i c hc
        split at h
        · rename_i h1 h2
          rw [h1, h2, h]
          rfl
        · cases h
      · cases h
    · cases h
  · cases h
/-- the value itself of a name, of a name's field -/
def PkR (K : PySem.W.Frag) (T : Tab) (ce : CE) (σ : L2.St) (H : Hp) (y : V) : Prop := match ce with
  | .var i => σ[i]? = some (some y)
  | .at (.var i) n => ∃ ad C dx fs, σ[i]? = some (some (.ref ad)) ∧ H ad = some (.ins C dx fs) ∧ Cls K C ∧ NoAttr K C (T.nms.att n) ∧ fs.lookup (T.nms.att n) = some y
  | _ => False
def tPk (K : PySem.W.Frag) (T : Tab) (ce : CE) : TE := fun σ H Q => ∃ y, PkR K T ce σ H y ∧ Q y H
theorem pk_ok {ce : CE} {env : KG.Env} {G : Addr → Prop} {μ : Mu} {H : Hp} {st : Store} {σ : L2.St} {x : KG.X} (L : Lnk X.prog X.w X.K X.mg X.base T P k lv) (hn : ∀ i n, ce = .at (.var i) n → n < T.natt) (S : SR X.K T.nms G μ H st) (E : ER X.K T.nms G μ H env σ) (h : pkE (P.ctx (callN P k)) ce env st = some x) :
    ∃ y, PkR X.K T ce σ H y ∧ XR X.K T.nms G μ H x y := by
  have slot : ∀ (i : Nat) (x : KG.X), env[i]?.join = some x → ∃ y, σ[i]? = some (some y) ∧ XR X.K T.nms G μ H x y := fun i x e => by
    cases e1 : env[i]? with
    | none => rw [e1] at e; cases e
    | some o =>
      rw [e1] at e
      have e : o = some x := e
      subst e
      exact E.2 i x e1
  unfold pkE at h
  split at h
  · exact slot _ _ h
  · rename_i i n
    split at h
    · rename_i z hz
      obtain ⟨y, h1, h2⟩ := slot i z hz
      split at h
      · rename_i c hc
        split at h
        · rename_i hp hm
          obtain ⟨ad, C, dx, fs, rfl, ea, hC, hfl⟩ := clsOf_ok L.inj S h2 hc
          obtain ⟨v, l, rv⟩ := (hfl n).1 x h
          exact ⟨v, ⟨ad, C, dx, fs, h1, ea, (L.cls c C hC).1, L.fld c C n hC (hn i n rfl) hm hp, l⟩, rv⟩
        · cases h
      · cases h
    · cases h
  · cases h
theorem PkR.lk {K : PySem.W.Frag} {ce : CE} {σ : L2.St} {H H' : Hp} {y : V} (e : Lk (fun _ => True) H H') (h : PkR K T ce σ H y) : PkR K T ce σ H' y := by
  unfold PkR at h ⊢
  split at h
  · exact h
  · obtain ⟨ad, C, dx, fs, h1, h2, h3, h4, h5⟩ := h
    exact ⟨ad, C, dx, fs, h1, e.ins trivial h2, h3, h4, h5⟩
  · exact h.elim
end
/-! ### targets -/
def setAll : L2.St → List Nat → List V → L2.St
  | σ, i :: is, y :: ys => setAll (σ.set i (some y)) is ys
  | σ, _, _ => σ
/-- a name among the names, that is a local or a cell of the scope that runs -/
def nameB (N : List Str) (sc : Scope) (i : Nat) : Expr → Bool
  | .Name x _ => N[i]? == some x && (sc.names.lookup x == some .local || sc.names.lookup x == some .cell)
  | _ => false
def namesB (N : List Str) (sc : Scope) : List Nat → List Expr → Bool
  | [], [] => true
  | i :: is, e :: es => nameB N sc i e && namesB N sc is es
  | _, _ => false
def tgB (N : List Str) (sc : Scope) : Tg → Expr → Bool
  | .nm i, e => nameB N sc i e
  | .tp is, .Tuple es _ _ => namesB N sc is es
  | _, _ => false
section
variable {X : Cx} {T : Tab} {sc : Scope}
theorem names_each {N : List Str} {env : PySem.Env} : ∀ {is : List Nat} {es : List Expr}, namesB N sc is es = true → (assignEach es env).length = is.length ∧ (assignEach es env).findIdx? (·.1) = none
  | [], [], _ => ⟨rfl, rfl⟩
  | i :: is, e :: es, h => by
    simp only [namesB, Bool.and_eq_true] at h
    obtain ⟨h1, h2⟩ := names_each (env := env) h.2
    cases e with
    | Name x p =>
      have e1 : assignEach (.Name x p :: es) env = (false, PySem.assign (.Name x p) env) :: assignEach es env := rfl
      rw [e1]
      refine ⟨by rw [List.length_cons, List.length_cons, h1], ?_⟩
      rw [List.findIdx?_cons, h2]
      rfl
    | _ => cases h.1
  | [], _ :: _, h => by cases h
  | _ :: _, [], h => by cases h
/-- what is asked of a context in which the names are set -/
structure Tgt (X : Cx) (sc : Scope) : Prop where
  nd : X.N.Nodup
  calm : X.calm = true
  loc : ∀ x, sc.names.lookup x = some .local ∨ sc.names.lookup x = some .cell → Loc X.env.scope x
  fn : ∀ x, sc.names.lookup x = some .local ∨ sc.names.lookup x = some .cell → X.fn x = true ∨ X.env.scope.names.lookup x = some .local
def gNm (is : List Nat) : TGs := fun ys σ H Q => ys.length = is.length ∧ Q (setAll σ is ys) H
theorem g_name {i : Nat} {e : Expr} (t : Tgt X sc) (h : nameB X.N sc i e = true) : PG X e (gName i) := by
  cases e with
  | Name x p =>
    simp only [nameB, Bool.and_eq_true, Bool.or_eq_true, beq_iff_eq] at h
    exact pg_name t.nd h.1 (t.loc x h.2) (t.fn x h.2)
  | _ => cases h
theorem _root_.L2.PGs.weak {X : Cx} {es : List Expr} {t t' : TGs} (h : PGs X es t) (w : ∀ vs σ H Q, t' vs σ H Q → t vs σ H Q) : PGs X es t' := ⟨fun pins s σ H vs us Q I r q => h.run pins s σ H vs us Q I r (w vs σ H Q q)⟩
theorem gs_names (t : Tgt X sc) : ∀ {is : List Nat} {es : List Expr}, namesB X.N sc is es = true → PGs X es (gNm is)
  | [], [], _ => pgs_nil.weak fun vs σ H Q ⟨h1, h2⟩ => by
    have : vs = [] := List.length_eq_zero_iff.mp h1
    subst this
    exact ⟨rfl, h2⟩
  | i :: is, e :: es, h => by
    simp only [namesB, Bool.and_eq_true] at h
    have ih := gs_names t h.2
    have hn := g_name t h.1
    have e1 : (assignEach (e :: es) X.env).map (·.2) = PySem.assign e X.env :: (assignEach es X.env).map (·.2) := by
      cases e with
      | Name x p => rfl
      | _ => cases h.1
    refine (pgs_cons hn ih e1).weak fun vs σ H Q ⟨h1, h2⟩ => ?_
    cases vs with
    | nil => cases h1
    | cons y ys => exact ⟨y, ys, rfl, by simpa using h1, h2⟩
  | [], _ :: _, h => by cases h
  | _ :: _, [], h => by cases h
end
section
variable {K : PySem.W.Frag} {M : Nms} {G : Addr → Prop} {μ : Mu} {H : Hp} {st : Store}
theorem setAll_length : ∀ (is : List Nat) (ys : List V) (σ : L2.St), (setAll σ is ys).length = σ.length
  | [], _, _ => by simp [setAll]
  | _ :: _, [], _ => by simp [setAll]
  | i :: is, y :: ys, σ => by
    simp only [setAll]
    rw [setAll_length is ys, List.length_set]
theorem setAll_get : ∀ (is : List Nat) (ys : List V) (σ : L2.St) (j : Nat), j ∉ is → (setAll σ is ys)[j]? = σ[j]?
  | [], _, _, _, _ => by simp [setAll]
  | _ :: _, [], _, _, _ => by simp [setAll]
  | i :: is, y :: ys, σ, j, h => by
    simp only [setAll]
    rw [setAll_get is ys _ j (fun q => h (List.mem_cons_of_mem _ q)), List.getElem?_set_ne (fun e => h (by rw [e]; exact List.mem_cons_self))]
theorem ER.set {env : Env} {σ : L2.St} (h : ER K M G μ H env σ) (i : Nat) {x : X} {y : V} (r : XR K M G μ H x y) : ER K M G μ H (env.set i (some x)) (σ.set i (some y)) := by
  refine ⟨by simp [h.1], fun j z q => ?_⟩
  by_cases e : i = j
  · subst e
    rw [List.getElem?_set_self'] at q
    cases e1 : env[i]? with
    | none => rw [e1] at q; cases q
    | some o =>
      rw [e1] at q
      cases q
      have hl : i < σ.length := by rw [← h.1]; exact (List.getElem?_eq_some_iff.mp e1).1
      exact ⟨y, by rw [List.getElem?_set_self hl], r⟩
  · rw [List.getElem?_set_ne e] at q ⊢
    exact h.2 j z q
theorem ER.setAll : ∀ (is : List Nat) {xs : List Val} {ys : List V} {env : Env} {σ : L2.St}, ER K M G μ H env σ → Paired (VR M (Fz G μ) H) xs ys → ER K M G μ H ((is.zip xs).foldl (fun e p => e.set p.1 (some (.v p.2))) env) (setAll σ is ys)
  | [], _, _, _, _, h, _ => by simpa [KG.setAll] using h
  | _ :: _, _, _, _, _, h, .nil => by simpa [KG.setAll] using h
  | i :: is, x :: xs, y :: ys, env, σ, h, .cons p t => ER.setAll is (h.set i (x := .v x) p) t
end
/-- a target's store -/
def gTg (K : PySem.W.Frag) (T : Tab) (t : Tg) : TG := fun y σ H Q => ∃ (G : Addr → Prop) (μ : Mu) (env env' : KG.Env) (st : Store) (v : Val), SR K T.nms G μ H st ∧ ER K T.nms G μ H env σ ∧ VR T.nms (Fz G μ) H v y ∧ bindT t v env = some env' ∧
  ∀ σ', ER K T.nms G μ H env' σ' → σ'.length = σ.length → (∀ j, j ∉ tgSlots t → σ'[j]? = σ[j]?) → Q σ' H
theorem _root_.L2.PG.weak {X : Cx} {e : Expr} {t t' : TG} (h : PG X e t) (w : ∀ v σ H Q, t' v σ H Q → t v σ H Q) : PG X e t' := ⟨fun pins s σ H v u Q I r q => h.run pins s σ H v u Q I r (w v σ H Q q)⟩
theorem g_tg {X : Cx} {T : Tab} {sc : Scope} (tt : Tgt X sc) {t : Tg} {e : Expr} (h : tgB X.N sc t e = true) : PG X e (gTg X.K T t) := by
  cases t with
  | nm i =>
    refine (g_name tt (show nameB X.N sc i e = true from h)).weak fun y σ H Q ⟨G, μ, env, env', st, v, S, E, r, hb, hq⟩ => ?_
    cases hb
    refine hq _ (E.set i (x := .v v) r) (by simp) fun j hj => List.getElem?_set_ne (fun q => hj (by simp [tgSlots, q]))
  | tp is =>
    cases e with
    | Tuple es kk pos =>
      have h : namesB X.N sc is es = true := h
      obtain ⟨h1, h2⟩ := names_each (env := X.env) h
      refine ⟨fun pins s σ H y u Q I ry ⟨G, μ, env, env', st, v, S, E, r, hb, hq⟩ => ?_⟩
      cases v with
      | tup xs =>
        obtain ⟨a, ys, rfl, q, p⟩ := VR.tup_i.mp r
        have hb : (if xs.length = is.length then some ((is.zip xs).foldl (fun e p => e.set p.1 (some (.v p.2))) env) else none) = some env' := hb
        split at hb
        · rename_i hl
          cases hb
          exact (pg_tup tt.calm (gs_names tt h) h1 h2).run pins s σ H _ u Q I ry ⟨a, ys, rfl, q.sq, by rw [← plen p]; exact hl, by rw [← plen p]; exact hl,
            hq _ (E.setAll _ p) (setAll_length _ _ _) fun j hj => setAll_get _ _ _ _ hj⟩
        · cases hb
      | lst xs =>
        obtain ⟨a, ys, rfl, q, p⟩ := VR.lst_i.mp r
        have hb : (if xs.length = is.length then some ((is.zip xs).foldl (fun e p => e.set p.1 (some (.v p.2))) env) else none) = some env' := hb
        split at hb
        · rename_i hl
          cases hb
          exact (pg_unl tt.calm (gs_names tt h) h1 h2).run pins s σ H _ u Q I ry ⟨a, ys, rfl, .inl q.1, by rw [← plen p]; exact hl, by rw [← plen p]; exact hl,
            hq _ (E.setAll _ p) (setAll_length _ _ _) fun j hj => setAll_get _ _ _ _ hj⟩
        · cases hb
      | _ => cases hb
    | _ => cases h
end KG

set_option linter.all false
set_option maxRecDepth 100000
set_option maxHeartbeats 4000000
/-! K1m: comprehensions. -/
namespace KG
open PySem PySem.Spec PyProof.Rows L2

def W0 : WX := fun _ _ _ _ => False
theorem wipe_get : ∀ (vs : List Nat) (σ : L2.St) (j : Nat), (wipe σ vs)[j]? = if j ∈ vs then σ[j]?.map (fun _ => none) else σ[j]?
  | [], σ, j => by simp [wipe]
  | v :: vs, σ, j => by
    unfold wipe
    by_cases e : v = j
    · subst e
      rw [List.getElem?_set_self', wipe_get vs σ v]
      simp only [List.mem_cons, true_or, if_true]
      split
      · cases σ[v]? <;> rfl
      · rfl
    · rw [List.getElem?_set_ne e, wipe_get vs σ j]
      have : (j ∈ v :: vs) ↔ j ∈ vs := by simp [Ne.symm e]
      by_cases h : j ∈ vs
      · rw [if_pos h, if_pos (this.mpr h)]
      · rw [if_neg h, if_neg (fun q => h (this.mp q))]
theorem wipeE_length (env : KG.Env) : ∀ vs : List Nat, (wipeE env vs).length = env.length
  | [] => rfl
  | v :: vs => by unfold wipeE; rw [List.length_set, wipeE_length env vs]
theorem wipeE_get : ∀ (vs : List Nat) (σ : KG.Env) (j : Nat), (wipeE σ vs)[j]? = if j ∈ vs then σ[j]?.map (fun _ => none) else σ[j]?
  | [], σ, j => by simp [wipeE]
  | v :: vs, σ, j => by
    unfold wipeE
    by_cases e : v = j
    · subst e
      rw [List.getElem?_set_self', wipeE_get vs σ v]
      simp only [List.mem_cons, true_or, if_true]
      split
      · cases σ[v]? <;> rfl
      · rfl
    · rw [List.getElem?_set_ne e, wipeE_get vs σ j]
      have : (j ∈ v :: vs) ↔ j ∈ vs := by simp [Ne.symm e]
      by_cases h : j ∈ vs
      · rw [if_pos h, if_pos (this.mpr h)]
      · rw [if_neg h, if_neg (fun q => h (this.mp q))]
theorem foldl_len : ∀ (l : List (Nat × Val)) (e : KG.Env), (l.foldl (fun e p => e.set p.1 (some (.v p.2))) e).length = e.length
  | [], _ => rfl
  | p :: r, e => by rw [List.foldl_cons, foldl_len r, List.length_set]
/-- what is set behind forgets what stood there -/
theorem foldl_wipe : ∀ (l : List (Nat × Val)) (e e' : KG.Env), e.length = e'.length → (∀ j, j ∉ l.map (·.1) → e[j]? = e'[j]?) → l.foldl (fun e p => e.set p.1 (some (.v p.2))) e = l.foldl (fun e p => e.set p.1 (some (.v p.2))) e'
  | [], e, e', _, h => by
    apply List.ext_getElem?
    intro j
    exact h j (by simp)
  | p :: r, e, e', hl, h => by
    rw [List.foldl_cons, List.foldl_cons]
    refine foldl_wipe r _ _ (by simp [hl]) fun j hj => ?_
    by_cases q : p.1 = j
    · subst q
      rw [List.getElem?_set_self', List.getElem?_set_self']
      by_cases z : p.1 < e.length
      · rw [List.getElem?_eq_getElem z, List.getElem?_eq_getElem (by omega)]; rfl
      · rw [List.getElem?_eq_none (by omega), List.getElem?_eq_none (by omega)]
    · rw [List.getElem?_set_ne q, List.getElem?_set_ne q]
      exact h j (by
        rw [List.map_cons, List.mem_cons]
        rintro (z | z)
        · exact q z.symm
        · exact hj z)
theorem bindT_wipe {t : Tg} {v : Val} {env : KG.Env} : bindT t v (wipeE env (tgSlots t)) = bindT t v env := by
  cases t with
  | nm i =>
    show some ((wipeE env [i]).set i _) = some (env.set i _)
    simp only [wipeE, List.set_set]
  | tp is =>
    have key : ∀ xs : List Val, xs.length = is.length → (is.zip xs).foldl (fun e p => e.set p.1 (some (.v p.2))) (wipeE env is) = (is.zip xs).foldl (fun e p => e.set p.1 (some (.v p.2))) env := fun xs hl => by
      refine foldl_wipe _ _ _ (wipeE_length _ _) fun j hj => ?_
      rw [List.map_fst_zip (by omega)] at hj
      rw [wipeE_get, if_neg hj]
    cases v with
    | tup xs =>
      show (if xs.length = is.length then some _ else none) = (if xs.length = is.length then some _ else none)
      by_cases hl : xs.length = is.length
      · rw [if_pos hl, if_pos hl]; exact congrArg some (key xs hl)
      · rw [if_neg hl, if_neg hl]
    | lst xs =>
      show (if xs.length = is.length then some _ else none) = (if xs.length = is.length then some _ else none)
      by_cases hl : xs.length = is.length
      · rw [if_pos hl, if_pos hl]; exact congrArg some (key xs hl)
      · rw [if_neg hl, if_neg hl]
    | _ => rfl
section
variable {K : PySem.W.Frag} {M : Nms} {G : Addr → Prop} {μ μ' : Mu} {H H1 : Hp} {st : Store} {D : Addr} {o : HO}
theorem ER.wipe {env : KG.Env} {σ : L2.St} (h : ER K M G μ H env σ) (vs : List Nat) : ER K M G μ H (wipeE env vs) (L2.wipe σ vs) := by
  refine ⟨by rw [wipeE_length, wipe_length, h.1], fun i x q => ?_⟩
  rw [wipeE_get] at q
  rw [wipe_get]
  by_cases hi : i ∈ vs
  · rw [if_pos hi] at q
    cases e : env[i]? with
    | none => rw [e] at q; cases q
    | some z => rw [e] at q; cases q
  · rw [if_neg hi] at q ⊢
    exact h.2 i x q
theorem wipe_agree {σ σ' : L2.St} {vs : List Nat} (hl : σ'.length = (L2.wipe σ vs).length) (h : ∀ j, j ∉ vs → σ'[j]? = (L2.wipe σ vs)[j]?) : L2.wipe σ' vs = L2.wipe σ vs := by
  apply List.ext_getElem?
  intro j
  rw [wipe_get, wipe_get]
  by_cases hj : j ∈ vs
  · rw [if_pos hj, if_pos hj]
    rw [wipe_length] at hl
    by_cases z : j < σ.length
    · rw [List.getElem?_eq_getElem (by omega), List.getElem?_eq_getElem z]; rfl
    · rw [List.getElem?_eq_none (by omega), List.getElem?_eq_none (by omega)]
  · rw [if_neg hj, if_neg hj]
    have := h j hj
    rw [wipe_get, if_neg hj] at this
    exact this
theorem Ext.gdw (e : Ext μ H1 μ' H) (hD : H1 D = none) : Ext μ H1 μ' (upd H D o) :=
  ⟨e.len, e.pre, fun a u q hn => by rw [upd_ne (ne_of_none q hD)]; exact e.same a u q hn, e.new⟩
theorem Ext.adopt (e : Ext μ H1 μ' H) (hD : H1 D = none) : Ext μ H1 (μ' ++ [some D]) H where
  len := by rw [List.length_append]; have := e.len; omega
  pre := fun n a hn q => by
    rw [List.getElem?_append_left (Nat.lt_of_lt_of_le hn e.len)] at q
    exact e.pre n a hn q
  same := e.same
  new := fun a q => by
    rcases List.mem_append.mp q with q | q
    · exact e.new a q
    · have : a = D := by simpa using q
      subst this
      exact .inr hD
theorem noX_ok {α β : Type} {rel : Mu → Hp → β → V → Prop} {r : R α} {f : α → Store → R β} {Q : VK} {B : EW} (h : Post K M G rel μ H ((noX r).bind f) Q B) : ∃ a st, r = .ok a st ∧ Post K M G rel μ H (f a st) Q B := by
  cases r with
  | bad => exact h.elim
  | ok a st => exact ⟨a, st, rfl, h⟩
  | exc c ns vs st => exact h.elim
theorem bind_ok {α β : Type} {m : R α} {f : α → Store → R β} {b : β} {st : Store} (h : m.bind f = .ok b st) : ∃ a s1, m = .ok a s1 ∧ f a s1 = .ok b st := by
  cases m with
  | bad => cases h
  | ok a s1 => exact ⟨a, s1, rfl, h⟩
  | exc => cases h
theorem optR_ok {α : Type} {o : Option α} {a : α} {s st : Store} (h : optR o s = .ok a st) : o = some a ∧ s = st := by
  cases o with
  | none => cases h
  | some b => cases h; exact ⟨rfl, rfl⟩
/-- one turn of a list comprehension's loop -/
def lcBody (C : Ctx) (t : Tg) (c : Option CT) (e : CE) (env : KG.Env) : Val → Store → R (List Val) := fun v st => (optR (bindT t v env) st).bind fun env st => (evC C c env st).bind fun k st => if k then (evE C e env st).bind one else .ok [] st
theorem lcBody_ok {C : Ctx} {t : Tg} {c : Option CT} {e : CE} {env : KG.Env} {v : Val} {st st' : Store} {ys : List Val} (h : lcBody C t c e env v st = .ok ys st') : ∃ env' k s1, bindT t v env = some env' ∧ evC C c env' st = .ok k s1 ∧
    ((k = false ∧ ys = [] ∧ st' = s1) ∨ (k = true ∧ ∃ a, ys = [a] ∧ evE C e env' s1 = .ok (.v a) st')) := by
  obtain ⟨env', s0, h1, h2⟩ := bind_ok h
  obtain ⟨h1', h1e⟩ := optR_ok h1
  subst h1e
  obtain ⟨k, s1, h3, h4⟩ := bind_ok h2
  refine ⟨env', k, s1, h1', h3, ?_⟩
  cases k with
  | false => cases h4; exact .inl ⟨rfl, rfl, rfl⟩
  | true =>
    obtain ⟨x, s2, h5, h6⟩ := bind_ok h4
    cases x with
    | v a => cases h6; exact .inr ⟨rfl, a, rfl, h5⟩
    | r n => cases h6
    | k xs => cases h6
theorem loopL_nil {α : Type} {w : Wk} {f : Val → Store → R (List α)} {st st' : Store} {zs : List α} (h : loopL w f [] st = .ok zs st') : okG w.g w.xs st = true ∧ zs = [] ∧ st' = st := by
  unfold loopL at h
  split at h
  · rename_i ho; cases h; exact ⟨ho, rfl, rfl⟩
  · cases h
theorem loopL_cons {α : Type} {w : Wk} {f : Val → Store → R (List α)} {x : Val} {r : List Val} {st st' : Store} {zs : List α} (h : loopL w f (x :: r) st = .ok zs st') :
    okG w.g w.xs st = true ∧ ∃ ys s1 zs', f x st = .ok ys s1 ∧ loopL w f r s1 = .ok zs' st' ∧ zs = ys ++ zs' := by
  unfold loopL at h
  split at h
  · rename_i ho
    obtain ⟨ys, s1, h1, h2⟩ := bind_ok h
    obtain ⟨zs', s2, h3, h4⟩ := bind_ok h2
    cases h4
    exact ⟨ho, ys, s1, zs', h1, h3, rfl⟩
  · cases h
end
theorem drop_step {α : Type} {xs : List α} {i : Nat} {x : α} (h : xs[i]? = some x) : xs.drop i = x :: xs.drop (i + 1) := by
  obtain ⟨hi, e⟩ := List.getElem?_eq_some_iff.mp h
  rw [List.drop_eq_getElem_cons hi, e]
/-- the loop of a list comprehension -/
theorem lc_ok {K : PySem.W.Frag} {T : Tab} {C : Ctx} {t : Tg} {c : Option CT} {e : CE} {env : KG.Env} {G : Addr → Prop} {μ : Mu} {H1 : Hp} {st : Store} {σ : L2.St} {J : It} {w : Wk} {m : Bool} {Q : VK} {B : EW}
    (S : SR K T.nms G μ H1 st) (E : ER K T.nms G μ H1 env σ) (jw : Jw K T.nms G J w μ H1) (P : Post K T.nms G (relX K T.nms G) μ H1 ((noX (loopL w (lcBody C t c e env) w.xs st)).bind (newL m)) Q B) :
    ∀ D, H1 D = none → ∃ W : Nat → Nat → Hp → Prop, (∃ m, W 0 m (upd H1 D (.lst []))) ∧ ∀ i m H, W i m H →
      (J.stop i H ∧ Q (.ref D) H) ∨ (J.go i H ∧ ∃ Nx : Hp → Prop, (∀ H', Nx H' → ∃ m', m' < m ∧ W (i + 1) m' H') ∧ ∀ x H', J.yld i H x H' → gTg K T t x (wipe σ (tgSlots t)) H' fun σ2 H2 => wipe σ2 (tgSlots t) = wipe σ (tgSlots t) ∧ tT K T W0 (evC C c) σ2 H2 fun b H3 =>
        if b = true then tE K T W0 (evE C e) σ2 H3 fun y H4 => ∃ acc, H4 D = some (.lst acc) ∧ acc.length < sizeLine ∧ Nx (upd H4 D (.lst (acc ++ [y]))) else Nx H3) := by
  intro D hD
  obtain ⟨zs, stE, hloop, P⟩ := noX_ok P
  have hz : zs.length ≤ LIM := by
    unfold newL at P
    split at P
    · assumption
    · exact P.elim
  have hgD : ∀ a, Gd G D a → G a ∨ H1 a = none := fun a g => g.imp id fun z => by rw [z]; exact hD
  have nG : ¬ G D := fun g => S.there D g hD
  let Pv : Nat → Hp → Prop := fun i H => ∃ (μi : Mu) (sti : Store) (accV : List Val) (acc : List V) (rest : List Val), Ext μ H1 μi H ∧ SR K T.nms (Gd G D) μi H sti ∧ H D = some (.lst acc) ∧ Paired (VR T.nms (Fz (Gd G D) μi) H) accV acc ∧
    loopL w (lcBody C t c e env) (w.xs.drop i) sti = .ok rest stE ∧ accV ++ rest = zs
  refine ⟨fun i m H => m = w.xs.length - i ∧ i ≤ w.xs.length ∧ Pv i H, ⟨w.xs.length, by simp, Nat.zero_le _, μ, st, [], [], zs, Ext.grow (grow_upd hD), S.gd hD, upd_same, .nil, by simpa using hloop, rfl⟩, ?_⟩
  rintro i mm H ⟨rfl, hi, μi, sti, accV, acc, rest, X1, S1, hDH, pacc, hl, hsum⟩
  have E1 : ER K T.nms (Gd G D) μi H env σ := (E.weakG (Gd.fz hD)).ext X1
  by_cases hlt : i < w.xs.length
  · obtain ⟨x, hx⟩ : ∃ x, w.xs[i]? = some x := ⟨w.xs[i], by simp [hlt]⟩
    rw [drop_step hx] at hl
    obtain ⟨ho, ys, s1, zs', hb, hl', hr⟩ := loopL_cons hl
    obtain ⟨env', k, s0, hbt, hc, hcase⟩ := lcBody_ok hb
    obtain ⟨go, hy⟩ := jw.turn (Gd G D) μi H sti i x hgD X1 S1 ho hx
    refine .inr ⟨go, Pv (i + 1), fun H' p => ⟨_, by omega, rfl, hlt, p⟩, fun y H' hyl => ?_⟩
    obtain ⟨hgrow, ry⟩ := hy y H' hyl
    have X2 : Ext μi H μi H' := Ext.grow hgrow
    have S2 := S1.grow hgrow
    refine ⟨Gd G D, μi, wipeE env (tgSlots t), env', sti, x, S2, (E1.wipe _).ext X2, ry, by rw [bindT_wipe]; exact hbt, fun σ' E3 hlen hag => ⟨wipe_agree hlen hag, Gd G D, μi, env', sti, S2, E3, ?_⟩⟩
    rw [hc]
    intro μ3 H3 b X3 S3 hk
    cases hk
    have nD : ∀ {μ' : Mu} {H' : Hp} {s : Store}, SR K T.nms (Gd G D) μ' H' s → some D ∉ μ' := fun S q => S.apart D q (.inr rfl)
    have hD3 : H3 D = some (.lst acc) := X3.same D _ (hgrow D _ hDH) (nD S2)
    rcases hcase with ⟨rfl, rfl, rfl⟩ | ⟨rfl, a, rfl, he⟩
    · simp only [Bool.false_eq_true, if_false]
      subst hr
      exact ⟨μ3, _, accV, acc, _, (X1.trans X2).trans X3, S3, hD3, VR.exts X3 (VR.exts X2 pacc), hl', by simpa using hsum⟩
    · simp only [if_true]
      refine ⟨Gd G D, μ3, env', s0, S3, E3.ext X3, ?_⟩
      rw [he]
      intro μ4 H4 y4 X4 S4 r4
      have hD4 : H4 D = some (.lst acc) := X4.same D _ hD3 (nD S3)
      subst hr
      refine ⟨acc, hD4, ?_, μ4, s1, accV ++ [a], acc ++ [y4], zs', Ext.gdw (((X1.trans X2).trans X3).trans X4) hD, S4.gdw, upd_same, ?_, hl', by simpa using hsum⟩
      · have h1 := congrArg List.length hsum
        simp only [List.length_append, List.length_cons] at h1
        rw [← plen pacc, ← LIM_eq]
        omega
      · exact papp (pmono (fun _ _ q => VR.gdw q) (VR.exts X4 (VR.exts X3 (VR.exts X2 pacc)))) (.cons (VR.gdw r4) .nil)
  · have e0 : i = w.xs.length := by omega
    subst e0
    rw [List.drop_length] at hl
    obtain ⟨ho, rfl, rfl⟩ := loopL_nil hl
    rw [List.append_nil] at hsum
    subst hsum
    refine .inl ⟨jw.stop (Gd G D) μi H stE hgD X1 S1 ho, ?_⟩
    unfold newL at P
    rw [if_pos hz] at P
    cases m with
    | false => exact P.at X1 S1.ungd (VR.lst_i.mpr ⟨D, acc, rfl, ⟨.inl hDH, S1.gd_fz nG⟩, pmono (fun _ _ q => VR.ungd q) pacc⟩)
    | true => exact P.at (X1.adopt hD) (S1.adopt nG ⟨acc, hDH, pacc⟩) (XR.new S1.len.symm)
end KG

set_option linter.all false
set_option maxRecDepth 100000
set_option maxHeartbeats 4000000
/-! K1n: dict comprehensions; a dict that is held; the rules. -/
namespace KG
open PySem PySem.Spec PyProof.Rows L2

section
variable {κ : Type} [DecidableEq κ] {RK : Val → κ → Prop} {P : Val → V → Prop}
theorem drep_ok (inj : ∀ {v w : Val} {k l : κ}, RK v k → RK w l → v.beq w = decide (k = l)) {x y : Val} {k : κ} {z : V} (hx : RK x k) (hy : P y z) : ∀ {kvs : List (κ × V)} {ks vs : List Val}, Paired RK ks (kvs.map (·.1)) → Paired P vs (kvs.map (·.2)) →
    Paired P (drep ks vs x y) ((kvs.map fun kv => if kv.1 = k then (kv.1, z) else kv).map (·.2)) := by
  intro kvs
  induction kvs with
  | nil => intro ks vs p q; cases p; cases q; exact .nil
  | cons kv r ih =>
    intro ks vs p q
    rw [List.map_cons] at p q
    cases p with
    | @cons a _ as _ p1 p2 =>
      cases q with
      | @cons b _ bs _ q1 q2 =>
        have e : drep (a :: as) (b :: bs) x y = (if a.beq x then y else b) :: drep as bs x y := rfl
        rw [e, List.map_cons, List.map_cons]
        refine .cons ?_ (ih p2 q2)
        rw [inj p1 hx]
        by_cases h : kv.1 = k
        · rw [if_pos (by simpa using h), if_pos h]; exact hy
        · rw [if_neg (by simpa using h), if_neg h]; exact q1
theorem map_fst_put (k : κ) (z : V) : ∀ kvs : List (κ × V), (kvs.map fun kv => if kv.1 = k then (kv.1, z) else kv).map (·.1) = kvs.map (·.1)
  | [] => rfl
  | kv :: r => by
    rw [List.map_cons, List.map_cons, List.map_cons, map_fst_put k z r]
    congr 1
    split <;> rfl
theorem dput_ok (inj : ∀ {v w : Val} {k l : κ}, RK v k → RK w l → v.beq w = decide (k = l)) {x y : Val} {k : κ} {z : V} (hx : RK x k) (hy : P y z) {kvs : List (κ × V)} {ks vs : List Val} (p : Paired RK ks (kvs.map (·.1))) (q : Paired P vs (kvs.map (·.2))) :
    Paired RK (dput ks vs x y).1 ((putK kvs k z).map (·.1)) ∧ Paired P (dput ks vs x y).2 ((putK kvs k z).map (·.2)) := by
  have g := dget_ok inj hx p q
  unfold dput putK
  rw [valV_any]
  cases e : dget ks vs x with
  | none =>
    rw [g.2 e]
    simp only [Option.isSome_none, Bool.false_eq_true, if_false]
    rw [List.map_append, List.map_append]
    exact ⟨papp p (.cons hx .nil), papp q (.cons hy .nil)⟩
  | some v =>
    obtain ⟨w, hw, _⟩ := g.1 v e
    rw [hw]
    simp only [Option.isSome_some, if_true]
    rw [map_fst_put]
    exact ⟨p, drep_ok inj hx hy p q⟩
theorem putK_len (kvs : List (κ × V)) (k : κ) (z : V) : (putK kvs k z).length ≤ kvs.length + 1 := by
  unfold putK
  split
  · rw [List.length_map]; omega
  · rw [List.length_append]; exact Nat.le_refl _
end
/-- one turn of a dict comprehension's loop -/
def dcBody (C : Ctx) (t : Tg) (c : Option CT) (k e : CE) (env : KG.Env) : Val → Store → R (List (Val × Val)) := fun v st => (optR (bindT t v env) st).bind fun env st => (evC C c env st).bind fun b st =>
  if b then (evE C k env st).bind fun x st => (evE C e env st).bind fun y st => two x y st else .ok [] st
theorem dcBody_ok {C : Ctx} {t : Tg} {c : Option CT} {k e : CE} {env : KG.Env} {v : Val} {st st' : Store} {ys : List (Val × Val)} (h : dcBody C t c k e env v st = .ok ys st') : ∃ env' b s1, bindT t v env = some env' ∧ evC C c env' st = .ok b s1 ∧
    ((b = false ∧ ys = [] ∧ st' = s1) ∨ (b = true ∧ ∃ x y s2, ys = [(x, y)] ∧ evE C k env' s1 = .ok (.v x) s2 ∧ evE C e env' s2 = .ok (.v y) st')) := by
  obtain ⟨env', s0, h1, h2⟩ := bind_ok h
  obtain ⟨h1', h1e⟩ := optR_ok h1
  subst h1e
  obtain ⟨b, s1, h3, h4⟩ := bind_ok h2
  refine ⟨env', b, s1, h1', h3, ?_⟩
  cases b with
  | false => cases h4; exact .inl ⟨rfl, rfl, rfl⟩
  | true =>
    obtain ⟨x, s2, h5, h6⟩ := bind_ok h4
    obtain ⟨y, s3, h7, h8⟩ := bind_ok h6
    cases x with
    | v a =>
      cases y with
      | v b => cases h8; exact .inr ⟨rfl, a, b, s2, rfl, h5, h7⟩
      | r n => cases h8
      | k xs => cases h8
    | r n => cases h8
    | k xs => cases h8
/-- the loop of a dict comprehension -/
theorem dc_ok {K : PySem.W.Frag} {T : Tab} {C : Ctx} {t : Tg} {c : Option CT} {kx e : CE} {env : KG.Env} {G : Addr → Prop} {μ : Mu} {H1 : Hp} {st : Store} {σ : L2.St} {J : It} {w : Wk} {Q : VK} {B : EW}
    (S : SR K T.nms G μ H1 st) (E : ER K T.nms G μ H1 env σ) (jw : Jw K T.nms G J w μ H1) (P : Post K T.nms G (relX K T.nms G) μ H1 ((noX (loopL w (dcBody C t c kx e env) w.xs st)).bind (dictF false)) Q B) :
    ∀ D, H1 D = none → ∃ W : Nat → Nat → Hp → Prop, (∃ m, W 0 m (upd H1 D (.dK []))) ∧ ∀ i m H, W i m H →
      (J.stop i H ∧ Q (.ref D) H) ∨ (J.go i H ∧ ∃ Nx : Hp → Prop, (∀ H', Nx H' → ∃ m', m' < m ∧ W (i + 1) m' H') ∧ ∀ x H', J.yld i H x H' → gTg K T t x (wipe σ (tgSlots t)) H' fun σ2 H2 => wipe σ2 (tgSlots t) = wipe σ (tgSlots t) ∧ tT K T W0 (evC C c) σ2 H2 fun b H3 =>
        if b = true then tE K T W0 (evE C kx) σ2 H3 fun y H4 => tE K T W0 (evE C e) σ2 H4 fun z H5 => ∃ kvs k, y = kV k ∧ H5 D = some (.dK kvs) ∧ kvs.length < sizeLine ∧ Nx (upd H5 D (.dK (putK kvs k z))) else Nx H3) := by
  intro D hD
  obtain ⟨zs, stE, hloop, P⟩ := noX_ok P
  unfold dictF at P
  split at P
  rotate_left
  · exact P.elim
  rename_i hz
  unfold dictOf at P
  split at P
  rotate_left
  · exact P.elim
  rename_i kF vF hput
  have hgD : ∀ a, Gd G D a → G a ∨ H1 a = none := fun a g => g.imp id fun z => by rw [z]; exact hD
  have nG : ¬ G D := fun g => S.there D g hD
  let Pv : Nat → Hp → Prop := fun i H => ∃ (μi : Mu) (sti : Store) (kvs : List (Key × V)) (ks vs : List Val) (rest : List (Val × Val)), Ext μ H1 μi H ∧ SR K T.nms (Gd G D) μi H sti ∧ H D = some (.dK kvs) ∧ Paired KR ks (kvs.map (·.1)) ∧ Paired (VR T.nms (Fz (Gd G D) μi) H) vs (kvs.map (·.2)) ∧
    loopL w (dcBody C t c kx e env) (w.xs.drop i) sti = .ok rest stE ∧ dputs false ks vs rest = some (kF, vF) ∧ kvs.length + rest.length < LIM
  refine ⟨fun i m H => m = w.xs.length - i ∧ i ≤ w.xs.length ∧ Pv i H, ⟨w.xs.length, by simp, Nat.zero_le _, μ, st, [], [], [], zs, Ext.grow (grow_upd hD), S.gd hD, upd_same, .nil, .nil, by simpa using hloop, hput, by simpa using hz⟩, ?_⟩
  rintro i mm H ⟨rfl, hi, μi, sti, kvs, ks, vs, rest, X1, S1, hDH, pk, pv, hl, hp, hsum⟩
  have E1 : ER K T.nms (Gd G D) μi H env σ := (E.weakG (Gd.fz hD)).ext X1
  by_cases hlt : i < w.xs.length
  · obtain ⟨x, hx⟩ : ∃ x, w.xs[i]? = some x := ⟨w.xs[i], by simp [hlt]⟩
    rw [drop_step hx] at hl
    obtain ⟨ho, ys, s1, zs', hb, hl', hr⟩ := loopL_cons hl
    obtain ⟨env', k, s0, hbt, hc, hcase⟩ := dcBody_ok hb
    obtain ⟨go, hy⟩ := jw.turn (Gd G D) μi H sti i x hgD X1 S1 ho hx
    refine .inr ⟨go, Pv (i + 1), fun H' p => ⟨_, by omega, rfl, hlt, p⟩, fun y H' hyl => ?_⟩
    obtain ⟨hgrow, ry⟩ := hy y H' hyl
    have X2 : Ext μi H μi H' := Ext.grow hgrow
    have S2 := S1.grow hgrow
    refine ⟨Gd G D, μi, wipeE env (tgSlots t), env', sti, x, S2, (E1.wipe _).ext X2, ry, by rw [bindT_wipe]; exact hbt, fun σ' E3 hlen hag => ⟨wipe_agree hlen hag, Gd G D, μi, env', sti, S2, E3, ?_⟩⟩
    rw [hc]
    intro μ3 H3 b X3 S3 hk
    cases hk
    have nD : ∀ {μ' : Mu} {H' : Hp} {s : Store}, SR K T.nms (Gd G D) μ' H' s → some D ∉ μ' := fun S q => S.apart D q (.inr rfl)
    have hD3 : H3 D = some (.dK kvs) := X3.same D _ (hgrow D _ hDH) (nD S2)
    rcases hcase with ⟨rfl, rfl, rfl⟩ | ⟨rfl, a, b, s2, rfl, he, he2⟩
    · simp only [Bool.false_eq_true, if_false]
      subst hr
      exact ⟨μ3, _, kvs, ks, vs, _, (X1.trans X2).trans X3, S3, hD3, pk, VR.exts X3 (VR.exts X2 pv), hl', hp, hsum⟩
    · simp only [if_true]
      refine ⟨Gd G D, μ3, env', s0, S3, E3.ext X3, ?_⟩
      rw [he]
      intro μ4 H4 y4 X4 S4 r4
      refine ⟨Gd G D, μ4, env', s2, S4, (E3.ext X3).ext X4, ?_⟩
      rw [he2]
      intro μ5 H5 y5 X5 S5 r5
      have hD5 : H5 D = some (.dK kvs) := X5.same D _ (X4.same D _ hD3 (nD S3)) (nD S4)
      subst hr
      have hp' : (if fitKey false a = true then dputs false (dput ks vs a b).1 (dput ks vs a b).2 zs' else none) = some (kF, vF) := hp
      split at hp'
      · rename_i hf
        obtain ⟨kk, hkk⟩ := isKey_k (show isKey a = true from hf) r4
        have pv5 := VR.exts X5 (VR.exts X4 (VR.exts X3 (VR.exts X2 pv)))
        have dp := dput_ok (P := VR T.nms (Fz (Gd G D) μ5) H5) KR.eq hkk r5 pk pv5
        have hlen := putK_len kvs kk y5
        have hsum' : kvs.length + (zs'.length + 1) < LIM := by simpa using hsum
        refine ⟨kvs, kk, hkk.v r4, hD5, by rw [← LIM_eq]; omega, μ5, s1, putK kvs kk y5, (dput ks vs a b).1, (dput ks vs a b).2, zs', Ext.gdw ((((X1.trans X2).trans X3).trans X4).trans X5) hD, S5.gdw, upd_same, dp.1,
          pmono (fun _ _ q => VR.gdw q) dp.2, hl', hp', by omega⟩
      · cases hp'
  · have e0 : i = w.xs.length := by omega
    subst e0
    rw [List.drop_length] at hl
    obtain ⟨ho, rfl, rfl⟩ := loopL_nil hl
    refine .inl ⟨jw.stop (Gd G D) μi H stE hgD X1 S1 ho, ?_⟩
    have hp : some (ks, vs) = some (kF, vF) := hp
    cases hp
    unfold dictR at P
    rw [if_pos (by have := plen pk; rw [List.length_map] at this; have h0 : kvs.length + 0 < LIM := by simpa using hsum
                   omega)] at P
    exact P.at X1 S1.ungd (VR.dct_i.mpr ⟨D, rfl, S1.gd_fz nG, .inl ⟨kvs, rfl, .inl hDH, pk, pmono (fun _ _ q => VR.ungd q) pv⟩⟩)

/-! ### a dict that is held -/
theorem Post.held {K : PySem.W.Frag} {M : Nms} {G : Addr → Prop} {μ : Mu} {H : Hp} {a : KG.X} {st : Store} {Q : VK} {B B' : EW} {d : Addr} {u : HO} {od : Obj} (hd : H d = some u) (l : LD u) (hm : some d ∉ μ) (h : Post K M G (relX K M G) μ H (.ok a st) Q B) :
    Post K M G (relX K M G) μ (upd H d (.frz od u)) (.ok a st) (fun b H' => H' d = some (.frz od u) ∧ Q b (upd H' d u)) B' := by
  intro μ' H' b e S r
  have h1 : H' d = some (.frz od u) := e.same d _ upd_same hm
  have hm' : some d ∉ μ' := fun q => (e.new d q).elim hm fun z => by rw [upd_same] at z; cases z
  refine ⟨h1, h μ' _ b (Ext.walked hd e) (S.lk (Lk.down l h1) fun a q => upd_ne fun z => hm' (by rw [← z]; exact q)) (r.lk fun a o _ q => Lk.down l h1 a o trivial q)⟩
theorem held_sr {K : PySem.W.Frag} {M : Nms} {G : Addr → Prop} {μ : Mu} {H : Hp} {st : Store} {d : Addr} {u : HO} {od : Obj} (S : SR K M G μ H st) (hd : H d = some u) (l : LD u) (hm : some d ∉ μ) : SR K M G μ (upd H d (.frz od u)) st :=
  S.lk (Lk.up l hd) fun a q => upd_ne fun z => hm (by rw [← z]; exact q)
section
variable {X : Cx} {T : Tab} {P : Prg} {k lv : Nat} {W : WX} {iter elt kx tg e : Expr} {ifs : List Expr} {pos apos p : Pos} {scope : Scope} {own : List (Str × Nat)} {C : Ctx} {t : Tg} {it : CI} {ce : CE} {c : Option CT} {ek ee : CE}
/-- all that the rules of comprehensions ask -/
structure BlkR (X : Cx) (T : Tab) (C : Ctx) (t : Tg) (c : Option CT) (tg iter : Expr) (ifs : List Expr) (scope : Scope) (own : List (Str × Nat)) : Prop where
  calm : X.calm = true
  nd : X.N.Nodup
  ok : BlkOk X.N X.env.scope scope own
  own : own.map (·.2) = tgSlots t
  tg : ∀ (s : Shared) (H : Hp) (A : Addr) (cl : List (Str × Addr)) (fp : List Addr), PG (X.blk s H scope (compEnvC scope cl A X.env) fp) tg (gTg X.K T t)
  ts : ∀ (s : Shared) (H : Hp) (A : Addr) (cl : List (Str × Addr)) (fp : List Addr), PTs (X.blk s H scope (compEnvC scope cl A X.env) fp) ifs (tT X.K T W0 (evC C c))
  set : notSet iter = true
theorem e_lc {m : Bool} (b : BlkR X T C t c tg iter ifs scope own) (he : ∀ (s : Shared) (H : Hp) (A : Addr) (cl : List (Str × Addr)) (fp : List Addr), PE (X.blk s H scope (compEnvC scope cl A X.env) fp) elt (tE X.K T W0 (evE C ee)))
    (hi : PI X tg iter (tI X.K T W (evI C it))) : PE X (.ListComp elt [⟨tg, iter, ifs, 0⟩] scope pos) (tE X.K T W fun env st => (evI C it env st).bind fun w st => (noX (loopL w (lcBody C t c ee env) w.xs st)).bind (newL m)) :=
  (pe_lc b.calm b.nd hi b.ok b.tg b.ts he (set_ok b.set)).weak fun σ H Q ⟨G, μ, env, st, S, E, P⟩ =>
    ⟨G, μ, env, st, S, E, (Post.bind P).imp fun J H1 ⟨w, st1, μ1, S1, E1, jw, P1⟩ => by rw [b.own]; exact lc_ok S1 (E.ext E1) jw P1⟩
theorem e_dc (b : BlkR X T C t c tg iter ifs scope own) (hk : ∀ (s : Shared) (H : Hp) (A : Addr) (cl : List (Str × Addr)) (fp : List Addr), PE (X.blk s H scope (compEnvC scope cl A X.env) fp) kx (tE X.K T W0 (evE C ek)))
    (he : ∀ (s : Shared) (H : Hp) (A : Addr) (cl : List (Str × Addr)) (fp : List Addr), PE (X.blk s H scope (compEnvC scope cl A X.env) fp) elt (tE X.K T W0 (evE C ee)))
    (hi : PI X tg iter (tI X.K T W (evI C it))) : PE X (.DictComp kx elt [⟨tg, iter, ifs, 0⟩] scope pos) (tE X.K T W fun env st => (evI C it env st).bind fun w st => (noX (loopL w (dcBody C t c ek ee env) w.xs st)).bind (dictF false)) :=
  (pe_dc b.calm b.nd hi b.ok b.tg b.ts hk he (set_ok b.set)).weak fun σ H Q ⟨G, μ, env, st, S, E, P⟩ =>
    ⟨G, μ, env, st, S, E, (Post.bind P).imp fun J H1 ⟨w, st1, μ1, S1, E1, jw, P1⟩ => by rw [b.own]; exact dc_ok S1 (E.ext E1) jw P1⟩
theorem wk_bind {K : PySem.W.Frag} {M : Nms} {G : Addr → Prop} {μ : Mu} {H : Hp} {st : Store} {α β : Type} {rel : Mu → Hp → α → β → Prop} {o : Option (List Val)} {f : Wk → Store → R α} {Q : β → Hp → Prop} {B : EW} (h : Post K M G rel μ H ((wkR o st).bind f) Q B) : ∃ xs, o = some xs ∧ Post K M G rel μ H (f ⟨none, xs⟩ st) Q B := by
  cases o with
  | none => exact h.elim
  | some a => exact ⟨a, rfl, h⟩
/-- the name of a dict, a field that is one -/
def pkB (T : Tab) : CE → Bool
  | .var _ => true
  | .at (.var _) n => decide (n < T.natt)
  | _ => false
theorem pkB_at {n : Nat} (h : pkB T ce = true) : ∀ i n, ce = .at (.var i) n → n < T.natt := fun i n e => by
  subst e
  simpa [pkB] using h
/-- a rule for an expression that walks a dict's pairs -/
theorem e_held {f : Wk → KG.Env → Store → R KG.X} {t0 : TE} (L : Lnk X.prog X.w X.K X.mg X.base T P k lv) (hn : pkB T ce = true) (nx : ∀ w env st c ns vs s, f w env st ≠ .exc c ns vs s) (hp : PE X e t0)
    (h0 : ∀ (σ : L2.St) (H : Hp) (Q : VK) (G : Addr → Prop) (μ : Mu) (env : KG.Env) (st : Store) (d : Addr) (od : Obj) (kvs : List (Key × V)) (ks vs : List Val), SR X.K T.nms G μ H st → ER X.K T.nms G μ H env σ → PkR X.K T ce σ H (.ref d) → H d = some (.frz od (.dK kvs)) →
      Jw X.K T.nms G (Iti d od kvs) ⟨none, zipV ks vs⟩ μ H → Post X.K T.nms G (relX X.K T.nms G) μ H (f ⟨none, zipV ks vs⟩ env st) Q (bW T G W σ) → t0 σ H Q) :
    PE X e (tE X.K T W fun env st => (wkR ((pkE (P.ctx (callN P k)) ce env st).bind itemsV) st).bind fun w st => f w env st) := by
  refine ⟨fun pins s σ H Q I ⟨G, μ, env, st, S, E, Po⟩ => ?_⟩
  obtain ⟨xs, e1, P1⟩ := wk_bind Po
  obtain ⟨x, e2, e3⟩ := Option.bind_eq_some_iff.mp e1
  unfold itemsV at e3
  split at e3
  rotate_left
  · cases e3
  rename_i ks vs
  cases e3
  obtain ⟨y, hy, ry⟩ := pk_ok L (pkB_at (n := 0) hn) S E e2
  obtain ⟨d, rfl, fz, q⟩ := VR.dct_i.mp ry
  rcases q with ⟨kvs, _, rd, pk, pv⟩ | ⟨kvs, z, _⟩
  rotate_left
  · cases z
  rcases rd with hd | ⟨od, hd⟩
  · -- it is taken up
    cases hr : f ⟨none, zipV ks vs⟩ env st with
    | bad => rw [hr] at P1; exact P1.elim
    | exc c ns vs s => exact absurd hr (nx _ _ _ _ _ _ _)
    | ok a st1 =>
      rw [hr] at P1
      refine (pe_lock hp).run pins s σ H Q I ⟨d, .dK kvs, hd, trivial, fun od => ?_⟩
      have up := Lk.up (od := od) LD.dK hd
      refine h0 σ _ _ G μ env st d od kvs ks vs (held_sr S hd LD.dK fz.2) (E.lk fun a o _ q => up a o trivial q) (hy.lk up) upd_same (jw_items upd_same fz pk (pmono (fun _ _ q => q.lk fun a o _ q => up a o trivial q) pv)) ?_
      rw [hr]
      exact Post.held hd LD.dK fz.2 P1
  · exact hp.run pins s σ H Q I (h0 σ H Q G μ env st d od kvs ks vs S E hy hd (jw_items hd fz pk pv) P1)
theorem newL_nx {m : Bool} {xs : List Val} {st : Store} (c : Nat) (ns : List Nat) (vs : List Val) (s : Store) : newL m xs st ≠ .exc c ns vs s := by
  unfold newL
  split
  · split <;> simp
  · simp
theorem noX_nx {α β : Type} {r : R α} {f : α → Store → R β} (h : ∀ a st c ns vs s, f a st ≠ .exc c ns vs s) (c : Nat) (ns : List Nat) (vs : List Val) (s : Store) : (noX r).bind f ≠ .exc c ns vs s := by
  cases r with
  | bad => simp [noX, R.bind]
  | ok a st => exact h a st c ns vs s
  | exc => simp [noX, R.bind]
theorem dictF_nx {ps : List (Val × Val)} {st : Store} (c : Nat) (ns : List Nat) (vs : List Val) (s : Store) : dictF false ps st ≠ .exc c ns vs s := by
  unfold dictF
  split
  · unfold dictOf
    split
    · unfold dictR
      split <;> simp
    · simp
  · simp
theorem e_lcI {m : Bool} (L : Lnk X.prog X.w X.K X.mg X.base T P k lv) (hn : pkB T ce = true) {els : List Expr} {kk : Nat} {tpos cpos : Pos} (b : BlkR X T (P.ctx (callN P k)) t c (.Tuple els kk tpos) (.Call (.Attribute iter "items" apos) [] [] cpos) ifs scope own)
    (he : ∀ (s : Shared) (H : Hp) (A : Addr) (cl : List (Str × Addr)) (fp : List Addr), PE (X.blk s H scope (compEnvC scope cl A X.env) fp) elt (tE X.K T W0 (evE (P.ctx (callN P k)) ee)))
    (ha : PE X iter (tPk X.K T ce)) (hb : notSuper iter = true) (hline : (apos.endLine == cpos.line) = true) :
    PE X (.ListComp elt [⟨.Tuple els kk tpos, .Call (.Attribute iter "items" apos) [] [] cpos, ifs, 0⟩] scope pos) (tE X.K T W fun env st => (evI (P.ctx (callN P k)) (.items ce) env st).bind fun w st => (noX (loopL w (lcBody (P.ctx (callN P k)) t c ee env) w.xs st)).bind (newL m)) :=
  e_held (f := fun w env st => (noX (loopL w (lcBody (P.ctx (callN P k)) t c ee env) w.xs st)).bind (newL m)) L hn (fun w env st => noX_nx fun _ _ => newL_nx) (pe_lc b.calm b.nd (pi_items ha (base_ok hb) hline) b.ok b.tg b.ts he (set_ok b.set))
    fun σ H Q G μ env st d od kvs ks vs S E hy hd jw P1 => ⟨_, hy, d, od, kvs, rfl, hd, by rw [b.own]; exact lc_ok S E jw P1⟩
theorem e_dcI (L : Lnk X.prog X.w X.K X.mg X.base T P k lv) (hn : pkB T ce = true) {els : List Expr} {kk : Nat} {tpos cpos : Pos} (b : BlkR X T (P.ctx (callN P k)) t c (.Tuple els kk tpos) (.Call (.Attribute iter "items" apos) [] [] cpos) ifs scope own)
    (hk : ∀ (s : Shared) (H : Hp) (A : Addr) (cl : List (Str × Addr)) (fp : List Addr), PE (X.blk s H scope (compEnvC scope cl A X.env) fp) kx (tE X.K T W0 (evE (P.ctx (callN P k)) ek)))
    (he : ∀ (s : Shared) (H : Hp) (A : Addr) (cl : List (Str × Addr)) (fp : List Addr), PE (X.blk s H scope (compEnvC scope cl A X.env) fp) elt (tE X.K T W0 (evE (P.ctx (callN P k)) ee)))
    (ha : PE X iter (tPk X.K T ce)) (hb : notSuper iter = true) (hline : (apos.endLine == cpos.line) = true) :
    PE X (.DictComp kx elt [⟨.Tuple els kk tpos, .Call (.Attribute iter "items" apos) [] [] cpos, ifs, 0⟩] scope pos) (tE X.K T W fun env st => (evI (P.ctx (callN P k)) (.items ce) env st).bind fun w st => (noX (loopL w (dcBody (P.ctx (callN P k)) t c ek ee env) w.xs st)).bind (dictF false)) :=
  e_held (f := fun w env st => (noX (loopL w (dcBody (P.ctx (callN P k)) t c ek ee env) w.xs st)).bind (dictF false)) L hn (fun w env st => noX_nx fun _ _ => dictF_nx) (pe_dc b.calm b.nd (pi_items ha (base_ok hb) hline) b.ok b.tg b.ts hk he (set_ok b.set))
    fun σ H Q G μ env st d od kvs ks vs S E hy hd jw P1 => ⟨_, hy, d, od, kvs, rfl, hd, by rw [b.own]; exact dc_ok S E jw P1⟩
end
end KG

set_option linter.all false
set_option maxRecDepth 100000
set_option maxHeartbeats 4000000
/-! K1na: a dict comprehension of two clauses, neither with a test: the program's side. -/
namespace KG
open PySem PySem.Spec PyProof.Rows L2

/-- {kx: vx for ta in ia for tb in ib} -/
abbrev dcc (kx vx ta ia tb ib : Expr) (sc : Scope) (p : Pos) : Expr := .DictComp kx vx [⟨ta, ia, [], 0⟩, ⟨tb, ib, [], 0⟩] sc p
theorem dcc_outer (kx vx ta ia tb ib : Expr) (sc : Scope) (p : Pos) (it acc : Value) (cv : PySem.Env) :
    compTurn (dcc kx vx ta ia tb ib sc p) 0 it acc cv = (do
      standAt ia.pos
      match ← pyNext it with
      | none => pure (.done .next)
      | some u =>
        letOwnedTupleGo ta it u
        PySem.assign ta cv u
        let y ← eval ib cv
        standAt ib.pos
        let y ← foldedSetIterable ib cv y
        let _ ← runOwn (.compStart (dcc kx vx ta ia tb ib sc p) 1 (← holding [y] (pyIter y)) acc cv) cv
        again (.compLoop (dcc kx vx ta ia tb ib sc p) 0 it acc cv)) := by rfl
theorem dcc_inner (kx vx ta ia tb ib : Expr) (sc : Scope) (p : Pos) (it : Value) (D : Addr) (cv : PySem.Env) :
    compTurn (dcc kx vx ta ia tb ib sc p) 1 it (.ref D) cv = (do
      standAt ib.pos
      match ← pyNext it with
      | none => pure (.done .next)
      | some u =>
        letOwnedTupleGo tb it u
        PySem.assign tb cv u
        (do
          let a ← eval kx cv
          let b ← holding [a] (eval vx cv)
          standAt { kx.pos with endLine := vx.pos.endLine, endCol := vx.pos.endCol }
          holding [a, b] (dictSet D a b))
        again (.compLoop (dcc kx vx ta ia tb ib sc p) 1 it (.ref D) cv)) := by rfl

section
variable {prog : Program} {w : World} {A : Around} {R : Result → Shared → Prop} {s : Shared} {kx vx ta ia tb ib : Expr} {sc : Scope} {p : Pos} {it acc : Value} {D : Addr} {cv : PySem.Env}
/-- an exception on the way out of a clause's turn -/
abbrev Out (prog : Program) (w : World) (A : Around) (cv : PySem.Env) (R : Result → Shared → Prop) : Value → Shared → Prop := notedBy (model prog w) A cv fun x s' => R (.error x) s'
theorem dcc_loopA (still : ∀ y, foldedSetIterable ib cv y = pure y) (I : Nat → Shared → Prop)
    (turn : ∀ n s, I n s → wpAny (model prog w) A (pyNext it) (fun r s1 => match r with
      | none => R (.ok .next) s1
      | some u => wpAny (model prog w) A (letOwnedTupleGo ta it u) (fun _ s2 => wpAny (model prog w) A (PySem.assign ta cv u) (fun _ s3 => wpAny (model prog w) A (eval ib cv) (fun y s4 => wpAny (model prog w) A (pyIter y) (fun j s5 =>
          codeAny (model prog w) A (.compStart (dcc kx vx ta ia tb ib sc p) 1 j acc cv) (fun r s' => match r with
            | .ok _ => ∃ m, m < n ∧ I m s'
            | .error _ => False) s5) (Out prog w A cv R) s4) (Out prog w A cv R) s3) (Out prog w A cv R) s2) (Out prog w A cv R) s1) (Out prog w A cv R) s)
    (n : Nat) (h : I n s) : codeAny (model prog w) A (.compLoop (dcc kx vx ta ia tb ib sc p) 0 it acc cv) R s := by
  refine codeAny_loop rfl I (fun n s hI => ?_) n h
  show wpAny _ A ((compTurn (dcc kx vx ta ia tb ib sc p) 0 it acc cv).onRaise (fun x => do noteFrame x cv; theTreesLotGoes x)) _ _ s
  refine wpAny_noted ?_
  rw [dcc_outer]
  refine wpAny_bind (wpAny_standAt (wpAny_bind (wpAny_mono (turn n s hI) (fun r s1 g1 => ?_) fun _ _ z => z)))
  cases r with
  | none => exact wpAny_pure g1
  | some u =>
    refine wpAny_bind (wpAny_mono g1 (fun _ s2 g2 => wpAny_bind (wpAny_mono g2 (fun _ s3 g3 => wpAny_bind (wpAny_mono g3 (fun y s4 g4 => ?_) fun _ _ z => z)) fun _ _ z => z)) fun _ _ z => z)
    refine wpAny_bind (wpAny_standAt (wpAny_bind (wpAny_of_eq (still y) (wpAny_bind (wpAny_holding (wpAny_mono g4 (fun j s5 g5 => wpAny_bind (wpAny_runOwn ?_)) fun _ _ z => z))))))
    rw [Around.mark_none]
    refine codeAny_mono g5 fun r s' hr => ?_
    cases r with
    | error x => exact hr.elim
    | ok f =>
      first
        | exact wpAny_pure ⟨rfl, hr⟩
        | exact wpAny_bind (wpAny_pure (wpAny_pure ⟨rfl, hr⟩))
theorem dcc_loopB (I : Nat → Shared → Prop)
    (turn : ∀ n s, I n s → wpAny (model prog w) A (pyNext it) (fun r s1 => match r with
      | none => R (.ok .next) s1
      | some u => wpAny (model prog w) A (letOwnedTupleGo tb it u) (fun _ s2 => wpAny (model prog w) A (PySem.assign tb cv u) (fun _ s3 => wpAny (model prog w) A (eval kx cv) (fun a s4 => wpAny (model prog w) A (eval vx cv) (fun b s5 =>
          wpAny (model prog w) A (dictSet D a b) (fun _ s6 => ∃ m, m < n ∧ I m s6) (Out prog w A cv R) s5) (Out prog w A cv R) s4) (Out prog w A cv R) s3) (Out prog w A cv R) s2) (Out prog w A cv R) s1) (Out prog w A cv R) s)
    (n : Nat) (h : I n s) : codeAny (model prog w) A (.compLoop (dcc kx vx ta ia tb ib sc p) 1 it (.ref D) cv) R s := by
  refine codeAny_loop rfl I (fun n s hI => ?_) n h
  show wpAny _ A ((compTurn (dcc kx vx ta ia tb ib sc p) 1 it (.ref D) cv).onRaise (fun x => do noteFrame x cv; theTreesLotGoes x)) _ _ s
  refine wpAny_noted ?_
  rw [dcc_inner]
  refine wpAny_bind (wpAny_standAt (wpAny_bind (wpAny_mono (turn n s hI) (fun r s1 g1 => ?_) fun _ _ z => z)))
  cases r with
  | none => exact wpAny_pure g1
  | some u =>
    refine wpAny_bind (wpAny_mono g1 (fun _ s2 g2 => wpAny_bind (wpAny_mono g2 (fun _ s3 g3 => ?_) fun _ _ z => z)) fun _ _ z => z)
    refine wpAny_bind (wpAny_bind (wpAny_mono g3 (fun a s4 g4 => wpAny_bind (wpAny_holding (wpAny_mono g4 (fun b s5 g5 => ?_) fun _ _ z => z))) fun _ _ z => z))
    exact wpAny_bind (wpAny_standAt (wpAny_holding (wpAny_mono g5 (fun _ s6 g6 => wpAny_pure ⟨rfl, g6⟩) fun _ _ z => z)))
/-- the inner clause starts: with the iterator that came, or with that one's own iterator -/
theorem dcc_start (h0 : codeAny (model prog w) A (.compLoop (dcc kx vx ta ia tb ib sc p) 1 it acc cv) R s)
    (h : wpAny (model prog w) A (pyIter it) (fun j s' => codeAny (model prog w) A (.compLoop (dcc kx vx ta ia tb ib sc p) 1 j acc cv) R s') (Out prog w A cv R) s) :
    codeAny (model prog w) A (.compStart (dcc kx vx ta ia tb ib sc p) 1 it acc cv) R s := by
  refine codeAny_of_tree ?_
  show wpAny _ _ ((compStart (dcc kx vx ta ia tb ib sc p) 1 it acc cv).onRaise (fun x => do noteFrame x cv; standAt theWindowsPlace)) _ _ s
  refine wpAny_notedAt ?_
  unfold compStart
  show wpAny _ _ (ask >>= _) _ _ s
  refine wpAny_bind (wpAny_askSetting (wpAny_ite ?_))
  split
  · first
      | exact wpAny_pure ⟨rfl, h0⟩
      | exact wpAny_bind (wpAny_pure (wpAny_pure ⟨rfl, h0⟩))
  · refine wpAny_bind (wpAny_rule ?_)
    first
      | exact wpAny_bind (wpAny_standAt (wpAny_bind (wpAny_mono h (fun j s' hj => wpAny_pure (And.intro rfl hj)) fun _ _ z => z)))
      | (show wpAny _ _ (standAt ib.pos >>= _) _ _ s; exact wpAny_bind (wpAny_standAt (wpAny_bind (wpAny_mono h (fun j s' hj => wpAny_pure (And.intro rfl hj)) fun _ _ z => z))))
end

/-- what the parts of the block do, in the block's own context -/
structure Clauses (Y : Cx) (kx vx ta tb ib : Expr) (ga : TG) (wb : TI) (gb : TG) (tk tv : TE) : Prop where
  a : PG Y ta ga
  j : PI Y tb ib wb
  b : PG Y tb gb
  k : PE Y kx tk
  v : PE Y vx tv
/-- one turn of the inner clause: the pair is put -/
def putT (D : Addr) (gb : TG) (tk tv : TE) (ob : List Nat) (σ : L2.St) (Ny : Hp → Prop) (x : V) (H : Hp) : Prop := gb x (wipe σ ob) H fun σ' H1 => wipe σ' ob = wipe σ ob ∧ tk σ' H1 fun a H2 => tv σ' H2 fun b H3 =>
  ∃ kvs q, a = kV q ∧ H3 D = some (.dK kvs) ∧ kvs.length < sizeLine ∧ Ny (upd H3 D (.dK (putK kvs q b)))
/-- a walk over J that goes down with each turn -/
def Walk (J : It) (ws : Nat → Nat → Hp → Prop) (fin : Hp → Prop) (turn : (Hp → Prop) → V → Hp → Prop) : Prop := ∀ i m H, ws i m H → (J.stop i H ∧ fin H) ∨ (J.go i H ∧ ∃ Nx : Hp → Prop, (∀ H', Nx H' → ∃ m', m' < m ∧ ws (i + 1) m' H') ∧ ∀ x H', J.yld i H x H' → turn Nx x H')
def outT (D : Addr) (ga : TG) (wb : TI) (gb : TG) (tk tv : TE) (os ob : List Nat) (σ : L2.St) (Nx : Hp → Prop) (x : V) (H : Hp) : Prop := ga x (wipe σ os) H fun σ' H1 => wipe σ' os = wipe σ os ∧ wb σ' H1 fun L H2 =>
  ∃ ws : Nat → Nat → Hp → Prop, (∃ m, ws 0 m H2) ∧ Walk L ws Nx (putT D gb tk tv ob σ')
def tDcc (wa : TI) (ga : TG) (wb : TI) (gb : TG) (tk tv : TE) (os ob : List Nat) : TE := fun σ H Q => wa σ H fun J H1 => ∀ D, H1 D = none → ∃ ws : Nat → Nat → Hp → Prop, (∃ m, ws 0 m (upd H1 D (.dK []))) ∧ Walk J ws (fun H' => Q (.ref D) H') (outT D ga wb gb tk tv os ob σ)

section
variable {Y : Cx} {kx vx ta ia tb ib : Expr} {ga gb : TG} {wb : TI} {tk tv : TE} {sc : Scope} {p : Pos} {pins : List (Addr × Obj)} {σ : L2.St} {H : Hp} {s : Shared} {fp : List Addr} {it D : Addr} {tn : Nat → Heap → Prop} {J : It} {R : Result → Shared → Prop} {ws : Nat → Nat → Hp → Prop}
/-- behind one turn the walk's own objects stand as they stood -/
theorem back_pins {s0 s' : Shared} {H' : Hp} {i : Nat} {tg : Expr} {σ' σ0 : L2.St} (T : Turn Y.prog Y.w Y.K tg J fp it tn) (st : tn i s0.heap) (I : Inv Y (pins ++ pinsAt fp s0.heap) σ' H' s') (hl : σ0.length = σ'.length) (hk : ∀ (j : Nat) v, σ0[j]? = some (some v) → σ'[j]? = some (some v)) :
    Inv Y pins σ0 H' s' ∧ tn i s'.heap ∧ ∀ b ∈ fp, H' b = none := by
  have same : ∀ b ∈ fp, ∀ o, s0.heap.get? b = some o → s'.heap.get? b = some o ∧ H' b = none := fun b hb o e =>
    let z := I.pin (b, o) (List.mem_append_right _ (List.mem_append_right _ (mem_pinsAt hb e)))
    ⟨z.1, z.2.1⟩
  refine ⟨I.unpinned.weak hl hk, T.keep _ _ _ st fun b hb o e => (same b hb o e).1, fun b hb => ?_⟩
  obtain ⟨o, e, _⟩ := T.obj _ _ st b hb
  exact (same b hb o e).2
theorem wipe_len_eq {σ σ' : L2.St} {vs : List Nat} (h : wipe σ' vs = wipe σ vs) : (wipe σ vs).length = σ'.length := by rw [← h, wipe_length]
theorem wipe_get_eq {σ σ' : L2.St} {vs : List Nat} (h : wipe σ' vs = wipe σ vs) (j : Nat) (v : V) (e : (wipe σ vs)[j]? = some (some v)) : σ'[j]? = some (some v) := by
  rw [← h] at e
  exact (wipe_some e).1
theorem dcc_in (hx : Y.xe = fun _ _ => False) (hc : Y.calm = true) (C : Clauses Y kx vx ta tb ib ga wb gb tk tv) {ob : List Nat} {Nx : Hp → Prop} (T : Turn Y.prog Y.w Y.K tb J fp it tn) (I : Inv Y pins σ H s) (st : tn 0 s.heap) (f : ∀ b ∈ fp, FpOk Y pins H b)
    (v0 : ∃ m, ws 0 m H) (W : Walk J ws Nx (putT D gb tk tv ob σ)) (fin : ∀ s' H', Inv Y pins (wipe σ ob) H' s' → Nx H' → R (.ok .next) s') :
    codeAny (model Y.prog Y.w) Y.A (.compLoop (dcc kx vx ta ia tb ib sc p) 1 (.ref it) (.ref D) Y.env) R s := by
  obtain ⟨m0, v0⟩ := v0
  have fk : ∀ {H' : Hp}, (∀ b ∈ fp, H' b = none) → ∀ b ∈ fp, FpOk Y pins H' b := fun hn b hb => ⟨hn b hb, (f b hb).2⟩
  refine dcc_loopB (fun n s' => ∃ i H', Inv Y pins (wipe σ ob) H' s' ∧ tn i s'.heap ∧ (∀ b ∈ fp, H' b = none) ∧ ws i n H') ?_ m0 ⟨0, H, I.weak (wipe_length _ _) (fun j v e => (wipe_some e).1), st, fun b hb => (f b hb).1, v0⟩
  rintro n s1 ⟨i, H1, I1, st1, n1, w1⟩
  rcases W i n H1 w1 with ⟨hs, hq⟩ | ⟨hg, Ny, hNy, step⟩
  · refine thnF (T.done Y rfl rfl rfl hc i pins s1 _ H1 (fun _ _ => False) I1 (fk n1) st1 hs) fun r s2 ⟨hr, I2⟩ => ?_
    subst hr
    exact fin s2 H1 I2 hq
  · refine thnF (T.item Y rfl rfl rfl hc i pins s1 _ H1 (fun _ _ => False) I1 (fk n1) st1 hg) fun r s2 ⟨u, hr, g2⟩ => ?_
    subst hr
    refine thnF g2 fun _ s3 ⟨x, H3, I3, r3, y3, st3, n3⟩ => ?_
    have nox : ∀ {α : Type} {t : Sem α} {Q Q' : α → Shared → Prop} {E : Value → Shared → Prop} {z : Shared}, wpAny (model Y.prog Y.w) Y.A t Q Y.xe z → (∀ a z', Q a z' → Q' a z') → wpAny (model Y.prog Y.w) Y.A t Q' E z := fun q imp => by rw [hx] at q; exact thnF q imp
    refine nox (C.b.run _ s3 _ H3 x u _ (I3.pinned (fk n3) (T.obj _ _ st3)) r3 (step x H3 y3)) fun _ s4 ⟨σ4, H4, I4, hw, q4⟩ => ?_
    refine nox (C.k.run _ s4 σ4 H4 _ I4 q4) fun a s5 ⟨va, H5, I5, r5, q5⟩ => ?_
    refine nox (C.v.run _ s5 σ4 H5 _ I5 q5) fun b s6 ⟨vb, H6, I6, r6, kvs, q, ea, hD, hz, nx⟩ => ?_
    subst ea
    refine d_dictSet I6 hD hz r5 r6 fun s7 I7 => ?_
    obtain ⟨m', lt, w'⟩ := hNy _ nx
    obtain ⟨I8, st8, n8⟩ := back_pins T st3 I7 (wipe_len_eq hw) (wipe_get_eq hw)
    exact ⟨m', lt, i + 1, _, I8, st8, n8, w'⟩
theorem dcc_out (hx : Y.xe = fun _ _ => False) (hc : Y.calm = true) (C : Clauses Y kx vx ta tb ib ga wb gb tk tv) {os ob : List Nat} {Nx : Hp → Prop} (still : ∀ y, foldedSetIterable ib Y.env y = pure y) (sub : ∀ i ∈ ob, i ∈ os) (T : Turn Y.prog Y.w Y.K ta J fp it tn)
    (I : Inv Y pins (wipe σ os) H s) (st : tn 0 s.heap) (f : ∀ b ∈ fp, FpOk Y pins H b)
    (v0 : ∃ m, ws 0 m H) (W : Walk J ws Nx (outT D ga wb gb tk tv os ob σ)) (fin : ∀ s' H', Inv Y pins (wipe σ os) H' s' → Nx H' → R (.ok .next) s') :
    codeAny (model Y.prog Y.w) Y.A (.compLoop (dcc kx vx ta ia tb ib sc p) 0 (.ref it) (.ref D) Y.env) R s := by
  obtain ⟨m0, v0⟩ := v0
  have fk : ∀ {H' : Hp}, (∀ b ∈ fp, H' b = none) → ∀ b ∈ fp, FpOk Y pins H' b := fun hn b hb => ⟨hn b hb, (f b hb).2⟩
  refine dcc_loopA still (fun n s' => ∃ i H', Inv Y pins (wipe σ os) H' s' ∧ tn i s'.heap ∧ (∀ b ∈ fp, H' b = none) ∧ ws i n H') ?_ m0 ⟨0, H, I, st, fun b hb => (f b hb).1, v0⟩
  rintro n s1 ⟨i, H1, I1, st1, n1, w1⟩
  rcases W i n H1 w1 with ⟨hs, hq⟩ | ⟨hg, Nz, hNz, step⟩
  · refine thnF (T.done Y rfl rfl rfl hc i pins s1 _ H1 (fun _ _ => False) I1 (fk n1) st1 hs) fun r s2 ⟨hr, I2⟩ => ?_
    subst hr
    exact fin s2 H1 I2 hq
  · refine thnF (T.item Y rfl rfl rfl hc i pins s1 _ H1 (fun _ _ => False) I1 (fk n1) st1 hg) fun r s2 ⟨u, hr, g2⟩ => ?_
    subst hr
    refine thnF g2 fun _ s3 ⟨x, H3, I3, r3, y3, st3, n3⟩ => ?_
    have nox : ∀ {α : Type} {t : Sem α} {Q Q' : α → Shared → Prop} {E : Value → Shared → Prop} {z : Shared}, wpAny (model Y.prog Y.w) Y.A t Q Y.xe z → (∀ a z', Q a z' → Q' a z') → wpAny (model Y.prog Y.w) Y.A t Q' E z := fun q imp => by rw [hx] at q; exact thnF q imp
    refine nox (C.a.run _ s3 _ H3 x u _ (I3.pinned (fk n3) (T.obj _ _ st3)) r3 (step x H3 y3)) fun _ s4 ⟨σ4, H4, I4, hw, q4⟩ => ?_
    refine nox (C.j.run _ s4 σ4 H4 _ I4 q4) fun y s5 g5 => nox g5 fun jv s6 g6 => ?_
    obtain ⟨it1, fp1, tn1, J1, H6, e1, I6, T1, st6, f6, V1, v1, W1⟩ := g6
    subst e1
    have inner : codeAny (model Y.prog Y.w) Y.A (.compLoop (dcc kx vx ta ia tb ib sc p) 1 (.ref it1) (.ref D) Y.env) (fun r s' => match r with
        | .ok _ => ∃ m, m < n ∧ ∃ i H', Inv Y pins (wipe σ os) H' s' ∧ tn i s'.heap ∧ (∀ b ∈ fp, H' b = none) ∧ ws i m H'
        | .error _ => False) s6 := by
      refine dcc_in hx hc C T1 I6 st6 f6 v1 W1 fun s' H' I' nx => ?_
      obtain ⟨m', lt, w'⟩ := hNz _ nx
      obtain ⟨I8, st8, n8⟩ := back_pins (σ0 := wipe σ os) T st3 I' ((wipe_len_eq hw).trans (wipe_length σ4 ob).symm) fun j v e => by
        rw [← hw] at e
        obtain ⟨e1, e2⟩ := wipe_some e
        rw [wipe_out fun z => e2 (sub j z)]
        exact e1
      exact ⟨m', lt, i + 1, _, I8, st8, n8, w'⟩
    exact dcc_start inner (T1.self Y.A 0 _ _ _ st6 inner)
end

section
variable {X : Cx}
/-- as a value -/
theorem pe_dcc {kx vx ta ia tb ib : Expr} {sc : Scope} {own : List (Str × Nat)} {ob : List Nat} {pos : Pos} {wa wb : TI} {ga gb : TG} {tk tv : TE} (hc : X.calm = true) (hN : X.N.Nodup) (hi : PI X ta ia wa) (ok : BlkOk X.N X.env.scope sc own) (sub : ∀ i ∈ ob, i ∈ own.map (·.2))
    (parts : ∀ (s : Shared) (H : Hp) (C : Addr) (cl : List (Str × Addr)) (fp : List Addr), Clauses (X.blk s H sc (compEnvC sc cl C X.env) fp) kx vx ta tb ib ga wb gb tk tv)
    (stillA : ∀ y, foldedSetIterable ia X.env y = pure y) (stillB : ∀ cv y, foldedSetIterable ib cv y = pure y) :
    PE X (dcc kx vx ta ia tb ib sc pos) (tDcc wa ga wb gb tk tv (own.map (·.2)) ob) := by
  refine ⟨fun pins s σ H Q I h => ?_⟩
  rw [arm_eval_DictComp]
  have free : ∀ y ∈ sc.names, y.2 = .free → ∃ c, X.env.cells.lookup y.1 = some c := fun y hy e => I.ok.has _ (ok.free y hy e)
  refine wpAny_comprehension_free (use := none) rfl stillA (closure_ok free) ok.kind (fun y hy e => by rw [ok.uniq y hy, e]) (thn (hi.run pins s σ H _ I h) fun _ s1 g1 => thn g1 fun _ s2 g2 => ?_)
  obtain ⟨it, fp, tn, J, H2, e, I2, T, st2, f2, q⟩ := g2
  subst e
  refine wpAny_newObj_type (newEnv_comp ?_)
  generalize hD : s2.heap.objs.size = D
  obtain ⟨ws, w0, turn⟩ := q D (I2.hok.fresh (Nat.le_of_eq hD))
  generalize hs3 : ({ s2 with heap := s2.heap.push { cls := .type "dict", data := .dict #[] } } : Shared) = s3
  have h3 : s3.heap = s2.heap.push { cls := .type "dict", data := .dict #[] } := by rw [← hs3]
  have up3 : ∀ b o, s2.heap.get? b = some o → s3.heap.get? b = some o := fun b o e => by rw [h3]; exact Heap.get?_push_of_some _ e
  have I3 : Inv X pins σ (upd H2 D (.dK [])) s3 := by
    rw [← hs3]
    refine I2.laid (t' := s2.toks) (fun b o e => Heap.get?_push_of_some _ e) (Nat.le_of_eq hD) ?_
    rw [← hD]
    exact dk_empty s2.heap I2.big
  have f3 : ∀ b ∈ fp, FpOk X pins (upd H2 D (.dK [])) b ∧ b < s3.heap.objs.size := fun b hb => by
    obtain ⟨o, e, _⟩ := T.obj _ _ st2 b hb
    have below := Heap.lt_size e
    refine ⟨⟨?_, (f2 b hb).2⟩, Heap.lt_size (up3 b o e)⟩
    rw [upd_ne (by rw [← hD]; exact Nat.ne_of_lt below)]
    exact (f2 b hb).1
  have I4 := block_start I3 ok hN f3
  generalize hH3 : upd H2 D (.dK []) = H3 at I3 I4 w0 f3
  have C := parts s3 H3 s3.heap.objs.size (cellsFrom (s3.heap.objs.size + 1) sc.names (cloFrom X.env.cells sc.names [])) fp
  generalize hce : compEnvC sc (cellsFrom (s3.heap.objs.size + 1) sc.names (cloFrom X.env.cells sc.names [])) s3.heap.objs.size X.env = ce at I4 C
  have cL : ce.locals = s3.heap.objs.size := by subst hce; rfl
  generalize hs4 : ({ s3 with heap := pushCells (s3.heap.push { cls := .type "dict", data := .dict #[] }) sc.names } : Shared) = s4 at I4
  have st4 : tn 0 s4.heap := T.keep _ _ _ (T.keep _ _ _ st2 fun b _ o e => up3 b o e) fun b _ o e => by rw [← hs4]; exact pushCells_keeps _ _ _ _ (Heap.get?_push_of_some _ e)
  have f4 : ∀ b ∈ fp, FpOk (X.blk s3 H3 sc ce fp) [] H3 b := fun b hb => ⟨(f3 b hb).1.1, (I4.ok.exf b hb).1, I4.ok.exfs b hb, .inl hb, fun x c e => (I4.ok.exf b hb).2 x c e, fun r hr => absurd (show r ∈ ([] : List (Addr × Obj)) ++ [] from hr) (by simp)⟩
  have loop : codeAny (model X.prog X.w) X.A (.compLoop (dcc kx vx ta ia tb ib sc pos) 0 (.ref it) (.ref D) ce) (compPost (model X.prog X.w) X.A X.xe none (EP X pins σ Q) (.ref D) s3.heap.objs.size) s4 := by
    refine dcc_out (Y := X.blk s3 H3 sc ce fp) rfl hc C (stillB ce) sub T I4 st4 f4 w0 turn fun s6 H6 I6 hq => ?_
    have I7 : Inv X pins σ H6 s6 := I3.call' (ch := fp) I6.os I6.base I6.hok I6.bare fun b hb => ⟨(f3 b hb).1.2.2.2.1, (f3 b hb).1.2.1, (f3 b hb).1.2.2.2.2.1, (f3 b hb).1.2.2.2.2.2⟩
    obtain ⟨m, hn, _⟩ := I6.loc
    have hn : s6.heap.Ns ce.locals m := hn
    rw [cL] at hn
    have nC : H6 s3.heap.objs.size = none := by
      rw [← cL]
      exact I6.free
    obtain ⟨a0, a1, a2, a3, a4, a5⟩ := I3.fpOk (pins := pins) (Nat.le_refl _) nC
    exact ⟨m, hn, fun h'' sb => ⟨.ref D, H6, I7.turned (t' := s6.toks) (fun b o hb e => (sb.2 b hb).trans e) a0 a1 a3 a4 a5, rfl, hq⟩⟩
  show codeAny _ _ (.compStart (dcc kx vx ta ia tb ib sc pos) 0 (.ref it) (.ref D) (compEnvC sc (cellsFrom (s3.heap.objs.size + 1) sc.names (cloFrom X.env.cells sc.names [])) s3.heap.objs.size X.env)) (compPost (model X.prog X.w) X.A X.xe none (EP X pins σ Q) (.ref D) s3.heap.objs.size) s4
  rw [hce]
  exact codeAny_compStart_dict loop (T.self X.A 0 _ _ _ st4 loop)
end
end KG

set_option linter.all false
set_option maxRecDepth 100000
set_option maxHeartbeats 4000000
/-! K1nb: a dict comprehension of two clauses: what the evaluator says is what its loops do. -/
namespace KG
open PySem PySem.Spec PyProof.Rows L2

theorem wipeE_app (env : KG.Env) (bs : List Nat) : ∀ as : List Nat, wipeE env (as ++ bs) = wipeE (wipeE env bs) as
  | [] => rfl
  | a :: as => by
    show (wipeE env (as ++ bs)).set a none = (wipeE (wipeE env bs) as).set a none
    rw [wipeE_app env bs as]
/-- one turn of the inner clause -/
def putB (C : Ctx) (t : Tg) (k e : CE) (env : KG.Env) : Val → Store → R (List (Val × Val)) := fun v st => (optR (bindT t v env) st).bind fun env st => (evE C k env st).bind fun x st => (evE C e env st).bind fun y st => two x y st
/-- one turn of the outer one -/
def outB (C : Ctx) (t : Tg) (it : CI) (t2 : Tg) (k e : CE) (env : KG.Env) : Val → Store → R (List (Val × Val)) := fun v st => (optR (bindT t v (wipeE env (tgSlots t2))) st).bind fun env st => (evI C it env st).bind fun w st => loopL w (putB C t2 k e env) w.xs st
theorem putB_ok {C : Ctx} {t : Tg} {k e : CE} {env : KG.Env} {v : Val} {st st' : Store} {ys : List (Val × Val)} (h : putB C t k e env v st = .ok ys st') :
    ∃ env' x y s2, bindT t v env = some env' ∧ ys = [(x, y)] ∧ evE C k env' st = .ok (.v x) s2 ∧ evE C e env' s2 = .ok (.v y) st' := by
  obtain ⟨env', s0, h1, h2⟩ := bind_ok h
  obtain ⟨h1', h1e⟩ := optR_ok h1
  subst h1e
  obtain ⟨x, s2, h5, h6⟩ := bind_ok h2
  obtain ⟨y, s3, h7, h8⟩ := bind_ok h6
  cases x with
  | v a =>
    cases y with
    | v b => cases h8; exact ⟨env', a, b, s2, h1', rfl, h5, h7⟩
    | r n => cases h8
    | k xs => cases h8
  | r n => cases h8
  | k xs => cases h8
theorem outB_ok {C : Ctx} {t t2 : Tg} {it : CI} {k e : CE} {env : KG.Env} {v : Val} {st st' : Store} {ys : List (Val × Val)} (h : outB C t it t2 k e env v st = .ok ys st') :
    ∃ env' w s1, bindT t v (wipeE env (tgSlots t2)) = some env' ∧ evI C it env' st = .ok w s1 ∧ loopL w (putB C t2 k e env') w.xs s1 = .ok ys st' := by
  obtain ⟨env', s0, h1, h2⟩ := bind_ok h
  obtain ⟨h1', h1e⟩ := optR_ok h1
  subst h1e
  obtain ⟨w, s2, h5, h6⟩ := bind_ok h2
  exact ⟨env', w, s2, h1', h5, h6⟩
/-- a heap without one address -/
noncomputable def minus (H : Hp) (D : Addr) : Hp := fun a => if a = D then none else H a
theorem minus_none {H : Hp} {D : Addr} : minus H D D = none := if_pos rfl
theorem minus_wo {G : Addr → Prop} {H : Hp} {D : Addr} : Wo (Gd G D) (minus H D) H := fun a h => if_neg fun z => h (.inr z)
theorem Ext.minus {μ : Mu} {H : Hp} {D : Addr} : Ext μ (KG.minus H D) μ H := ⟨Nat.le_refl _, fun _ _ _ q => q, fun a o q _ => by
  unfold KG.minus at q
  split at q
  · cases q
  · exact q, fun _ q => .inl q⟩
/-- what is known while the dict grows: how it stands, what is yet to come -/
def Grows (K : PySem.W.Frag) (M : Nms) (G : Addr → Prop) (D : Addr) (μ : Mu) (H1 : Hp) (kF vF : List Val) (more : List (Val × Val)) (μi : Mu) (H : Hp) (st : Store) : Prop := ∃ (kvs : List (Key × V)) (ks vs : List Val),
  Ext μ H1 μi H ∧ SR K M (Gd G D) μi H st ∧ H D = some (.dK kvs) ∧ Paired KR ks (kvs.map (·.1)) ∧ Paired (VR M (Fz (Gd G D) μi) H) vs (kvs.map (·.2)) ∧ dputs false ks vs more = some (kF, vF) ∧ kvs.length + more.length < LIM
theorem Grows.step {K : PySem.W.Frag} {M : Nms} {G : Addr → Prop} {D : Addr} {μ : Mu} {H1 : Hp} {kF vF : List Val} {more : List (Val × Val)} {μi μ' : Mu} {H H' : Hp} {st st' : Store} (h : Grows K M G D μ H1 kF vF more μi H st) (e : Ext μi H μ' H') (S : SR K M (Gd G D) μ' H' st') : Grows K M G D μ H1 kF vF more μ' H' st' := by
  obtain ⟨kvs, ks, vs, X, S0, hD, pk, pv, hp, hz⟩ := h
  exact ⟨kvs, ks, vs, X.trans e, S, e.same D _ hD fun q => S0.apart D q (.inr rfl), pk, VR.exts e pv, hp, hz⟩
theorem dc2_ok {K : PySem.W.Frag} {T : Tab} {C : Ctx} {t t2 : Tg} {it : CI} {kx e : CE} {env : KG.Env} {G : Addr → Prop} {μ : Mu} {H1 : Hp} {st : Store} {σ : L2.St} {J : It} {w : Wk} {Q : VK} {B : EW}
    (S : SR K T.nms G μ H1 st) (E : ER K T.nms G μ H1 env σ) (jw : Jw K T.nms G J w μ H1) (P : Post K T.nms G (relX K T.nms G) μ H1 ((noX (loopL w (outB C t it t2 kx e env) w.xs st)).bind (dictF false)) Q B) :
    ∀ D, H1 D = none → ∃ ws : Nat → Nat → Hp → Prop, (∃ m, ws 0 m (upd H1 D (.dK []))) ∧ Walk J ws (fun H' => Q (.ref D) H') (outT D (gTg K T t) (tI K T W0 (evI C it)) (gTg K T t2) (tE K T W0 (evE C kx)) (tE K T W0 (evE C e)) (tgSlots t ++ tgSlots t2) (tgSlots t2) σ) := by
  intro D hD
  obtain ⟨zs, stE, hloop, P⟩ := noX_ok P
  unfold dictF at P
  split at P
  rotate_left
  · exact P.elim
  rename_i hz
  unfold dictOf at P
  split at P
  rotate_left
  · exact P.elim
  rename_i kF vF hput
  have hgD : ∀ a, Gd G D a → G a ∨ H1 a = none := fun a g => g.imp id fun z => by rw [z]; exact hD
  have nG : ¬ G D := fun g => S.there D g hD
  let Pv : Nat → Hp → Prop := fun i H => ∃ (μi : Mu) (sti : Store) (rest : List (Val × Val)), Grows K T.nms G D μ H1 kF vF rest μi H sti ∧ loopL w (outB C t it t2 kx e env) (w.xs.drop i) sti = .ok rest stE
  refine ⟨fun i m H => m = w.xs.length - i ∧ i ≤ w.xs.length ∧ Pv i H, ⟨w.xs.length, by simp, Nat.zero_le _, μ, st, zs, ⟨[], [], [], Ext.grow (grow_upd hD), S.gd hD, upd_same, .nil, .nil, hput, by simpa using hz⟩, by simpa using hloop⟩, ?_⟩
  rintro i mm H ⟨rfl, hi, μi, sti, rest, g, hl⟩
  have g' := g
  obtain ⟨kvs, ks, vs, X1, S1, hDH, pk, pv, hp, hsum⟩ := g'
  have E1 : ER K T.nms (Gd G D) μi H env σ := (E.weakG (Gd.fz hD)).ext X1
  by_cases hlt : i < w.xs.length
  rotate_left
  · have e0 : i = w.xs.length := by omega
    subst e0
    rw [List.drop_length] at hl
    obtain ⟨ho, rfl, rfl⟩ := loopL_nil hl
    refine .inl ⟨jw.stop (Gd G D) μi H stE hgD X1 S1 ho, ?_⟩
    have hp : some (ks, vs) = some (kF, vF) := hp
    cases hp
    unfold dictR at P
    rw [if_pos (by have := plen pk; rw [List.length_map] at this; have h0 : kvs.length + 0 < LIM := by simpa using hsum
                   omega)] at P
    exact P.at X1 S1.ungd (VR.dct_i.mpr ⟨D, rfl, S1.gd_fz nG, .inl ⟨kvs, rfl, .inl hDH, pk, pmono (fun _ _ q => VR.ungd q) pv⟩⟩)
  obtain ⟨x, hx⟩ : ∃ x, w.xs[i]? = some x := ⟨w.xs[i], by simp [hlt]⟩
  rw [drop_step hx] at hl
  obtain ⟨ho, ys, s1, zs', hb, hl', hr⟩ := loopL_cons hl
  obtain ⟨env', w2, s0, hbt, hit, hin⟩ := outB_ok hb
  obtain ⟨go, hy⟩ := jw.turn (Gd G D) μi H sti i x hgD X1 S1 ho hx
  refine .inr ⟨go, Pv (i + 1), fun H' p => ⟨_, by omega, rfl, hlt, p⟩, fun y H' hyl => ?_⟩
  obtain ⟨hgrow, ry⟩ := hy y H' hyl
  have X2 : Ext μi H μi H' := Ext.grow hgrow
  have S2 := S1.grow hgrow
  refine ⟨Gd G D, μi, wipeE env (tgSlots t ++ tgSlots t2), env', sti, x, S2, (E1.wipe _).ext X2, ry, by rw [wipeE_app, bindT_wipe]; exact hbt, fun σ' E3 hlen hag => ⟨wipe_agree hlen fun j hj => hag j fun q => hj (List.mem_append_left _ q), Gd G D, μi, env', sti, S2, E3, ?_⟩⟩
  rw [hit]
  intro μ3 H3 L X3 S3 jw2
  subst hr
  have g3 := g.step (X2.trans X3) S3
  have jw3 := jw2 (minus H3 D) minus_wo
  have E4 : ER K T.nms (Gd G D) μ3 (minus H3 D) env' σ' := (E3.ext X3).lk minus_wo.lk
  let Pi : Nat → Hp → Prop := fun j H => ∃ (μj : Mu) (stj : Store) (rest : List (Val × Val)), Grows K T.nms G D μ H1 kF vF (rest ++ zs') μj H stj ∧ Ext μ3 (minus H3 D) μj H ∧ loopL w2 (putB C t2 kx e env') (w2.xs.drop j) stj = .ok rest s1
  refine ⟨fun j m H => m = w2.xs.length - j ∧ j ≤ w2.xs.length ∧ Pi j H, ⟨w2.xs.length, by simp, Nat.zero_le _, μ3, s0, ys, g3, Ext.minus, by simpa using hin⟩, ?_⟩
  rintro j mm H ⟨rfl, hj, μj, stj, rest, gj, Xj, hlj⟩
  obtain ⟨kvs, ks, vs, X5, S5, hD5, pk, pv, hp, hsum⟩ := gj
  by_cases hjt : j < w2.xs.length
  rotate_left
  · have e0 : j = w2.xs.length := by omega
    subst e0
    rw [List.drop_length] at hlj
    obtain ⟨ho2, rfl, rfl⟩ := loopL_nil hlj
    exact .inl ⟨jw3.stop (Gd G D) μj H s1 (fun a q => .inl q) Xj S5 ho2, μj, s1, zs', ⟨kvs, ks, vs, X5, S5, hD5, pk, pv, hp, hsum⟩, hl'⟩
  obtain ⟨x2, hx2⟩ : ∃ x, w2.xs[j]? = some x := ⟨w2.xs[j], by simp [hjt]⟩
  rw [drop_step hx2] at hlj
  obtain ⟨ho2, ys2, s5, zs2, hb2, hl2, hr2⟩ := loopL_cons hlj
  obtain ⟨env2, a, b, s6, hbt2, rfl, he, he2⟩ := putB_ok hb2
  obtain ⟨go2, hy2⟩ := jw3.turn (Gd G D) μj H stj j x2 (fun a q => .inl q) Xj S5 ho2 hx2
  refine .inr ⟨go2, Pi (j + 1), fun H' p => ⟨_, by omega, rfl, hjt, p⟩, fun y2 H' hyl2 => ?_⟩
  obtain ⟨hgrow2, ry2⟩ := hy2 y2 H' hyl2
  have X6 : Ext μj H μj H' := Ext.grow hgrow2
  have S6 := S5.grow hgrow2
  refine ⟨Gd G D, μj, wipeE env' (tgSlots t2), env2, stj, x2, S6, ((E4.wipe _).ext Xj).ext X6, ry2, by rw [bindT_wipe]; exact hbt2, fun σ2 E6 hlen2 hag2 => ⟨wipe_agree hlen2 hag2, Gd G D, μj, env2, stj, S6, E6, ?_⟩⟩
  rw [he]
  intro μ7 H7 y7 X7 S7 r7
  refine ⟨Gd G D, μ7, env2, s6, S7, E6.ext X7, ?_⟩
  rw [he2]
  intro μ8 H8 y8 X8 S8 r8
  have nD : ∀ {μ' : Mu} {H' : Hp} {s : Store}, SR K T.nms (Gd G D) μ' H' s → some D ∉ μ' := fun S q => S.apart D q (.inr rfl)
  have hD8 : H8 D = some (.dK kvs) := X8.same D _ (X7.same D _ (hgrow2 D _ hD5) (nD S6)) (nD S7)
  subst hr2
  have hp' : (if fitKey false a = true then dputs false (dput ks vs a b).1 (dput ks vs a b).2 (zs2 ++ zs') else none) = some (kF, vF) := hp
  split at hp'
  rotate_left
  · cases hp'
  rename_i hf
  obtain ⟨kk, hkk⟩ := isKey_k (show isKey a = true from hf) r7
  have pv8 := VR.exts X8 (VR.exts X7 (VR.exts X6 pv))
  have dp := dput_ok (P := VR T.nms (Fz (Gd G D) μ8) H8) KR.eq hkk r8 pk pv8
  have hlen := putK_len kvs kk y8
  have hsum' : kvs.length + ((zs2.length + zs'.length) + 1) < LIM := by simpa [Nat.add_assoc, Nat.add_comm, Nat.add_left_comm] using hsum
  refine ⟨kvs, kk, hkk.v r7, hD8, by rw [← LIM_eq]; omega, μ8, s5, zs2, ⟨putK kvs kk y8, (dput ks vs a b).1, (dput ks vs a b).2, Ext.gdw (((X5.trans X6).trans X7).trans X8) hD, S8.gdw, upd_same, dp.1, pmono (fun _ _ q => VR.gdw q) dp.2, hp', ?_⟩, Ext.gdw (((Xj.trans X6).trans X7).trans X8) minus_none, hl2⟩
  rw [List.length_append]
  omega

def plainI : CI → Bool
  | .items _ => false
  | _ => true
section
variable {X : Cx} {T : Tab} {W : WX} {C : Ctx} {kx vx ta ia tb ib : Expr} {sc : Scope} {own : List (Str × Nat)} {pos : Pos} {t t2 : Tg} {it it2 : CI} {ek ee : CE}
theorem e_dc2 (hc : X.calm = true) (hN : X.N.Nodup) (ok : BlkOk X.N X.env.scope sc own) (ho : own.map (·.2) = tgSlots t ++ tgSlots t2) (hi : PI X ta ia (tI X.K T W (evI C it)))
    (parts : ∀ (s : Shared) (H : Hp) (A : Addr) (cl : List (Str × Addr)) (fp : List Addr), Clauses (X.blk s H sc (compEnvC sc cl A X.env) fp) kx vx ta tb ib (gTg X.K T t) (tI X.K T W0 (evI C it2)) (gTg X.K T t2) (tE X.K T W0 (evE C ek)) (tE X.K T W0 (evE C ee)))
    (sa : notSet ia = true) (sb : notSet ib = true) :
    PE X (dcc kx vx ta ia tb ib sc pos) (tE X.K T W fun env st => (evI C it env st).bind fun w st => (noX (loopL w (outB C t it2 t2 ek ee env) w.xs st)).bind (dictF false)) :=
  (pe_dcc (ob := tgSlots t2) hc hN hi ok (fun i hi => by rw [ho]; exact List.mem_append_right _ hi) parts (set_ok sa) (fun cv => set_ok sb)).weak fun σ H Q ⟨G, μ, env, st, S, E, P⟩ =>
    ⟨G, μ, env, st, S, E, (Post.bind P).imp fun J H1 ⟨w, st1, μ1, S1, E1, jw, P1⟩ => by rw [ho]; exact dc2_ok S1 (E.ext E1) jw P1⟩
end
end KG

set_option linter.all false
set_option maxRecDepth 100000
set_option maxHeartbeats 4000000
/-! K1o: the check of expressions, and what it gives. -/
namespace KG
open PySem PySem.Spec PyProof.Rows L2

/-! ### the check -/
def visB (sc : Scope) (x : Str) : Bool := sc.names.lookup x == some .local || sc.names.lookup x == some .cell || sc.names.lookup x == some .free
def glB (sc : Scope) (x : Str) : Bool := sc.names.lookup x == some .globalImplicit
def nmB (x : Str) : Bool := !(x == ("__debug__" : Str)) && !(x == ("__classdict__" : Str))
def cstB : Val → Expr → Bool
  | .none, .Constant .none _ _ => true
  | .bool b, .Constant (.bool c) _ _ => b == c
  | .int b, .Constant (.int c) _ _ => b == c
  | .str s, .Constant (.str x) _ _ => x == ⟨s.toArray⟩ && s.all fun c => decide (c < 1114112)
  | _, _ => false
def plainC : COp → Bool
  | .isN => false
  | .notN => false
  | _ => true
def blkB (N : List Str) (sc scope : Scope) (is : List Nat) : Bool :=
  scope.kind == .function && (scope.names.all (fun y => scope.names.lookup y.1 == some y.2) && (is.all (fun i => (N[i]?).isSome) &&
    (scope.names.all (fun y => !(y.2 == .free) || sc.names.lookup y.1 == some .cell || sc.names.lookup y.1 == some .free) &&
      scope.names.all (fun y => !(y.2 == .local || y.2 == .cell) || is.any (fun i => N[i]? == some y.1) || !(N.contains y.1)))))
/-- a call of a built-in function, by its name and the number of its arguments -/
def biNm : BI → Option (Str × Bool × Nat)
  | .len => some ("len", true, 1)
  | .int => some ("int", false, 1)
  | .tuple => some ("tuple", false, 1)
  | .list => some ("list", false, 1)
  | .all => some ("all", true, 1)
  | .any => some ("any", true, 1)
  | .sum => some ("sum", true, 1)
  | .max2 => some ("max", true, 2)
  | .min2 => some ("min", true, 2)
  | _ => none
def bmNm : BM → Option Str
  | .append => some "append"
  | .pop => some "pop"
  | .join => some "join"
  | .split => some "split"
  | .get2 => some "get"
  | .index => some "index"
  | _ => none
section
variable (P : Prg) (T : Tab) (N : List Str)
mutual
def okE : Scope → CE → Expr → Bool
  | _, .bad, _ => true
  | _, .cst v, x => cstB v x
  | sc, .var i, x => (match x with
    | .Name y _ => N[i]? == some y && (visB sc y && nmB y)
    | _ => false)
  | sc, .glob g, x => (match x with
    | .Name y _ => T.gnm g == some y && ((P.glob g).isSome && (glB sc y && nmB y))
    | _ => false)
  | sc, .bin m op a b, x => (match x with
    | .BinOp a' o b' _ => o == bop op && (okE sc a a' && okE sc b b')
    | _ => false)
  | sc, .neg a, x => (match x with
    | .UnaryOp .USub a' _ => okE sc a a'
    | _ => false)
  | sc, .cmp op a b, x => (match x with
    | .Compare a' [o] [b'] _ => o == cop op && (okE sc a a' && (okE sc b b' && (if plainC op then notSet b' else (match b, b' with
      | .cst .none, .Constant .none _ _ => true
      | _, _ => false))))
    | _ => false)
  | sc, .chain o p a b c, x => (match x with
    | .Compare a' [o', p'] [b', c'] _ => o' == cop o && (p' == cop p && (plainC o && (plainC p && (okE sc a a' && (okE sc b b' && (okE sc c c' && notSet c'))))))
    | _ => false)
  | sc, .and a b, x => (match x with
    | .BoolOp .And (a' :: b' :: []) _ => okE sc a a' && okE sc b b'
    | .BoolOp .And (a' :: b' :: r) p => okE sc a a' && okE sc b (.BoolOp .And (b' :: r) p)
    | _ => false)
  | sc, .or a b, x => (match x with
    | .BoolOp .Or (a' :: b' :: []) _ => okE sc a a' && okE sc b b'
    | .BoolOp .Or (a' :: b' :: r) p => okE sc a a' && okE sc b (.BoolOp .Or (b' :: r) p)
    | _ => false)
  | sc, .not a, x => (match x with
    | .UnaryOp .Not a' _ => okE sc a a'
    | _ => false)
  | sc, .ite c a b, x => (match x with
    | .IfExp c' a' b' _ => okT sc c c' && (okE sc a a' && okE sc b b')
    | _ => false)
  | sc, .tup es, x => (match x with
    | .Tuple es' _ _ => okEs sc es es'
    | _ => false)
  | sc, .lst m es, x => (match x with
    | .List es' _ => okEs sc es es'
    | _ => false)
  | sc, .dic m t es, x => (match es, x with
    | [], .Dict [] [] _ => true
    | _, _ => false)
  | _, .merge _ _, _ => false
  | sc, .ix a i, x => (match x with
    | .Subscript a' i' _ => okE sc a a' && (okE sc i i' && notSlice i')
    | _ => false)
  | sc, .sl m a lo hi, x => (match x with
    | .Subscript a' (.Slice lo' hi' none _) _ => okE sc a a' && (okO sc lo lo' && okO sc hi hi')
    | _ => false)
  | sc, .at a n, x => (match x with
    | .Attribute a' f _ => okE sc a a' && (f == T.nms.att n && (decide (n < T.natt) && notSuper a'))
    | _ => false)
  | sc, .call f as, x => (match x with
    | .Call (.Name y _) (e :: es) [] _ => T.fnm f == some y && (okEs sc as (e :: es) && (glB sc y && nmB y))
    | _ => false)
  | sc, .meth o n as, x => (match x with
    | .Call (.Attribute o' f ap) es [] p => okE sc o o' && (okEs sc as es && (f == T.nms.att n && (notSuper o' && (decide (es.length < 30) && ap.endLine == p.line))))
    | _ => false)
  | sc, .make m c as, x => (match x with
    | .Call (.Name y _) (e :: es) [] _ => T.cnm c == some y && (okEs sc as (e :: es) && ((P.init c).isSome && (glB sc y && nmB y)))
    | _ => false)
  | sc, .bi m b as, x => (match x with
    | .Call (.Name y _) (e :: es) [] _ => okEs sc as (e :: es) && (glB sc y && (match biNm b with
      | some (z, _, _) => y == z
      | none => false))
    | _ => false)
  | sc, .bm b o as, x => (match x with
    | .Call (.Attribute o' f ap) es [] p => okE sc o o' && (okEs sc as es && (notSuper o' && (decide (es.length < 30) && (ap.endLine == p.line && (match bmNm b with
      | some z => f == z && (match b with
        | .pop => es.isEmpty
        | .get2 => es.length == 2
        | _ => !es.isEmpty)
      | none => false)))))
    | _ => false)
  | sc, .isT a t, x => (match x with
    | .Call (.Name f _) [a', .Name y _] [] _ => f == "isinstance" && (y == Str.ofString (tyS t) && (okE sc a a' && (glB sc f && (glB sc y && notStar a'))))
    | _ => false)
  | sc, .isC a c, x => (match x with
    | .Call (.Name f _) [a', .Name y _] [] _ => f == "isinstance" && (T.cnm c == some y && (okE sc a a' && (glB sc f && (glB sc y && (notStar a' && nmB y)))))
    | _ => false)
  | sc, .lc m t it c e, x => (match x with
    | .ListComp e' [⟨tg, iter, ifs, n⟩] scope _ => n == 0 && (okI sc it iter tg && (blkB N sc scope (tgSlots t) && (tgB N scope t tg && (okQ (relS scope sc) c ifs && (okE (relS scope sc) e e' && notSet iter)))))
    | _ => false)
  | sc, .dc t it c k e, x => (match x with
    | .DictComp k' e' [⟨tg, iter, ifs, n⟩] scope _ => n == 0 && (okI sc it iter tg && (blkB N sc scope (tgSlots t) && (tgB N scope t tg && (okQ (relS scope sc) c ifs && (okE (relS scope sc) k k' && (okE (relS scope sc) e e' && notSet iter))))))
    | _ => false)
  | sc, .dc2 t it t2 it2 k e, x => (match x with
    | .DictComp k' e' [⟨ta, ia, [], n⟩, ⟨tb, ib, [], m⟩] scope _ => n == 0 && (m == 0 && (okI sc it ia ta && (blkB N sc scope (tgSlots t ++ tgSlots t2) && (tgB N scope t ta && (tgB N scope t2 tb && (okI (relS scope sc) it2 ib tb && (okE (relS scope sc) k k' && (okE (relS scope sc) e e' && (notSet ia && (notSet ib && (plainI it && plainI it2)))))))))))
    | _ => false)
termination_by structural _ a => a
def okT : Scope → CT → Expr → Bool
  | sc, .and a b, x => (match x with
    | .BoolOp .And (a' :: b' :: []) _ => okT sc a a' && okT sc b b'
    | .BoolOp .And (a' :: b' :: r) p => okT sc a a' && okT sc b (.BoolOp .And (b' :: r) p)
    | _ => false)
  | sc, .or a b, x => (match x with
    | .BoolOp .Or (a' :: b' :: []) _ => okT sc a a' && okT sc b b'
    | .BoolOp .Or (a' :: b' :: r) p => okT sc a a' && okT sc b (.BoolOp .Or (b' :: r) p)
    | _ => false)
  | sc, .not a, x => (match x with
    | .UnaryOp .Not a' _ => okT sc a a'
    | _ => false)
  | sc, .cmp op a b, x => (match x with
    | .Compare a' [o] [b'] _ => o == cop op && (okE sc a a' && (okE sc b b' && (if plainC op then notSet b' else (match b, b' with
      | .cst .none, .Constant .none _ _ => true
      | _, _ => false))))
    | _ => false)
  | sc, .chain o p a b c, x => (match x with
    | .Compare a' [o', p'] [b', c'] _ => o' == cop o && (p' == cop p && (plainC o && (plainC p && (okE sc a a' && (okE sc b b' && (okE sc c c' && notSet c'))))))
    | _ => false)
  | sc, .tru e, x => okE sc e x && notBE x
termination_by structural _ a => a
def okEs : Scope → List CE → List Expr → Bool
  | _, [], es => es.isEmpty
  | sc, a :: r, es => (match es with
    | e :: es => okE sc a e && (notStar e && okEs sc r es)
    | [] => false)
termination_by structural _ a => a
def okO : Scope → Option CE → Option Expr → Bool
  | _, none, x => x.isNone
  | sc, some a, x => (match x with
    | some e => okE sc a e
    | none => false)
termination_by structural _ a => a
def okQ : Scope → Option CT → List Expr → Bool
  | _, none, x => x.isEmpty
  | sc, some a, x => (match x with
    | [e] => okT sc a e
    | _ => false)
termination_by structural _ a => a
def okI : Scope → CI → Expr → Expr → Bool
  | sc, .over e, x, _ => okE sc e x
  | sc, .rng1 a, x, _ => (match x with
    | .Call (.Name f _) [a'] [] _ => f == "range" && (glB sc f && (okE sc a a' && notStar a'))
    | _ => false)
  | sc, .rng2 a b, x, _ => (match x with
    | .Call (.Name f _) [a', b'] [] _ => f == "range" && (glB sc f && (okE sc a a' && (okE sc b b' && [a', b'].all notStar)))
    | _ => false)
  | sc, .rng3 a b c, x, _ => (match x with
    | .Call (.Name f _) [a', b', c'] [] _ => f == "range" && (glB sc f && (okE sc a a' && (okE sc b b' && (okE sc c c' && [a', b', c'].all notStar))))
    | _ => false)
  | sc, .enum a, x, tg => (match x, tg with
    | .Call (.Name f _) [a'] [] _, .Tuple _ _ _ => f == "enumerate" && (glB sc f && (okE sc a a' && notStar a'))
    | _, _ => false)
  | sc, .zip a b, x, tg => (match x, tg with
    | .Call (.Name f _) [a', b'] [] _, .Tuple _ _ _ => f == "zip" && (glB sc f && (okE sc a a' && (okE sc b b' && [a', b'].all notStar)))
    | _, _ => false)
  | sc, .items a, x, tg => (match x, tg with
    | .Call (.Attribute a' f ap) [] [] p, .Tuple _ _ _ => f == "items" && (okE sc a a' && (pkB T a && (notSuper a' && ap.endLine == p.line)))
    | _, _ => false)
termination_by structural _ a => a
end
end

/-! ### the context -/
structure Good (X : Cx) (T : Tab) (P : Prg) (k lv : Nat) (W : WX) (N : List Str) (sc : Scope) : Prop where
  lk : Lnk X.prog X.w X.K X.mg X.base T P k lv
  hN : X.N = N
  hsc : X.env.scope = sc
  nd : X.N.Nodup
  calm : X.calm = true
  room : Room (lv + 1) X.A
  tk : Takes X W
theorem relab_local {sc : Scope} : ∀ {l : List (Str × NameKind)} {x : Str} {k : NameKind}, k = .local ∨ k = .cell → l.lookup x = some k →
    (l.map fun (n, k) => if (k == .free && sc.kind == .function && sc.names.lookup n == some .cell) then (n, NameKind.cell) else (n, k)).lookup x = some k
  | [], _, _, _, h => by cases h
  | (n, j) :: r, x, k, hk, h => by
    rw [List.lookup_cons] at h
    rw [List.map_cons]
    by_cases e : (x == n) = true
    · rw [e] at h
      cases h
      have hj : (j == NameKind.free) = false := by rcases hk with rfl | rfl <;> rfl
      show List.lookup x ((if (j == NameKind.free && sc.kind == .function && sc.names.lookup n == some .cell) = true then (n, NameKind.cell) else (n, j)) :: _) = _
      rw [hj]
      simp only [Bool.false_and, Bool.false_eq_true, if_false]
      rw [List.lookup_cons, e]
    · have e' : (x == n) = false := by simpa using e
      rw [e'] at h
      have ih := relab_local (sc := sc) hk h
      show List.lookup x ((if (j == NameKind.free && sc.kind == .function && sc.names.lookup n == some .cell) = true then (n, NameKind.cell) else (n, j)) :: _) = _
      split <;> (rw [List.lookup_cons, e']; exact ih)
section
variable {X : Cx} {T : Tab} {P : Prg} {k lv : Nat} {W : WX} {N : List Str} {sc scope : Scope}
theorem Good.blk (g : Good X T P k lv W N sc) (s : Shared) (H : Hp) (A : Addr) (cl : List (Str × Addr)) (fp : List Addr) : Good (X.blk s H scope (compEnvC scope cl A X.env) fp) T P k lv W0 N (relS scope sc) :=
  ⟨g.lk, g.hN, by rw [← g.hsc]; rfl, g.nd, g.calm, g.room, takes0⟩
theorem Good.tgt (g : Good X T P k lv W N sc) (s : Shared) (H : Hp) (A : Addr) (cl : List (Str × Addr)) (fp : List Addr) : Tgt (X.blk s H scope (compEnvC scope cl A X.env) fp) scope where
  nd := g.nd
  calm := g.calm
  loc := fun x h => by
    rcases h with h | h
    · exact .inl (relab_local (sc := X.env.scope) (.inl rfl) h)
    · exact .inr (relab_local (sc := X.env.scope) (.inr rfl) h)
  fn := fun x h => by
    rcases h with h | h
    · exact .inr (relab_local (sc := X.env.scope) (.inl rfl) h)
    · exact .inl (by show (scope.names.lookup x == some .cell) = true; rw [h]; rfl)
theorem vis_ok {x : Str} (h : visB sc x = true) : Vis sc x := by
  unfold visB at h
  simp only [Bool.or_eq_true, beq_iff_eq] at h
  rcases h with (h | h) | h
  · exact .inl h
  · exact .inr (.inl h)
  · exact .inr (.inr h)
theorem nm_ok {x : Str} (h : nmB x = true) : (x == ("__debug__" : Str)) = false ∧ (x == ("__classdict__" : Str)) = false := by
  unfold nmB at h
  simpa using h
theorem Good.gl (g : Good X T P k lv W N sc) {x : Str} (h : glB sc x = true) : Gl X x := by
  unfold glB at h
  rw [← g.hsc] at h
  exact eq_of_beq h
theorem Good.units (g : Good X T P k lv W N sc) : X.A.units + 65 < cLine := by have := g.room.un; omega
theorem Good.vis (g : Good X T P k lv W N sc) {x : Str} (h : visB sc x = true) : Vis X.env.scope x := by rw [g.hsc]; exact vis_ok h
theorem blk_ok {is : List Nat} (h : blkB N sc scope is = true) : BlkOk N sc scope (is.map fun i => ((N[i]?).getD "", i)) := by
  unfold blkB at h
  simp only [Bool.and_eq_true, beq_iff_eq, List.all_eq_true, Bool.or_eq_true, Bool.not_eq_true', beq_eq_false_iff_ne, List.any_eq_true] at h
  obtain ⟨h1, h2, h3, h4, h5⟩ := h
  refine ⟨h1, h2, fun p hp => ?_, fun y hy e => ?_, fun y hy e => ?_⟩
  · obtain ⟨i, hi, rfl⟩ := List.mem_map.mp hp
    have := h3 i hi
    cases e : N[i]? with
    | none => rw [e] at this; cases this
    | some x => simp [e]
  · rcases h4 y hy with (q | q) | q
    · exact absurd e q
    · exact .inl q
    · exact .inr q
  · rcases h5 y hy with (q | ⟨i, hi, q⟩) | q
    · rcases e with e | e <;> (rw [e] at q; simp at q)
    · refine .inl (List.mem_map.mpr ⟨(y.1, i), List.mem_map.mpr ⟨i, hi, ?_⟩, rfl⟩)
      rw [q]; rfl
    · exact .inr fun z => by rw [List.contains_iff_mem.mpr z] at q; cases q
theorem slots_own {N : List Str} : ∀ is : List Nat, (is.map fun i => ((N[i]?).getD ("" : Str), i)).map (·.2) = is
  | [] => rfl
  | i :: r => by rw [List.map_cons, List.map_cons, slots_own r]
theorem Good.ctx (g : Good X T P k lv W N sc) {op : COp} (h : plainC op = true) : OpR X (compareOp (cop op)) (rCmp X.K T.nms (cmpV op)) := by
  have hu := g.units
  cases op with
  | eq => exact eq_ok hu
  | ne => exact ne_ok hu
  | lt => exact lt_ok hu
  | le => exact le_ok
  | gt => exact gt_ok
  | ge => exact ge_ok
  | isN => cases h
  | notN => cases h
  | inn => exact (inn_ok hu).1
  | nin => exact (inn_ok hu).2
theorem all_star {P : Prg} {sc : Scope} : ∀ {as : List CE} {es : List Expr}, okEs P T N sc as es = true → es.all notStar = true
  | [], es, h => by
    simp only [okEs] at h
    rw [List.isEmpty_iff.mp h]; rfl
  | a :: r, [], h => by simp [okEs] at h
  | a :: r, e :: es, h => by
    simp only [okEs, Bool.and_eq_true] at h
    rw [List.all_cons, h.2.1, all_star h.2.2]; rfl
end
end KG

set_option linter.all false
set_option maxRecDepth 100000
set_option maxHeartbeats 8000000
/-! K1p: what the check of expressions gives. -/
namespace KG
open PySem PySem.Spec PyProof.Rows L2

theorem e_pk {X : Cx} {T : Tab} {P : Prg} {k lv : Nat} {W : WX} {N : List Str} {sc : Scope} {ce : CE} {x : Expr} (g : Good X T P k lv W N sc) (hp : pkB T ce = true) (h : okE P T N sc ce x = true) : PE X x (tPk X.K T ce) := by
  unfold pkB at hp
  split at hp
  · rename_i i
    simp only [okE] at h
    split at h
    · simp only [Bool.and_eq_true, beq_iff_eq] at h
      obtain ⟨h1, h2, h3⟩ := h
      obtain ⟨n1, n2⟩ := nm_ok h3
      exact (pe_var (by rw [g.hN]; exact h1) (g.vis h2) n1 n2).weak fun σ H Q q => q
    · cases h
  · rename_i i n
    simp only [okE] at h
    split at h
    · simp only [Bool.and_eq_true, beq_iff_eq] at h
      obtain ⟨h0, h1, _, h4⟩ := h
      split at h0
      · simp only [Bool.and_eq_true, beq_iff_eq] at h0
        obtain ⟨h5, h6, h7⟩ := h0
        obtain ⟨n1, n2⟩ := nm_ok h7
        subst h1
        exact (pe_fld (pe_var (by rw [g.hN]; exact h5) (g.vis h6) n1 n2) (base_ok h4)).weak fun σ H Q ⟨y, ⟨ad, C, dx, fs, q1, q2, q3, q4, q5⟩, q6⟩ => ⟨_, q1, ad, C, dx, fs, y, rfl, q2, q3, q4, q5, q6⟩
      · cases h0
    · cases h
  · cases hp
section
variable {P : Prg} {T : Tab} {N : List Str} {k lv : Nat}
theorem simB {X : Cx} {W : WX} {sc : Scope} {m : Bool} {b : BI} {y : Str} {e : Expr} {es : List Expr} {pos p : Pos} {fs : KG.Env → Store → R (List KG.X)} (g : Good X T P k lv W N sc) (ha : PA X (e :: es) (tA X.K T W fs)) (hs : (e :: es).all notStar = true) (hg : glB sc y = true)
    (hb : (match biNm b with
      | some (z, _, _) => y == z
      | none => false) = true) : PE X (.Call (.Name y p) (e :: es) [] pos) (tE X.K T W fun env st => (fs env st).bind (biV m b)) := by
  have hgl := g.gl hg
  have bl : ∀ z ∈ blts, X.mg z = none := g.lk.blt
  cases b with
  | len => cases eq_of_beq hb; exact e_fnB (fun B => bi_len) hgl (bl _ (by decide)) PyProof.Rows.Boot.«len» ha hs (by decide) (by decide)
  | int => cases eq_of_beq hb; exact e_fnT (fun B => bi_int) hgl (bl _ (by decide)) PyProof.Rows.Boot.«int» ha hs (by decide) (by decide)
  | tuple => cases eq_of_beq hb; exact e_fnT (fun B => bi_tuple) hgl (bl _ (by decide)) PyProof.Rows.Boot.«tuple» ha hs (by decide) (by decide)
  | list => cases eq_of_beq hb; exact e_fnT (fun B => bi_list) hgl (bl _ (by decide)) PyProof.Rows.Boot.«list» ha hs (by decide) (by decide)
  | all => cases eq_of_beq hb; exact e_fnB (fun B => bi_all g.calm) hgl (bl _ (by decide)) PyProof.Rows.Boot.«all» ha hs (by decide) (by decide)
  | any => cases eq_of_beq hb; exact e_fnB (fun B => bi_any g.calm) hgl (bl _ (by decide)) PyProof.Rows.Boot.«any» ha hs (by decide) (by decide)
  | sum => cases eq_of_beq hb; exact e_fnB (fun B => bi_sum g.calm) hgl (bl _ (by decide)) PyProof.Rows.Boot.«sum» ha hs (by decide) (by decide)
  | max2 => cases eq_of_beq hb; exact e_fnB (fun B => bi_max2 g.calm) hgl (bl _ (by decide)) PyProof.Rows.Boot.«max» ha hs (by decide) (by decide)
  | min2 => cases eq_of_beq hb; exact e_fnB (fun B => bi_min2 g.calm) hgl (bl _ (by decide)) PyProof.Rows.Boot.«min» ha hs (by decide) (by decide)
  | _ => cases hb
theorem cst_ok {X : Cx} {W : WX} {v : Val} {x : Expr} (h : cstB v x = true) : PE X x (tE X.K T W fun _ st => .ok (.v v) st) := by
  unfold cstB at h
  split at h
  · exact e_cst_none
  · cases eq_of_beq h; exact e_cst_bool
  · cases eq_of_beq h; exact e_cst_int
  · simp only [Bool.and_eq_true, beq_iff_eq, List.all_eq_true, decide_eq_true_eq] at h
    exact e_cst_str h.1 h.2
  · cases h
theorem simM {X : Cx} {W : WX} {sc : Scope} {b : BM} {o : Expr} {f : Str} {es : List Expr} {ap p : Pos} {fo : KG.Env → Store → R KG.X} {as : List CE} (g : Good X T P k lv W N sc) (ho : PE X o (tE X.K T W fo)) (hsu : notSuper o = true) (hl : decide (es.length < 30) = true) (hline : (ap.endLine == p.line) = true)
    (ha : PA X es (tA X.K T W (evEs (P.ctx (callN P k)) as))) (he : okEs P T N sc as es = true) (hE : ∀ (c : CE) (e : Expr), (c, e) ∈ as.zip es → PE X e (tE X.K T W (evE (P.ctx (callN P k)) c)))
    (hb : (match bmNm b with
      | some z => f == z && (match b with
        | .pop => es.isEmpty
        | .get2 => es.length == 2
        | _ => !es.isEmpty)
      | none => false) = true) : PE X (.Call (.Attribute o f ap) es [] p) (tE X.K T W fun env st => (fo env st).bind fun x st => if bmTy b x st then (evEs (P.ctx (callN P k)) as env st).bind fun xs st => bmV b x xs st else .bad) := by
  have hs := all_star he
  have hu : X.A.units + 1 < cLine := by have := g.units; omega
  have cons : (!es.isEmpty) = true → ∃ e r, es = e :: r := fun h => by
    cases es with
    | nil => cases h
    | cons e r => exact ⟨e, r, rfl⟩
  cases b with
  | append =>
    simp only [bmNm, Bool.and_eq_true, beq_iff_eq] at hb
    obtain ⟨rfl, hb⟩ := hb
    obtain ⟨e, r, rfl⟩ := cons hb
    exact e_bm F.plainAttrs_list F.slot_list_append F.type_list_append (fun B => bm_append) (fun _ _ _ _ _ _ S r h => ty_list (b := .append) (.inl rfl) S r h) ho ha hsu hs hl hline
  | pop =>
    simp only [bmNm, Bool.and_eq_true, beq_iff_eq] at hb
    obtain ⟨rfl, hb⟩ := hb
    have : es = [] := List.isEmpty_iff.mp hb
    subst this
    cases as with
    | cons a r => simp [okEs] at he
    | nil => exact e_bm0 F.plainAttrs_list F.slot_list_pop F.type_list_pop (fun B => bm_pop) (fun _ _ _ _ _ _ S r h => ty_list (b := .pop) (.inr (.inr rfl)) S r h) ho hsu hline
  | join =>
    simp only [bmNm, Bool.and_eq_true, beq_iff_eq] at hb
    obtain ⟨rfl, hb⟩ := hb
    obtain ⟨e, r, rfl⟩ := cons hb
    exact e_bm F.plainAttrs_str F.slot_str_join F.type_str_join (fun B => bm_join) (fun _ _ _ _ _ _ S r h => ty_str (b := .join) (.inl rfl) S r h) ho ha hsu hs hl hline
  | split =>
    simp only [bmNm, Bool.and_eq_true, beq_iff_eq] at hb
    obtain ⟨rfl, hb⟩ := hb
    obtain ⟨e, r, rfl⟩ := cons hb
    exact e_bm F.plainAttrs_str F.slot_str_split F.type_str_split (fun B => bm_split) (fun _ _ _ _ _ _ S r h => ty_str (b := .split) (.inr rfl) S r h) ho ha hsu hs hl hline
  | index =>
    simp only [bmNm, Bool.and_eq_true, beq_iff_eq] at hb
    obtain ⟨rfl, hb⟩ := hb
    obtain ⟨e, r, rfl⟩ := cons hb
    exact e_bm F.plainAttrs_list F.slot_list_index F.type_list_index (fun B => bm_index) (fun _ _ _ _ _ _ S r h => ty_index S r h) ho ha hsu hs hl hline
  | get2 =>
    simp only [bmNm, Bool.and_eq_true, beq_iff_eq] at hb
    obtain ⟨rfl, hb⟩ := hb
    match es, hb, as, he, hE with
    | [b', c'], _, [b1, c1], he, hE =>
      exact e_get2 hu ho (hE b1 b' (by simp)) (hE c1 c' (by simp)) hsu hs hline
    | [b', c'], _, [], he, _ => simp [okEs] at he
    | [b', c'], _, [_], he, _ => simp [okEs] at he
    | [b', c'], _, _ :: _ :: _ :: _, he, _ => simp [okEs] at he
  | _ => cases hb
mutual
theorem simE : ∀ (ce : CE) (sc : Scope) (x : Expr) (X : Cx) (W : WX), okE P T N sc ce x = true → Good X T P k lv W N sc → PE X x (tE X.K T W (evE (P.ctx (callN P k)) ce))
  | .bad, sc, x, X, W, h, g => PE.bad fun σ H Q ⟨_, _, _, _, _, _, p⟩ => p
  | .cst v, sc, x, X, W, h, g => by
    simp only [okE] at h
    exact cst_ok h
  | .var i, sc, x, X, W, h, g => by
    simp only [okE] at h
    split at h
    · simp only [Bool.and_eq_true, beq_iff_eq] at h
      obtain ⟨h1, h2, h3⟩ := h
      obtain ⟨n1, n2⟩ := nm_ok h3
      exact e_var (by rw [g.hN]; exact h1) (g.vis h2) n1 n2
    · cases h
  | .glob gi, sc, x, X, W, h, g => by
    simp only [okE] at h
    split at h
    · simp only [Bool.and_eq_true, beq_iff_eq] at h
      obtain ⟨h1, h2, h3, h4⟩ := h
      obtain ⟨n1, n2⟩ := nm_ok h4
      obtain ⟨o, ho⟩ := Option.isSome_iff_exists.mp h2
      obtain ⟨u, v, m1, m2, m3⟩ := g.lk.glob gi _ o h1 ho
      have e2 : evE (P.ctx (callN P k)) (.glob gi) = fun _ st => optR (P.glob gi) st := rfl
      rw [e2, ho]
      exact e_glob (g.gl h3) m1 m2 m3 n1
    · cases h
  | .bin m op a b, sc, x, X, W, h, g => by
    simp only [okE] at h
    split at h
    · simp only [Bool.and_eq_true, beq_iff_eq] at h
      obtain ⟨rfl, h1, h2⟩ := h
      exact e_bin (simE a sc _ X W h1 g) (simE b sc _ X W h2 g)
    · cases h
  | .neg a, sc, x, X, W, h, g => by
    simp only [okE] at h
    split at h
    · exact e_neg (simE a sc _ X W h g)
    · cases h
  | .cmp op a b, sc, x, X, W, h, g => by
    simp only [okE] at h
    split at h
    · simp only [Bool.and_eq_true, beq_iff_eq] at h
      obtain ⟨rfl, h1, h2, h3⟩ := h
      split at h3
      · rename_i hp
        exact e_cmp (g.ctx hp) (simE a sc _ X W h1 g) (simE b sc _ X W h2 g) (beh_ok h3)
      · rename_i hp
        split at h3
        · cases op with
          | isN => exact e_isN (simE a sc _ X W h1 g)
          | notN => exact e_notN (simE a sc _ X W h1 g)
          | _ => exact absurd rfl hp
        · cases h3
    · cases h
  | .chain o p a b c, sc, x, X, W, h, g => by
    simp only [okE] at h
    split at h
    · simp only [Bool.and_eq_true, beq_iff_eq] at h
      obtain ⟨rfl, rfl, h1, h2, h3, h4, h5, h6⟩ := h
      exact e_chain (g.ctx h1) (g.ctx h2) (simE a sc _ X W h3 g) (simE b sc _ X W h4 g) (simE c sc _ X W h5 g) (last_ok h6)
    · cases h
  | .and a b, sc, x, X, W, h, g => by
    simp only [okE] at h
    split at h
    · simp only [Bool.and_eq_true] at h
      exact e_and (simE a sc _ X W h.1 g) (pe_one (simE b sc _ X W h.2 g))
    · simp only [Bool.and_eq_true] at h
      exact e_and (simE a sc _ X W h.1 g) (simE b sc _ X W h.2 g)
    · cases h
  | .or a b, sc, x, X, W, h, g => by
    simp only [okE] at h
    split at h
    · simp only [Bool.and_eq_true] at h
      exact e_or (simE a sc _ X W h.1 g) (pe_one (simE b sc _ X W h.2 g))
    · simp only [Bool.and_eq_true] at h
      exact e_or (simE a sc _ X W h.1 g) (simE b sc _ X W h.2 g)
    · cases h
  | .not a, sc, x, X, W, h, g => by
    simp only [okE] at h
    split at h
    · exact e_not (simE a sc _ X W h g)
    · cases h
  | .ite c a b, sc, x, X, W, h, g => by
    simp only [okE] at h
    split at h
    · simp only [Bool.and_eq_true] at h
      exact e_ite (simT c sc _ X W h.1 g) (simE a sc _ X W h.2.1 g) (simE b sc _ X W h.2.2 g)
    · cases h
  | .tup es, sc, x, X, W, h, g => by
    simp only [okE] at h
    split at h
    · exact e_tup (simEs es sc _ X W h g).1
    · cases h
  | .lst m es, sc, x, X, W, h, g => by
    simp only [okE] at h
    split at h
    · exact e_lst (simEs es sc _ X W h g).1
    · cases h
  | .dic m t es, sc, x, X, W, h, g => by
    simp only [okE] at h
    split at h
    · exact e_dic0
    · cases h
  | .merge a b, sc, x, X, W, h, g => by simp [okE] at h
  | .ix a i, sc, x, X, W, h, g => by
    simp only [okE] at h
    split at h
    · simp only [Bool.and_eq_true] at h
      exact e_ix (by have := g.units; omega) (simE a sc _ X W h.1 g) (simE i sc _ X W h.2.1 g) h.2.2
    · cases h
  | .sl m a lo hi, sc, x, X, W, h, g => by
    simp only [okE] at h
    split at h
    · simp only [Bool.and_eq_true] at h
      exact e_sl (simE a sc _ X W h.1 g) (simO lo sc _ X W h.2.1 g) (simO hi sc _ X W h.2.2 g)
    · cases h
  | .at a n, sc, x, X, W, h, g => by
    simp only [okE] at h
    split at h
    · simp only [Bool.and_eq_true, beq_iff_eq, decide_eq_true_eq] at h
      obtain ⟨h1, rfl, h2, h3⟩ := h
      exact e_at g.lk g.room (simE a sc _ X W h1 g) h3 h2
    · cases h
  | .call f as, sc, x, X, W, h, g => by
    simp only [okE] at h
    split at h
    · simp only [Bool.and_eq_true, beq_iff_eq] at h
      obtain ⟨h1, h2, h3, h4⟩ := h
      exact e_call g.lk (g.room.mono (by omega)) g.tk h1 (g.gl h3) (simEs as sc _ X W h2 g).1 (all_star h2) (nm_ok h4).1
    · cases h
  | .meth o n as, sc, x, X, W, h, g => by
    simp only [okE] at h
    split at h
    · rename_i o' f ap es p
      simp only [Bool.and_eq_true, beq_iff_eq] at h
      obtain ⟨h1, h2, rfl, h3, h4, h5⟩ := h
      have ho := simE o sc _ X W h1 g
      have hs := simEs as sc es X W h2 g
      cases es with
      | nil =>
        cases as with
        | cons a r => simp [okEs] at h2
        | nil => exact e_meth0 g.lk (g.room.mono (by omega)) g.tk ho h3 (by simpa using h5)
      | cons e es => exact e_meth g.lk (g.room.mono (by omega)) g.tk ho hs.1 (all_star h2) h3 h4 (by simpa using h5)
    · cases h
  | .make m c as, sc, x, X, W, h, g => by
    simp only [okE] at h
    split at h
    · simp only [Bool.and_eq_true, beq_iff_eq] at h
      obtain ⟨h1, h2, h3, h4, h5⟩ := h
      exact e_make g.lk g.room g.tk h1 (g.gl h4) (simEs as sc _ X W h2 g).1 (all_star h2) (nm_ok h5).1 h3
    · cases h
  | .bi m b as, sc, x, X, W, h, g => by
    simp only [okE] at h
    split at h
    · simp only [Bool.and_eq_true] at h
      obtain ⟨h1, h2, h3⟩ := h
      exact simB g (simEs as sc _ X W h1 g).1 (all_star h1) h2 h3
    · cases h
  | .bm b o as, sc, x, X, W, h, g => by
    simp only [okE] at h
    split at h
    · simp only [Bool.and_eq_true] at h
      obtain ⟨h1, h2, h3, h4, h5, h6⟩ := h
      exact simM g (simE o sc _ X W h1 g) h3 h4 h5 (simEs as sc _ X W h2 g).1 h2 (simEs as sc _ X W h2 g).2 h6
    · cases h
  | .isT a t, sc, x, X, W, h, g => by
    simp only [okE] at h
    split at h
    · simp only [Bool.and_eq_true, beq_iff_eq] at h
      obtain ⟨rfl, rfl, h1, h2, h3, h4⟩ := h
      exact e_isT (g.lk.blt _ (by decide)) (g.lk.blt _ (by cases t <;> decide)) (g.gl h2) (g.gl h3) (simE a sc _ X W h1 g) h4
    · cases h
  | .isC a c, sc, x, X, W, h, g => by
    simp only [okE] at h
    split at h
    · simp only [Bool.and_eq_true, beq_iff_eq] at h
      obtain ⟨rfl, h0, h1, h2, h3, h4, h5⟩ := h
      exact e_isC g.lk (g.lk.blt _ (by decide)) (g.gl h2) h0 (g.gl h3) (simE a sc _ X W h1 g) h4 (nm_ok h5).1
    · cases h
  | .lc m t it c e, sc, x, X, W, h, g => by
    simp only [okE] at h
    split at h
    · rename_i e' tg iter ifs n scope pos
      simp only [Bool.and_eq_true, beq_iff_eq] at h
      obtain ⟨rfl, h1, h2, h3, h4, h5, h6⟩ := h
      have b : BlkR X T (P.ctx (callN P k)) t c tg iter ifs scope _ := ⟨g.calm, g.nd, by rw [g.hN, g.hsc]; exact blk_ok h2, slots_own _, fun s H A cl fp => g_tg (g.tgt s H A cl fp) (by show tgB X.N scope t tg = true; rw [g.hN]; exact h3), fun s H A cl fp => simC c _ _ _ _ h4 (g.blk s H A cl fp), h6⟩
      have he := fun s H A cl fp => simE e _ _ _ _ h5 (g.blk (scope := scope) s H A cl fp)
      rcases simI it sc iter tg X W h1 g with hi | ⟨ce, els, kk, tpos, a', ap, p, rfl, rfl, rfl, hn, ho, hsu, hl⟩
      · exact e_lc b he hi
      · exact e_lcI g.lk hn b he ho hsu hl
    · cases h
  | .dc t it c kx e, sc, x, X, W, h, g => by
    simp only [okE] at h
    split at h
    · rename_i k' e' tg iter ifs n scope pos
      simp only [Bool.and_eq_true, beq_iff_eq] at h
      obtain ⟨rfl, h1, h2, h3, h4, h5, h6, h7⟩ := h
      have b : BlkR X T (P.ctx (callN P k)) t c tg iter ifs scope _ := ⟨g.calm, g.nd, by rw [g.hN, g.hsc]; exact blk_ok h2, slots_own _, fun s H A cl fp => g_tg (g.tgt s H A cl fp) (by show tgB X.N scope t tg = true; rw [g.hN]; exact h3), fun s H A cl fp => simC c _ _ _ _ h4 (g.blk s H A cl fp), h7⟩
      have hk := fun s H A cl fp => simE kx _ _ _ _ h5 (g.blk (scope := scope) s H A cl fp)
      have he := fun s H A cl fp => simE e _ _ _ _ h6 (g.blk (scope := scope) s H A cl fp)
      rcases simI it sc iter tg X W h1 g with hi | ⟨ce, els, kk, tpos, a', ap, p, rfl, rfl, rfl, hn, ho, hsu, hl⟩
      · exact e_dc b hk he hi
      · exact e_dcI g.lk hn b hk he ho hsu hl
    · cases h
  | .dc2 t it t2 it2 kx e, sc, x, X, W, h, g => by
    simp only [okE] at h
    split at h
    · rename_i k' e' ta ia n tb ib m scope pos
      simp only [Bool.and_eq_true, beq_iff_eq] at h
      obtain ⟨rfl, rfl, h1, h2, h3, h4, h5, h6, h7, h8, h9, h10, h11⟩ := h
      refine e_dc2 g.calm g.nd (by rw [g.hN, g.hsc]; exact blk_ok h2) (slots_own _) ?_ (fun s H A cl fp => ⟨g_tg (g.tgt s H A cl fp) (by show tgB X.N scope t ta = true; rw [g.hN]; exact h3), ?_, g_tg (g.tgt s H A cl fp) (by show tgB X.N scope t2 tb = true; rw [g.hN]; exact h4), simE kx _ _ _ _ h6 (g.blk (scope := scope) s H A cl fp), simE e _ _ _ _ h7 (g.blk (scope := scope) s H A cl fp)⟩) h8 h9
      · rcases simI it sc ia ta X W h1 g with hi | ⟨ce, _, _, _, _, _, _, z, _⟩
        · exact hi
        · rw [z] at h10; cases h10
      · rcases simI it2 _ ib tb _ _ h5 (g.blk (scope := scope) s H A cl fp) with hi | ⟨ce, _, _, _, _, _, _, z, _⟩
        · exact hi
        · rw [z] at h11; cases h11
    · cases h
termination_by structural ce => ce
theorem simT : ∀ (ce : CT) (sc : Scope) (x : Expr) (X : Cx) (W : WX), okT P T N sc ce x = true → Good X T P k lv W N sc → PT X x (tT X.K T W (evT (P.ctx (callN P k)) ce))
  | .and a b, sc, x, X, W, h, g => by
    simp only [okT] at h
    split at h
    · simp only [Bool.and_eq_true] at h
      exact (w_and (simT a sc _ X W h.1 g) (pw_and1 (simT b sc _ X W h.2 g))).pt
    · simp only [Bool.and_eq_true] at h
      exact (w_and (simT a sc _ X W h.1 g) (simW b sc _ X W (.inl ⟨_, _, rfl⟩) h.2 g)).pt
    · cases h
  | .or a b, sc, x, X, W, h, g => by
    simp only [okT] at h
    split at h
    · simp only [Bool.and_eq_true] at h
      exact (w_or (simT a sc _ X W h.1 g) (pw_or1 (simT b sc _ X W h.2 g))).pt
    · simp only [Bool.and_eq_true] at h
      exact (w_or (simT a sc _ X W h.1 g) (simW b sc _ X W (.inr ⟨_, _, rfl⟩) h.2 g)).pt
    · cases h
  | .not a, sc, x, X, W, h, g => by
    simp only [okT] at h
    split at h
    · exact t_not (simT a sc _ X W h g)
    · cases h
  | .cmp op a b, sc, x, X, W, h, g => by
    simp only [okT] at h
    split at h
    · simp only [Bool.and_eq_true, beq_iff_eq] at h
      obtain ⟨rfl, h1, h2, h3⟩ := h
      split at h3
      · rename_i hp
        exact t_cmp (g.ctx hp) (simE a sc _ X W h1 g) (simE b sc _ X W h2 g) (beh_ok h3)
      · rename_i hp
        split at h3
        · cases op with
          | isN => exact t_isN (simE a sc _ X W h1 g)
          | notN => exact t_notN (simE a sc _ X W h1 g)
          | _ => exact absurd rfl hp
        · cases h3
    · cases h
  | .chain o p a b c, sc, x, X, W, h, g => by
    simp only [okT] at h
    split at h
    · simp only [Bool.and_eq_true, beq_iff_eq] at h
      obtain ⟨rfl, rfl, h1, h2, h3, h4, h5, h6⟩ := h
      exact t_chain (g.ctx h1) (g.ctx h2) (simE a sc _ X W h3 g) (simE b sc _ X W h4 g) (simE c sc _ X W h5 g) (last_ok h6)
    · cases h
  | .tru e, sc, x, X, W, h, g => by
    simp only [okT, Bool.and_eq_true] at h
    exact t_tru (simE e sc _ X W h.1 g) (tru_ok' h.2)
termination_by structural ce => ce
/-- a row of tests, from its second one on -/
theorem simW : ∀ (ce : CT) (sc : Scope) (x : Expr) (X : Cx) (W : WX), (∃ vs p, x = .BoolOp .And vs p) ∨ (∃ vs p, x = .BoolOp .Or vs p) → okT P T N sc ce x = true → Good X T P k lv W N sc → PW X x (tT X.K T W (evT (P.ctx (callN P k)) ce))
  | .and a b, sc, x, X, W, hx, h, g => by
    simp only [okT] at h
    split at h
    · simp only [Bool.and_eq_true] at h
      exact w_and (simT a sc _ X W h.1 g) (pw_and1 (simT b sc _ X W h.2 g))
    · simp only [Bool.and_eq_true] at h
      exact w_and (simT a sc _ X W h.1 g) (simW b sc _ X W (.inl ⟨_, _, rfl⟩) h.2 g)
    · cases h
  | .or a b, sc, x, X, W, hx, h, g => by
    simp only [okT] at h
    split at h
    · simp only [Bool.and_eq_true] at h
      exact w_or (simT a sc _ X W h.1 g) (pw_or1 (simT b sc _ X W h.2 g))
    · simp only [Bool.and_eq_true] at h
      exact w_or (simT a sc _ X W h.1 g) (simW b sc _ X W (.inr ⟨_, _, rfl⟩) h.2 g)
    · cases h
  | .not a, sc, x, X, W, hx, h, g => by rcases hx with ⟨vs, p, rfl⟩ | ⟨vs, p, rfl⟩ <;> simp [okT] at h
  | .cmp op a b, sc, x, X, W, hx, h, g => by rcases hx with ⟨vs, p, rfl⟩ | ⟨vs, p, rfl⟩ <;> simp [okT] at h
  | .chain o p a b c, sc, x, X, W, hx, h, g => by rcases hx with ⟨vs, p, rfl⟩ | ⟨vs, p, rfl⟩ <;> simp [okT] at h
  | .tru e, sc, x, X, W, hx, h, g => by rcases hx with ⟨vs, p, rfl⟩ | ⟨vs, p, rfl⟩ <;> simp [okT, notBE] at h
termination_by structural ce => ce
theorem simEs : ∀ (cs : List CE) (sc : Scope) (xs : List Expr) (X : Cx) (W : WX), okEs P T N sc cs xs = true → Good X T P k lv W N sc → PA X xs (tA X.K T W (evEs (P.ctx (callN P k)) cs)) ∧ ∀ (c : CE) (e : Expr), (c, e) ∈ cs.zip xs → PE X e (tE X.K T W (evE (P.ctx (callN P k)) c))
  | [], sc, xs, X, W, h, g => by
    simp only [okEs] at h
    rw [List.isEmpty_iff.mp h]
    exact ⟨a_nil, fun _ _ q => by cases q⟩
  | a :: r, sc, xs, X, W, h, g => by
    simp only [okEs] at h
    split at h
    · rename_i e es
      simp only [Bool.and_eq_true] at h
      have ha := simE a sc _ X W h.1 g
      have hr := simEs r sc _ X W h.2.2 g
      refine ⟨a_cons ha hr.1 h.2.1, fun c e' q => ?_⟩
      rw [List.zip_cons_cons] at q
      rcases List.mem_cons.mp q with q | q
      · cases q; exact ha
      · exact hr.2 c e' q
    · cases h
termination_by structural ce => ce
theorem simO : ∀ (ce : Option CE) (sc : Scope) (x : Option Expr) (X : Cx) (W : WX), okO P T N sc ce x = true → Good X T P k lv W N sc → PO X x (tO X.K T W (evO (P.ctx (callN P k)) ce))
  | none, sc, x, X, W, h, g => by
    simp only [okO] at h
    rw [Option.isNone_iff_eq_none.mp h]
    exact o_none
  | some a, sc, x, X, W, h, g => by
    simp only [okO] at h
    split at h
    · exact o_some (simE a sc _ X W h g)
    · cases h
termination_by structural ce => ce
theorem simC : ∀ (ce : Option CT) (sc : Scope) (xs : List Expr) (X : Cx) (W : WX), okQ P T N sc ce xs = true → Good X T P k lv W N sc → PTs X xs (tT X.K T W (evC (P.ctx (callN P k)) ce))
  | none, sc, x, X, W, h, g => by
    simp only [okQ] at h
    rw [List.isEmpty_iff.mp h]
    exact ⟨fun pins s σ H Q I ⟨G, μ, env, st, S, E, p⟩ => pts_nil.run pins s σ H Q I (p.here S rfl)⟩
  | some a, sc, x, X, W, h, g => by
    simp only [okQ] at h
    split at h
    · exact pts_one (simT a sc _ X W h g)
    · cases h
termination_by structural ce => ce
theorem simI : ∀ (ci : CI) (sc : Scope) (x tg : Expr) (X : Cx) (W : WX), okI P T N sc ci x tg = true → Good X T P k lv W N sc → PI X tg x (tI X.K T W (evI (P.ctx (callN P k)) ci)) ∨
    ∃ (ce : CE) (els : List Expr) (kk : Nat) (tpos : Pos) (a' : Expr) (ap p : Pos), ci = .items ce ∧ tg = .Tuple els kk tpos ∧ x = .Call (.Attribute a' "items" ap) [] [] p ∧ pkB T ce = true ∧ PE X a' (tPk X.K T ce) ∧ notSuper a' = true ∧ (ap.endLine == p.line) = true
  | .over e, sc, x, tg, X, W, h, g => by
    simp only [okI] at h
    exact .inl (i_over (simE e sc _ X W h g))
  | .rng1 a, sc, x, tg, X, W, h, g => by
    simp only [okI] at h
    split at h
    · simp only [Bool.and_eq_true, beq_iff_eq] at h
      obtain ⟨rfl, h1, h2, h3⟩ := h
      exact .inl (i_rng1 (g.gl h1) (g.lk.blt _ (by decide)) (simE a sc _ X W h2 g) h3)
    · cases h
  | .rng2 a b, sc, x, tg, X, W, h, g => by
    simp only [okI] at h
    split at h
    · simp only [Bool.and_eq_true, beq_iff_eq] at h
      obtain ⟨rfl, h1, h2, h3, h4⟩ := h
      exact .inl (i_rng2 (g.gl h1) (g.lk.blt _ (by decide)) (simE a sc _ X W h2 g) (simE b sc _ X W h3 g) h4)
    · cases h
  | .rng3 a b c, sc, x, tg, X, W, h, g => by
    simp only [okI] at h
    split at h
    · simp only [Bool.and_eq_true, beq_iff_eq] at h
      obtain ⟨rfl, h1, h2, h3, h4, h5⟩ := h
      exact .inl (i_rng3 (g.gl h1) (g.lk.blt _ (by decide)) (simE a sc _ X W h2 g) (simE b sc _ X W h3 g) (simE c sc _ X W h4 g) h5)
    · cases h
  | .enum a, sc, x, tg, X, W, h, g => by
    simp only [okI] at h
    split at h
    · simp only [Bool.and_eq_true, beq_iff_eq] at h
      obtain ⟨rfl, h1, h2, h3⟩ := h
      exact .inl (i_enum (g.gl h1) (g.lk.blt _ (by decide)) (simE a sc _ X W h2 g) h3)
    · cases h
  | .zip a b, sc, x, tg, X, W, h, g => by
    simp only [okI] at h
    split at h
    · simp only [Bool.and_eq_true, beq_iff_eq] at h
      obtain ⟨rfl, h1, h2, h3, h4⟩ := h
      exact .inl (i_zip (g.gl h1) (g.lk.blt _ (by decide)) (simE a sc _ X W h2 g) (simE b sc _ X W h3 g) h4)
    · cases h
  | .items a, sc, x, tg, X, W, h, g => by
    simp only [okI] at h
    split at h
    · simp only [Bool.and_eq_true, beq_iff_eq] at h
      obtain ⟨rfl, h1, h2, h3, h4⟩ := h
      exact .inr ⟨a, _, _, _, _, _, _, rfl, rfl, rfl, h2, e_pk g h2 h1, h3, by simpa using h4⟩
    · cases h
termination_by structural ce => ce
end
end
end KG

set_option linter.all false
set_option maxRecDepth 100000
set_option maxHeartbeats 4000000
/-! K1q: statements: readings and rules. -/
namespace KG
open PySem PySem.Spec PyProof.Rows L2

section
variable (K : PySem.W.Frag) (T : Tab) (G : Addr → Prop)
/-- what a statement's result asks -/
def PostS (μ : Mu) (H : Hp) (r : KG.S) (D : Ends) (W : WX) : Prop := match r with
  | .bad => False
  | .nx env st => ∀ μ' H' σ', Ext μ H μ' H' → SR K T.nms G μ' H' st → ER K T.nms G μ' H' env σ' → D.nx σ' H'
  | .ret x st => ∀ μ' H' y, Ext μ H μ' H' → SR K T.nms G μ' H' st → XR K T.nms G μ' H' x y → D.rt y H'
  | .brk env st => ∀ μ' H' σ', Ext μ H μ' H' → SR K T.nms G μ' H' st → ER K T.nms G μ' H' env σ' → D.bk σ' H'
  | .cnt env st => ∀ μ' H' σ', Ext μ H μ' H' → SR K T.nms G μ' H' st → ER K T.nms G μ' H' env σ' → D.ct σ' H'
  | .exc c ns vs env st => ∀ μ' H' σ', Ext μ H μ' H' → SR K T.nms G μ' H' st → ER K T.nms G μ' H' env σ' → ∀ cls d, ExR T G μ' H' c ns vs cls d → W cls d σ' H'
end
def tS (K : PySem.W.Frag) (T : Tab) (W : WX) (f : KG.Env → Store → KG.S) : TS := fun D σ H => ∃ (G : Addr → Prop) (μ : Mu) (env : KG.Env) (st : Store), SR K T.nms G μ H st ∧ ER K T.nms G μ H env σ ∧ PostS K T G μ H (f env st) D W
section
variable {K : PySem.W.Frag} {T : Tab} {G : Addr → Prop} {μ μ1 : Mu} {H H1 : Hp} {D D' : Ends} {W W' : WX} {r : KG.S} {env : KG.Env} {st : Store} {σ : L2.St}
theorem PostS.later (e : Ext μ H μ1 H1) (h : PostS K T G μ H r D W) : PostS K T G μ1 H1 r D W := by
  cases r with
  | bad => exact h
  | nx => exact fun μ' H' σ' e' => h μ' H' σ' (e.trans e')
  | ret => exact fun μ' H' y e' => h μ' H' y (e.trans e')
  | brk => exact fun μ' H' σ' e' => h μ' H' σ' (e.trans e')
  | cnt => exact fun μ' H' σ' e' => h μ' H' σ' (e.trans e')
  | exc => exact fun μ' H' σ' e' => h μ' H' σ' (e.trans e')
theorem PostS.here_nx (h : PostS K T G μ H (.nx env st) D W) (S : SR K T.nms G μ H st) (E : ER K T.nms G μ H env σ) : D.nx σ H := h μ H σ (Ext.refl _ _) S E
theorem runX {α β : Type} {rel : Mu → Hp → α → β → Prop} {r : R α} {f : α → Store → KG.S} (E : ER K T.nms G μ H env σ) (h : PostS K T G μ H (r.run env f) D W) :
    Post K T.nms G rel μ H r (fun b H1 => ∃ a st1 μ1, SR K T.nms G μ1 H1 st1 ∧ ER K T.nms G μ1 H1 env σ ∧ Ext μ H μ1 H1 ∧ rel μ1 H1 a b ∧ PostS K T G μ1 H1 (f a st1) D W) (bW T G W σ) := by
  cases r with
  | bad => exact h
  | ok a st => exact fun μ' H' b e s q => ⟨a, st, μ', s, E.ext e, e, q, PostS.later e (show PostS K T G μ H (f a st) D W from h)⟩
  | exc c ns vs st => exact fun μ' H' e s cls d x => h μ' H' σ e s (E.ext e) cls d x
theorem optR_run {α : Type} {o : Option α} {f : α → Store → KG.S} (h : PostS K T G μ H ((optR o st).run env f) D W) : ∃ a, o = some a ∧ PostS K T G μ H (f a st) D W := by
  cases o with
  | none => exact h.elim
  | some a => exact ⟨a, rfl, h⟩
end
theorem _root_.L2.PS.weak {X : Cx} {s : Stmt} {t t' : TS} (h : PS X s t) (w : ∀ D σ H, t' D σ H → t D σ H) : PS X s t' := ⟨fun pins s σ H D I q => h.run pins s σ H D I (w D σ H q)⟩
theorem _root_.L2.PSs.weak {X : Cx} {s : List Stmt} {t t' : TS} (h : PSs X s t) (w : ∀ D σ H, t' D σ H → t D σ H) : PSs X s t' := ⟨fun pins s σ H D I q => h.run pins s σ H D I (w D σ H q)⟩
theorem _root_.L2.PS.bad {X : Cx} {s : Stmt} {t : TS} (w : ∀ D σ H, ¬ t D σ H) : PS X s t := ⟨fun _ _ σ H D _ h => absurd h (w D σ H)⟩
/-! ### what the text is asked -/
def notComp : Expr → Bool
  | .ListComp _ _ _ _ => false
  | .SetComp _ _ _ _ => false
  | .DictComp _ _ _ _ _ => false
  | _ => true
theorem swap_ok {e : Expr} {t : Option Expr} {l : Nat} {env : PySem.Env} (h : notComp e = true) : swapsWith e t l env = pure false := by
  cases e <;> first | rfl | cases h
theorem swap_at {e o : Expr} {f : Str} {p : Pos} {l : Nat} {env : PySem.Env} : swapsWith e (some (.Attribute o f p)) l env = pure false := by
  cases e <;> rfl
theorem swap_sub {e o i : Expr} {p : Pos} {l : Nat} {env : PySem.Env} : swapsWith e (some (.Subscript o i p)) l env = pure false := by
  cases e <;> rfl
theorem swap_tup {e : Expr} {es : List Expr} {kk : Nat} {p : Pos} {l : Nat} {env : PySem.Env} : swapsWith e (some (.Tuple es kk p)) l env = pure false := by
  cases e <;> rfl
theorem sole_tup {e : Expr} {es : List Expr} {kk : Nat} {p : Pos} {l : Nat} {env : PySem.Env} : swapsWithSole [.Tuple es kk p] e l env = pure false := by
  cases e <;> rfl
theorem sole_sub {e o i : Expr} {p : Pos} {l : Nat} {env : PySem.Env} : swapsWithSole [.Subscript o i p] e l env = pure false := by
  cases e <;> rfl
def notTup : Expr → Bool
  | .Tuple _ _ _ => false
  | _ => true
theorem swst_tup {e : Expr} {es : List Expr} {kk : Nat} {p : Pos} {env : PySem.Env} (h : notTup e = true) : swappedStores [.Tuple es kk p] e env = pure none := by
  cases e <;> first | rfl | cases h
theorem swst_sub {e o i : Expr} {p : Pos} {env : PySem.Env} : swappedStores [.Subscript o i p] e env = pure none := by
  cases e <;> rfl

section
variable {X : Cx} {T : Tab} {W : WX} {a b c e tg : Expr} {es : List Expr} {pos apos p : Pos} {f g h : KG.Env → Store → R KG.X} {fs : KG.Env → Store → R (List KG.X)} {sc : Scope}
/-! ### small statements -/
theorem s_nil : PSs X [] (tS X.K T W fun env st => .nx env st) := pss_nil.weak fun D σ H ⟨G, μ, env, st, S, E, P⟩ => P.here_nx S E
theorem s_cons {s : Stmt} {ss : List Stmt} {u v : KG.Env → Store → KG.S} (h1 : PS X s (tS X.K T W u)) (h2 : PSs X ss (tS X.K T W v)) : PSs X (s :: ss) (tS X.K T W fun env st => (u env st).next v) := by
  refine (pss_cons h1 h2).weak fun D σ H ⟨G, μ, env, st, S, E, P⟩ => ⟨G, μ, env, st, S, E, ?_⟩
  have P : PostS X.K T G μ H ((u env st).next v) D W := P
  cases hu : u env st with
  | bad => rw [hu] at P; exact P.elim
  | nx env1 st1 => rw [hu] at P; exact fun μ' H' σ' e s er => ⟨G, μ', env1, st1, s, er, PostS.later e (show PostS X.K T G μ H (v env1 st1) D W from P)⟩
  | ret => rw [hu] at P; exact P
  | brk => rw [hu] at P; exact P
  | cnt => rw [hu] at P; exact P
  | exc => rw [hu] at P; exact P
theorem s_expr (ha : PE X a (tE X.K T W f)) (hn : notComp a = true) : PS X (.Expr a pos) (tS X.K T W fun env st => (f env st).run env fun _ st => .nx env st) :=
  (ps_expr ha (swap_ok hn)).weak fun D σ H ⟨G, μ, env, st, S, E, P⟩ => ⟨G, μ, env, st, S, E, (runX E P).imp fun x H1 ⟨a, st1, μ1, S1, E1, _, _, P1⟩ => P1.here_nx S1 E1⟩
theorem s_ret (ha : PE X a (tE X.K T W f)) : PS X (.Return (some a) pos) (tS X.K T W fun env st => (f env st).run env fun x st => .ret x st) :=
  (ps_ret ha).weak fun D σ H ⟨G, μ, env, st, S, E, P⟩ => ⟨G, μ, env, st, S, E, (runX E P).imp fun x H1 ⟨a, st1, μ1, S1, E1, X1, r1, P1⟩ => P1 μ1 H1 x (Ext.refl _ _) S1 r1⟩
theorem s_retN : PS X (.Return none pos) (tS X.K T W fun _ st => .ret (.v .none) st) :=
  ps_retN.weak fun D σ H ⟨G, μ, env, st, S, E, P⟩ => P μ H .non (Ext.refl _ _) S (VR.none_i.mpr rfl)
theorem s_pass : PS X (.Pass pos) (tS X.K T W fun env st => .nx env st) := ps_pass.weak fun D σ H ⟨G, μ, env, st, S, E, P⟩ => P.here_nx S E
theorem s_brk : PS X (.Break pos) (tS X.K T W fun env st => .brk env st) := ps_break.weak fun D σ H ⟨G, μ, env, st, S, E, P⟩ => P μ H σ (Ext.refl _ _) S E
theorem s_cnt : PS X (.Continue pos) (tS X.K T W fun env st => .cnt env st) := ps_continue.weak fun D σ H ⟨G, μ, env, st, S, E, P⟩ => P μ H σ (Ext.refl _ _) S E
theorem s_if {t : KG.Env → Store → R Bool} {u v : KG.Env → Store → KG.S} {s1 s2 : List Stmt} (hc : PT X c (tT X.K T W t)) (h1 : PSs X s1 (tS X.K T W u)) (h2 : PSs X s2 (tS X.K T W v)) :
    PS X (.If c s1 s2 pos) (tS X.K T W fun env st => (t env st).run env fun k st => if k then u env st else v env st) :=
  (ps_if hc h1 h2).weak fun D σ H ⟨G, μ, env, st, S, E, P⟩ => ⟨G, μ, env, st, S, E, (runX (rel := relB) E P).imp fun k H1 ⟨a, st1, μ1, S1, E1, X1, r1, P1⟩ => by
    cases (show a = k from r1)
    cases k with
    | true => exact ⟨G, μ1, env, st1, S1, E1, P1⟩
    | false => exact ⟨G, μ1, env, st1, S1, E1, P1⟩⟩
/-! ### assignments -/
theorem s_set {i : Nat} {t : Expr} (tt : Tgt X sc) (ht : nameB X.N sc i t = true) (ha : PE X a (tE X.K T W f)) (hs : swapsWith a (some t) pos.line X.env = pure false) :
    PS X (.Assign [t] a pos) (tS X.K T W fun env st => (f env st).run env fun x st => .nx (env.set i (some x)) st) := by
  cases t with
  | Name x px =>
    simp only [nameB, Bool.and_eq_true, Bool.or_eq_true, beq_iff_eq] at ht
    exact (ps_set tt.nd ht.1 (tt.loc x ht.2) ha hs (tt.fn x ht.2)).weak fun D σ H ⟨G, μ, env, st, S, E, P⟩ => ⟨G, μ, env, st, S, E, (runX E P).imp fun x H1 ⟨a, st1, μ1, S1, E1, X1, r1, P1⟩ => P1.here_nx S1 (E1.set i r1)⟩
  | _ => cases ht
theorem s_tup {is : List Nat} {ts : List Expr} {kk : Nat} {tp : Pos} (tt : Tgt X sc) (ht : namesB X.N sc is ts = true) (ha : PE X a (tE X.K T W f)) (hn : notTup a = true) :
    PS X (.Assign [.Tuple ts kk tp] a pos) (tS X.K T W fun env st => (f env st).run env fun x st => (match unpack x with
      | some xs => if xs.length = is.length then .nx ((is.zip xs).foldl (fun e p => e.set p.1 (some (.v p.2))) env) st else .bad
      | none => .bad)) := by
  obtain ⟨n1, n2⟩ := names_each (env := X.env) ht
  refine ⟨fun pins s σ H D I ⟨G, μ, env, st, S, E, P⟩ => ?_⟩
  have P : PostS X.K T G μ H ((f env st).run env fun x st => (match unpack x with
      | some xs => if xs.length = is.length then .nx ((is.zip xs).foldl (fun e p => e.set p.1 (some (.v p.2))) env) st else .bad
      | none => .bad)) D W := P
  -- by what comes
  cases hf : f env st with
  | bad => rw [hf] at P; exact P.elim
  | exc c ns vs st1 =>
    rw [hf] at P
    refine (ps_asg ha (pg_tup tt.calm (gs_names tt ht) n1 n2) sole_tup (swst_tup hn)).run pins s σ H D I ⟨G, μ, env, st, S, E, ?_⟩
    rw [hf]
    exact fun μ' H' e s cls d x => P μ' H' σ e s (E.ext e) cls d x
  | ok x st1 =>
    rw [hf] at P
    have P : PostS X.K T G μ H (match unpack x with
      | some xs => if xs.length = is.length then .nx ((is.zip xs).foldl (fun e p => e.set p.1 (some (.v p.2))) env) st1 else .bad
      | none => .bad) D W := P
    cases x with
    | r n => exact P.elim
    | k xs => exact P.elim
    | v v =>
      cases v with
      | tup xs =>
        have P : PostS X.K T G μ H (if xs.length = is.length then .nx ((is.zip xs).foldl (fun e p => e.set p.1 (some (.v p.2))) env) st1 else .bad) D W := P
        split at P
        · rename_i hl
          refine (ps_asg ha (pg_tup tt.calm (gs_names tt ht) n1 n2) sole_tup (swst_tup hn)).run pins s σ H D I ⟨G, μ, env, st, S, E, ?_⟩
          rw [hf]
          intro μ' H' y e s r
          obtain ⟨ad, ys, rfl, q, p⟩ := VR.tup_i.mp (show VR T.nms (Fz G μ') H' _ _ from r)
          exact ⟨ad, ys, rfl, q.sq, by rw [← plen p]; exact hl, by rw [← plen p]; exact hl, P μ' H' _ e s ((E.ext e).setAll is p)⟩
        · exact P.elim
      | lst xs =>
        have P : PostS X.K T G μ H (if xs.length = is.length then .nx ((is.zip xs).foldl (fun e p => e.set p.1 (some (.v p.2))) env) st1 else .bad) D W := P
        split at P
        · rename_i hl
          refine (ps_asg ha (pg_unl tt.calm (gs_names tt ht) n1 n2) sole_tup (swst_tup hn)).run pins s σ H D I ⟨G, μ, env, st, S, E, ?_⟩
          rw [hf]
          intro μ' H' y e s r
          obtain ⟨ad, ys, rfl, q, p⟩ := VR.lst_i.mp (show VR T.nms (Fz G μ') H' _ _ from r)
          exact ⟨ad, ys, rfl, .inl q.1, by rw [← plen p]; exact hl, by rw [← plen p]; exact hl, P μ' H' _ e s ((E.ext e).setAll is p)⟩
        · exact P.elim
      | _ => exact P.elim
end
/-! ### own cells written -/
section
variable {K : PySem.W.Frag} {M : Nms} {G : Addr → Prop} {μ : Mu} {H : Hp} {st : Store}
theorem fput_ok {α : Type} {att : Nat → Str} {R : α → V → Prop} (inj : ∀ n m, att n = att m → n = m) (n : Nat) {z : α} {y : V} (hz : R z y) : ∀ {ns : List Nat} {vs : List α} {fs : List (Str × V)}, fs.map (·.1) = ns.map att → Paired R vs (fs.map (·.2)) →
    (putF (att n) y fs).map (·.1) = (fput ns vs n z).1.map att ∧ Paired R (fput ns vs n z).2 ((putF (att n) y fs).map (·.2))
  | ns, vs, [], e, p => by
    have e1 : ns = [] := by cases ns with
      | nil => rfl
      | cons a r => cases e
    subst e1
    cases p
    exact ⟨rfl, .cons hz .nil⟩
  | [], _, f :: fs, e, p => by cases e
  | m :: ns, vs, (k, v) :: fs, e, p => by
    have p : Paired R vs (v :: fs.map (·.2)) := p
    cases p with
    | @cons w _ ws _ p1 p2 =>
      have e : k :: fs.map (·.1) = att m :: ns.map att := e
      have ek : k = att m := List.head_eq_of_cons_eq e
      have et : fs.map (·.1) = ns.map att := List.tail_eq_of_cons_eq e
      obtain ⟨h1, h2⟩ := fput_ok inj n hz et p2
      have ef : fput (m :: ns) (w :: ws) n z = if m == n then (m :: ns, z :: ws) else (m :: (fput ns ws n z).1, w :: (fput ns ws n z).2) := rfl
      have eg : putF (att n) y ((k, v) :: fs) = if k = att n then (k, y) :: fs else (k, v) :: putF (att n) y fs := rfl
      rw [ef, eg]
      by_cases h : m = n
      · subst h
        rw [if_pos ek]
        simp only [beq_self_eq_true, if_true]
        exact ⟨by rw [List.map_cons, List.map_cons, ← ek]; exact congrArg _ et, .cons hz p2⟩
      · have hb : (m == n) = false := by simpa using h
        have hk : ¬ k = att n := fun q => h (inj m n (ek.symm.trans q))
        rw [if_neg hk, hb]
        simp only [Bool.false_eq_true, if_false]
        exact ⟨by rw [List.map_cons, List.map_cons, h1, ek], .cons p1 h2⟩
end
section
variable {X : Cx} {T : Tab} {P : Prg} {k lv : Nat} {W : WX} {a b c e tg : Expr} {es : List Expr} {pos apos p : Pos} {f g h : KG.Env → Store → R KG.X} {G : Addr → Prop} {μ : Mu} {H : Hp} {st : Store} {env : KG.Env} {σ : L2.St} {D : Ends}
theorem putAt_ok {n : Nat} {x z : KG.X} {y v : V} (L : Lnk X.prog X.w X.K X.mg X.base T P k lv) (hn : n < T.natt) (S : SR X.K T.nms G μ H st) (E : ER X.K T.nms G μ H env σ) (rx : XR X.K T.nms G μ H x y) (rz : XR X.K T.nms G μ H z v) (h : PostS X.K T G μ H (putAt (P.ctx (callN P k)) x n z env st) D W) :
    ∃ a C dx fs, y = .ref a ∧ H a = some (.ins C dx fs) ∧ Cls X.K C ∧ NoAttr X.K C (T.nms.att n) ∧ fs.length < 1000 ∧ D.nx σ (upd H a (.ins C dx (putF (T.nms.att n) v fs))) := by
  unfold putAt at h
  split at h
  · rename_i i
    split at h
    · rename_i ci ns vs e
      split at h
      · rename_i hp hm
        split at h
        · rename_i hl
          obtain ⟨ad, ha, C, dx, fs, q, c1, c2, pq⟩ := S.addr e (by simp)
          have hlen : fs.length = ns.length := by have := congrArg List.length c2; simpa using this
          obtain ⟨h1, h2⟩ := fput_ok L.inj n rz c2 pq
          have E1 : Ext μ H μ (upd H ad (.ins C dx (putF (T.nms.att n) v fs))) := Ext.write (List.mem_of_getElem? ha)
          exact ⟨ad, C, dx, fs, rx.at ha, q, (L.cls ci C c1).1, L.fld ci C n c1 hn hm hp, by omega, h μ _ σ E1 (S.write ha ⟨C, dx, _, upd_same, c1, h1, XR.exts E1 h2⟩) (E.ext E1)⟩
        · exact h.elim
      · exact h.elim
    · exact h.elim
  · exact h.elim
theorem s_at {n : Nat} {o : Expr} {ap : Pos} (L : Lnk X.prog X.w X.K X.mg X.base T P k lv) (hn : n < T.natt) (ha : PE X a (tE X.K T W f)) (ho : PE X o (tE X.K T W g)) :
    PS X (.Assign [.Attribute o (T.nms.att n) ap] a pos) (tS X.K T W fun env st => (f env st).run env fun x st => (g env st).run env fun y st => putAt (P.ctx (callN P k)) y n x env st) :=
  (ps_fld ho ha swap_at).weak fun D σ H ⟨G, μ, env, st, S, E, P⟩ => ⟨G, μ, env, st, S, E, (runX E P).imp fun x H1 ⟨z, st1, μ1, S1, E1, X1, r1, P1⟩ =>
    ⟨G, μ1, env, st1, S1, E1, (runX E1 P1).imp fun y H2 ⟨z2, st2, μ2, S2, E2, X2, r2, P2⟩ => putAt_ok L hn S2 E2 r2 (r1.ext X2) P2⟩⟩
theorem augV_ok {op : BOp} {x y : KG.X} {v w : V} {Q : VK} {B : EW} {K : PySem.W.Frag} {M : Nms} (S : SR K M G μ H st) (rx : XR K M G μ H x v) (ry : XR K M G μ H y w) (h : Post K M G (relX K M G) μ H (augV op x y st) Q B) :
    op = .add ∧ ∃ i j, v = .int i ∧ w = .int j ∧ Q (.int (i + j)) H := by
  unfold augV at h
  split at h
  · cases VR.int_i.mp (show VR M (Fz G μ) H _ _ from rx)
    cases VR.int_i.mp (show VR M (Fz G μ) H _ _ from ry)
    exact ⟨rfl, _, _, rfl, rfl, h.flat S (VR.int_i.mpr rfl)⟩
  · exact h.elim
theorem s_aug {i : Nat} {t : Expr} {sc : Scope} (tt : Tgt X sc) (ht : nameB X.N sc i t = true) (ha : PE X a (tE X.K T W f)) :
    PS X (.AugAssign t .Add a pos) (tS X.K T W fun env st => (optR (env[i]?.join) st).run env fun x st => (f env st).run env fun y st => (augV .add x y st).run env fun z st => .nx (env.set i (some z)) st) := by
  cases t with
  | Name x px =>
    simp only [nameB, Bool.and_eq_true, Bool.or_eq_true, beq_iff_eq] at ht
    refine (ps_aug tt.nd ht.1 (tt.loc x ht.2) ha ip_add (tt.fn x ht.2)).weak fun D σ H ⟨G, μ, env, st, S, E, P⟩ => ?_
    obtain ⟨z, hz, P1⟩ := optR_run P
    cases e1 : env[i]? with
    | none => rw [e1] at hz; cases hz
    | some o =>
      rw [e1] at hz
      have hz : o = some z := hz
      subst hz
      obtain ⟨y, hy, ry⟩ := E.2 i z e1
      refine ⟨y, hy, G, μ, env, st, S, E, (runX E P1).imp fun w H1 ⟨z1, st1, μ1, S1, E1, X1, r1, P2⟩ => ?_⟩
      obtain ⟨_, a1, b1, e2, e3, q⟩ := augV_ok S1 (ry.ext X1) r1 (runX (rel := relX X.K T.nms G) E1 P2)
      subst e2 e3
      obtain ⟨z3, st3, μ3, S3, E3, X3, r3, P3⟩ := q
      refine ⟨a1, b1, rfl, rfl, ?_⟩
      exact P3 μ3 H1 _ (Ext.refl _ _) S3 (E3.set i r3)
  | _ => cases ht
theorem fldO_ok {n : Nat} {z x : KG.X} {y : V} (L : Lnk X.prog X.w X.K X.mg X.base T P k lv) (hn : n < T.natt) (S : SR X.K T.nms G μ H st) (r : XR X.K T.nms G μ H z y) (h : fldO (P.ctx (callN P k)) z n st = some x) :
    ∃ a c C dx fs v, y = .ref a ∧ clsOf z st = some c ∧ T.nms.cls c = some C ∧ H a = some (.ins C dx fs) ∧ Cls X.K C ∧ NoAttr X.K C (T.nms.att n) ∧ fs.lookup (T.nms.att n) = some v ∧ XR X.K T.nms G μ H x v := by
  unfold fldO at h
  split at h
  · rename_i c hc
    split at h
    · rename_i hp hm
      obtain ⟨ad, C, dx, fs, rfl, ea, hC, hfl⟩ := clsOf_ok L.inj S r hc
      obtain ⟨v, l, rv⟩ := (hfl n).1 x h
      exact ⟨ad, c, C, dx, fs, v, rfl, hc, hC, ea, (L.cls c C hC).1, L.fld c C n hC hn hm hp, l, rv⟩
    · cases h
  · cases h
theorem s_augAt {n : Nat} {o : Expr} {ap : Pos} (L : Lnk X.prog X.w X.K X.mg X.base T P k lv) (hn : n < T.natt) (ha : PE X a (tE X.K T W f)) (ho : PE X o (tE X.K T W g)) :
    PS X (.AugAssign (.Attribute o (T.nms.att n) ap) .Add a pos) (tS X.K T W fun env st => (g env st).run env fun y st => (optR (fldO (P.ctx (callN P k)) y n st) st).run env fun x st => (f env st).run env fun w st2 =>
      if clsOf y st2 == clsOf y st then (augV .add x w st2).run env fun z st => putAt (P.ctx (callN P k)) y n z env st else .bad) :=
  (ps_fldaug ho ha in_add).weak fun D σ H ⟨G, μ, env, st, S, E, P⟩ => ⟨G, μ, env, st, S, E, (runX E P).imp fun y H1 ⟨z, st1, μ1, S1, E1, X1, r1, P1⟩ => by
    obtain ⟨x, hx, P2⟩ := optR_run P1
    obtain ⟨ad, c, C, dx, fs, v, rfl, hc, hC, ea, hcl, hna, l, rv⟩ := fldO_ok L hn S1 r1 hx
    refine ⟨ad, C, dx, fs, v, rfl, ea, hcl, hna, l, G, μ1, env, st1, S1, E1, (runX E1 P2).imp fun w H2 ⟨w1, st2, μ2, S2, E2, X2, r2, P3⟩ => ?_⟩
    split at P3
    · rename_i hcc
      have hc2 : clsOf z st2 = some c := by rw [eq_of_beq hcc]; exact hc
      obtain ⟨_, i, j, rfl, rfl, z3, st3, μ3, S3, E3, X3, r3, P4⟩ := augV_ok S2 (rv.ext X2) r2 (runX (rel := relX X.K T.nms G) E2 P3)
      refine ⟨i, j, rfl, rfl, ?_⟩
      obtain ⟨ad', C', dx', fs', e1, ea', _, _, hl', q⟩ := putAt_ok (y := .ref ad) L hn S3 E3 ((r1.ext X2).ext X3) r3 P4
      cases e1
      obtain ⟨ad2, C2, dx2, fs2, e2, ea2, hC2, _⟩ := clsOf_ok L.inj S2 (r1.ext X2) hc2
      cases e2
      rw [ea'] at ea2
      cases ea2
      rw [hC] at hC2
      cases hC2
      exact ⟨dx', fs', ea', hl', q⟩
    · exact P3.elim⟩
/-! ### d[k] = v -/
theorem putIx_ok {x y z : KG.X} {v w u : V} (hu : X.A.units + 1 < cLine) (S : SR X.K T.nms G μ H st) (E : ER X.K T.nms G μ H env σ) (rx : XR X.K T.nms G μ H x v) (ry : XR X.K T.nms G μ H y w) (rz : XR X.K T.nms G μ H z u) (h : PostS X.K T G μ H (putIx x y z env st) D W) :
    rSetD v w u H (D.nx σ) ∨ rSetL v w u H (D.nx σ) := by
  unfold putIx at h
  split at h
  · rename_i i kv vv
    split at h
    · rename_i t ks vs e
      split at h
      · rename_i hc
        simp only [Bool.and_eq_true, decide_eq_true_eq] at hc
        obtain ⟨hf, hl⟩ := hc
        obtain ⟨ad, ha, q⟩ := S.addr e (by simp)
        have hv := rx.at ha
        subst hv
        have ry : VR T.nms (Fz G μ) H kv w := ry
        have rz : VR T.nms (Fz G μ) H vv u := rz
        cases t with
        | false =>
          obtain ⟨kvs, q, pk, pv⟩ := q
          obtain ⟨kk, hkk⟩ := isKey_k (show isKey kv = true from hf) ry
          have dp := dput_ok (P := VR T.nms (Fz G μ) H) KR.eq hkk rz pk pv
          have E1 : Ext μ H μ (upd H ad (.dK (putK kvs kk u))) := Ext.write (List.mem_of_getElem? ha)
          have hlen : kvs.length < sizeLine := by
            have h1 := plen pk
            rw [List.length_map] at h1
            rw [← LIM_eq]
            omega
          refine .inl ⟨ad, _, rfl, .inl ⟨kvs, kk, q, hkk.v ry, hlen, rfl⟩, ?_⟩
          exact h μ _ σ E1 (S.write ha ⟨_, upd_same, dp.1, VR.exts E1 dp.2⟩) (E.ext E1)
        | true =>
          obtain ⟨kvs, q, pk, pv⟩ := q
          obtain ⟨kk, b, hkk, rfl, hb⟩ := tkey_of (show isTKey kv = true from hf) ry
          have dp := dput_ok (P := VR T.nms (Fz G μ) H) KRT.eq hkk rz pk pv
          have E1 : Ext μ H μ (upd H ad (.dT (putK kvs kk u))) := Ext.write (List.mem_of_getElem? ha)
          have hlen : kvs.length < sizeLine := by
            have h1 := plen pk
            rw [List.length_map] at h1
            rw [← LIM_eq]
            omega
          refine .inl ⟨ad, _, rfl, .inr ⟨kvs, kk, b, q, rfl, hb, hlen, rfl⟩, ?_⟩
          exact h μ _ σ E1 (S.write ha ⟨_, upd_same, dp.1, VR.exts E1 dp.2⟩) (E.ext E1)
      · exact h.elim
    · rename_i xs e
      split at h
      · rename_i j
        split at h
        · rename_i pp hp
          obtain ⟨ad, ha, ys, q, pq⟩ := S.addr e (by simp)
          have hv := rx.at ha
          subst hv
          cases VR.int_i.mp (show VR T.nms (Fz G μ) H _ _ from ry)
          have E1 : Ext μ H μ (upd H ad (.lst (ys.set pp u))) := Ext.write (List.mem_of_getElem? ha)
          refine .inr ⟨ad, ys, j, pp, rfl, rfl, q, by rw [← plen pq, ← ixAt_eq]; exact hp, ?_⟩
          exact h μ _ σ E1 (S.write ha ⟨_, upd_same, VR.exts E1 (pset (show VR T.nms (Fz G μ) H _ _ from rz) pp pq)⟩) (E.ext E1)
        · exact h.elim
      · exact h.elim
    · exact h.elim
  · exact h.elim
theorem set_any {X : Cx} (hu : X.A.units + 1 < cLine) : PSet X (fun o i v H Q => rSetD o i v H Q ∨ rSetL o i v H Q) := by
  intro pins s σ H o i v ov iv u Q I ro ri rv h
  rcases h with h | h
  · exact set_dict hu pins s σ H o i v ov iv u Q I ro ri rv h
  · exact set_list pins s σ H o i v ov iv u Q I ro ri rv h
theorem s_ix {o i : Expr} {sp : Pos} (hu : X.A.units + 1 < cLine) (ha : PE X a (tE X.K T W f)) (ho : PE X o (tE X.K T W g)) (hi : PE X i (tE X.K T W h)) (hs : notSlice i = true) :
    PS X (.Assign [.Subscript o i sp] a pos) (tS X.K T W fun env st => (f env st).run env fun x st => (g env st).run env fun y st => (h env st).run env fun z st => putIx y z x env st) := by
  refine (ps_asg ha (pg_sub ho hi (set_any hu) (fun v => by cases i <;> first | rfl | cases hs)) sole_sub swst_sub).weak fun D σ H ⟨G, μ, env, st, S, E, P⟩ => ⟨G, μ, env, st, S, E, (runX E P).imp fun x H1 ⟨x1, st1, μ1, S1, E1, X1, r1, P1⟩ =>
    ⟨G, μ1, env, st1, S1, E1, (runX E1 P1).imp fun y H2 ⟨y1, st2, μ2, S2, E2, X2, r2, P2⟩ => ⟨G, μ2, env, st2, S2, E2, (runX E2 P2).imp fun z H3 ⟨z1, st3, μ3, S3, E3, X3, r3, P3⟩ =>
      putIx_ok hu S3 E3 (r2.ext X3) r3 ((r1.ext X2).ext X3) P3⟩⟩⟩
end
end KG

set_option linter.all false
set_option maxRecDepth 100000
set_option maxHeartbeats 4000000
/-! K1r: loops, several names at once, what becomes a value. -/
namespace KG
open PySem PySem.Spec PyProof.Rows L2

section
variable {X : Cx} {T : Tab} {P : Prg} {k lv : Nat} {W : WX} {a b c e tg : Expr} {es : List Expr} {pos apos p : Pos} {f g h : KG.Env → Store → R KG.X} {fs : KG.Env → Store → R (List KG.X)} {sc : Scope}
theorem ER.repl {K : PySem.W.Frag} {M : Nms} {G : Addr → Prop} {μ : Mu} {H : Hp} {env : KG.Env} {σ : L2.St} (h : ER K M G μ H env σ) {i : Nat} {x : KG.X} {y : V} (hy : σ[i]? = some (some y)) (r : XR K M G μ H x y) : ER K M G μ H (env.set i (some x)) σ := by
  refine ⟨by simp [h.1], fun j z q => ?_⟩
  by_cases e : i = j
  · subst e
    rw [List.getElem?_set_self'] at q
    cases e1 : env[i]? with
    | none => rw [e1] at q; cases q
    | some o => rw [e1] at q; cases q; exact ⟨y, hy, r⟩
  · rw [List.getElem?_set_ne e] at q
    exact h.2 j z q
/-- an own list, dict of a name becomes a value -/
theorem s_frz {i : Nat} {ss : List Stmt} {u : KG.Env → Store → KG.S} (hs : PSs X ss (tS X.K T W u)) : PSs X ss (tS X.K T W fun env st => (frzS i env st).next u) := by
  refine hs.weak fun D σ H ⟨G, μ, env, st, S, E, P⟩ => ?_
  have P : PostS X.K T G μ H ((frzS i env st).next u) D W := P
  unfold frzS at P
  split at P
  · rename_i n hn
    have slot : ∃ y, σ[i]? = some (some y) ∧ XR X.K T.nms G μ H (.r n) y := by
      cases e1 : env[i]? with
      | none => rw [e1] at hn; cases hn
      | some o =>
        rw [e1] at hn
        have hn : o = some (.r n) := hn
        subst hn
        exact E.2 i _ e1
    obtain ⟨y, hy, ry⟩ := slot
    split at P
    · rename_i xs hx
      obtain ⟨ad, ha, ys, q, pq⟩ := S.addr hx (by simp)
      obtain ⟨S1, fz⟩ := S.kill ha
      have E1 : Ext μ H (μ.set n none) H := Ext.kill
      have hyy := ry.at ha
      subst hyy
      exact ⟨G, μ.set n none, _, _, S1, (E.ext E1).repl hy (x := .v (.lst xs)) (VR.lst_i.mpr ⟨ad, ys, rfl, ⟨.inl q, fz⟩, VR.exts E1 pq⟩), PostS.later E1 P⟩
    · rename_i t ks vs hx
      obtain ⟨ad, ha, q⟩ := S.addr hx (by simp)
      obtain ⟨S1, fz⟩ := S.kill ha
      have E1 : Ext μ H (μ.set n none) H := Ext.kill
      have hyy := ry.at ha
      subst hyy
      refine ⟨G, μ.set n none, _, _, S1, (E.ext E1).repl hy (x := .v (.dct t ks vs)) (VR.dct_i.mpr ⟨ad, rfl, fz, ?_⟩), PostS.later E1 P⟩
      cases t with
      | false => obtain ⟨kvs, q, p1, p2⟩ := q; exact .inl ⟨kvs, rfl, .inl q, p1, VR.exts E1 p2⟩
      | true => obtain ⟨kvs, q, p1, p2⟩ := q; exact .inr ⟨kvs, rfl, .inl q, p1, VR.exts E1 p2⟩
    · exact P.elim
  · exact ⟨G, μ, env, st, S, E, P⟩
/-! ### loops -/
theorem s_while {t : KG.Env → Store → R Bool} {u : KG.Env → Store → KG.S} {ss : List Stmt} {n : Nat} (hp : PassesOwn (model X.prog X.w) X.A X.env X.xe) (hc : PT X c (tT X.K T W t)) (hb : PSs X ss (tS X.K T W u)) :
    PS X (.While c ss [] pos) (tS X.K T W fun env st => whlL t u n env st) := by
  refine (ps_while hp hc hb).weak fun D σ H ⟨G, μ, env, st, S, E, P⟩ => ?_
  refine ⟨fun m σ H => ∃ (μ : Mu) (env : KG.Env) (st : Store), SR X.K T.nms G μ H st ∧ ER X.K T.nms G μ H env σ ∧ PostS X.K T G μ H (whlL t u m env st) D W, ⟨n, μ, env, st, S, E, P⟩, ?_⟩
  rintro m σ H ⟨μ, env, st, S, E, P⟩
  cases m with
  | zero => exact P.elim
  | succ m =>
    have P : PostS X.K T G μ H ((t env st).run env fun k st => if k then (match u env st with
      | .nx e s => whlL t u m e s
      | .cnt e s => whlL t u m e s
      | .brk e s => .nx e s
      | r => r) else .nx env st) D W := P
    refine ⟨G, μ, env, st, S, E, (runX (rel := relB) E P).imp fun k H1 ⟨k', st1, μ1, S1, E1, X1, r1, P1⟩ => ?_⟩
    cases (show k' = k from r1)
    cases k with
    | false => exact (show PostS X.K T G μ1 H1 (.nx env st1) D W from P1).here_nx S1 E1
    | true =>
      simp only [if_true] at P1 ⊢
      refine ⟨fun σ' H' => ∃ (μ : Mu) (env : KG.Env) (st : Store), SR X.K T.nms G μ H' st ∧ ER X.K T.nms G μ H' env σ' ∧ PostS X.K T G μ H' (whlL t u m env st) D W, fun σ' H' p => ⟨m, Nat.lt_succ_self _, p⟩, G, μ1, env, st1, S1, E1, ?_⟩
      cases hu : u env st1 with
      | bad => rw [hu] at P1; exact P1.elim
      | nx e2 s2 => rw [hu] at P1; exact fun μ' H' σ' x s er => ⟨μ', e2, s2, s, er, PostS.later x P1⟩
      | cnt e2 s2 => rw [hu] at P1; exact fun μ' H' σ' x s er => ⟨μ', e2, s2, s, er, PostS.later x P1⟩
      | brk e2 s2 => rw [hu] at P1; exact P1
      | ret x2 s2 => rw [hu] at P1; exact P1
      | exc => rw [hu] at P1; exact P1
/-- the walk of a for -/
theorem for_ok {K : PySem.W.Frag} {t : Tg} {u v : KG.Env → Store → KG.S} {G : Addr → Prop} {μ : Mu} {H1 : Hp} {st : Store} {env : KG.Env} {σ : L2.St} {J : It} {w : Wk} {D : Ends}
    (S : SR K T.nms G μ H1 st) (E : ER K T.nms G μ H1 env σ) (jw : Jw K T.nms G J w μ H1) (P : PostS K T G μ H1 (forL w (fun v env st => (match bindT t v env with
      | some env => u env st
      | none => .bad)) v w.xs env st) D W) :
    ∃ Wf : Nat → Nat → L2.St → Hp → Prop, (∃ m, Wf 0 m σ H1) ∧ ∀ i m σ H, Wf i m σ H →
      (J.stop i H ∧ tS K T W v D σ H) ∨ (J.go i H ∧ ∃ N : L2.St → Hp → Prop, (∀ σ' H', N σ' H' → ∃ m', m' < m ∧ Wf (i + 1) m' σ' H') ∧ ∀ x H', J.yld i H x H' → gTg K T t x σ H' fun σ2 H2 => tS K T W u { D with nx := N, ct := N, bk := D.nx } σ2 H2) := by
  let fb : Val → KG.Env → Store → KG.S := fun v env st => (match bindT t v env with
      | some env => u env st
      | none => .bad)
  let Pv : Nat → L2.St → Hp → Prop := fun i σ H => ∃ (μi : Mu) (env : KG.Env) (st : Store), Ext μ H1 μi H ∧ SR K T.nms G μi H st ∧ ER K T.nms G μi H env σ ∧ PostS K T G μi H (forL w fb v (w.xs.drop i) env st) D W
  refine ⟨fun i m σ H => m = w.xs.length - i ∧ i ≤ w.xs.length ∧ Pv i σ H, ⟨w.xs.length, by simp, Nat.zero_le _, μ, env, st, Ext.refl _ _, S, E, by simpa using P⟩, ?_⟩
  rintro i mm σ H ⟨rfl, hi, μi, env, st, X1, S1, E1, P1⟩
  by_cases hlt : i < w.xs.length
  · obtain ⟨x, hx⟩ : ∃ x, w.xs[i]? = some x := ⟨w.xs[i], by simp [hlt]⟩
    rw [drop_step hx] at P1
    unfold forL at P1
    split at P1
    · rename_i ho
      obtain ⟨go, hy⟩ := jw.turn G μi H st i x (fun a g => .inl g) X1 S1 ho hx
      refine .inr ⟨go, Pv (i + 1), fun σ' H' p => ⟨_, by omega, rfl, hlt, p⟩, fun y H' hyl => ?_⟩
      obtain ⟨hgrow, ry⟩ := hy y H' hyl
      have X2 : Ext μi H μi H' := Ext.grow hgrow
      have S2 := S1.grow hgrow
      have P2 := PostS.later X2 P1
      cases hb : bindT t x env with
      | none =>
        have : fb x env st = .bad := by show (match bindT t x env with | some env => u env st | none => KG.S.bad) = _; rw [hb]
        rw [this] at P2
        exact P2.elim
      | some env' =>
        have e1 : fb x env st = u env' st := by show (match bindT t x env with | some env => u env st | none => KG.S.bad) = _; rw [hb]
        rw [e1] at P2
        refine ⟨G, μi, env, env', st, x, S2, E1.ext X2, ry, hb, fun σ' E3 _ _ => ⟨G, μi, env', st, S2, E3, ?_⟩⟩
        cases hu : u env' st with
        | bad => rw [hu] at P2; exact P2.elim
        | nx e2 s2 => rw [hu] at P2; exact fun μ' H'' σ'' x2 s er => ⟨μ', e2, s2, (X1.trans X2).trans x2, s, er, PostS.later x2 P2⟩
        | cnt e2 s2 => rw [hu] at P2; exact fun μ' H'' σ'' x2 s er => ⟨μ', e2, s2, (X1.trans X2).trans x2, s, er, PostS.later x2 P2⟩
        | brk e2 s2 => rw [hu] at P2; exact P2
        | ret x2 s2 => rw [hu] at P2; exact P2
        | exc => rw [hu] at P2; exact P2
    · exact P1.elim
  · have e0 : i = w.xs.length := by omega
    subst e0
    rw [List.drop_length] at P1
    unfold forL at P1
    split at P1
    · rename_i ho
      exact .inl ⟨jw.stop G μi H st (fun a g => .inl g) X1 S1 ho, G, μi, env, st, S1, E1, P1⟩
    · exact P1.elim
theorem noXI_of {it : CI} {K : PySem.W.Frag} {G : Addr → Prop} {μ : Mu} {H : Hp} {r : KG.S} {D : Ends} (h : PostS K T G μ H (noXI it r) D W) : PostS K T G μ H r D W := by
  unfold noXI at h
  split at h
  · exact h.elim
  · exact h
theorem s_for {t : Tg} {it : CI} {i : KG.Env → Store → R Wk} {u v : KG.Env → Store → KG.S} {iter : Expr} {ss s2 : List Stmt} (tt : Tgt X sc) (hp : PassesOwn (model X.prog X.w) X.A X.env X.xe) (hi : PI X tg iter (tI X.K T W i)) (ht : tgB X.N sc t tg = true) (hb : PSs X ss (tS X.K T W u)) (he : PSs X s2 (tS X.K T W v)) (hs : notSet iter = true) :
    PS X (.For tg iter ss s2 pos) (tS X.K T W fun env st => (i env st).run env fun w st => noXI it (forL w (fun v env st => (match bindT t v env with
      | some env => u env st
      | none => .bad)) v w.xs env st)) :=
  (ps_forE hp tt.calm hi (g_tg tt ht) hb he (set_ok hs)).weak fun D σ H ⟨G, μ, env, st, S, E, P⟩ => ⟨G, μ, env, st, S, E, (runX (rel := fun μ H w J => Jw X.K T.nms G J w μ H) E P).imp fun J H1 ⟨w, st1, μ1, S1, E1, X1, jw, P1⟩ => for_ok S1 E1 jw (noXI_of P1)⟩
/-- .. over a dict's pairs -/
theorem PostS.held {K : PySem.W.Frag} {G : Addr → Prop} {μ : Mu} {H : Hp} {r : KG.S} {D : Ends} {d : Addr} {u : HO} {od : Obj} {W' : WX} (hd : H d = some u) (l : LD u) (hm : some d ∉ μ) (nx : ∀ c ns vs e s, r ≠ .exc c ns vs e s) (h : PostS K T G μ H r D W) :
    PostS K T G μ (upd H d (.frz od u)) r ⟨fun σ' H' => H' d = some (.frz od u) ∧ D.nx σ' (upd H' d u), fun v H' => H' d = some (.frz od u) ∧ D.rt v (upd H' d u), fun σ' H' => H' d = some (.frz od u) ∧ D.bk σ' (upd H' d u), fun σ' H' => H' d = some (.frz od u) ∧ D.ct σ' (upd H' d u)⟩ W' := by
  have key : ∀ {μ' : Mu} {H' : Hp} {st : Store}, Ext μ (upd H d (.frz od u)) μ' H' → SR K T.nms G μ' H' st → H' d = some (.frz od u) ∧ Ext μ H μ' (upd H' d u) ∧ SR K T.nms G μ' (upd H' d u) st ∧ Lk (fun _ => True) H' (upd H' d u) := fun {μ' H' st} e S => by
    have h1 : H' d = some (.frz od u) := e.same d _ upd_same hm
    have hm' : some d ∉ μ' := fun q => (e.new d q).elim hm fun z => by rw [upd_same] at z; cases z
    exact ⟨h1, Ext.walked hd e, S.lk (Lk.down l h1) fun a q => upd_ne fun z => hm' (by rw [← z]; exact q), Lk.down l h1⟩
  cases r with
  | bad => exact h
  | nx env st => exact fun μ' H' σ' e S er => by obtain ⟨h1, h2, h3, h4⟩ := key e S; exact ⟨h1, h μ' _ σ' h2 h3 (er.lk fun a o _ q => h4 a o trivial q)⟩
  | brk env st => exact fun μ' H' σ' e S er => by obtain ⟨h1, h2, h3, h4⟩ := key e S; exact ⟨h1, h μ' _ σ' h2 h3 (er.lk fun a o _ q => h4 a o trivial q)⟩
  | cnt env st => exact fun μ' H' σ' e S er => by obtain ⟨h1, h2, h3, h4⟩ := key e S; exact ⟨h1, h μ' _ σ' h2 h3 (er.lk fun a o _ q => h4 a o trivial q)⟩
  | ret x st => exact fun μ' H' y e S r => by obtain ⟨h1, h2, h3, h4⟩ := key e S; exact ⟨h1, h μ' _ y h2 h3 (r.lk fun a o _ q => h4 a o trivial q)⟩
  | exc c ns vs e s => exact absurd rfl (nx _ _ _ _ _)
theorem wk_run {K : PySem.W.Frag} {G : Addr → Prop} {μ : Mu} {H : Hp} {st : Store} {env : KG.Env} {o : Option (List Val)} {F : Wk → Store → KG.S} {D : Ends} (h : PostS K T G μ H ((wkR o st).run env F) D W) : ∃ xs, o = some xs ∧ PostS K T G μ H (F ⟨none, xs⟩ st) D W := by
  cases o with
  | none => exact h.elim
  | some a => exact ⟨a, rfl, h⟩
theorem s_forI {t : Tg} {ce : CE} {u v : KG.Env → Store → KG.S} {iter : Expr} {ss s2 : List Stmt} {els : List Expr} {kk : Nat} {tpos cpos : Pos} (L : Lnk X.prog X.w X.K X.mg X.base T P k lv) (hn : pkB T ce = true) (tt : Tgt X sc) (hp : PassesOwn (model X.prog X.w) X.A X.env X.xe)
    (ha : PE X iter (tPk X.K T ce)) (hbs : notSuper iter = true) (hline : (apos.endLine == cpos.line) = true) (ht : tgB X.N sc t (.Tuple els kk tpos) = true) (hb : PSs X ss (tS X.K T W u)) (he : PSs X s2 (tS X.K T W v)) :
    PS X (.For (.Tuple els kk tpos) (.Call (.Attribute iter "items" apos) [] [] cpos) ss s2 pos) (tS X.K T W fun env st => (evI (P.ctx (callN P k)) (.items ce) env st).run env fun w st => noXI (.items ce) (forL w (fun v env st => (match bindT t v env with
      | some env => u env st
      | none => .bad)) v w.xs env st)) := by
  have hps := ps_forE (pos := pos) hp tt.calm (pi_items (elts := els) (kk := kk) (tpos := tpos) ha (base_ok hbs) hline) (g_tg (T := T) tt ht) hb he (set_ok rfl)
  refine ⟨fun pins s σ H D I ⟨G, μ, env, st, S, E, Po⟩ => ?_⟩
  obtain ⟨xs, e1, P1⟩ := wk_run Po
  obtain ⟨x, e2, e3⟩ := Option.bind_eq_some_iff.mp e1
  unfold itemsV at e3
  split at e3
  rotate_left
  · cases e3
  rename_i ks vs
  cases e3
  obtain ⟨y, hy, ry⟩ := pk_ok L (pkB_at (n := 0) hn) S E e2
  obtain ⟨d, rfl, fz, q⟩ := VR.dct_i.mp ry
  rcases q with ⟨kvs, _, rd, pk, pv⟩ | ⟨kvs, z, _⟩
  rotate_left
  · cases z
  rcases rd with hd | ⟨od, hd⟩
  · have P2 := noXI_of P1
    have nx : ∀ c ns ws e s, forL ⟨none, zipV ks vs⟩ (fun v env st => (match bindT t v env with
      | some env => u env st
      | none => .bad)) v (zipV ks vs) env st ≠ .exc c ns ws e s := fun c ns ws e s z => by
      have P3 : PostS X.K T G μ H (noXI (.items ce) (forL ⟨none, zipV ks vs⟩ (fun v env st => (match bindT t v env with
        | some env => u env st
        | none => .bad)) v (zipV ks vs) env st)) D W := P1
      rw [z] at P3
      exact P3
    refine (ps_lock hps).run pins s σ H D I ⟨d, .dK kvs, hd, trivial, fun od => ?_⟩
    have up := Lk.up (od := od) LD.dK hd
    exact ⟨_, hy.lk up, d, od, kvs, rfl, upd_same, for_ok (held_sr S hd LD.dK fz.2) (E.lk fun a o _ q => up a o trivial q) (jw_items upd_same fz pk (pmono (fun _ _ q => q.lk fun a o _ q => up a o trivial q) pv)) (PostS.held hd LD.dK fz.2 nx P2)⟩
  · exact hps.run pins s σ H D I ⟨_, hy, d, od, kvs, rfl, hd, for_ok S E (jw_items hd fz pk pv) (noXI_of P1)⟩
/-! ### name = [..] on one line -/
theorem s_setLc {C : Ctx} {t : Tg} {it : CI} {ct : Option CT} {ee : CE} {m : Bool} {i : Nat} {y : Str} {py spos : Pos} {iter elt : Expr} {ifs : List Expr} {scope : Scope} {own : List (Str × Nat)} (tt : Tgt X sc) (hk : X.env.scope.kind = .function) (hi : X.N[i]? = some y) (hy : X.env.scope.names.lookup y = some .local)
    (hl : (py.line == pos.line) = true) (hn : (scope.names.any fun (n, k) => n == y && (k == .local || k == .cell)) = false) (b : BlkR X T C t ct tg iter ifs scope own) (he : ∀ (s : Shared) (H : Hp) (A : Addr) (cl : List (Str × Addr)) (fp : List Addr), PE (X.blk s H scope (compEnvC scope cl A X.env) fp) elt (tE X.K T W0 (evE C ee)))
    (hit : PI X tg iter (tI X.K T W (evI C it))) : PS X (.Assign [.Name y py] (.ListComp elt [⟨tg, iter, ifs, 0⟩] scope pos) spos) (tS X.K T W fun env st => ((evI C it env st).bind fun w st => (noX (loopL w (lcBody C t ct ee env) w.xs st)).bind (newL m)).run env fun x st => .nx (env.set i (some x)) st) :=
  (ps_setLc b.calm b.nd hi hy (sw_true hk hy hl hn) hit b.ok b.tg b.ts he (set_ok b.set)).weak fun D σ H ⟨G, μ, env, st, S, E, P⟩ => by
    have Q := runX (rel := relX X.K T.nms G) E P
    exact ⟨G, μ, env, st, S, E, (Post.bind Q).imp fun J H1 ⟨w, st1, μ1, S1, E1, jw, P1⟩ => by
      rw [b.own]
      exact lc_ok S1 (E.ext E1) jw (P1.imp fun x H2 ⟨z, st2, μ2, S2, E2, X2, r2, P2⟩ => P2.here_nx S2 (E2.set i r2))⟩
end
end KG

set_option linter.all false
set_option maxRecDepth 100000
set_option maxHeartbeats 4000000
/-! K1s: several names at once. -/
namespace KG
open PySem PySem.Spec PyProof.Rows L2
theorem not_starred {vs : List Expr} (h : vs.all notStar = true) : (vs.any fun | .Starred .. => true | _ => false) = false := by
  rw [List.any_eq_false]
  intro e he
  have := List.all_eq_true.mp h e he
  cases e <;> first | (simp; done) | cases this
theorem block_fn {env : PySem.Env} (h : env.scope.kind = .function) : env.blockKind = .function := by unfold Env.blockKind; rw [h]; rfl
theorem swst2 {env : PySem.Env} {x y : Str} {px py pt pt2 : Pos} {kt k2 : Nat} {a b : Expr} (hk : env.scope.kind = .function) (hx : env.scope.names.lookup x = some .local) (hy : env.scope.names.lookup y = some .local) (hl : (py.line == px.line) = true) (hn : x ≠ y)
    (hs : [a, b].all notStar = true) (hf : [a, b].all (foldedForSure 8) = false) (hc : [a, b].all (constantsAlone 8) = false) :
    swappedStores [.Tuple [.Name x px, .Name y py] kt pt] (.Tuple [a, b] k2 pt2) env = pure (some [x, y]) := by
  have kx : env.kindOf x = some .local := hx
  have ky : env.kindOf y = some .local := hy
  have hst := not_starred hs
  have hb := block_fn hk
  have hd : ([x, y] : List Str).eraseDups = [x, y] := by
    simp [List.eraseDups_cons, hn.symm]
  simp only [swappedStores, hb, hst, hf, hc, List.filterMap_cons, List.filterMap_nil, kx, ky, hl, List.head?_cons, Option.map_some, Option.getD_some, Expr.pos, beq_self_eq_true, Bool.and_self, if_true, List.length_cons, List.length_nil, hd]
  refine (if_neg (by decide)).trans ((if_neg fun q => ?_).trans ((if_neg (by decide)).trans ((if_neg (by decide)).trans (if_neg (by decide)))))
  exact Bool.false_ne_true (hst.symm.trans q)
theorem swst3 {env : PySem.Env} {x y z : Str} {px py pz pt pt2 : Pos} {kt k2 : Nat} {a b c : Expr} (hk : env.scope.kind = .function) (hx : env.scope.names.lookup x = some .local) (hy : env.scope.names.lookup y = some .local) (hz : env.scope.names.lookup z = some .local)
    (hl : (py.line == px.line) = true) (hl2 : (pz.line == px.line) = true) (hn : x ≠ y) (hn2 : x ≠ z) (hn3 : y ≠ z) (hs : [a, b, c].all notStar = true) (hf : [a, b, c].all (foldedForSure 8) = false) (hc : [a, b, c].all (constantsAlone 8) = false) :
    swappedStores [.Tuple [.Name x px, .Name y py, .Name z pz] kt pt] (.Tuple [a, b, c] k2 pt2) env = pure (some [x, y, z]) := by
  have kx : env.kindOf x = some .local := hx
  have ky : env.kindOf y = some .local := hy
  have kz : env.kindOf z = some .local := hz
  have hst := not_starred hs
  have hb := block_fn hk
  have hd : ([x, y, z] : List Str).eraseDups = [x, y, z] := by
    simp [List.eraseDups_cons, hn.symm, hn2.symm, hn3.symm]
  simp only [swappedStores, hb, hst, hf, hc, List.filterMap_cons, List.filterMap_nil, kx, ky, kz, hl, hl2, List.head?_cons, Option.map_some, Option.getD_some, Expr.pos, beq_self_eq_true, Bool.and_self, if_true, List.length_cons, List.length_nil, hd]
  refine (if_neg (by decide)).trans ((if_neg fun q => ?_).trans ((if_neg (by decide)).trans ((if_neg (by decide)).trans (if_neg (by decide)))))
  exact Bool.false_ne_true (hst.symm.trans q)
/-- two, three plain local names -/
def parB (N : List Str) (sc : Scope) (is : List Nat) (ts vs : List Expr) : Bool := vs.all notStar && (!(vs.all (foldedForSure 8)) && (!(vs.all (constantsAlone 8)) && (match is, ts, vs with
  | [i, j], [.Name x px, .Name y py], [_, _] => N[i]? == some x && (N[j]? == some y && (sc.names.lookup x == some .local && (sc.names.lookup y == some .local && (py.line == px.line && !(x == y)))))
  | [i, j, l], [.Name x px, .Name y py, .Name z pz], [_, _, _] => N[i]? == some x && (N[j]? == some y && (N[l]? == some z && (sc.names.lookup x == some .local && (sc.names.lookup y == some .local && (sc.names.lookup z == some .local && (py.line == px.line && (pz.line == px.line && (!(x == y) && (!(x == z) && !(y == z))))))))))
  | _, _, _ => false)))
section
variable {X : Cx} {T : Tab} {W : WX} {pos pt pt2 : Pos} {fs : KG.Env → Store → R (List KG.X)} {sc : Scope}
theorem ne_ix {N : List Str} {i j : Nat} {x y : Str} (hi : N[i]? = some x) (hj : N[j]? = some y) (h : x ≠ y) : i ≠ j := fun e => by subst e; rw [hi] at hj; cases hj; exact h rfl
theorem sole_tt {es vs : List Expr} {kt k2 : Nat} {p p2 : Pos} {l : Nat} {env : PySem.Env} : swapsWithSole [.Tuple es kt p] (.Tuple vs k2 p2) l env = pure false := rfl
theorem s_par {is : List Nat} {ts vs : List Expr} {kt k2 : Nat} (tt : Tgt X sc) (hsc : X.env.scope = sc) (hk : X.env.scope.kind = .function) (h : parB X.N sc is ts vs = true) (ha : PA X vs (tA X.K T W fs)) :
    PS X (.Assign [.Tuple ts kt pt] (.Tuple vs k2 pt2) pos) (tS X.K T W fun env st => (fs env st).run env fun xs st => if xs.length = is.length then .nx (pars is xs env) st else .bad) := by
  subst hsc
  unfold parB at h
  simp only [Bool.and_eq_true, Bool.not_eq_true'] at h
  obtain ⟨h1, h2, h3, h4⟩ := h
  split at h4
  · rename_i i j x px y py a b
    simp only [Bool.and_eq_true, beq_iff_eq, Bool.not_eq_true', beq_eq_false_iff_ne] at h4
    obtain ⟨hi, hj, hx, hy, hl, hn⟩ := h4
    refine (ps_par tt.calm tt.nd hi hj (ne_ix hi hj hn) hx hy ha (swst2 hk hx hy (by simpa using hl) hn h1 h2 h3) sole_tt).weak fun D σ H ⟨G, μ, env, st, S, E, P⟩ => ⟨G, μ, env, st, S, E, (runX (rel := relXs X.K T.nms G) E P).imp fun vs H1 ⟨xs, st1, μ1, S1, E1, X1, r1, P1⟩ => ?_⟩
    split at P1
    · rename_i hlen
      match xs, vs, r1, hlen with
      | [a1, b1], [v, w], .cons p1 (.cons p2 .nil), _ => exact ⟨v, w, rfl, P1.here_nx S1 ((E1.set i p1).set j p2)⟩
    · exact P1.elim
  · rename_i i j l x px y py z pz a b c
    simp only [Bool.and_eq_true, beq_iff_eq, Bool.not_eq_true', beq_eq_false_iff_ne] at h4
    obtain ⟨hi, hj, hl, hx, hy, hz, l1, l2, n1, n2, n3⟩ := h4
    refine (ps_par3 tt.calm tt.nd hi hj hl (ne_ix hi hj n1) (ne_ix hi hl n2) (ne_ix hj hl n3) hx hy hz ha (swst3 hk hx hy hz (by simpa using l1) (by simpa using l2) n1 n2 n3 h1 h2 h3) sole_tt).weak fun D σ H ⟨G, μ, env, st, S, E, P⟩ => ⟨G, μ, env, st, S, E, (runX (rel := relXs X.K T.nms G) E P).imp fun vs H1 ⟨xs, st1, μ1, S1, E1, X1, r1, P1⟩ => ?_⟩
    split at P1
    · rename_i hlen
      match xs, vs, r1, hlen with
      | [a1, b1, c1], [u, v, w], .cons p1 (.cons p2 (.cons p3 .nil)), _ => exact ⟨u, v, w, rfl, P1.here_nx S1 (((E1.set i p1).set j p2).set l p3)⟩
    · exact P1.elim
  · cases h4
end
end KG

set_option linter.all false
set_option maxRecDepth 100000
set_option maxHeartbeats 4000000
/-! K1t: exceptions: raise, except. -/
namespace KG
open PySem PySem.Spec PyProof.Rows L2

/-- the attributes that an exception's __init__ leaves -/
def fsX (T : Tab) (ns : List Nat) (ws : List V) : List (Str × V) := ((ns.map T.nms.att).zip ws).reverse
/-- what an exception's __init__ keeps -/
def spX (T : Tab) (C : Addr) (ns : List Nat) : Sp := fun vs H Q _ => ∃ (a : Addr) (ws : List V), vs = .ref a :: ws ∧ ws.length = ns.length ∧ H a = some (exo a C none) ∧
  ∀ d, H d = none → d ≠ a → Q .non (upd (upd H d (exd d (fsX T ns ws))) a (exo a C (some d)))
structure ExF (K : PySem.W.Frag) (C : Addr) : Prop where
  xf : XfC K C
  oex : OexC K C
  cl : (PySem.W.clsIn K C).isSome = true
  ci : ClsI K C
structure LnkX (prog : Program) (w : World) (K : PySem.W.Frag) (mg : Str → Option Value) (base : Heap) (T : Tab) (P : Prg) (lv : Nat) : Prop where
  nm : ∀ c x, T.xnm c = some x → ∃ C, T.xad c = some C ∧ mg x = some (.ref C)
  exf : ∀ c C, T.xad c = some C → ExF K C
  init : ∀ c C, T.xad c = some C → P.flds c ≠ [] → ∃ fI fd ps, PySem.W.findIn K (.ref C) "__init__" = some (some (.ref fI)) ∧ PySem.W.typeIn K (.ref fI) = some (.type "function") ∧
    FnOk prog w K mg base (L2.CX prog w) lv fI fd ps (spX T C (P.flds c)) ∧ Binds K fd ps []
  nd : ∀ c, (P.flds c).Nodup
  fld : ∀ c C n, T.xad c = some C → n < T.natt → PySem.W.findIn K (.ref C) (T.nms.att n) = some none
  sub : ∀ c d C D, T.xad c = some C → T.xad d = some D → PySem.W.exmOne K (.ref C) (.ref D) = some (P.sub c d) ∧ PySem.W.kitOne K (.ref C) (.ref D) = some (P.sub c d)
  ve : ∀ c C, T.xad c = some C → PySem.W.kitOne K (.ref C) (.type "ValueError") = some true
theorem ExR.ext {T : Tab} {G : Addr → Prop} {μ μ' : Mu} {H H' : Hp} {c : Nat} {ns : List Nat} {vs : List Val} {cls : Value} {d : Option Addr} (e : Ext μ H μ' H') (h : ExR T G μ H c ns vs cls d) : ExR T G μ' H' c ns vs cls d := by
  obtain ⟨C, dx, fs, h1, h2, h3, h4, h5, h6⟩ := h
  exact ⟨C, dx, fs, h1, h2, h3, e.same dx _ h4 h5.2, e.fz h4 h5, fun n v hv => let ⟨y, q1, q2⟩ := h6 n v hv; ⟨y, q1, q2.ext e⟩⟩
theorem lookup_snoc {k : Str} {v : V} : ∀ {l : List (Str × V)}, (∀ p ∈ l, p.1 ≠ k) → (l ++ [(k, v)]).lookup k = some v
  | [], _ => by simp [List.lookup]
  | p :: r, h => by
    have hp : (k == p.1) = false := by rw [beq_eq_false_iff_ne]; exact fun e => h p List.mem_cons_self e.symm
    show List.lookup k (p :: (r ++ [(k, v)])) = _
    rw [List.lookup_cons, hp]
    exact lookup_snoc fun q hq => h q (List.mem_cons_of_mem _ hq)
theorem lookup_front {k j : Str} {v : V} {l : List (Str × V)} (h : j ≠ k) : (l ++ [(k, v)]).lookup j = l.lookup j := by
  induction l with
  | nil =>
    have : (j == k) = false := by rw [beq_eq_false_iff_ne]; exact h
    simp [List.lookup, this]
  | cons p r ih =>
    show List.lookup j (p :: (r ++ [(k, v)])) = _
    rw [List.lookup_cons, List.lookup_cons, ih]
/-- the fields by their names -/
theorem fsX_get {T : Tab} {R : Val → V → Prop} (inj : ∀ n m, T.nms.att n = T.nms.att m → n = m) (n : Nat) : ∀ {ns : List Nat} {vs : List Val} {ws : List V}, ns.Nodup → Paired R vs ws → ∀ v, flook ns vs n = some v → ∃ y, (fsX T ns ws).lookup (T.nms.att n) = some y ∧ R v y
  | [], vs, _, _, _, v, h => by cases vs <;> cases h
  | m :: ns, _, _, nd, .nil, v, h => by cases h
  | m :: ns, z :: zs, y :: ys, nd, .cons p t, v, h => by
    have h : (if m == n then some z else flook ns zs n) = some v := h
    have e : fsX T (m :: ns) (y :: ys) = fsX T ns ys ++ [(T.nms.att m, y)] := by
      unfold fsX
      rw [List.map_cons, List.zip_cons_cons, List.reverse_cons]
    obtain ⟨nm, nd'⟩ := List.nodup_cons.mp nd
    rw [e]
    by_cases hm : m = n
    · subst hm
      simp only [beq_self_eq_true, if_true] at h
      cases h
      refine ⟨y, lookup_snoc fun q hq e2 => ?_, p⟩
      unfold fsX at hq
      have := List.of_mem_zip (List.mem_reverse.mp hq)
      obtain ⟨j, hj, e3⟩ := List.mem_map.mp this.1
      have : j = m := inj j m (e3.trans e2)
      subst this
      exact nm hj
    · have hb : (m == n) = false := by simpa using hm
      rw [hb] at h
      simp only [Bool.false_eq_true, if_false] at h
      obtain ⟨y', h1, h2⟩ := fsX_get inj n nd' t v h
      refine ⟨y', ?_, h2⟩
      rw [lookup_front fun e4 => hm (inj m n e4.symm)]
      exact h1
section
variable {X : Cx} {T : Tab} {P : Prg} {k lv : Nat} {W : WX} {e : Expr} {es : List Expr} {pos p rpos : Pos} {fs : KG.Env → Store → R (List KG.X)}
theorem s_raise {c : Nat} {x : Str} (L : LnkX X.prog X.w X.K X.mg X.base T P lv) (inj : ∀ n m, T.nms.att n = T.nms.att m → n = m) (calm : X.calm = true) (hr : Room (lv + 1) X.A) (tk : Takes X W) (hx : T.xnm c = some x) (hg : Gl X x) (ha : PA X (e :: es) (tA X.K T W fs)) (hs : (e :: es).all notStar = true)
    (hdb : (x == ("__debug__" : Str)) = false) (hf : P.flds c ≠ []) :
    PS X (.Raise (some (.Call (.Name x p) (e :: es) [] pos)) none rpos) (tS X.K T W fun env st => (fs env st).run env fun xs st => raiseV (P.ctx (callN P k)) c xs env st) := by
  obtain ⟨C, hC, hmC⟩ := L.nm c x hx
  have F := L.exf c C hC
  obtain ⟨fI, fd, ps, i1, i2, i3, i4⟩ := L.init c C hC hf
  simp only [List.all_cons, Bool.and_eq_true] at hs
  have mk := pmk_oex (p := p) (pos := pos) (dvs := []) F.oex i1 i2 i3 hr i4 .nil passL hg hmC ha hdb (star_ok hs.1) (back_ok hs.2)
  refine (ps_raise (pos := rpos) calm tk mk).weak fun D σ H ⟨G, μ, env, st, S, E, Po⟩ => ⟨G, μ, env, st, S, E, (runX (rel := relXs X.K T.nms G) E Po).imp fun vs H1 ⟨xs, st1, μ1, S1, E1, X1, r1, P1⟩ => ?_⟩
  unfold raiseV at P1
  split at P1
  rotate_left
  · exact P1.elim
  rename_i ws hws
  obtain ⟨rv, _⟩ := toVals_ok r1 hws
  split at P1
  rotate_left
  · exact P1.elim
  rename_i hl
  obtain ⟨hl1, hl2, hl3⟩ := hl
  have hlen := plen rv
  refine ⟨by omega, fun a han => ⟨a, vs, by rw [List.append_nil], by rw [← hlen]; exact hl1, upd_same, fun d hd hne => ⟨rfl, d, fsX T (P.flds c) vs, upd_same, ?_, ?_, ?_⟩⟩⟩
  · rw [upd_ne hne, upd_same]
  · rw [upd_ne hne] at hd; exact hd
  · have hd1 : H1 d = none := by rw [upd_ne hne] at hd; exact hd
    have eh : upd (del (upd (upd (upd H1 a (exo a C none)) d (exd d (fsX T (P.flds c) vs))) a (exo a C (some d))) a) d (.xd (fsX T (P.flds c) vs)) = upd H1 d (.xd (fsX T (P.flds c) vs)) := by
      funext b
      by_cases h1 : b = d
      · subst h1; rw [upd_same, upd_same]
      · rw [upd_ne h1, upd_ne h1]
        by_cases h2 : b = a
        · subst h2; rw [del_same, han]
        · rw [del_ne h2, upd_ne h2, upd_ne h1, upd_ne h2]
    rw [eh]
    have g := grow_upd (o := .xd (fsX T (P.flds c) vs)) hd1
    have E2 : Ext μ1 H1 μ1 (upd H1 d (.xd (fsX T (P.flds c) vs))) := Ext.grow g
    exact P1 μ1 _ σ E2 (S1.grow g) (E1.ext E2) _ _ ⟨C, d, _, rfl, hC, rfl, upd_same, S1.fresh hd1, fun n v hv => fsX_get (R := VR T.nms (Fz G μ1) _) inj n (L.nd c) (VR.exts E2 rv) v hv⟩
end
/-! ### in an except suite -/
theorem call_isD {X : Cx} {a D : Addr} {d : Option Addr} {oe : Obj} {pn : List (Addr × Obj)} (C : ExF X.K D) (hz : Zc (.ref D) d oe) (hf : ∃ vs, oe.data = .fields vs) : CallR (X.suite a ((a, oe) :: pn)) (.builtin "isinstance")
    (fun xs H Q => ∃ (c : V) (cv : Value) (b : Bool) (dx : Addr) (fs : List (Str × V)), xs = [.ref a, c] ∧ d = some dx ∧ H dx = some (.xd fs) ∧ (∀ u, RelV c u → u = cv) ∧ PySem.W.kitOne X.K (.ref D) cv = some b ∧ Q (.bl b) H) := by
  intro pins s σ H xs us Q I r h
  obtain ⟨c, cv, b, dx, fs, rfl, rfl, hH, hcv, e, q⟩ := h
  obtain ⟨u1, u2, rfl, r1, r2⟩ := vals2 r
  obtain rfl : u1 = Value.ref a := r1
  have ec := hcv _ r2
  subst ec
  obtain ⟨hget, _⟩ := I.pin (a, oe) (List.mem_append.mpr (.inl List.mem_cons_self))
  obtain ⟨vs, hv⟩ := hf
  obtain ⟨mA, hns, hr⟩ := (show ObjOk X.prog X.w H s.heap dx (.xd fs) from I.hok dx _ hH)
  obtain ⟨od, ho, hl⟩ := lookIn_ns hns
  have J : PySem.W.InstAt s.heap a oe D (some od) := ⟨hget, hz.1, by unfold PySem.W.notCls; rw [hv] <;> rfl, by rw [hz.2]; exact ho⟩
  exact PySem.W.kia_one (PySem.W.kitx_exc C.cl C.xf.ga C.xf.gg C.xf.exC C.ci.at_ C.ci.sp C.ci.tk C.ci.mr) I.kIn J e (fun z => nomatch z) fun tk => ⟨.bl b, H, I.kept (t' := tk) fun _ _ z => z, rfl, q⟩
end KG

set_option linter.all false
set_option maxRecDepth 100000
set_option maxHeartbeats 4000000
/-! K1u: except suites; try. -/
namespace KG
open PySem PySem.Spec PyProof.Rows L2

section
variable (T : Tab) (N : List Str) (sc : Scope) (i : Nat)
mutual
def okHE : HE → Expr → Bool
  | .cst v, x => cstB v x
  | .at n, x => (match x with
    | .Attribute (.Name y _) f _ => N[i]? == some y && (visB sc y && (nmB y && (f == T.nms.att n && decide (n < T.natt))))
    | _ => false)
  | .isC c, x => (match x with
    | .Call (.Name g _) [.Name y _, .Name z _] [] _ => g == "isinstance" && (N[i]? == some y && (visB sc y && (nmB y && (T.xnm c == some z && (glB sc g && (glB sc z && nmB z))))))
    | _ => false)
  | .isV, x => (match x with
    | .Call (.Name g _) [.Name y _, .Name z _] [] _ => g == "isinstance" && (N[i]? == some y && (visB sc y && (nmB y && (z == "ValueError" && (glB sc g && glB sc z)))))
    | _ => false)
  | .lst es, x => (match x with
    | .List xs _ => okHEs es xs && decide (es.length ≤ 1000)
    | _ => false)
  | .tup es, x => (match x with
    | .Tuple xs _ _ => okHEs es xs && decide (es.length ≤ 1000)
    | _ => false)
termination_by structural a => a
def okHEs : List HE → List Expr → Bool
  | [], xs => xs.isEmpty
  | a :: r, xs => (match xs with
    | x :: xs => okHE a x && (notStar x && okHEs r xs)
    | [] => false)
termination_by structural a => a
end
def okHS : List HS → List Stmt → Bool
  | [], ss => ss.isEmpty
  | .asg j e :: r, ss => (match ss with
    | .Assign [t] x _ :: ss => nameB N sc j t && (!(j == i) && (okHE T N sc i e x && (notComp x && okHS r ss)))
    | _ => false)
  | .ret e :: _, ss => (match ss with
    | [.Return (some x) _] => okHE T N sc i e x
    | _ => false)
end
/-- the reading of an expression within a suite -/
def tHE (K : PySem.W.Frag) (T : Tab) (C : Ctx) (i : Nat) (a : Addr) (cls : Value) (d : Option Addr) (he : HE) : TE := fun σ H Q => ∃ (G : Addr → Prop) (μ : Mu) (env : KG.Env) (st : Store) (c : Nat) (ns : List Nat) (vs : List Val) (v : Val), SR K T.nms G μ H st ∧ ER K T.nms G μ H env σ ∧
  σ[i]? = some (some (.ref a)) ∧ ExR T G μ H c ns vs cls d ∧ evH C c ns vs he = some v ∧ ∀ μ' H' y, Ext μ H μ' H' → SR K T.nms G μ' H' st → VR T.nms (Fz G μ') H' v y → Q y H'
def tHA (K : PySem.W.Frag) (T : Tab) (C : Ctx) (i : Nat) (a : Addr) (cls : Value) (d : Option Addr) (he : List HE) : L2.TA := fun σ H Q => ∃ (G : Addr → Prop) (μ : Mu) (env : KG.Env) (st : Store) (c : Nat) (ns : List Nat) (vs : List Val) (v : List Val), SR K T.nms G μ H st ∧ ER K T.nms G μ H env σ ∧
  σ[i]? = some (some (.ref a)) ∧ ExR T G μ H c ns vs cls d ∧ evHs C c ns vs he = some v ∧ ∀ μ' H' ys, Ext μ H μ' H' → SR K T.nms G μ' H' st → Paired (VR T.nms (Fz G μ') H') v ys → Q ys H'
def tHS (K : PySem.W.Frag) (T : Tab) (C : Ctx) (W : WX) (i : Nat) (a : Addr) (cls : Value) (d : Option Addr) (hs : List HS) : TS := fun D σ H => ∃ (G : Addr → Prop) (μ : Mu) (env : KG.Env) (st : Store) (c : Nat) (ns : List Nat) (vs : List Val), SR K T.nms G μ H st ∧ ER K T.nms G μ H env σ ∧
  σ[i]? = some (some (.ref a)) ∧ ExR T G μ H c ns vs cls d ∧ PostS K T G μ H (evHS C c ns vs hs env st) D W
section
variable {X : Cx} {T : Tab} {P : Prg} {k lv : Nat} {N : List Str} {sc : Scope} {i : Nat} {a : Addr} {cls : Value} {d : Option Addr} {oe : Obj} {pn : List (Addr × Obj)} {W : WX}
/-- what a suite is asked -/
structure Sui (X : Cx) (T : Tab) (P : Prg) (k lv : Nat) (N : List Str) (sc : Scope) : Prop where
  lk : Lnk X.prog X.w X.K X.mg X.base T P k lv
  lx : LnkX X.prog X.w X.K X.mg X.base T P lv
  hN : X.N = N
  hsc : X.env.scope = sc
  nd : X.N.Nodup
  fn : ∀ x, X.fn x = true
theorem Sui.gl (g : Sui X T P k lv N sc) {x : Str} (h : glB sc x = true) : Gl (X.suite a pn) x := by
  unfold glB at h
  rw [← g.hsc] at h
  exact eq_of_beq h
theorem Sui.var (g : Sui X T P k lv N sc) {y : Str} {p : Pos} (h1 : N[i]? = some y) (h2 : visB sc y = true) (h3 : nmB y = true) : PE (X.suite a pn) (.Name y p) (tVar i) :=
  pe_var (X := X.suite a pn) (by show X.N[i]? = _; rw [g.hN]; exact h1) (by show Vis X.env.scope y; rw [g.hsc]; exact vis_ok h2) (nm_ok h3).1 (nm_ok h3).2
theorem evHs_len {C : Ctx} {c : Nat} {ns : List Nat} {vs : List Val} : ∀ (es : List HE) (ws : List Val), evHs C c ns vs es = some ws → ws.length = es.length
  | [], ws, h => by cases h; rfl
  | e :: r, ws, h => by
    have h : (match evH C c ns vs e, evHs C c ns vs r with
      | some v, some w => some (v :: w)
      | _, _ => none) = some ws := h
    split at h
    · rename_i v1 w1 e1 e2
      cases h
      rw [List.length_cons, List.length_cons, evHs_len r w1 e2]
    · cases h
mutual
theorem simHE (g : Sui X T P k lv N sc) (hz : Zc cls d oe) (hf : ∃ vs, oe.data = .fields vs) : ∀ (he : HE) (x : Expr), okHE T N sc i he x = true → PE (X.suite a ((a, oe) :: pn)) x (tHE X.K T (P.ctx (callN P k)) i a cls d he)
  | .cst v, x, h => by
    simp only [okHE] at h
    exact (cst_ok (X := X.suite a ((a, oe) :: pn)) (T := T) (W := W0) h).weak fun σ H Q ⟨G, μ, env, st, c, ns, vs, v', S, E, hs, ex, hv, hq⟩ => by
      cases hv
      exact ⟨G, μ, env, st, S, E, fun μ' H' b e s r => hq μ' H' b e s r⟩
  | .at n, x, h => by
    simp only [okHE] at h
    split at h
    · simp only [Bool.and_eq_true, beq_iff_eq, decide_eq_true_eq] at h
      obtain ⟨h1, h2, h3, rfl, h4⟩ := h
      refine ⟨fun pins s σ H Q I ⟨G, μ, env, st, c, ns, vs, v, S, E, hs, ex, hv, hq⟩ => ?_⟩
      obtain ⟨C, dx, fl, rfl, hC, rfl, hH, fz, hfl⟩ := ex
      obtain ⟨y, l, ry⟩ := hfl n v hv
      exact (pe_xf (X := X) (pn := pn) (g.lx.exf c C hC).xf (g.lx.fld c C n hC h4) hz hf (g.var h1 h2 h3) (base_ok rfl)).run pins s σ H Q I
        ⟨_, hs, rfl, rfl, dx, fl, y, rfl, hH, l, hq μ H y (Ext.refl _ _) S ry⟩
    · cases h
  | .isC dd, x, h => by
    simp only [okHE] at h
    split at h
    · simp only [Bool.and_eq_true, beq_iff_eq] at h
      obtain ⟨rfl, h1, h2, h3, h4, h5, h6, h7⟩ := h
      refine ⟨fun pins s σ H Q I ⟨G, μ, env, st, c, ns, vs, v, S, E, hs, ex, hv, hq⟩ => ?_⟩
      obtain ⟨C, dx, fl, rfl, hC, rfl, hH, fz, hfl⟩ := ex
      obtain ⟨D, hD, hmD⟩ := g.lx.nm dd _ h4
      have hv : some (Val.bool (P.sub c dd)) = some v := hv
      cases hv
      have pb : ∀ p, PE (X.suite a ((a, oe) :: pn)) (.Name _ p) (tC (.ref D)) := fun p => pe_glob (X := X.suite a ((a, oe) :: pn)) (g.gl h6) hmD rfl (nm_ok h7).1
      exact (pe_callB (X := X.suite a ((a, oe) :: pn)) (call_isD (X := X) (pn := pn) (g.lx.exf c C hC) hz hf) (g.gl h5) (g.lk.blt _ (by decide)) PyProof.Rows.Boot.«isinstance» (pa_cons (g.var h1 h2 h3) (pa_cons (pb _) pa_nil rfl) rfl) (by decide) (by decide) rfl rfl).run pins s σ H Q I
        ⟨_, hs, _, .ref D, _, dx, fl, rfl, rfl, hH, fun u r => r, (g.lx.sub c dd C D hC hD).2, hq μ H _ (Ext.refl _ _) S (VR.bool_i.mpr rfl)⟩
    · cases h
  | .isV, x, h => by
    simp only [okHE] at h
    split at h
    · simp only [Bool.and_eq_true, beq_iff_eq] at h
      obtain ⟨rfl, h1, h2, h3, rfl, h5, h6⟩ := h
      refine ⟨fun pins s σ H Q I ⟨G, μ, env, st, c, ns, vs, v, S, E, hs, ex, hv, hq⟩ => ?_⟩
      obtain ⟨C, dx, fl, rfl, hC, rfl, hH, fz, hfl⟩ := ex
      have hv : some (Val.bool true) = some v := hv
      cases hv
      have pb : ∀ p, PE (X.suite a ((a, oe) :: pn)) (.Name "ValueError" p) (tC (.ty "ValueError")) := fun p => pe_bltn (X := X.suite a ((a, oe) :: pn)) (g.gl h6) (g.lk.blt _ (by decide)) PyProof.Rows.Boot.«ValueError» rfl (by decide) (by decide)
      exact (pe_callB (X := X.suite a ((a, oe) :: pn)) (call_isD (X := X) (pn := pn) (g.lx.exf c C hC) hz hf) (g.gl h5) (g.lk.blt _ (by decide)) PyProof.Rows.Boot.«isinstance» (pa_cons (g.var h1 h2 h3) (pa_cons (pb _) pa_nil rfl) rfl) (by decide) (by decide) rfl rfl).run pins s σ H Q I
        ⟨_, hs, _, .type "ValueError", _, dx, fl, rfl, rfl, hH, fun u r => r, g.lx.ve c C hC, hq μ H _ (Ext.refl _ _) S (VR.bool_i.mpr rfl)⟩
    · cases h
  | .lst es, x, h => by
    simp only [okHE] at h
    split at h
    · simp only [Bool.and_eq_true, decide_eq_true_eq] at h
      refine (pe_lst (X := X.suite a ((a, oe) :: pn)) (simHEs g hz hf es _ h.1)).weak fun σ H Q ⟨G, μ, env, st, c, ns, vs, v, S, E, hs, ex, hv, hq⟩ => ?_
      have hv : (evHs (P.ctx (callN P k)) c ns vs es).map Val.lst = some v := hv
      obtain ⟨ws, e1, e2⟩ := Option.map_eq_some_iff.mp hv
      subst e2
      refine ⟨G, μ, env, st, c, ns, vs, ws, S, E, hs, ex, e1, fun μ' H' ys e s p => ⟨?_, fun q hq' => ?_⟩⟩
      · rw [← plen p, evHs_len _ _ e1, sizeLine_eq]; omega
      · have gg := grow_upd (o := .lst ys) hq'
        exact hq μ' _ _ (e.trans (Ext.grow gg)) (s.grow gg) (VR.lst_i.mpr ⟨q, ys, rfl, ⟨.inl upd_same, s.fresh hq'⟩, VR.exts (Ext.grow gg) p⟩)
    · cases h
  | .tup es, x, h => by
    simp only [okHE] at h
    split at h
    · simp only [Bool.and_eq_true, decide_eq_true_eq] at h
      refine (pe_tup (X := X.suite a ((a, oe) :: pn)) (simHEs g hz hf es _ h.1)).weak fun σ H Q ⟨G, μ, env, st, c, ns, vs, v, S, E, hs, ex, hv, hq⟩ => ?_
      have hv : (evHs (P.ctx (callN P k)) c ns vs es).map Val.tup = some v := hv
      obtain ⟨ws, e1, e2⟩ := Option.map_eq_some_iff.mp hv
      subst e2
      refine ⟨G, μ, env, st, c, ns, vs, ws, S, E, hs, ex, e1, fun μ' H' ys e s p => ⟨?_, fun q hq' => ?_⟩⟩
      · rw [← plen p, evHs_len _ _ e1, sizeLine_eq]; omega
      · have gg := grow_upd (o := .tup ys) hq'
        exact hq μ' _ _ (e.trans (Ext.grow gg)) (s.grow gg) (VR.tup_i.mpr ⟨q, ys, rfl, ⟨upd_same, s.fresh hq'⟩, VR.exts (Ext.grow gg) p⟩)
    · cases h
termination_by structural he => he
theorem simHEs (g : Sui X T P k lv N sc) (hz : Zc cls d oe) (hf : ∃ vs, oe.data = .fields vs) : ∀ (hs : List HE) (xs : List Expr), okHEs T N sc i hs xs = true → PA (X.suite a ((a, oe) :: pn)) xs (tHA X.K T (P.ctx (callN P k)) i a cls d hs)
  | [], xs, h => by
    simp only [okHEs] at h
    rw [List.isEmpty_iff.mp h]
    exact pa_nil.weak fun σ H Q ⟨G, μ, env, st, c, ns, vs, v, S, E, hs, ex, hv, hq⟩ => by cases hv; exact hq μ H [] (Ext.refl _ _) S .nil
  | he :: r, xs, h => by
    simp only [okHEs] at h
    split at h
    · simp only [Bool.and_eq_true] at h
      refine (pa_cons (simHE g hz hf he _ h.1) (simHEs g hz hf r _ h.2.2) (star_ok h.2.1)).weak fun σ H Q ⟨G, μ, env, st, c, ns, vs, v, S, E, hs, ex, hv, hq⟩ => ?_
      have hv : (match evH (P.ctx (callN P k)) c ns vs he, evHs (P.ctx (callN P k)) c ns vs r with
        | some v, some w => some (v :: w)
        | _, _ => none) = some v := hv
      split at hv
      · rename_i v1 w1 e1 e2
        cases hv
        exact ⟨G, μ, env, st, c, ns, vs, v1, S, E, hs, ex, e1, fun μ1 H1 y X1 S1 r1 => ⟨G, μ1, env, st, c, ns, vs, w1, S1, E.ext X1, hs, ex.ext X1, e2, fun μ2 H2 ys X2 S2 r2 => hq μ2 H2 (y :: ys) (X1.trans X2) S2 (.cons (r1.ext X2) r2)⟩⟩
      · cases hv
    · cases h
termination_by structural hs => hs
end
theorem evHS_keeps {C : Ctx} {c : Nat} {ns : List Nat} {vs : List Val} {i : Nat} : ∀ (hs : List HS) (ss : List Stmt) (env env' : KG.Env) (st st' : Store), okHS T N sc i hs ss = true → evHS C c ns vs hs env st = .nx env' st' → env'[i]? = env[i]?
  | [], ss, env, env', st, st', _, h => by cases h; rfl
  | .asg j e :: r, ss, env, env', st, st', ok, h => by
    simp only [okHS] at ok
    split at ok
    · simp only [Bool.and_eq_true, Bool.not_eq_true', beq_eq_false_iff_ne] at ok
      have h : (match evH C c ns vs e with
        | some v => evHS C c ns vs r (env.set j (some (.v v))) st
        | none => .bad) = .nx env' st' := h
      split at h
      · rw [evHS_keeps r _ _ _ _ _ ok.2.2.2.2 h, List.getElem?_set_ne ok.2.1]
      · cases h
    · cases ok
  | .ret e :: r, ss, env, env', st, st', _, h => by
    have h : (match evH C c ns vs e with
      | some v => KG.S.ret (.v v) st
      | none => .bad) = .nx env' st' := h
    split at h <;> cases h
theorem evHS_ends {C : Ctx} {c : Nat} {ns : List Nat} {vs : List Val} : ∀ (hs : List HS) (env : KG.Env) (st : Store), evHS C c ns vs hs env st = .bad ∨ (∃ e s, evHS C c ns vs hs env st = .nx e s) ∨ ∃ x s, evHS C c ns vs hs env st = .ret x s
  | [], env, st => .inr (.inl ⟨_, _, rfl⟩)
  | .asg j e :: r, env, st => by
    show (match evH C c ns vs e with
        | some v => evHS C c ns vs r (env.set j (some (.v v))) st
        | none => .bad) = _ ∨ _
    have e0 : evHS C c ns vs (.asg j e :: r) env st = (match evH C c ns vs e with
        | some v => evHS C c ns vs r (env.set j (some (.v v))) st
        | none => .bad) := rfl
    rw [e0]
    cases evH C c ns vs e with
    | none => exact .inl rfl
    | some v => exact evHS_ends r _ _
  | .ret e :: r, env, st => by
    have e0 : evHS C c ns vs (.ret e :: r) env st = (match evH C c ns vs e with
        | some v => KG.S.ret (.v v) st
        | none => .bad) := rfl
    rw [e0]
    cases evH C c ns vs e with
    | none => exact .inl rfl
    | some v => exact .inr (.inr ⟨_, _, rfl⟩)
theorem simHS (g : Sui X T P k lv N sc) (hz : Zc cls d oe) (hf : ∃ vs, oe.data = .fields vs) : ∀ (hs : List HS) (ss : List Stmt), okHS T N sc i hs ss = true → PSs (X.suite a ((a, oe) :: pn)) ss (tHS X.K T (P.ctx (callN P k)) W i a cls d hs)
  | [], ss, h => by
    simp only [okHS] at h
    rw [List.isEmpty_iff.mp h]
    exact pss_nil.weak fun D σ H ⟨G, μ, env, st, c, ns, vs, S, E, hs, ex, Po⟩ => PostS.here_nx Po S E
  | .asg j e :: r, ss, h => by
    simp only [okHS] at h
    split at h
    · rename_i t x p ss'
      simp only [Bool.and_eq_true, Bool.not_eq_true', beq_eq_false_iff_ne] at h
      obtain ⟨h1, h2, h3, h4, h5⟩ := h
      cases t with
      | Name y py =>
        simp only [nameB, Bool.and_eq_true, Bool.or_eq_true, beq_iff_eq] at h1
        have hloc : Loc X.env.scope y := by rw [g.hsc]; exact h1.2
        refine (pss_cons (ps_set (X := X.suite a ((a, oe) :: pn)) (i := j) g.nd (by show X.N[j]? = _; rw [g.hN]; exact h1.1) hloc (simHE g hz hf e x h3) (swap_ok h4) (.inl (g.fn y))) (simHS g hz hf r ss' h5)).weak fun D σ H ⟨G, μ, env, st, c, ns, vs, S, E, hs, ex, Po⟩ => ?_
        have Po : PostS X.K T G μ H (match evH (P.ctx (callN P k)) c ns vs e with
          | some v => evHS (P.ctx (callN P k)) c ns vs r (env.set j (some (.v v))) st
          | none => .bad) D W := Po
        split at Po
        · rename_i v hv
          exact ⟨G, μ, env, st, c, ns, vs, v, S, E, hs, ex, hv, fun μ' H' y X1 S1 r1 => ⟨G, μ', _, st, c, ns, vs, S1, (E.ext X1).set j (x := .v v) r1, by rw [List.getElem?_set_ne h2]; exact hs, ex.ext X1, PostS.later X1 Po⟩⟩
        · exact Po.elim
      | _ => cases h1
    · cases h
  | .ret e :: r, ss, h => by
    simp only [okHS] at h
    split at h
    · refine (pss_one (ps_ret (X := X.suite a ((a, oe) :: pn)) (simHE g hz hf e _ h))).weak fun D σ H ⟨G, μ, env, st, c, ns, vs, S, E, hs, ex, Po⟩ => ?_
      have Po : PostS X.K T G μ H (match evH (P.ctx (callN P k)) c ns vs e with
        | some v => KG.S.ret (.v v) st
        | none => .bad) D W := Po
      split at Po
      · rename_i v hv
        exact ⟨G, μ, env, st, c, ns, vs, v, S, E, hs, ex, hv, fun μ' H' y X1 S1 r1 => Po μ' H' y X1 S1 r1⟩
      · exact Po.elim
    · cases h
end
/-! ### try -/
section
variable {X : Cx} {T : Tab} {P : Prg} {k lv : Nat} {N : List Str} {sc : Scope} {W : WX} {i : Nat} {body suite : List Stmt} {b0 : Stmt} {x n : Str} {np pos pos' : Pos} {u : KG.Env → Store → KG.S}
theorem ER.unset {K : PySem.W.Frag} {M : Nms} {G : Addr → Prop} {μ : Mu} {H : Hp} {env : KG.Env} {σ : L2.St} (h : ER K M G μ H env σ) (hi : ∀ x, env[i]? ≠ some (some x)) (y : Option V) : ER K M G μ H env (σ.set i y) := by
  refine ⟨by simp [h.1], fun j z q => ?_⟩
  by_cases e : i = j
  · subst e; exact absurd q (hi z)
  · rw [List.getElem?_set_ne e]; exact h.2 j z q
theorem ER.gone {K : PySem.W.Frag} {M : Nms} {G : Addr → Prop} {μ : Mu} {H : Hp} {env : KG.Env} {σ : L2.St} (h : ER K M G μ H env σ) : ER K M G μ H (env.set i none) σ := by
  refine ⟨by simp [h.1], fun j z q => ?_⟩
  by_cases e : i = j
  · subst e
    rw [List.getElem?_set_self'] at q
    cases e1 : env[i]? with
    | none => rw [e1] at q; cases q
    | some o => rw [e1] at q; cases q
  · rw [List.getElem?_set_ne e] at q; exact h.2 j z q
theorem none_at (env : KG.Env) : ∀ x, (env.set i none)[i]? ≠ some (some x) := fun x q => by
  rw [List.getElem?_set_self'] at q
  cases e1 : env[i]? with
  | none => rw [e1] at q; cases q
  | some o => rw [e1] at q; cases q
theorem s_try {hc : Nat} {hs : List HS} (g : Sui X T P k lv N sc) (stk : X.stack = X.env :: X.outer) (frame : X.env.frame = some X.env.locals) (hi : N[i]? = some n) (hl : sc.names.lookup n = some .local) (hx : T.xnm hc = some x) (hg : Gl X x) (hdb : (x == ("__debug__" : Str)) = false) (tk : Takes X W)
    (hb : ∀ (W : WX) (pn : List (Addr × Obj)) (xe : Value → Shared → Prop), Takes (X.tr pn xe) W → PassesOwn (model X.prog X.w) X.A X.env xe → PSs (X.tr pn xe) body (tS X.K T W u)) (hsu : okHS T N sc i hs (b0 :: suite) = true) :
    PS X (.Try body [.ExceptHandler (some (.Name x np)) (some n) (b0 :: suite) pos'] [] [] pos) (tS X.K T W fun env st => (match u env st with
      | .exc c ns vs e s => handle (P.ctx (callN P k)) c ns vs e s [⟨hc, some i, hs⟩]
      | r => r)) := by
  obtain ⟨Ch, hCh, hm⟩ := g.lx.nm hc x hx
  have hN : X.N[i]? = some n := by rw [g.hN]; exact hi
  have hk : X.env.kindOf n = some .local := by show X.env.scope.names.lookup n = _; rw [g.hsc]; exact hl
  refine (ps_try_as (c := .ref Ch) (tb := fun W => tS X.K T W u) (ts := fun a cls d => tHS X.K T (P.ctx (callN P k)) W i a cls d hs) stk frame g.nd hN hk ⟨hg, hdb, .inl hm⟩ tk hb (fun a oe cls d pn hz hf => simHS g hz hf hs (b0 :: suite) hsu)).weak fun D σ H ⟨G, μ, env, st, S, E, Po⟩ => ⟨G, μ, env, st, S, E, ?_⟩
  have Po : PostS X.K T G μ H (match u env st with
      | .exc c ns vs e s => handle (P.ctx (callN P k)) c ns vs e s [⟨hc, some i, hs⟩]
      | r => r) D W := Po
  cases hu : u env st with
  | bad => rw [hu] at Po; exact Po
  | nx => rw [hu] at Po; exact Po
  | ret => rw [hu] at Po; exact Po
  | brk => rw [hu] at Po; exact Po
  | cnt => rw [hu] at Po; exact Po
  | exc c ns vs e s =>
    rw [hu] at Po
    have Po : PostS X.K T G μ H (if P.sub c hc then (if i < e.length then evHS (P.ctx (callN P k)) c ns vs hs (e.set i none) s else .bad) else .exc c ns vs e s) D W := Po
    intro μ' H' σ' X1 S1 E1 cls d ex
    obtain ⟨C0, dx, fl, rfl, hC0, hd, hH, fz, hfl⟩ := id ex
    refine ⟨P.sub c hc, (g.lx.sub c hc C0 Ch hC0 hCh).1, fun hb1 a ha => ?_, fun hb1 => ?_⟩
    · rw [hb1] at Po
      simp only [if_true] at Po
      split at Po
      rotate_left
      · exact Po.elim
      rename_i hlen
      rw [E1.1] at hlen
      refine ⟨G, μ', e.set i none, s, c, ns, vs, S1, (E1.gone).unset (none_at e) _, by rw [List.getElem?_set_self hlen], ex, ?_⟩
      have Po := PostS.later X1 Po
      rcases evHS_ends (C := P.ctx (callN P k)) (c := c) (ns := ns) (vs := vs) hs (e.set i none) s with h1 | ⟨e2, s2, h1⟩ | ⟨x2, s2, h1⟩
      · rw [h1] at Po; exact Po.elim
      · rw [h1] at Po ⊢
        have keep := evHS_keeps hs (b0 :: suite) _ _ _ _ hsu h1
        refine fun μ2 H2 σ2 X2 S2 E2 => Po μ2 H2 _ X2 S2 (E2.unset (fun x q => ?_) none)
        rw [keep] at q
        exact none_at e x q
      · rw [h1] at Po ⊢
        exact Po
    · rw [hb1] at Po
      exact Po μ' H' σ' X1 S1 E1 _ _ ex
end
end KG

set_option linter.all false
set_option maxRecDepth 100000
set_option maxHeartbeats 8000000
/-! K1v: the check of statements, and what it gives. -/
namespace KG
open PySem PySem.Spec PyProof.Rows L2

/-- is the new list put into the name within the comprehension -/
def swB (sc scope : Scope) (y : Str) (py lp : Pos) : Bool := sc.names.lookup y == some .local && (py.line == lp.line && !(scope.names.any fun (n, k) => n == y && (k == .local || k == .cell)))
section
variable (P : Prg) (T : Tab) (N : List Str) (sc : Scope)
def okAsg (t : TA) (e : CE) (s : Stmt) : Bool := match t, s with
  | .nm i, .Assign [tg] x p => nameB N sc i tg && (okE P T N sc e x && (match x with
    | .ListComp _ _ scope lp => (match tg with
      | .Name y py => (match e with
        | .lc _ _ (.items _) _ _ => !(swB sc scope y py lp)
        | .lc _ _ _ _ _ => true
        | _ => false)
      | _ => false)
    | .DictComp _ _ _ scope lp => (match tg with
      | .Name y py => !(swB sc scope y py lp)
      | _ => false)
    | _ => notComp x))
  | .at o n, .Assign [.Attribute o' f _] x _ => okE P T N sc e x && (okE P T N sc o o' && (f == T.nms.att n && decide (n < T.natt)))
  | .ix o i, .Assign [.Subscript o' i' _] x _ => okE P T N sc e x && (okE P T N sc o o' && (okE P T N sc i i' && notSlice i'))
  | .tp ts, .Assign [.Tuple ts' _ _] x _ => (match allNm ts with
    | some is => namesB N sc is ts' && (okE P T N sc e x && notTup x)
    | none => false)
  | _, _ => false
mutual
def okS : CS → Stmt → Bool
  | .bad, _ => true
  | .expr e, s => (match s with
    | .Expr x _ => okE P T N sc e x && notComp x
    | _ => false)
  | .asg t e, s => okAsg P T N sc t e s
  | .par is es, s => (match s with
    | .Assign [.Tuple ts _ _] (.Tuple vs _ _) _ => parB N sc is ts vs && okEs P T N sc es vs
    | _ => false)
  | .frz _, _ => false
  | .aug i op e, s => (match op, s with
    | .add, .AugAssign t .Add x _ => nameB N sc i t && okE P T N sc e x
    | _, _ => false)
  | .augAt o n op e, s => (match op, s with
    | .add, .AugAssign (.Attribute o' f _) .Add x _ => okE P T N sc e x && (okE P T N sc o o' && (f == T.nms.att n && decide (n < T.natt)))
    | _, _ => false)
  | .ret e, s => (match s with
    | .Return (some x) _ => okE P T N sc e x
    | _ => false)
  | .retN, s => (match s with
    | .Return none _ => true
    | _ => false)
  | .ifs c a b, s => (match s with
    | .If c' a' b' _ => okT P T N sc c c' && (okSs a a' && okSs b b')
    | _ => false)
  | .whl c b, s => (match s with
    | .While c' b' [] _ => okT P T N sc c c' && okSs b b'
    | _ => false)
  | .for t it b e, s => (match s with
    | .For tg iter b' e' _ => okI P T N sc it iter tg && (tgB N sc t tg && (okSs b b' && (okSs e e' && notSet iter)))
    | _ => false)
  | .brk, s => (match s with
    | .Break _ => true
    | _ => false)
  | .cnt, s => (match s with
    | .Continue _ => true
    | _ => false)
  | .pass, s => (match s with
    | .Pass _ => true
    | _ => false)
  | .raise c as, s => (match s with
    | .Raise (some (.Call (.Name x _) (e :: es) [] _)) none _ => T.xnm c == some x && (okEs P T N sc as (e :: es) && (glB sc x && (nmB x && !(P.flds c).isEmpty)))
    | _ => false)
  | .tr b hs, s => (match hs, s with
    | [⟨hc, some i, hss⟩], .Try body [.ExceptHandler (some (.Name x _)) (some n) (b0 :: suite) _] [] [] _ => okSs b body && (N[i]? == some n && (sc.names.lookup n == some .local && (T.xnm hc == some x && (glB sc x && (nmB x && okHS T N sc i hss (b0 :: suite))))))
    | _, _ => false)
termination_by structural a => a
def okSs : List CS → List Stmt → Bool
  | [], ss => ss.isEmpty
  | c :: r, ss => (match c with
    | .frz _ => okSs r ss
    | _ => (match ss with
      | s :: ss => okS c s && okSs r ss
      | [] => false))
termination_by structural a => a
end
end
structure GoodS (X : Cx) (T : Tab) (P : Prg) (k lv : Nat) (W : WX) (N : List Str) (sc : Scope) : Prop extends Good X T P k lv W N sc where
  lx : LnkX X.prog X.w X.K X.mg X.base T P lv
  ps : PassesOwn (model X.prog X.w) X.A X.env X.xe
  stk : X.stack = X.env :: X.outer
  frame : X.env.frame = some X.env.locals
  kind : X.env.scope.kind = .function
  fn : ∀ x, X.fn x = true
section
variable {X : Cx} {T : Tab} {P : Prg} {k lv : Nat} {W : WX} {N : List Str} {sc : Scope}
theorem GoodS.tgt (g : GoodS X T P k lv W N sc) : Tgt X sc := ⟨g.nd, g.calm, fun x h => by rw [L2.Loc, g.hsc]; exact h, fun x _ => .inl (g.fn x)⟩
theorem GoodS.sui (g : GoodS X T P k lv W N sc) : Sui X T P k lv N sc := ⟨g.lk, g.lx, g.hN, g.hsc, g.nd, g.fn⟩
theorem GoodS.tr (g : GoodS X T P k lv W N sc) {W' : WX} {pn : List (Addr × Obj)} {xe : Value → Shared → Prop} (t : Takes (X.tr pn xe) W') (p : PassesOwn (model X.prog X.w) X.A X.env xe) : GoodS (X.tr pn xe) T P k lv W' N sc :=
  ⟨⟨g.lk, g.hN, g.hsc, g.nd, g.calm, g.room, t⟩, g.lx, p, g.stk, g.frame, g.kind, g.fn⟩
theorem swap_lc {elt : Expr} {gs : List Comprehension} {scope : Scope} {lp py : Pos} {y : Str} {l : Nat} {env : PySem.Env} (hk : env.scope.kind = .function) : swapsWith (.ListComp elt gs scope lp) (some (.Name y py)) l env = pure (swB env.scope scope y py lp) := by
  have hb : env.blockKind = .function := by unfold Env.blockKind; rw [hk]; rfl
  have e1 : ∀ a b c : Bool, (true && a && b && c) = (a && (b && c)) := by decide
  unfold swapsWith
  show (pure (env.blockKind == .function && env.kindOf y == some .local && py.line == lp.line && !(scope.names.any fun (n, k) => n == y && (k == .local || k == .cell))) : Sem Bool) = _
  rw [hb]
  exact congrArg pure (e1 _ _ _)
theorem swap_dc {kx elt : Expr} {gs : List Comprehension} {scope : Scope} {lp py : Pos} {y : Str} {l : Nat} {env : PySem.Env} (hk : env.scope.kind = .function) : swapsWith (.DictComp kx elt gs scope lp) (some (.Name y py)) l env = pure (swB env.scope scope y py lp) := by
  have hb : env.blockKind = .function := by unfold Env.blockKind; rw [hk]; rfl
  have e1 : ∀ a b c : Bool, (true && a && b && c) = (a && (b && c)) := by decide
  unfold swapsWith
  show (pure (env.blockKind == .function && env.kindOf y == some .local && py.line == lp.line && !(scope.names.any fun (n, k) => n == y && (k == .local || k == .cell))) : Sem Bool) = _
  rw [hb]
  exact congrArg pure (e1 _ _ _)
theorem assigns_nm {C : Ctx} : ∀ {ts : List TA} {is : List Nat} (xs : List Val) (env : KG.Env) (st : Store), allNm ts = some is → assigns C ts xs env st = if xs.length = is.length then .nx ((is.zip xs).foldl (fun e p => e.set p.1 (some (.v p.2))) env) st else .bad
  | [], is, [], env, st, h => by cases h; rfl
  | [], is, x :: xs, env, st, h => by cases h; rfl
  | .nm i :: r, is, xs, env, st, h => by
    have h : (allNm r).map (i :: ·) = some is := h
    obtain ⟨js, e1, e2⟩ := Option.map_eq_some_iff.mp h
    subst e2
    cases xs with
    | nil => rfl
    | cons x xs =>
      have e3 : assigns C (.nm i :: r) (x :: xs) env st = assigns C r xs (env.set i (some (.v x))) st := rfl
      rw [e3, assigns_nm xs _ st e1, List.zip_cons_cons, List.foldl_cons, List.length_cons, List.length_cons]
      by_cases q : xs.length = js.length
      · rw [if_pos q, if_pos (by omega)]
      · rw [if_neg q, if_neg (by omega)]
  | .at _ _ :: _, _, _, _, _, h => by cases h
  | .ix _ _ :: _, _, _, _, _, h => by cases h
  | .tp _ :: _, _, _, _, _, h => by cases h
theorem simAsg (t : TA) (e : CE) (s : Stmt) (h : okAsg P T N sc t e s = true) (g : GoodS X T P k lv W N sc) : PS X s (tS X.K T W (evS (P.ctx (callN P k)) (.asg t e))) := by
  have hu : X.A.units + 1 < cLine := by have := g.units; omega
  unfold okAsg at h
  split at h
  · rename_i i tg x p
    simp only [Bool.and_eq_true] at h
    obtain ⟨h1, h2, h3⟩ := h
    have h1' : nameB X.N sc i tg = true := by rw [g.hN]; exact h1
    have he := simE e sc x X W h2 g.toGood
    split at h3
    · rename_i elt gs scope lp
      split at h3
      rotate_left
      · cases h3
      rename_i y py
      by_cases hsw : swB sc scope y py lp = true
      · -- within the comprehension
        split at h3
        · rw [hsw] at h3; cases h3
        · rename_i m t' it c ee hni
          simp only [okE] at h2
          split at h2
          rotate_left
          · cases h2
          rename_i e' tg' iter ifs n' scope' pos' heq
          cases heq
          simp only [Bool.and_eq_true, beq_iff_eq] at h2
          obtain ⟨rfl, a1, a2, a3, a4, a5, a6⟩ := h2
          have b : BlkR X T (P.ctx (callN P k)) t' c tg' iter ifs scope _ := ⟨g.calm, g.nd, by rw [g.hN, g.hsc]; exact blk_ok a2, slots_own _, fun s H A cl fp => g_tg (g.toGood.tgt s H A cl fp) (by show tgB X.N scope t' tg' = true; rw [g.hN]; exact a3), fun s H A cl fp => simC c _ _ _ _ a4 (g.toGood.blk s H A cl fp), a6⟩
          have he' := fun s H A cl fp => simE ee _ _ _ _ a5 (g.toGood.blk (scope := scope) s H A cl fp)
          unfold swB at hsw
          simp only [Bool.and_eq_true, beq_iff_eq, Bool.not_eq_true'] at hsw
          obtain ⟨w1, w2, w3⟩ := hsw
          simp only [nameB, Bool.and_eq_true, beq_iff_eq] at h1'
          rcases simI it sc iter tg' X W a1 g.toGood with hi | ⟨ce, els, kk, tpos, a', ap, p', rfl, _⟩
          · exact s_setLc g.tgt g.kind h1'.1 (by rw [g.hsc]; exact w1) (by simpa using w2) w3 b he' hi
          · first | exact (hni _ _ _ _ _ rfl).elim | exact (hni _ rfl).elim | exact (hni _ rfl rfl).elim | exact absurd hni (by simp)
        · cases h3
      · have hsw : swB sc scope y py lp = false := by simpa using hsw
        exact s_set g.tgt h1' he (by rw [swap_lc g.kind, g.hsc, hsw])
    · rename_i kx elt gs scope lp
      split at h3
      · rename_i y py
        have hsw : swB sc scope y py lp = false := by simpa using h3
        exact s_set g.tgt h1' he (by rw [swap_dc g.kind, g.hsc, hsw])
      · cases h3
    · exact s_set g.tgt h1' he (swap_ok h3)
  · simp only [Bool.and_eq_true, beq_iff_eq, decide_eq_true_eq] at h
    obtain ⟨h1, h2, rfl, h3⟩ := h
    exact s_at g.lk h3 (simE e sc _ X W h1 g.toGood) (simE _ sc _ X W h2 g.toGood)
  · simp only [Bool.and_eq_true] at h
    obtain ⟨h1, h2, h3, h4⟩ := h
    exact s_ix hu (simE e sc _ X W h1 g.toGood) (simE _ sc _ X W h2 g.toGood) (simE _ sc _ X W h3 g.toGood) h4
  · rename_i ts ts' kk tp x p
    split at h
    rotate_left
    · cases h
    rename_i is his
    simp only [Bool.and_eq_true] at h
    obtain ⟨h1, h2, h3⟩ := h
    refine (s_tup (is := is) g.tgt (by rw [g.hN]; exact h1) (simE e sc x X W h2 g.toGood) h3).weak fun D σ H ⟨G, μ, env, st, S, E, Po⟩ => ⟨G, μ, env, st, S, E, ?_⟩
    have e1 : (fun x st => assign (P.ctx (callN P k)) (.tp ts) x env st) = fun x st => (match unpack x with
      | some xs => if xs.length = is.length then KG.S.nx ((is.zip xs).foldl (fun e p => e.set p.1 (some (.v p.2))) env) st else .bad
      | none => .bad) := by
      funext x st
      show (match unpack x with
        | some xs => assigns (P.ctx (callN P k)) ts xs env st
        | none => .bad) = _
      cases unpack x with
      | none => rfl
      | some xs => exact assigns_nm xs env st his
    have Po : PostS X.K T G μ H ((evE (P.ctx (callN P k)) e env st).run env fun x st => assign (P.ctx (callN P k)) (.tp ts) x env st) D W := Po
    rw [e1] at Po
    exact Po
  · cases h
mutual
theorem simS : ∀ (c : CS) (s : Stmt) (X : Cx) (W : WX), okS P T N sc c s = true → GoodS X T P k lv W N sc → PS X s (tS X.K T W (evS (P.ctx (callN P k)) c))
  | .bad, s, X, W, h, g => PS.bad fun D σ H ⟨_, _, _, _, _, _, p⟩ => p
  | .expr e, s, X, W, h, g => by
    simp only [okS] at h
    split at h
    · simp only [Bool.and_eq_true] at h
      exact s_expr (simE e sc _ X W h.1 g.toGood) h.2
    · cases h
  | .asg t e, s, X, W, h, g => by
    simp only [okS] at h
    exact simAsg t e s h g
  | .par is es, s, X, W, h, g => by
    simp only [okS] at h
    split at h
    · simp only [Bool.and_eq_true] at h
      exact s_par g.tgt g.hsc g.kind (by rw [g.hN]; exact h.1) (simEs es sc _ X W h.2 g.toGood).1
    · cases h
  | .frz i, s, X, W, h, g => by simp [okS] at h
  | .aug i op e, s, X, W, h, g => by
    simp only [okS] at h
    split at h
    · simp only [Bool.and_eq_true] at h
      exact s_aug g.tgt (by rw [g.hN]; exact h.1) (simE e sc _ X W h.2 g.toGood)
    · cases h
  | .augAt o n op e, s, X, W, h, g => by
    simp only [okS] at h
    split at h
    · simp only [Bool.and_eq_true, beq_iff_eq, decide_eq_true_eq] at h
      obtain ⟨h1, h2, rfl, h3⟩ := h
      exact s_augAt g.lk h3 (simE e sc _ X W h1 g.toGood) (simE o sc _ X W h2 g.toGood)
    · cases h
  | .ret e, s, X, W, h, g => by
    simp only [okS] at h
    split at h
    · exact s_ret (simE e sc _ X W h g.toGood)
    · cases h
  | .retN, s, X, W, h, g => by
    simp only [okS] at h
    split at h
    · exact s_retN
    · cases h
  | .ifs c a b, s, X, W, h, g => by
    simp only [okS] at h
    split at h
    · simp only [Bool.and_eq_true] at h
      exact s_if (simT c sc _ X W h.1 g.toGood) (simSs a _ X W h.2.1 g) (simSs b _ X W h.2.2 g)
    · cases h
  | .whl c b, s, X, W, h, g => by
    simp only [okS] at h
    split at h
    · simp only [Bool.and_eq_true] at h
      exact s_while (n := WF) g.ps (simT c sc _ X W h.1 g.toGood) (simSs b _ X W h.2 g)
    · cases h
  | .for t it b e, s, X, W, h, g => by
    simp only [okS] at h
    split at h
    · rename_i tg iter b' e' p
      simp only [Bool.and_eq_true] at h
      obtain ⟨h1, h2, h3, h4, h5⟩ := h
      have h2' : tgB X.N sc t tg = true := by rw [g.hN]; exact h2
      rcases simI it sc iter tg X W h1 g.toGood with hi | ⟨ce, els, kk, tpos, a', ap, p', rfl, rfl, rfl, hn, ho, hsu, hl⟩
      · exact s_for g.tgt g.ps hi h2' (simSs b _ X W h3 g) (simSs e _ X W h4 g) h5
      · exact s_forI g.lk hn g.tgt g.ps ho hsu hl h2' (simSs b _ X W h3 g) (simSs e _ X W h4 g)
    · cases h
  | .brk, s, X, W, h, g => by
    simp only [okS] at h
    split at h
    · exact s_brk
    · cases h
  | .cnt, s, X, W, h, g => by
    simp only [okS] at h
    split at h
    · exact s_cnt
    · cases h
  | .pass, s, X, W, h, g => by
    simp only [okS] at h
    split at h
    · exact s_pass
    · cases h
  | .raise c as, s, X, W, h, g => by
    simp only [okS] at h
    split at h
    · simp only [Bool.and_eq_true, beq_iff_eq, Bool.not_eq_true'] at h
      obtain ⟨h1, h2, h3, h4, h5⟩ := h
      exact s_raise g.lx g.lk.inj g.calm g.room g.tk h1 (g.gl h3) (simEs as sc _ X W h2 g.toGood).1 (all_star h2) (nm_ok h4).1 (fun z => by rw [z] at h5; cases h5)
    · cases h
  | .tr b hs, s, X, W, h, g => by
    simp only [okS] at h
    split at h
    · simp only [Bool.and_eq_true, beq_iff_eq] at h
      obtain ⟨h1, h2, h3, h4, h5, h6, h7⟩ := h
      exact s_try g.sui g.stk g.frame h2 h3 h4 (g.gl h5) (nm_ok h6).1 g.tk (fun W' pn xe t p => simSs b _ _ W' h1 (g.tr t p)) h7
    · cases h
termination_by structural c => c
theorem simSs : ∀ (cs : List CS) (ss : List Stmt) (X : Cx) (W : WX), okSs P T N sc cs ss = true → GoodS X T P k lv W N sc → PSs X ss (tS X.K T W (evSs (P.ctx (callN P k)) cs))
  | [], ss, X, W, h, g => by
    simp only [okSs] at h
    rw [List.isEmpty_iff.mp h]
    exact s_nil
  | c :: r, ss, X, W, h, g => by
    simp only [okSs] at h
    split at h
    · exact s_frz (simSs r ss X W h g)
    · split at h
      · simp only [Bool.and_eq_true] at h
        exact s_cons (simS c _ X W h.1 g) (simSs r _ X W h.2 g)
      · cases h
termination_by structural cs => cs
end
end
end KG

set_option linter.all false
set_option maxRecDepth 100000
set_option maxHeartbeats 4000000
/-! K1w: functions. -/
namespace KG
open PySem PySem.Spec PyProof.Rows L2

section
variable {K : PySem.W.Frag} {T : Tab} {G : Addr → Prop} {μ : Mu} {H : Hp} {st : Store}
theorem er_start {N : List Str} {F : Fn} {xs : List X} {vs : List V} (hns : F.ns = N.length) (p : Paired (XR K T.nms G μ H) xs vs) (hl : xs.length ≤ F.ns) : ER K T.nms G μ H (KG.start F xs) (L2.start N vs) := by
  have hlen := plen p
  refine ⟨?_, fun i x h => ?_⟩
  · unfold KG.start L2.start
    simp only [List.length_append, List.length_map, List.length_replicate]
    omega
  · unfold KG.start at h
    unfold L2.start
    by_cases hi : i < xs.length
    · rw [List.getElem?_append_left (by simpa using hi), List.getElem?_map] at h
      cases e : xs[i]? with
      | none => rw [e] at h; cases h
      | some z =>
        rw [e] at h
        cases h
        obtain ⟨y, hy, ry⟩ := pget p e
        refine ⟨y, ?_, ry⟩
        rw [List.getElem?_append_left (by simp; omega), List.getElem?_map, hy]
        rfl
    · rw [List.getElem?_append_right (by simpa using hi), List.getElem?_replicate] at h
      split at h <;> cases h
/-- the guards of a pure call -/
def Gp (G : Addr → Prop) (μ : Mu) : Addr → Prop := fun a => G a ∨ some a ∈ μ
theorem gp_fz {a : Addr} (f : Fz G μ a) : Fz (Gp G μ) [] a := ⟨fun g => g.elim f.1 f.2, by simp⟩
theorem fz_gp {μ1 : Mu} {a : Addr} (f : Fz (Gp G μ) μ1 a) : Fz G μ a := ⟨fun g => f.1 (.inl g), fun g => f.1 (.inr g)⟩
theorem sr_pure (S : SR K T.nms G μ H st) : SR K T.nms (Gp G μ) [] H [] where
  len := rfl
  nd := fun i j a q => by simp at q
  cell := fun n a c q => by simp at q
  dead := fun n q => by simp at q
  apart := fun a q => by simp at q
  there := fun a g q => by
    rcases g with g | g
    · exact S.there a g q
    · obtain ⟨o, e⟩ := S.live g; rw [e] at q; cases q
theorem ext_back {μ1 : Mu} {H1 : Hp} (e : Ext [] H μ1 H1) : Ext μ H μ H1 := ⟨Nat.le_refl _, fun _ _ _ q => q, fun a o q _ => e.same a o q (by simp), fun _ q => .inl q⟩
theorem sr_back {μ1 : Mu} {H1 : Hp} (S : SR K T.nms G μ H st) (e : Ext [] H μ1 H1) : SR K T.nms G μ H1 st where
  len := S.len
  nd := S.nd
  cell := fun n a c q1 q2 => by
    have r := S.cell n a c q1 q2
    obtain ⟨o, q⟩ := r.live
    exact r.ext (ext_back e) (by rw [q]; exact e.same a o q (by simp))
  dead := S.dead
  apart := S.apart
  there := fun a g q => by
    cases h : H a with
    | none => exact S.there a g h
    | some o => rw [e.same a o h (by simp)] at q; cases q
theorem exr_gp {μ1 : Mu} {H1 : Hp} {c : Nat} {ns : List Nat} {vs : List Val} {cls : Value} {d : Option Addr} (h : ExR T (Gp G μ) μ1 H1 c ns vs cls d) : ExR T G μ H1 c ns vs cls d := by
  obtain ⟨C, dx, fs, h1, h2, h3, h4, h5, h6⟩ := h
  exact ⟨C, dx, fs, h1, h2, h3, h4, fz_gp h5, fun n v hv => let ⟨y, q1, q2⟩ := h6 n v hv; ⟨y, q1, q2.weak fun _ => fz_gp⟩⟩
theorem exr_cut {lo : Nat} {c : Nat} {ns : List Nat} {vs : List Val} {cls : Value} {d : Option Addr} (h : ExR T G μ H c ns vs cls d) : ExR T G (μ.take lo) H c ns vs cls d := by
  obtain ⟨C, dx, fs, h1, h2, h3, h4, h5, h6⟩ := h
  exact ⟨C, dx, fs, h1, h2, h3, h4, h5.cut, fun n v hv => let ⟨y, q1, q2⟩ := h6 n v hv; ⟨y, q1, q2.cut⟩⟩
/-- a body's reading from a call's -/
theorem body_post {C : Ctx} {N : List Str} {F : Fn} {as : List X} {vs : List V} {Q : VK} {E : XK} (hns : F.ns = N.length) (S : SR K T.nms G μ H st) (pa : Paired (XR K T.nms G μ H) as vs) (P : Post K T.nms G (relX K T.nms G) μ H (callF C F as st) Q (bE T G E)) :
    tS K T (fun cls d _ H => E cls d H) (evSs C F.body) { nx := fun _ H' => Q .non H', rt := Q } (L2.start N vs) H := by
  unfold callF at P
  split at P
  rotate_left
  · exact P.elim
  rename_i hl
  split at P
  · -- pure
    split at P
    rotate_left
    · exact P.elim
    rename_i ws hws
    obtain ⟨pv, _⟩ := toVals_ok pa hws
    have p0 : Paired (XR K T.nms (Gp G μ) [] H) (ws.map X.v) vs := by
      have go : ∀ {ws : List Val} {vs : List V}, Paired (VR T.nms (Fz G μ) H) ws vs → Paired (XR K T.nms (Gp G μ) [] H) (ws.map X.v) vs := by
        intro ws
        induction ws with
        | nil => intro vs p; cases p; exact .nil
        | cons w ws ih => intro vs p; cases p with | cons p1 p2 => exact .cons (p1.weak fun _ => gp_fz) (ih p2)
      exact go pv
    have hlen : (ws.map X.v).length ≤ F.ns := by
      have h1 := plen p0
      have h2 := plen pa
      rw [h1, ← h2, hl.1]
      exact hl.2
    refine ⟨Gp G μ, [], _, [], sr_pure S, er_start hns p0 hlen, ?_⟩
    unfold bodyR at P
    cases hr : evSs C F.body (KG.start F (ws.map X.v)) [] with
    | bad => rw [hr] at P; exact P.elim
    | brk => rw [hr] at P; exact P.elim
    | cnt => rw [hr] at P; exact P.elim
    | exc c ns us e s =>
      rw [hr] at P
      intro μ1 H1 σ1 X1 S1 _ cls d ex
      exact P μ H1 (ext_back X1) (sr_back S X1) cls d (exr_gp ex)
    | nx e s =>
      rw [hr] at P
      intro μ1 H1 σ1 X1 S1 _
      exact P.at (ext_back X1) (sr_back S X1) (VR.none_i.mpr rfl)
    | ret x s =>
      rw [hr] at P
      intro μ1 H1 y X1 S1 ry
      simp only at P
      split at P
      · rename_i v hv
        exact P.at (ext_back X1) (sr_back S X1) ((frz_ok S1 4 x v y ry hv).weak fun _ => fz_gp)
      · exact P.elim
  · -- sealed
    refine ⟨G, μ, _, st, S, er_start hns pa (by rw [hl.1]; exact hl.2), ?_⟩
    unfold bodyR at P
    cases hr : evSs C F.body (KG.start F as) st with
    | bad => rw [hr] at P; exact P.elim
    | brk => rw [hr] at P; exact P.elim
    | cnt => rw [hr] at P; exact P.elim
    | exc c ns us e s =>
      rw [hr] at P
      intro μ1 H1 σ1 X1 S1 _ cls d ex
      simp only at P
      split at P
      · rename_i ho
        exact P (μ1.take st.length) H1 (X1.cut S.len.symm) (S1.cut ho) cls d (exr_cut ex)
      · exact P.elim
    | nx e s =>
      rw [hr] at P
      intro μ1 H1 σ1 X1 S1 _
      have P : Post K T.nms G (relX K T.nms G) μ H (sealV st.length (.v .none) s) Q (bE T G E) := P
      unfold sealV at P
      split at P
      · rename_i ho
        exact P.at (X1.cut S.len.symm) (S1.cut ho) (VR.none_i.mpr rfl)
      · exact P.elim
    | ret x s =>
      rw [hr] at P
      intro μ1 H1 y X1 S1 ry
      have P : Post K T.nms G (relX K T.nms G) μ H (sealV st.length x s) Q (bE T G E) := P
      unfold sealV at P
      split at P
      · rename_i ho
        split at P
        · rename_i hx
          exact P.at (X1.cut S.len.symm) (S1.cut ho) (ry.cut hx)
        · split at P
          · rename_i v hv
            exact P.at (X1.cut S.len.symm) (S1.cut ho) (frz_ok S1 4 x v y ry hv)
          · exact P.elim
      · exact P.elim
  · -- open
    refine ⟨G, μ, _, st, S, er_start hns pa (by rw [hl.1]; exact hl.2), ?_⟩
    unfold bodyR at P
    cases hr : evSs C F.body (KG.start F as) st with
    | bad => rw [hr] at P; exact P.elim
    | brk => rw [hr] at P; exact P.elim
    | cnt => rw [hr] at P; exact P.elim
    | exc c ns us e s =>
      rw [hr] at P
      intro μ1 H1 σ1 X1 S1 _ cls d ex
      exact P μ1 H1 X1 S1 cls d ex
    | nx e s =>
      rw [hr] at P
      intro μ1 H1 σ1 X1 S1 _
      exact P.at X1 S1 (VR.none_i.mpr rfl)
    | ret x s =>
      rw [hr] at P
      exact fun μ1 H1 y X1 S1 ry => P.at X1 S1 ry
end
/-! ### a def keeps what the small language's function says -/
section
variable {prog : Program} {w : World} {K : PySem.W.Frag} {mg : Str → Option Value} {base : Heap} {T : Tab} {P : Prg} {k lv : Nat}
theorem callN_len {f : Nat} {F : Fn} {as : List X} {st : Store} (hF : P.fn f = some F) (h : callN P (k + 1) f as st ≠ .bad) : as.length = F.np := by
  have e : callN P (k + 1) f as st = callF (P.ctx (callN P k)) F as st := by
    show (match P.fn f with
      | some F => callF (P.ctx (callN P k)) F as st
      | none => .bad) = _
    rw [hF]
  rw [e] at h
  unfold callF at h
  split at h
  · rename_i hl; exact hl.1
  · exact absurd rfl h
theorem post_bad {α β : Type} {rel : Mu → Hp → α → β → Prop} {M : Nms} {G : Addr → Prop} {μ : Mu} {H : Hp} {r : R α} {Q : β → Hp → Prop} {B : EW} (h : Post K M G rel μ H r Q B) : r ≠ .bad := fun e => by rw [e] at h; exact h
theorem fn_ok {x qual : Str} {params : Arguments} {body : List Stmt} {scope : Scope} {f : Addr} {fd : FuncData} {N ps : List Str} {fi : Nat} {F : Fn} (D : FunD K x qual params body scope [] [] f fd) (S : FnScope N ps scope) (hF : P.fn fi = some F) (hns : F.ns = N.length) (hnp : F.np = ps.length)
    (ok : okSs P T N scope F.body body = true) (L : Lnk prog w K mg base T P k lv) (LX : LnkX prog w K mg base T P lv) : FnOk prog w K mg base (L2.CX prog w) (lv + 2) f fd ps (spF K T P (k + 1) fi) := by
  refine D.ok S (fun vs H Q E h => ?_) fun cdv A outer s H vs Q E hr h => ⟨tS K T (fun cls d _ H => E cls d H) (evSs (P.ctx (callN P k)) F.body), ?_, ?_⟩
  · obtain ⟨G, μ, st, as, S, pa, Po⟩ := h
    rw [← plen pa, callN_len hF (post_bad Po), hnp]
  · refine simSs (k := k) (lv := lv) (N := N) (sc := scope) F.body body _ _ ok ⟨⟨L, rfl, rfl, S.nd, rfl, hr, ?_⟩, LX, ?_, rfl, rfl, S.kind, fun _ => rfl⟩
    · exact takes_of (X := cxOf (L2.CX prog w) prog w K mg base N qual scope f cdv A outer s H E) rfl rfl rfl rfl
    · exact passes_of (X := cxOf (L2.CX prog w) prog w K mg base N qual scope f cdv A outer s H E) rfl
  · obtain ⟨G, μ, st, as, S1, pa, Po⟩ := h
    have e : callN P (k + 1) fi as st = callF (P.ctx (callN P k)) F as st := by
      show (match P.fn fi with
        | some F => callF (P.ctx (callN P k)) F as st
        | none => .bad) = _
      rw [hF]
    rw [e] at Po
    exact body_post hns S1 pa Po
end
end KG

set_option linter.all false
set_option maxRecDepth 100000
set_option maxHeartbeats 4000000
/-! K1x: how arguments bind; an exception's __init__. -/
namespace KG
open PySem PySem.Spec PyProof.Rows L2
def argsB (p : Arguments) (ps : List Str) : Bool := p.posonlyargs.isEmpty && (p.kwonlyargs.isEmpty && (p.vararg.isNone && (p.kwarg.isNone && decide (p.args.map (·.arg) = ps))))
theorem zip_lookup {ps : List Str} : ∀ {us : List Value} {n : Str}, ps.length = us.length → n ∈ ps → ((ps.zip us).lookup n).isNone = false := by
  induction ps with
  | nil => intro us n _ h; cases h
  | cons p ps ih =>
    intro us n hl h
    cases us with
    | nil => cases hl
    | cons u us =>
      rw [List.zip_cons_cons, List.lookup_cons]
      cases e : n == p with
      | true => rfl
      | false =>
        rcases List.mem_cons.mp h with h | h
        · subst h; simp at e
        · exact ih (by simpa using hl) h
theorem zip_filter {ps : List Str} : ∀ {us : List Value}, ps.Nodup → ps.length = us.length → (ps.filterMap fun n => ((ps.zip us).lookup n).map (n, ·)) = ps.zip us := by
  induction ps with
  | nil => intro us _ _; rfl
  | cons p ps ih =>
    intro us nd hl
    cases us with
    | nil => cases hl
    | cons u us =>
      obtain ⟨hn, nd'⟩ := List.nodup_cons.mp nd
      have e0 : (List.lookup p ((p, u) :: ps.zip us)).map (p, ·) = some (p, u) := by rw [List.lookup_cons]; simp
      rw [List.zip_cons_cons, List.filterMap_cons, e0]
      simp only
      congr 1
      have go : ∀ l : List Str, (∀ n ∈ l, n ≠ p) → (l.filterMap fun n => (List.lookup n ((p, u) :: ps.zip us)).map (n, ·)) = l.filterMap fun n => ((ps.zip us).lookup n).map (n, ·) := by
        intro l
        induction l with
        | nil => intro _; rfl
        | cons n l ihl =>
          intro h
          have : (n == p) = false := by rw [beq_eq_false_iff_ne]; exact h n List.mem_cons_self
          rw [List.filterMap_cons, List.filterMap_cons, ihl fun m hm => h m (List.mem_cons_of_mem _ hm), List.lookup_cons, this]
      rw [go ps fun n hm e => by subst e; exact hn hm]
      exact ih nd' (by simpa using hl)
theorem bind_ok' {x qual : Str} {params : Arguments} {body : List Stmt} {scope : Scope} {ps : List Str} (hp : argsB params ps = true) (nd : ps.Nodup) (kV doc pm : Value) (an : Option Addr) (cdv ct : Value) (us : List Value) (hl : us.length = ps.length) :
    bindArgs (PySem.W.fnOf x qual params body scope .none kV doc pm an cdv ct) ⟨us, []⟩ = pure (ps.zip us) := by
  unfold argsB at hp
  simp only [Bool.and_eq_true, decide_eq_true_eq, List.isEmpty_iff, Option.isNone_iff_eq_none] at hp
  obtain ⟨h1, h2, h3, h4, h5⟩ := hp
  obtain ⟨po, ar, va, ko, kd, kw, df⟩ := params
  dsimp only at h1 h2 h3 h4 h5
  subst h1 h2 h3 h4
  have hm : (ps.filter fun n => ((ps.zip us).lookup n).isNone) = [] := by
    rw [List.filter_eq_nil_iff]
    intro n hn
    rw [zip_lookup hl.symm hn]
    decide
  have hf := zip_filter nd hl.symm
  have hs : seqItems? Value.none = pure none := rfl
  unfold bindArgs
  simp only [PySem.W.fnOf, List.map_nil, List.nil_append, h5, hl, List.forIn_nil, hs, pure_bind, Option.getD_none, List.length_nil, Nat.zero_sub, List.drop_zero, Nat.sub_zero, List.take_length, hm, List.zip_nil_right, hf, List.append_nil, Nat.lt_irrefl, decide_false, Bool.false_and, Bool.false_eq_true, if_false, List.isEmpty_nil, Bool.not_true, Option.isNone_none, List.drop_length]
/-! ### GrowthError.__init__(self, ..) -/
/-- the class whose __init__ is a built-in error's -/
structure GeF (K : PySem.W.Frag) (mg : Str → Option Value) (g : Str) : Prop where
  ex : ∃ (A : Addr) (mc : Value), mg g = some (.ref A) ∧ PySem.W.readsIn K A mc = true ∧ PySem.W.specialIn K (.ref A) "__getattribute__" = some (some (.builtin "type.__getattribute__")) ∧ PySem.W.findCls K (.ref A) mc "__init__" = some (.val (.builtin "ValueError.__init__"))
section
variable {X : Cx} {T : Tab} {N : List Str} {sc : Scope} {e : Expr} {es : List Expr} {ta : L2.TA} {p1 p2 pos : Pos} {g : Str}
theorem e_geinit (F : GeF X.K X.mg g) (hg : Gl X g) (hdb : (g == ("__debug__" : Str)) = false) (ha : PA X (e :: es) ta) (hs : (e :: es).all notStar = true) (hl : decide ((e :: es).length < 30) = true) (hline : (p2.endLine == pos.line) = true) :
    PE X (.Call (.Attribute (.Name g p1) "__init__" p2) (e :: es) [] pos) (tVeI X.K ta) := by
  obtain ⟨A, mc, hm, rd, ga, fc⟩ := F.ex
  have hev := meth_eval (env := X.env) (o := .Name g p1) (m := "__init__") (apos := p2) (pos := pos) rfl hs hl hline
  simp only [List.all_cons, Bool.and_eq_true] at hs
  refine ⟨fun pins s σ H Q I h => ?_⟩
  refine PySem.W.methodCall_KW (ld_glob I hg hm ?_ hdb) hev
  refine PySem.W.method_cls I.kIn ga (PySem.W.cls_value I.kIn rd fc rfl ?_)
  refine PyProof.Rows.callWith_method1 (thn (ha.run pos pins _ σ H _ (I.tok _) h) fun us s1 ⟨vs, H1, I1, r1, a, C, ws, ev, hl, O, ea, q⟩ => ?_) (star_ok hs.1) (back_ok hs.2)
  subst ev
  cases r1 with
  | @cons _ u0 _ ur ra rw' =>
    obtain rfl : u0 = Value.ref a := ra
    refine oinit_ok O I1 ea ?_ fun s' J => ⟨.non, H1, J, rfl, q⟩
    have := Paired.length rw'
    rw [← this, sizeLine_eq]
    omega
/-- the stores of an exception's fields -/
def exAs (T : Tab) (N : List Str) (sc : Scope) : Nat → List Nat → List Stmt → Bool
  | _, [], ss => ss.isEmpty
  | j, n :: ns, ss => (match ss with
    | .Assign [.Attribute (.Name s0 _) f _] (.Name y _) _ :: r => N[0]? == some s0 && (visB sc s0 && (nmB s0 && (N[j]? == some y && (visB sc y && (nmB y && (f == T.nms.att n && (decide (n < T.natt) && exAs T N sc (j + 1) ns r)))))))
    | _ => false)
def exB (T : Tab) (N : List Str) (sc : Scope) (g : Str) (ns : List Nat) : List Stmt → Bool
  | .Expr (.Call (.Attribute (.Name g' _) f p2) [.Name s0 _, .Constant (.str _) _ _] [] pos) _ :: r => g' == g && (f == "__init__" && (glB sc g && (nmB g && (N[0]? == some s0 && (visB sc s0 && (nmB s0 && (p2.endLine == pos.line && exAs T N sc 1 ns r)))))))
  | _ => false
def tXA (K : PySem.W.Frag) (T : Tab) (j : Nat) (ns : List Nat) : TS := fun D σ H => ∃ (a C : Addr) (ws : List V), σ[0]? = some (some (.ref a)) ∧ OexC K C ∧ (∀ n, n < T.natt → PySem.W.findIn K (.ref C) (T.nms.att n) = some none) ∧ ws.length = ns.length ∧ (∀ i y, ws[i]? = some y → σ[j + i]? = some (some y)) ∧
  ((H a = some (exo a C none) ∧ ns ≠ [] ∧ ns.length ≤ 900 ∧ ∀ d, H d = none → d ≠ a → D.nx σ (upd (upd H d (exd d (fsX T ns ws))) a (exo a C (some d)))) ∨
    ∃ (d : Addr) (fs : List (Str × V)), d ≠ a ∧ H a = some (exo a C (some d)) ∧ H d = some (exd d fs) ∧ fs.length + ns.length ≤ 901 ∧ D.nx σ (upd H d (exd d (fsX T ns ws ++ fs))))
theorem fsX_cons {n : Nat} {ns : List Nat} {y : V} {ws : List V} : fsX T (n :: ns) (y :: ws) = fsX T ns ws ++ [(T.nms.att n, y)] := by
  unfold fsX
  rw [List.map_cons, List.zip_cons_cons, List.reverse_cons]
theorem upd_self {H : Hp} {a : Addr} {o : HO} (h : H a = some o) : upd H a o = H := by
  funext b
  by_cases e : b = a
  · subst e; rw [upd_same, h]
  · rw [upd_ne e]
theorem upd_swap {H : Hp} {a b : Addr} {o u : HO} (h : a ≠ b) : upd (upd H a o) b u = upd (upd H b u) a o := by
  funext c
  unfold upd
  by_cases e1 : c = a
  · by_cases e2 : c = b
    · exact absurd (e1.symm.trans e2) h
    · simp [e1, h]
  · by_cases e2 : c = b
    · simp [e2, Ne.symm h]
    · simp [e1, e2]
theorem xa_ok (hN : X.N = N) (hsc : X.env.scope = sc) : ∀ (ns : List Nat) (j : Nat) (ss : List Stmt), exAs T N sc j ns ss = true → PSs X ss (tXA X.K T j ns)
  | [], j, ss, h => by
    simp only [exAs] at h
    rw [List.isEmpty_iff.mp h]
    refine pss_nil.weak fun D σ H ⟨a, C, ws, h1, h2, h3, h4, h5, h6⟩ => ?_
    have hw : ws = [] := List.length_eq_zero_iff.mp h4
    subst hw
    rcases h6 with ⟨_, z, _⟩ | ⟨d, fs, q1, q2, q3, q4, q5⟩
    · exact absurd rfl z
    · have e : fsX T [] [] ++ fs = fs := rfl
      rw [e, upd_self q3] at q5
      exact q5
  | n :: ns, j, ss, h => by
    simp only [exAs] at h
    split at h
    · rename_i s0 sp f ap y yp pp r
      simp only [Bool.and_eq_true, beq_iff_eq, decide_eq_true_eq] at h
      obtain ⟨a1, a2, a3, b1, b2, b3, rfl, c1, c2⟩ := h
      have ih := xa_ok hN hsc ns (j + 1) r c2
      have p0 : PE X (.Name s0 sp) (tVar 0) := pe_var (by rw [hN]; exact a1) (by rw [hsc]; exact vis_ok a2) (nm_ok a3).1 (nm_ok a3).2
      have pj : PE X (.Name y yp) (tVar j) := pe_var (by rw [hN]; exact b1) (by rw [hsc]; exact vis_ok b2) (nm_ok b3).1 (nm_ok b3).2
      refine (pss_cons (ps_ost (f := T.nms.att n) p0 pj rfl) ih).weak fun D σ H ⟨a, C, ws, h1, h2, h3, h4, h5, h6⟩ => ?_
      cases ws with
      | nil => cases h4
      | cons y0 ws =>
        have h4' : ws.length = ns.length := by simpa using h4
        have hj := h5 0 y0 rfl
        have h5' : ∀ i y, ws[i]? = some y → σ[j + 1 + i]? = some (some y) := fun i y q => by
          have := h5 (i + 1) y (by simpa using q)
          rw [show j + 1 + i = j + (i + 1) by omega]
          exact this
        refine ⟨y0, hj, .ref a, h1, a, C, rfl, h2, h3 n c1, ?_⟩
        rcases h6 with ⟨q1, _, q3, q4⟩ | ⟨d, fs, q1, q2, q3, q4, q5⟩
        · refine .inl ⟨q1, fun d hd hne => ⟨a, C, ws, h1, h2, h3, h4', h5', .inr ⟨d, [(T.nms.att n, y0)], hne, upd_same, by rw [upd_ne hne, upd_same], by simp at q3 ⊢; omega, ?_⟩⟩⟩
          have := q4 d hd hne
          rw [fsX_cons] at this
          rw [upd_swap (Ne.symm hne), upd_upd]
          exact this
        · refine .inr ⟨d, fs, q2, q3, by simp at q4; omega, a, C, ws, h1, h2, h3, h4', h5', .inr ⟨d, (T.nms.att n, y0) :: fs, q1, by rw [upd_ne (Ne.symm q1)]; exact q2, upd_same, by simp at q4 ⊢; omega, ?_⟩⟩
          rw [fsX_cons, List.append_assoc] at q5
          rw [upd_upd]
          exact q5
    · cases h
end
/-- an exception's __init__ -/
theorem init_ok {prog : Program} {w : World} {K : PySem.W.Frag} {mg : Str → Option Value} {base : Heap} {T : Tab} {x qual : Str} {params : Arguments} {body : List Stmt} {scope : Scope} {f C : Addr} {fd : FuncData} {N : List Str} {g : Str} {ns : List Nat} (D : FunD K x qual params body scope [] [] f fd) (S : FnScope N N scope)
    (hl : N.length = ns.length + 1) (hn0 : ns ≠ []) (h9 : ns.length ≤ 900) (ok : exB T N scope g ns body = true) (F : GeF K mg g) (O : OexC K C) (hno : ∀ n, n < T.natt → PySem.W.findIn K (.ref C) (T.nms.att n) = some none) : FnOk prog w K mg base (L2.CX prog w) 1 f fd N (spX T C ns) := by
  unfold exB at ok
  split at ok
  rotate_left
  · cases ok
  rename_i g' gp fn p2 s0 sp cs cj cp pos ep r
  simp only [Bool.and_eq_true, beq_iff_eq] at ok
  obtain ⟨rfl, rfl, g1, g2, a1, a2, a3, hline, has⟩ := ok
  refine D.ok S (fun vs H Q E h => ?_) fun cdv A outer s H vs Q E hr h => ?_
  · obtain ⟨a, ws, rfl, h1, _⟩ := h
    rw [List.length_cons, h1, hl]
  · generalize hX : cxOf (L2.CX prog w) prog w K mg base N qual scope f cdv A outer s H E = X
    have eN : X.N = N := by rw [← hX]; rfl
    have esc : X.env.scope = scope := by rw [← hX]; rfl
    have eK : X.K = K := by rw [← hX]; rfl
    have emg : X.mg = mg := by rw [← hX]; rfl
    have p0 : PE X (.Name s0 sp) (tVar 0) := pe_var (by rw [eN]; exact a1) (by rw [esc]; exact vis_ok a2) (nm_ok a3).1 (nm_ok a3).2
    have hgl : Gl X g' := by unfold glB at g1; rw [← esc] at g1; exact eq_of_beq g1
    have pe := e_geinit (p1 := gp) (p2 := p2) (pos := pos) (by rw [eK, emg]; exact F) hgl (nm_ok g2).1 (pa_cons p0 (pa_cons (pe_str (x := cs) (j := cj) (pos := cp)) pa_nil rfl) rfl) rfl rfl (by simpa using hline)
    refine ⟨_, pss_cons (ps_expr (pos := ep) pe rfl) (xa_ok eN esc ns 1 r has), ?_⟩
    obtain ⟨a, ws, rfl, h1, h2, h3⟩ := h
    refine ⟨.ref a, rfl, a, C, [.str cs], rfl, by simp, by rw [eK]; exact O, h2, a, C, ws, rfl, by rw [eK]; exact O, by rw [eK]; exact hno, h1, fun i y hy => ?_, .inl ⟨h2, hn0, h9, h3⟩⟩
    unfold L2.start
    have hi : i < ws.length := (List.getElem?_eq_some_iff.mp hy).1
    rw [List.getElem?_append_left (by simp; omega), List.getElem?_map, Nat.add_comm, List.getElem?_cons_succ, hy]
    rfl
end KG

set_option linter.all false
set_option maxRecDepth 100000
/-! K0t: a program's text as lists. -/
namespace KG
open PySem

/-- where a def stands: a global, a method, a property's getter -/
inductive Loc where | g (x : Str) | m (C x : Str) | p (C x : Str)
structure FRow where
  id : Nat
  loc : Loc
  ps : List Str
  N : List Str
  fn : Fn
structure Txt where
  fns : List FRow
  cls : List (Nat × Str)
  exc : List (Nat × Str)
  meth : List (Nat × Nat × Nat)
  prop : List (Nat × Nat × Nat)
  init : List (Nat × Nat)
  glob : List (Nat × Str × X)
  sub : List (Nat × Nat)
  flds : List (Nat × List Str × List Nat)
  atts : List Str
def find2 : List (Nat × Nat × Nat) → Nat → Nat → Option Nat
  | [], _, _ => none
  | (a, b, c) :: r, x, y => if a = x ∧ b = y then some c else find2 r x y
theorem find2_mem : ∀ {l : List (Nat × Nat × Nat)} {x y z : Nat}, find2 l x y = some z → (x, y, z) ∈ l
  | (a, b, c) :: r, x, y, z, h => by
    unfold find2 at h
    split at h
    · rename_i e
      obtain ⟨rfl, rfl⟩ := e
      cases h
      exact List.mem_cons_self
    · exact List.mem_cons_of_mem _ (find2_mem h)
def findN {α : Type} : List (Nat × α) → Nat → Option α
  | [], _ => none
  | (a, v) :: r, x => if a = x then some v else findN r x
theorem findN_mem {α : Type} : ∀ {l : List (Nat × α)} {x : Nat} {v : α}, findN l x = some v → (x, v) ∈ l
  | (a, w) :: r, x, v, h => by
    unfold findN at h
    split at h
    · rename_i e
      subst e
      cases h
      exact List.mem_cons_self
    · exact List.mem_cons_of_mem _ (findN_mem h)
def findF : List FRow → Nat → Option FRow
  | [], _ => none
  | a :: r, x => if a.id = x then some a else findF r x
theorem findF_mem : ∀ {l : List FRow} {x : Nat} {v : FRow}, findF l x = some v → v ∈ l ∧ v.id = x
  | a :: r, x, v, h => by
    unfold findF at h
    split at h
    · rename_i e
      cases h
      exact ⟨List.mem_cons_self, e⟩
    · exact ⟨List.mem_cons_of_mem _ (findF_mem h).1, (findF_mem h).2⟩
namespace Txt
variable (t : Txt)
def prg : Prg where
  fn f := (findF t.fns f).map (·.fn)
  meth := find2 t.meth
  prop := find2 t.prop
  init := findN t.init
  glob g := (findN t.glob g).map (·.2)
  sub c d := t.sub.contains (c, d)
  flds c := ((findN t.flds c).map (·.2)).getD []
end Txt
end KG

set_option linter.all false
set_option maxRecDepth 100000
set_option maxHeartbeats 4000000
/-! K1y: a text's tables. -/
namespace KG
open PySem PySem.Spec PyProof.Rows L2

namespace Txt
variable (t : Txt)
/-- a name that no text has -/
def far (n : Nat) : Str := ⟨#[2000000 + n]⟩
def att (n : Nat) : Str := (t.atts[n]?).getD (far n)
def isFar (x : Str) : Bool := match x.cps.toList with
  | [c] => decide (2000000 ≤ c)
  | _ => false
def attB : Bool := decide t.atts.Nodup && t.atts.all fun x => !isFar x
theorem att_inj (h : t.attB = true) (n m : Nat) (e : t.att n = t.att m) : n = m := by
  obtain ⟨h1, h2⟩ := Bool.and_eq_true_iff.mp h
  have nd := of_decide_eq_true h1
  have nf : ∀ i x, t.atts[i]? = some x → ∀ k, x ≠ far k := fun i x q k z => by
    have := List.all_eq_true.mp h2 x (List.mem_of_getElem? q)
    rw [z] at this
    simp [isFar, far] at this
  unfold att at e
  cases a : t.atts[n]? with
  | none =>
    cases b : t.atts[m]? with
    | none =>
      rw [a, b] at e
      have e : far n = far m := e
      unfold far at e
      simpa using e
    | some y => rw [a, b] at e; exact absurd e.symm (nf m y b n)
  | some x =>
    cases b : t.atts[m]? with
    | none => rw [a, b] at e; exact absurd e (nf n x a m)
    | some y =>
      rw [a, b] at e
      have e : x = y := e
      subst e
      exact (List.getElem?_inj (List.getElem?_eq_some_iff.mp a).1 nd).mp (a.trans b.symm)
/-- the address of a def -/
def adr (K : PySem.W.Frag) : Loc → Addr
  | .g x => He.ga K x
  | .m C x => He.ma K (He.ga K C) x
  | .p C x => (match PySem.W.recIn K (He.ma K (He.ga K C) x) "property" with
    | some (.ref g :: _) => g
    | _ => 0)
def tab (K : PySem.W.Frag) : Tab where
  fnm f := (findF t.fns f).bind fun r => match r.loc with
    | .g x => some x
    | _ => none
  fad f := (findF t.fns f).map fun r => adr K r.loc
  cnm := findN t.cls
  gnm g := (findN t.glob g).map (·.1)
  xnm := findN t.exc
  xad c := (findN t.exc c).map (He.ga K)
  natt := t.atts.length
  nms := ⟨fun c => (findN t.cls c).map (He.ga K), t.att⟩
end Txt
end KG

set_option linter.all false
set_option maxRecDepth 100000
set_option maxHeartbeats 4000000
/-! K1z: the link check. -/
namespace KG
open PySem PySem.Spec PyProof.Rows L2

section
variable {K : PySem.W.Frag} {t : Txt} {N ps : List Str} {sc : Scope}
/-- a def's scope, for these slots and parameters -/
def scB (N ps : List Str) (sc : Scope) : Bool := sc.kind == .function && (!sc.isCoroutine && (!sc.isGenerator && (decide N.Nodup && (decide (N.take ps.length = ps) && (ps.all (fun x => sc.names.lookup x == some .local || sc.names.lookup x == some .cell) && sc.names.all fun y => !(y.2 == .free))))))
theorem scB_ok (h : scB N ps sc = true) : FnScope N ps sc := by
  unfold scB at h
  simp only [Bool.and_eq_true, beq_iff_eq, Bool.not_eq_true', decide_eq_true_eq, List.all_eq_true, Bool.or_eq_true, beq_eq_false_iff_ne] at h
  obtain ⟨h1, h2, h3, h4, h5, h6, h7⟩ := h
  exact ⟨h1, h2, h3, h4, h5, h6, h7⟩
def defA (a : Addr) (x q : Str) (ps : Arguments) (body : List Stmt) (sc : Scope) : He5.DefA := ⟨fun _ => a, x, q, ps, body, sc, [], []⟩
/-- the function at a, by what it holds -/
def funB (K : PySem.W.Frag) (a : Addr) (f : Str → Str → Arguments → List Stmt → Scope → Bool) : Bool := match He5.fnA K a with
  | some (x, q, ps, .stmts body, sc, g, cl, b) => decide (g = mainGlobals) && (cl.isEmpty && (decide (b = builtinsNs) && ((defA a x q ps body sc).ok K && f x q ps body sc)))
  | _ => false
theorem funB_ok {a : Addr} {f : Str → Str → Arguments → List Stmt → Scope → Bool} (h : funB K a f = true) : ∃ x q ps body sc fd, FunD K x q ps body sc [] [] a fd ∧ f x q ps body sc = true := by
  unfold funB at h
  split at h
  · rename_i x q ps body sc g cl b e
    simp only [Bool.and_eq_true, decide_eq_true_eq, List.isEmpty_iff] at h
    obtain ⟨rfl, rfl, rfl, h4, h5⟩ := h
    obtain ⟨fd, F⟩ := He5.DefA.funD (d := defA a x q ps body sc) e h4
    exact ⟨x, q, ps, body, sc, fd, F, h5⟩
  · cases h
/-- one def is what its row says -/
def rowB (K : PySem.W.Frag) (t : Txt) (r : FRow) : Bool := funB K (Txt.adr K r.loc) fun _ _ ps body sc =>
  argsB ps r.ps && (decide r.ps.Nodup && (scB r.N r.ps sc && (r.fn.ns == r.N.length && (r.fn.np == r.ps.length && okSs t.prg (t.tab K) r.N sc r.fn.body body))))
theorem fad_row {f : Nat} {a : Addr} (h : (t.tab K).fad f = some a) : ∃ r, findF t.fns f = some r ∧ a = Txt.adr K r.loc := by
  obtain ⟨r, h1, h2⟩ := Option.map_eq_some_iff.mp (show (findF t.fns f).map (fun r => Txt.adr K r.loc) = some a from h)
  exact ⟨r, h1, h2.symm⟩
/-- every row that looks right gives the def's promise, one level up -/
theorem row_ok {prog : Program} {w : World} {mg : Str → Option Value} {base : Heap} {k lv : Nat} {r : FRow} (h : rowB K t r = true) (hr : findF t.fns r.id = some r) (L : Lnk prog w K mg base (t.tab K) t.prg k lv) (LX : LnkX prog w K mg base (t.tab K) t.prg lv) :
    ∃ fd ps, FnOk prog w K mg base (L2.CX prog w) (lv + 2) (Txt.adr K r.loc) fd ps (spF K (t.tab K) t.prg (k + 1) r.id) ∧ Binds K fd ps [] := by
  obtain ⟨x, q, ps, body, sc, fd, F, h⟩ := funB_ok h
  simp only [Bool.and_eq_true, decide_eq_true_eq, beq_iff_eq] at h
  obtain ⟨h1, h2, h3, h4, h5, h6⟩ := h
  refine ⟨fd, r.ps, fn_ok F (scB_ok h3) (show (findF t.fns r.id).map (·.fn) = some r.fn by rw [hr]; rfl) h4 h5 h6 L LX, F.bindsN fun kV doc pm an cdv ct us hl => bind_ok' h1 h2 kV doc pm an cdv ct us hl⟩

theorem and6 {a b : Bool} (h : (a && b) = true) : a = true ∧ b = true := Bool.and_eq_true_iff.mp h
/-! ### ordinary classes -/
def gloB (K : PySem.W.Frag) (x : Str) : Bool := He.eqO (PySem.W.nsIn K mainGlobals x) (some (some (.ref (He.ga K x))))
def cliB (K : PySem.W.Frag) (C : Addr) : Bool := He.eqO (PySem.W.findIn K (.ref C) "__class__") (some (some (.builtin "object.__class__"))) && (He.eqO (PySem.W.specialIn K (.builtin "object.__class__") "__get__") (some (some (.builtin "getset_descriptor.__get__"))) &&
  (decide (PySem.W.takesIn K (.builtin "object.__class__") = some true) && decide (PySem.W.mroIn K C (.type "object") = some true)))
theorem cliB_ok {C : Addr} (h : cliB K C = true) : ClsI K C := by
  obtain ⟨h1, h⟩ := and6 h
  obtain ⟨h2, h⟩ := and6 h
  obtain ⟨h3, h4⟩ := and6 h
  exact ⟨He.eqO_ok h1, He.eqO_ok h2, of_decide_eq_true h3, of_decide_eq_true h4⟩
def clsB (K : PySem.W.Frag) (x : Str) : Bool := gloB K x && ((He.Fa.cls x).ok K && cliB K (He.ga K x))
/-- a method -/
def methB (K : PySem.W.Frag) (t : Txt) (q : Nat × Nat × Nat) : Bool := match findN t.cls q.1, findF t.fns q.2.2 with
  | some x, some r => He.eqO (PySem.W.findIn K (.ref (He.ga K x)) (t.att q.2.1)) (some (some (.ref (Txt.adr K r.loc)))) && (PySem.W.isFn K (.ref (Txt.adr K r.loc)) && PySem.W.keepIn K (.ref (Txt.adr K r.loc)))
  | _, _ => false
def propB (K : PySem.W.Frag) (t : Txt) (q : Nat × Nat × Nat) : Bool := match findN t.cls q.1, findF t.fns q.2.2 with
  | some x, some r => He.eqO (PySem.W.findIn K (.ref (He.ga K x)) (t.att q.2.1)) (some (some (.ref (He.ma K (He.ga K x) (t.att q.2.1))))) && (He.eqO (PySem.W.specialIn K (.ref (He.ma K (He.ga K x) (t.att q.2.1))) "__get__") (some (some (.builtin "property.__get__"))) &&
      (decide (PySem.W.takesIn K (.ref (He.ma K (He.ga K x) (t.att q.2.1))) = some true) && (match PySem.W.recIn K (He.ma K (He.ga K x) (t.att q.2.1)) "property" with
        | some (.ref g :: _) => decide (g = Txt.adr K r.loc)
        | _ => false)))
  | _, _ => false
def initB (K : PySem.W.Frag) (t : Txt) (q : Nat × Nat) : Bool := match findN t.cls q.1, findF t.fns q.2 with
  | some x, some r => PySem.W.makesIn K (He.ga K x) && (He.eqO (PySem.W.findIn K (.ref (He.ga K x)) "__init__") (some (some (.ref (Txt.adr K r.loc)))) && (PySem.W.isFn K (.ref (Txt.adr K r.loc)) && PySem.W.keepIn K (.ref (He.ga K x))))
  | _, _ => false
/-- a field's name is no class's -/
def fldB (K : PySem.W.Frag) (t : Txt) (q : Nat × Str) : Bool := (List.range t.atts.length).all fun m => (find2 t.meth q.1 m).isSome || ((find2 t.prop q.1 m).isSome || He.eqO (PySem.W.findIn K (.ref (He.ga K q.2)) (t.att m)) (some none))
def subB (K : PySem.W.Frag) (t : Txt) : Bool := t.cls.all fun p => t.cls.all fun q => decide (PySem.W.kitOne K (.ref (He.ga K p.2)) (.ref (He.ga K q.2)) = some (t.sub.contains (p.1, q.1)))
def fnmB (K : PySem.W.Frag) (r : FRow) : Bool := match r.loc with
  | .g x => gloB K x && PySem.W.keepIn K (.ref (He.ga K x))
  | _ => true
/-- a plain value, as the machine has it -/
def toV : Val → V
  | .bool b => .bl b
  | .int i => .int i
  | .str s => .str ⟨s.toArray⟩
  | _ => .non
def plB : Val → Value → Bool
  | .none, .none => true
  | .bool a, .bool b => a == b
  | .int a, .int b _ => decide (b = a)
  | .str s, .str x _ => decide (x = ⟨s.toArray⟩) && s.all fun c => decide (c < 1114112)
  | _, _ => false
def plsB : List Val → List Value → Bool
  | [], [] => true
  | v :: vs, u :: us => plB v u && plsB vs us
  | _, _ => false
theorem plB_ok {M : Nms} {v : Val} {u : Value} (h : plB v u = true) : RelV (toV v) u ∧ ∀ F H, VR M F H v (toV v) := by
  unfold plB at h
  split at h
  · exact ⟨rfl, fun _ _ => VR.none_i.mpr rfl⟩
  · rename_i a b
    have : a = b := by simpa using h
    subst this
    exact ⟨rfl, fun _ _ => VR.bool_i.mpr rfl⟩
  · cases of_decide_eq_true h
    exact ⟨⟨_, rfl⟩, fun _ _ => VR.int_i.mpr rfl⟩
  · obtain ⟨h1, h2⟩ := and6 h
    cases of_decide_eq_true h1
    exact ⟨⟨_, rfl⟩, fun _ _ => VR.str_i.mpr ⟨rfl, fun c hc => of_decide_eq_true (List.all_eq_true.mp h2 c hc)⟩⟩
  · cases h
theorem plsB_ok {M : Nms} : ∀ {vs : List Val} {us : List Value}, plsB vs us = true → Vals (vs.map toV) us ∧ ∀ F H, Paired (VR M F H) vs (vs.map toV)
  | [], [], _ => ⟨.nil, fun _ _ => .nil⟩
  | v :: vs, u :: us, h => by
    obtain ⟨h1, h2⟩ := and6 (show (plB v u && plsB vs us) = true from h)
    exact ⟨.cons (plB_ok (M := M) h1).1 (plsB_ok (M := M) h2).1, fun F H => .cons ((plB_ok h1).2 F H) ((plsB_ok h2).2 F H)⟩
/-- a constant of the module -/
def glbB (K : PySem.W.Frag) (q : Nat × Str × X) : Bool := match PySem.W.nsIn K mainGlobals q.2.1 with
  | some (some u) => (match q.2.2 with
    | .v v => plB v u
    | .k vs => (match u with
      | .ref a => (match K.lookup a with
        | some ⟨.type "tuple", _, .seq its _, _⟩ => decide (its.size ≤ sizeLine) && plsB vs its.toList
        | _ => false)
      | _ => false)
    | _ => false)
  | _ => false
theorem glbB_ok {K : PySem.W.Frag} {h : Heap} {mg : Str → Option Value} {M : Nms} (hK : K.In h) (hG : h.Ns mainGlobals mg) {q : Nat × Str × KG.X} (c : glbB K q = true) : ∃ u v, mg q.2.1 = some u ∧ RelV v u ∧ ∀ G μ H, XR K M G μ H q.2.2 v := by
  unfold glbB at c
  split at c
  rotate_left
  · cases c
  rename_i u e
  have hm := PySem.W.mg_of hK hG e
  generalize q.2.2 = o at c ⊢
  cases o with
  | v a => exact ⟨u, _, hm, (plB_ok (M := M) c).1, fun G μ H => (plB_ok c).2 _ _⟩
  | r n => cases c
  | k vs =>
    simp only at c
    split at c
    rotate_left
    · cases c
    rename_i a
    split at c
    rotate_left
    · cases c
    rename_i od its n sl e2
    obtain ⟨c1, c2⟩ := and6 c
    exact ⟨_, .ref a, hm, rfl, fun G μ H => ⟨a, vs.map toV, rfl, ⟨_, its, n, e2, rfl, rfl, of_decide_eq_true c1, (plsB_ok (M := M) c2).1⟩, (plsB_ok c2).2 _ _⟩⟩
end
section
variable {K : PySem.W.Frag} {t : Txt} {h : Heap} {mg : Str → Option Value}
theorem clsN {c : Nat} {C : Addr} (e : (t.tab K).nms.cls c = some C) : ∃ x, findN t.cls c = some x ∧ C = He.ga K x := by
  obtain ⟨x, h1, h2⟩ := Option.map_eq_some_iff.mp (show (findN t.cls c).map (He.ga K) = some C from e)
  exact ⟨x, h1, h2.symm⟩
theorem methB_ok (all : t.meth.all (methB K t) = true) {c m f : Nat} {C : Addr} (e : (t.tab K).nms.cls c = some C) (q : t.prg.meth c m = some f) : ∃ a, (t.tab K).fad f = some a ∧ Meth K C (t.att m) a := by
  have h := List.all_eq_true.mp all _ (find2_mem (show find2 t.meth c m = some f from q))
  obtain ⟨x, hx, rfl⟩ := clsN e
  unfold methB at h
  simp only [hx] at h
  split at h
  · rename_i y r e1 e2
    cases e1
    obtain ⟨h1, h⟩ := and6 h
    obtain ⟨h2, h3⟩ := and6 h
    exact ⟨_, show (findF t.fns f).map (fun r => Txt.adr K r.loc) = _ by rw [e2]; rfl, He.eqO_ok h1, h2, h3⟩
  · cases h
theorem propB_ok (all : t.prop.all (propB K t) = true) {c m f : Nat} {C : Addr} (e : (t.tab K).nms.cls c = some C) (q : t.prg.prop c m = some f) : ∃ p a, (t.tab K).fad f = some a ∧ PropOf K C (t.att m) p a := by
  have h := List.all_eq_true.mp all _ (find2_mem (show find2 t.prop c m = some f from q))
  obtain ⟨x, hx, rfl⟩ := clsN e
  unfold propB at h
  simp only [hx] at h
  split at h
  · rename_i y r e1 e2
    cases e1
    obtain ⟨h1, h⟩ := and6 h
    obtain ⟨h2, h⟩ := and6 h
    obtain ⟨h3, h4⟩ := and6 h
    refine ⟨_, _, show (findF t.fns f).map (fun r => Txt.adr K r.loc) = _ by rw [e2]; rfl, He.eqO_ok h1, He.eqO_ok h2, of_decide_eq_true h3, ?_⟩
    split at h4
    · rename_i g rest e4
      exact ⟨rest, by rw [e4, of_decide_eq_true h4]⟩
    · cases h4
  · cases h
theorem initB_ok (all : t.init.all (initB K t) = true) {c f : Nat} {C : Addr} (e : (t.tab K).nms.cls c = some C) (q : t.prg.init c = some f) : ∃ a, (t.tab K).fad f = some a ∧ Mk K C a := by
  have h := List.all_eq_true.mp all _ (findN_mem (show findN t.init c = some f from q))
  obtain ⟨x, hx, rfl⟩ := clsN e
  unfold initB at h
  simp only [hx] at h
  split at h
  · rename_i y r e1 e2
    cases e1
    obtain ⟨h1, h⟩ := and6 h
    obtain ⟨h2, h⟩ := and6 h
    obtain ⟨h3, h4⟩ := and6 h
    exact ⟨_, show (findF t.fns f).map (fun r => Txt.adr K r.loc) = _ by rw [e2]; rfl, h1, He.eqO_ok h2, h3, h4⟩
  · cases h
theorem fldB_ok (all : t.cls.all (fldB K t) = true) {c m : Nat} {C : Addr} (e : (t.tab K).nms.cls c = some C) (hm : m < (t.tab K).natt) (q1 : t.prg.meth c m = none) (q2 : t.prg.prop c m = none) : NoAttr K C (t.att m) := by
  obtain ⟨x, hx, rfl⟩ := clsN e
  have h := List.all_eq_true.mp (List.all_eq_true.mp all _ (findN_mem hx)) m (List.mem_range.mpr hm)
  rw [show find2 t.meth c m = none from q1, show find2 t.prop c m = none from q2] at h
  exact He.eqO_ok (by simpa using h)
theorem subB_ok (h : subB K t = true) {c d : Nat} {C D : Addr} (e : (t.tab K).nms.cls c = some C) (e' : (t.tab K).nms.cls d = some D) : PySem.W.kitOne K (.ref C) (.ref D) = some (t.prg.sub c d) := by
  obtain ⟨x, hx, rfl⟩ := clsN e
  obtain ⟨y, hy, rfl⟩ := clsN e'
  exact of_decide_eq_true (List.all_eq_true.mp (List.all_eq_true.mp h _ (findN_mem hx)) _ (findN_mem hy))
end

/-! ### exceptions -/
def oexB (K : PySem.W.Frag) (C : Addr) : Bool := (match K.lookup C with
  | some ⟨.type "type", _, .cls ⟨_, _, .ref C' :: bm, _, _, true, _, _, _, _, false⟩, ⟨[_, _, _, _, some (.builtin n), _]⟩⟩ => decide (C' = C) && (decide (n = "ValueError.__new__") && PySem.HandSPX.refsVE bm)
  | _ => false) && (He.eqO (PySem.W.findIn K (.ref C) "__setattr__") (some (some (.builtin "object.__setattr__"))) && (decide (PySem.W.subIn K (.ref C) (.type "BaseException") = some true) && (decide (PySem.W.typeIn K (.ref C) = some (.type "type")) && PySem.W.keepIn K (.ref C))))
theorem oexB_ok {K : PySem.W.Frag} {C : Addr} (h : oexB K C = true) : OexC K C := by
  obtain ⟨h1, h⟩ := and6 h
  obtain ⟨h2, h⟩ := and6 h
  obtain ⟨h3, h⟩ := and6 h
  obtain ⟨h4, h5⟩ := and6 h
  refine ⟨?_, He.eqO_ok h2, of_decide_eq_true h3, of_decide_eq_true h4, h5⟩
  split at h1
  rotate_left
  · cases h1
  rename_i e
  obtain ⟨q1, q⟩ := and6 h1
  obtain ⟨q2, q3⟩ := and6 q
  have q1 := of_decide_eq_true q1
  have q2 := of_decide_eq_true q2
  subst q1 q2
  exact ⟨_, _, _, _, _, _, _, _, _, _, _, _, _, _, _, e, q3⟩

def geB (K : PySem.W.Frag) (g : Str) : Bool := gloB K g && (PySem.W.readsIn K (He.ga K g) (.type "type") && (He.eqO (PySem.W.specialIn K (.ref (He.ga K g)) "__getattribute__") (some (some (.builtin "type.__getattribute__"))) &&
  (match PySem.W.findCls K (.ref (He.ga K g)) (.type "type") "__init__" with
    | some (.val (.builtin n)) => decide (n = "ValueError.__init__")
    | _ => false)))
theorem geB_ok {K : PySem.W.Frag} {h : Heap} {mg : Str → Option Value} (hK : K.In h) (hG : h.Ns mainGlobals mg) {g : Str} (c : geB K g = true) : GeF K mg g := by
  obtain ⟨h1, c⟩ := and6 c
  obtain ⟨h2, c⟩ := and6 c
  obtain ⟨h3, h4⟩ := and6 c
  refine ⟨_, _, PySem.W.mg_of hK hG (He.eqO_ok h1), h2, He.eqO_ok h3, ?_⟩
  split at h4
  · rename_i n e
    rw [e, of_decide_eq_true h4]
  · cases h4
/-- an exception's own __init__ -/
def exiB (K : PySem.W.Frag) (t : Txt) (q : Nat × List Str × List Nat) : Bool := match findN t.exc q.1 with
  | some x => He.eqO (PySem.W.findIn K (.ref (He.ga K x)) "__init__") (some (some (.ref (He.ma K (He.ga K x) "__init__")))) && (decide (PySem.W.typeIn K (.ref (He.ma K (He.ga K x) "__init__")) = some (.type "function")) &&
      (decide q.2.2.Nodup && (decide (q.2.1.length = q.2.2.length + 1) && (decide (q.2.2.length ≤ 900) && funB K (He.ma K (He.ga K x) "__init__") fun _ _ a body sc => argsB a q.2.1 && (decide q.2.1.Nodup && (scB q.2.1 q.2.1 sc &&
        t.exc.any fun e => exB (t.tab K) q.2.1 sc e.2 q.2.2 body && geB K e.2))))))
  | none => false
def excB (K : PySem.W.Frag) (t : Txt) (q : Nat × Str) : Bool := gloB K q.2 && (xfB K (He.ga K q.2) && (oexB K (He.ga K q.2) && ((PySem.W.clsIn K (He.ga K q.2)).isSome && (cliB K (He.ga K q.2) && ((List.range t.atts.length).all (fun m => He.eqO (PySem.W.findIn K (.ref (He.ga K q.2)) (t.att m)) (some none)) &&
  (decide (PySem.W.kitOne K (.ref (He.ga K q.2)) (.type "ValueError") = some true) && t.exc.all fun p => decide (PySem.W.exmOne K (.ref (He.ga K q.2)) (.ref (He.ga K p.2)) = some (t.sub.contains (q.1, p.1))) && decide (PySem.W.kitOne K (.ref (He.ga K q.2)) (.ref (He.ga K p.2)) = some (t.sub.contains (q.1, p.1)))))))))
/-- the whole check -/
def chk (K : PySem.W.Frag) (t : Txt) : Bool := t.attB && (t.fns.all (rowB K t) && (t.fns.all (fnmB K) && (t.cls.all (fun q => clsB K q.2) && (t.meth.all (methB K t) && (t.prop.all (propB K t) && (t.init.all (initB K t) && (t.cls.all (fldB K t) && (subB K t &&
  (t.glob.all (glbB K) && (blts.all (fun x => He.eqO (PySem.W.nsIn K mainGlobals x) (some none)) && (t.exc.all (excB K t) && t.flds.all (exiB K t))))))))))))

section
variable {K : PySem.W.Frag} {t : Txt} {h : Heap} {mg : Str → Option Value} {prog : Program} {w : World} {base : Heap}
theorem excN {c : Nat} {C : Addr} (e : (t.tab K).xad c = some C) : ∃ x, findN t.exc c = some x ∧ C = He.ga K x := by
  obtain ⟨x, h1, h2⟩ := Option.map_eq_some_iff.mp (show (findN t.exc c).map (He.ga K) = some C from e)
  exact ⟨x, h1, h2.symm⟩
/-- all but the defs' own promises -/
theorem lnk_of (hK : K.In h) (hG : h.Ns mainGlobals mg) (c : chk K t = true) {n lv : Nat} (fn : ∀ f a, (t.tab K).fad f = some a → ∃ fd ps, FnOk prog w K mg base (L2.CX prog w) lv a fd ps (spF K (t.tab K) t.prg n f) ∧ Binds K fd ps []) :
    Lnk prog w K mg base (t.tab K) t.prg n lv := by
  obtain ⟨c1, c⟩ := and6 c
  obtain ⟨c2, c⟩ := and6 c
  obtain ⟨c3, c⟩ := and6 c
  obtain ⟨c4, c⟩ := and6 c
  obtain ⟨c5, c⟩ := and6 c
  obtain ⟨c6, c⟩ := and6 c
  obtain ⟨c7, c⟩ := and6 c
  obtain ⟨c8, c⟩ := and6 c
  obtain ⟨c9, c⟩ := and6 c
  obtain ⟨c10, c⟩ := and6 c
  obtain ⟨c11, c⟩ := and6 c
  have cl : ∀ c x, findN t.cls c = some x → clsB K x = true := fun c x e => List.all_eq_true.mp c4 _ (findN_mem e)
  refine ⟨fn, fun f x e => ?_, fun k C e => ?_, fun k x e => ?_, fun k C m f e q => methB_ok c5 e q, fun k C m f e q => propB_ok c6 e q, fun k C m e hm q1 q2 => fldB_ok c8 e hm q1 q2, fun k C f e q => initB_ok c7 e q, fun k d C D e e' => subB_ok c9 e e', Txt.att_inj t c1, fun g x o e q => ?_, fun x hx => ?_⟩
  · obtain ⟨r, h1, h2⟩ := Option.bind_eq_some_iff.mp (show ((findF t.fns f).bind fun r => match r.loc with
      | .g x => some x
      | _ => none) = some x from e)
    have q := List.all_eq_true.mp c3 r (findF_mem h1).1
    unfold fnmB at q
    split at h2
    · rename_i y hy
      cases h2
      rw [hy] at q
      obtain ⟨q1, q2⟩ := and6 q
      refine ⟨He.ga K x, show (findF t.fns f).map (fun r => Txt.adr K r.loc) = _ by rw [h1]; show some (Txt.adr K r.loc) = _; rw [hy]; rfl, PySem.W.mg_of hK hG (He.eqO_ok q1), q2⟩
    · cases h2
  · obtain ⟨x, hx, rfl⟩ := clsN e
    obtain ⟨_, q⟩ := and6 (cl k x hx)
    obtain ⟨q1, q2⟩ := and6 q
    exact ⟨He.cls_ok q1, cliB_ok q2⟩
  · have hx : findN t.cls k = some x := e
    obtain ⟨q, _⟩ := and6 (cl k x hx)
    exact ⟨He.ga K x, show (findN t.cls k).map (He.ga K) = _ by rw [hx]; rfl, PySem.W.mg_of hK hG (He.eqO_ok q)⟩
  · obtain ⟨⟨y, o'⟩, h1, h2⟩ := Option.map_eq_some_iff.mp (show (findN t.glob g).map (·.1) = some x from e)
    have q : (findN t.glob g).map (·.2) = some o := q
    rw [h1] at q
    cases h2
    cases q
    exact glbB_ok hK hG (List.all_eq_true.mp c10 _ (findN_mem h1))
  · exact PySem.W.mg_none_of hK hG (He.eqO_ok (List.all_eq_true.mp c11 x hx))
theorem flds_find {c : Nat} (hne : t.prg.flds c ≠ []) : ∃ q, findN t.flds c = some q ∧ t.prg.flds c = q.2 := by
  have e : t.prg.flds c = ((findN t.flds c).map (·.2)).getD [] := rfl
  cases h : findN t.flds c with
  | none => rw [h] at e; exact absurd e hne
  | some q => rw [h] at e; exact ⟨q, rfl, e⟩
theorem lnkX_of (hK : K.In h) (hG : h.Ns mainGlobals mg) (c : chk K t = true) {lv : Nat} (h1l : 1 ≤ lv) : LnkX prog w K mg base (t.tab K) t.prg lv := by
  obtain ⟨_, c⟩ := and6 c
  obtain ⟨_, c⟩ := and6 c
  obtain ⟨_, c⟩ := and6 c
  obtain ⟨_, c⟩ := and6 c
  obtain ⟨_, c⟩ := and6 c
  obtain ⟨_, c⟩ := and6 c
  obtain ⟨_, c⟩ := and6 c
  obtain ⟨_, c⟩ := and6 c
  obtain ⟨_, c⟩ := and6 c
  obtain ⟨_, c⟩ := and6 c
  obtain ⟨_, c⟩ := and6 c
  obtain ⟨cx, ci⟩ := and6 c
  have ex : ∀ c x, findN t.exc c = some x → excB K t (c, x) = true := fun c x e => List.all_eq_true.mp cx _ (findN_mem e)
  have exf : ∀ c x, findN t.exc c = some x → ExF K (He.ga K x) := fun c x e => by
    obtain ⟨_, q⟩ := and6 (ex c x e)
    obtain ⟨q1, q⟩ := and6 q
    obtain ⟨q2, q⟩ := and6 q
    obtain ⟨q3, q⟩ := and6 q
    obtain ⟨q4, _⟩ := and6 q
    exact ⟨xfB_ok q1, oexB_ok q2, q3, cliB_ok q4⟩
  have noa : ∀ c x m, findN t.exc c = some x → m < t.atts.length → PySem.W.findIn K (.ref (He.ga K x)) (t.att m) = some none := fun c x m e hm => by
    obtain ⟨_, q⟩ := and6 (ex c x e)
    obtain ⟨_, q⟩ := and6 q
    obtain ⟨_, q⟩ := and6 q
    obtain ⟨_, q⟩ := and6 q
    obtain ⟨_, q⟩ := and6 q
    obtain ⟨q5, _⟩ := and6 q
    exact He.eqO_ok (List.all_eq_true.mp q5 m (List.mem_range.mpr hm))
  refine ⟨fun k x e => ?_, fun k C e => ?_, fun k C e hne => ?_, fun k => ?_, fun k C n e hm => ?_, fun k d C D e e' => ?_, fun k C e => ?_⟩
  · have hx : findN t.exc k = some x := e
    obtain ⟨q, _⟩ := and6 (ex k x hx)
    exact ⟨He.ga K x, show (findN t.exc k).map (He.ga K) = _ by rw [hx]; rfl, PySem.W.mg_of hK hG (He.eqO_ok q)⟩
  · obtain ⟨x, hx, rfl⟩ := excN e
    exact exf k x hx
  · obtain ⟨x, hx, rfl⟩ := excN e
    obtain ⟨q, hq, eq⟩ := flds_find hne
    have z := List.all_eq_true.mp ci _ (findN_mem hq)
    unfold exiB at z
    simp only [hx] at z
    obtain ⟨z1, z⟩ := and6 z
    obtain ⟨z2, z⟩ := and6 z
    obtain ⟨z3, z⟩ := and6 z
    obtain ⟨z4, z⟩ := and6 z
    obtain ⟨z5, z⟩ := and6 z
    obtain ⟨x', q', ps, body, sc, fd, F, z⟩ := funB_ok z
    obtain ⟨y1, z⟩ := and6 z
    obtain ⟨y2, z⟩ := and6 z
    obtain ⟨y3, z⟩ := and6 z
    obtain ⟨e0, _, z⟩ := List.any_eq_true.mp z
    obtain ⟨y4, y5⟩ := and6 z
    rw [eq]
    rw [eq] at hne
    exact ⟨_, fd, q.1, He.eqO_ok z1, of_decide_eq_true z2, (init_ok F (scB_ok y3) (of_decide_eq_true z4) hne (of_decide_eq_true z5) y4 (geB_ok hK hG y5) (exf k x hx).oex fun n hn => noa k x n hx hn).mono h1l,
      F.bindsN fun kV doc pm an cdv ct us hl => bind_ok' y1 (of_decide_eq_true y2) kV doc pm an cdv ct us hl⟩
  · by_cases hne : t.prg.flds k = []
    · rw [hne]; exact List.nodup_nil
    · obtain ⟨q, hq, eq⟩ := flds_find hne
      have z := List.all_eq_true.mp ci _ (findN_mem hq)
      unfold exiB at z
      split at z
      · obtain ⟨_, z⟩ := and6 z
        obtain ⟨_, z⟩ := and6 z
        obtain ⟨z3, _⟩ := and6 z
        rw [eq]
        exact of_decide_eq_true z3
      · cases z
  · obtain ⟨x, hx, rfl⟩ := excN e
    exact noa k x n hx hm
  · obtain ⟨x, hx, rfl⟩ := excN e
    obtain ⟨y, hy, rfl⟩ := excN e'
    obtain ⟨_, q⟩ := and6 (ex k x hx)
    obtain ⟨_, q⟩ := and6 q
    obtain ⟨_, q⟩ := and6 q
    obtain ⟨_, q⟩ := and6 q
    obtain ⟨_, q⟩ := and6 q
    obtain ⟨_, q⟩ := and6 q
    obtain ⟨_, q⟩ := and6 q
    obtain ⟨a, b⟩ := and6 (List.all_eq_true.mp q _ (findN_mem hy))
    exact ⟨of_decide_eq_true a, of_decide_eq_true b⟩
  · obtain ⟨x, hx, rfl⟩ := excN e
    obtain ⟨_, q⟩ := and6 (ex k x hx)
    obtain ⟨_, q⟩ := and6 q
    obtain ⟨_, q⟩ := and6 q
    obtain ⟨_, q⟩ := and6 q
    obtain ⟨_, q⟩ := and6 q
    obtain ⟨_, q⟩ := and6 q
    obtain ⟨q, _⟩ := and6 q
    exact of_decide_eq_true q
/-- EVERY DEPTH -/
theorem lnk_all (hK : K.In h) (hG : h.Ns mainGlobals mg) (c : chk K t = true) : ∀ k, Lnk prog w K mg base (t.tab K) t.prg k (2 * k + 1)
  | 0 => lnk_of hK hG c fun f a e => by
    obtain ⟨r, h1, rfl⟩ := fad_row e
    have hr := List.all_eq_true.mp (and6 (and6 c).2).1 r (findF_mem h1).1
    obtain ⟨x, q, ps, body, sc, fd, F, z⟩ := funB_ok hr
    obtain ⟨y1, z⟩ := and6 z
    obtain ⟨y2, _⟩ := and6 z
    have no : ∀ vs H Q E, ¬ spF K (t.tab K) t.prg 0 f vs H Q E := fun vs H Q E ⟨G, μ, st, as, _, _, P⟩ => P
    exact ⟨fd, r.ps, ⟨fun vs H Q E s => absurd s (no vs H Q E), fun A outer s H args us vs Q E _ _ _ _ z => absurd z (no vs H Q E)⟩, F.bindsN fun kV doc pm an cdv ct us hl => bind_ok' y1 (of_decide_eq_true y2) kV doc pm an cdv ct us hl⟩
  | k + 1 => lnk_of hK hG c fun f a e => by
    obtain ⟨r, h1, rfl⟩ := fad_row e
    obtain ⟨hm, hid⟩ := findF_mem h1
    have hr := List.all_eq_true.mp (and6 (and6 c).2).1 r hm
    subst hid
    exact row_ok hr h1 (lnk_all hK hG c k) (lnkX_of hK hG c (by omega))
end
end KG

set_option linter.all false
set_option maxRecDepth 100000
set_option maxHeartbeats 400000
/-! K2: the Hook of a head: the link check of what the names reach. -/
namespace KG
open PySem PySem.Spec PyProof.Rows L2

def isLst (o : Obj) : Bool := match o.cls with
  | .type n => decide (n = "list")
  | _ => false
def revR : Nat → List Nat
  | 0 => []
  | n + 1 => n :: revR n
/-- what stands at the first n addresses, without lists: the script is none of them -/
def fragL (n : Nat) (g : Addr → Option Obj) : PySem.W.Frag := (He.frG g (mainGlobals :: revR n)).filter fun q => !isLst q.2
theorem look_mem {K : PySem.W.Frag} {a : Addr} {o : Obj} (h : K.lookup a = some o) : (a, o) ∈ K := by
  obtain ⟨l1, l2, e, _⟩ := List.lookup_eq_some_iff.mp h
  rw [e]
  exact List.mem_append_right _ List.mem_cons_self
theorem frag_at {n : Nat} {g : Addr → Option Obj} {a : Addr} {o : Obj} (h : (fragL n g).lookup a = some o) : g a = some o ∧ isLst o = false := by
  obtain ⟨h1, h2⟩ := List.mem_filter.mp (look_mem h)
  refine ⟨?_, by simpa using h2⟩
  unfold He.frG at h1
  obtain ⟨b, _, e⟩ := List.mem_filterMap.mp h1
  obtain ⟨u, hu, e⟩ := Option.map_eq_some_iff.mp e
  cases e
  exact hu
structure Says (t : Txt) (K : PySem.W.Frag) : Prop where
  ok : chk K t = true
  nol : ∀ a o, K.lookup a = some o → isLst o = false
def hookK (n : Nat) (t : Txt) : PySem.W.Hook where
  α := Bool
  obs := fun s => chk (fragL n s.heap.get?) t
  val := fun _ => true
  says := fun _ h => ∃ K : PySem.W.Frag, K.In h ∧ Says t K
  of := fun _ s e => ⟨fragL n s.heap.get?, fun _ _ q => (frag_at q).1, e, fun _ _ q => (frag_at q).2⟩
  keeps := fun _ _ _ ⟨K, hK, c⟩ k => ⟨K, PySem.W.Frag.In.keeps hK k, c⟩
theorem hookK_eq {n : Nat} {t : Txt} {g : Addr → Option Obj} {s : Shared} (h : ∀ a, g a = s.heap.get? a) : chk (fragL n g) t = (hookK n t).obs s := by
  have e : g = s.heap.get? := funext h
  rw [e]
  rfl
end KG

set_option linter.all false
set_option maxRecDepth 100000
set_option maxHeartbeats 4000000
/-! J1: a law's end. -/
namespace KG
open PySem PySem.Spec PyProof.Rows L2
/-- a law, its written part, its promise over every base, its exceptions' form at a world -/
theorem walk_ofW {l : PySem.W.OpenLaw} {n k : Nat} {q : Program} {loose : List Str} {XP : (Str → Option Value) → Heap → Prop} {YP : World → Heap → Prop} {d : DefRec}
    (hn : l.most = some n) (hn2 : n ≤ sizeLine) (hdf : d.params.defaults = []) (hr : Room k callerA)
    (F : ∀ (w : World) (mg : Str → Option Value) (fa : Addr) (h : Heap), YP w h → h.Ns mainGlobals mg → mg d.name = some (.ref fa) →
      ∃ (K : PySem.W.Frag) (fd : FuncData) (sp : Sp) (x : Str), K.In h ∧ (∀ (s : Shared) (u : Value), BindsTo s fd ⟨[u], []⟩ [(x, u)]) ∧
        (∀ (H : Hp) (a : Addr) (ns : List Int), ns.length ≤ n → Only H → SqL K H a (ns.map V.int) → sp [.ref a] H (fun v _ => v = .bl true) fun _ _ _ => False) ∧
        ∀ base : Heap, K.In base → base.Ns mainGlobals mg → FnOk l.prog w K mg base (L2.CX l.prog w) k fa fd [x] sp) :
    PySem.W.WalkO q loose XP YP l.row.toRowW d [] (fun f vs => PySem.call f vs) := by
  refine Att.attach_call hn hdf fun w s₀ s₁ mg mb fa o pm cd doc a vs ns G Y ho hd hcd hmg hobj hints hlen hg => ?_
  obtain ⟨K, fd, sp, x, KX, hb, hsp, hF⟩ := F w mg fa _ Y G.T.g hmg
  exact law_call KX G.T.g G.T.b G.T.builtins G.T.nolimit hg hobj hints (Nat.le_trans hlen hn2) hr hF hb (fun H hO hS => hsp H a ns hlen hO hS) fun H e s' z => by
    obtain ⟨_, _, _, _, _, _, _, _, _, _, _, _, z⟩ := z
    exact z
theorem ints_VR {M : Nms} {F : Addr → Prop} {H : Hp} : ∀ ns : List Int, Paired (VRn M F H 0) (ns.map Val.int) (ns.map V.int)
  | [] => .nil
  | i :: r => .cons rfl (ints_VR r)
/-- the script is a frozen list -/
theorem law_sp {t : Txt} {K : PySem.W.Frag} (hS : Says t K) {n f : Nat} (hc : ∀ ns : List Int, callN t.prg n f [.v (.lst (ns.map .int))] [] = .ok (.v (.bool true)) []) (H : Hp) (a : Addr) (ns : List Int)
    (hO : Only H) (hq : SqL K H a (ns.map V.int)) : spF K (t.tab K) t.prg n f [.ref a] H (fun v _ => v = .bl true) fun _ _ _ => False := by
  have hR : Rd H a (.lst (ns.map V.int)) := by
    rcases hq with h | ⟨o, its, m, h1, h2, _⟩
    · exact h
    · have := hS.nol a o h1
      unfold isLst at this
      rw [h2] at this
      simp at this
  refine ⟨fun _ => False, [], [], [.v (.lst (ns.map .int))], ⟨rfl, fun i j a h => by simp at h, fun n a c h => by simp at h, fun n h => by simp at h, fun a h => by simp at h, fun a h => h.elim⟩, .cons ?_ .nil, ?_⟩
  · exact ⟨1, a, ns.map V.int, rfl, ⟨hR, ⟨fun h => h, by simp⟩⟩, ints_VR ns⟩
  · rw [hc ns]
    intro μ' H' b _ _ hb
    exact VR.bool_i.mp hb
/-- the promise of the law's def -/
theorem law_fn {t : Txt} {K : PySem.W.Frag} (hS : Says t K) {r : FRow} {f : Nat} (hr : findF t.fns f = some r) {x lw : Str} (hps : r.ps = [x]) (hloc : r.loc = .g lw) :
    ∃ fd : FuncData, (∀ (s : Shared) (u : Value), BindsTo s fd ⟨[u], []⟩ [(x, u)]) ∧ ∀ (prog : Program) (w : World) (mg : Str → Option Value) (h base : Heap) (n : Nat), K.In h → h.Ns mainGlobals mg → K.In base → base.Ns mainGlobals mg →
      FnOk prog w K mg base (L2.CX prog w) (2 * n + 3) (He.ga K lw) fd [x] (spF K (t.tab K) t.prg (n + 1) f) := by
  obtain ⟨hm, hid⟩ := findF_mem hr
  have hrow := List.all_eq_true.mp (and6 (and6 hS.ok).2).1 r hm
  obtain ⟨x', q, ps, body, sc, fd, F, z⟩ := funB_ok hrow
  simp only [Bool.and_eq_true, decide_eq_true_eq, beq_iff_eq] at z
  obtain ⟨h1, h2, h3, h4, h5, h6⟩ := z
  have hb := FunD.bindsA (ps := r.ps) F fun kV doc pm an cdv ct us hl => bind_ok' h1 h2 kV doc pm an cdv ct us hl
  subst hid
  rw [hps] at hb
  refine ⟨fd, fun s u => hb s [u] rfl, fun prog w mg h base n hK hG hKb hGb => ?_⟩
  have := fn_ok F (scB_ok h3) (show (findF t.fns r.id).map (·.fn) = some r.fn by rw [hr]; rfl) h4 h5 h6 (lnk_all (prog := prog) (w := w) (base := base) hK hG hS.ok n) (lnkX_of hK hG hS.ok (by omega))
  rw [hps, hloc] at this
  exact this
theorem law_ga {t : Txt} {K : PySem.W.Frag} (hS : Says t K) {r : FRow} {f : Nat} (hr : findF t.fns f = some r) {lw : Str} (hloc : r.loc = .g lw) {h : Heap} {mg : Str → Option Value} (hK : K.In h) (hG : h.Ns mainGlobals mg) : mg lw = some (.ref (He.ga K lw)) := by
  obtain ⟨hm, hid⟩ := findF_mem hr
  have hrow := List.all_eq_true.mp (and6 (and6 (and6 hS.ok).2).2).1 r hm
  unfold fnmB at hrow
  rw [hloc] at hrow
  exact PySem.W.mg_of hK hG (He.eqO_ok (and6 hrow).1)
/-- all that a law's end wants, from the evaluator's answer -/
theorem law_end {t : Txt} {n f : Nat} {r : FRow} {x lw : Str} (hr : findF t.fns f = some r) (hps : r.ps = [x]) (hloc : r.loc = .g lw) (hc : ∀ ns : List Int, callN t.prg (n + 1) f [.v (.lst (ns.map .int))] [] = .ok (.v (.bool true)) []) {m : Nat}
    (prog : Program) (w : World) (mg : Str → Option Value) (fa : Addr) (h : Heap) (Y : ∃ K : PySem.W.Frag, K.In h ∧ Says t K) (G : h.Ns mainGlobals mg) (hmg : mg lw = some (.ref fa)) :
    ∃ (K : PySem.W.Frag) (fd : FuncData) (sp : Sp) (x : Str), K.In h ∧ (∀ (s : Shared) (u : Value), BindsTo s fd ⟨[u], []⟩ [(x, u)]) ∧
        (∀ (H : Hp) (a : Addr) (ns : List Int), ns.length ≤ m → Only H → SqL K H a (ns.map V.int) → sp [.ref a] H (fun v _ => v = .bl true) fun _ _ _ => False) ∧
        ∀ base : Heap, K.In base → base.Ns mainGlobals mg → FnOk prog w K mg base (L2.CX prog w) (2 * n + 3) fa fd [x] sp := by
  obtain ⟨K, KX, c⟩ := Y
  obtain ⟨fd, hb, hF⟩ := law_fn c hr hps hloc
  have e : fa = He.ga K lw := by
    have := hmg.symm.trans (law_ga c hr hloc KX G)
    cases this
    rfl
  subst e
  exact ⟨K, fd, _, x, KX, hb, fun H a ns _ hO hS => law_sp c hc H a ns hO hS, fun base hKb hGb => hF prog w mg h base n KX G hKb hGb⟩
/-- a Hook that sees nothing -/
def hook0 : PySem.W.Hook where
  α := Bool
  obs := fun _ => true
  val := fun _ => true
  says := fun _ _ => True
  of := fun _ _ _ => trivial
  keeps := fun _ _ _ _ _ => trivial
theorem map_pair {α A B C D : Type} {o : Option α} {f : α → A} {g : α → B} {u : α → C} {v : α → D} {x : A} {y : B} {z : C} {z' : D} (h0 : o.map (fun s => (f s, g s, u s)) = some (x, y, z)) (h1 : o.map v = some z') : o.map (fun s => (f s, g s, v s)) = some (x, y, z') := by
  cases o with
  | none => cases h1
  | some s =>
    have a := Option.some.inj h0
    have b := Option.some.inj h1
    have a1 : f s = x := congrArg Prod.fst a
    have a2 : g s = y := congrArg (fun p => p.2.1) a
    show some (f s, g s, v s) = some (x, y, z')
    rw [a1, a2, show v s = z' from b]
theorem run_join {r : PySem.W.OpenRow} {q : Program} {n : Nat} {t : Txt} {ob : PySem.W.SharedT → Bool} {M : Nat} {loose : List PySem.Str} {w : World} (h0 : HandSHeadRun.RunEq r q hook0 (fun _ => true) M loose w)
    (h1 : ∀ os, (HandSHeadRun.endF (HandSHeadRun.stepQ (HandSHeadRun.denQ HandSHeadRun.tabQ) r.prog w) M r.prog w os).map ob = some true) : HandSHeadRun.RunEq r q (hookK n t) ob M loose w := by
  intro os
  exact map_pair (h0 os) (h1 os)
/-- the check without the defs' rows -/
def chkR (K : PySem.W.Frag) (t : Txt) : Bool := t.attB && (t.fns.all (fnmB K) && (t.cls.all (fun q => clsB K q.2) && (t.meth.all (methB K t) && (t.prop.all (propB K t) && (t.init.all (initB K t) && (t.cls.all (fldB K t) && (subB K t &&
  (t.glob.all (glbB K) && (blts.all (fun x => He.eqO (PySem.W.nsIn K mainGlobals x) (some none)) && (t.exc.all (excB K t) && t.flds.all (exiB K t)))))))))))
theorem chk_join {α : Type} {o : Option α} {f : α → PySem.W.Frag} {t : Txt} {n : Nat} (h1 : o.map (fun s => (t.fns.take n).all (rowB (f s) t)) = some true) (h2 : o.map (fun s => (t.fns.drop n).all (rowB (f s) t)) = some true)
    (h3 : o.map (fun s => chkR (f s) t) = some true) : o.map (fun s => chk (f s) t) = some true := by
  cases o with
  | none => cases h1
  | some s =>
    simp only [Option.map_some, Option.some.injEq] at h1 h2 h3 ⊢
    have h : t.fns.all (rowB (f s) t) = true := by
      rw [← List.take_append_drop n t.fns, List.all_append, h1, h2]
      rfl
    unfold chkR at h3
    obtain ⟨c1, c2⟩ := and6 h3
    unfold chk
    rw [c1, h, c2]
    rfl
end KG

set_option linter.all false
set_option maxRecDepth 10000
/-! printed by gen.py from kindgrows_k02_order_of_values -/
namespace KG
def f__wall_b1 : List CS := [.pass]
/-- 14: k -/
def f__wall : Fn := ⟨1, 1, 0, [(.whl (.tru (.cst (.bool true))) f__wall_b1)]⟩
/-- 33: self group text column -/
def f_Token___init__ : Fn := ⟨4, 4, 1, [(.asg (.at (.var 0) 0) (.var 1)), (.asg (.at (.var 0) 1) (.var 2)), (.asg (.at (.var 0) 2) (.var 3))]⟩
/-- 0: thing sign -/
def f_is_name : Fn := ⟨1, 2, 0, [(.ifs (.or (.not (.tru (.isT (.var 0) .str))) (.or (.not (.chain .le .le (.cst (.int 1)) (.bi false .len [(.var 0)]) (.glob 1))) (.cmp .inn (.var 0) (.glob 0)))) [(.ret (.cst (.bool false)))] []), (.ret (.bi false .all [(.lc false (.nm 1) (.over (.var 0)) none (.cmp .inn (.var 1) (.glob 2)))]))]⟩
/-- 1: thing sign -/
def f_is_alternative : Fn := ⟨1, 2, 0, [(.ifs (.or (.not (.tru (.isT (.var 0) .str))) (.or (.not (.chain .le .le (.cst (.int 1)) (.bi false .len [(.var 0)]) (.glob 1))) (.cmp .nin (.ix (.var 0) (.cst (.int 0))) (.glob 3)))) [(.ret (.cst (.bool false)))] []), (.ret (.bi false .all [(.lc false (.nm 1) (.over (.sl false (.var 0) (some (.cst (.int 1))) none)) none (.cmp .inn (.var 1) (.glob 2)))]))]⟩
/-- 2: text sign -/
def f_is_number : Fn := ⟨1, 2, 0, [(.ret (.and (.bi false .all [(.lc false (.nm 1) (.over (.var 0)) none (.cmp .inn (.var 1) (.glob 4)))]) (.or (.cmp .ne (.ix (.var 0) (.cst (.int 0))) (.cst (.str [48]))) (.cmp .eq (.bi false .len [(.var 0)]) (.cst (.int 1))))))]⟩
/-- 4: text -/
def f_group_of : Fn := ⟨1, 1, 0, [(.ifs (.cmp .inn (.var 0) (.glob 0)) [(.ret (.var 0))] []), (.ifs (.tru (.call 0 [(.var 0)])) [(.ret (.cst (.str [110, 97, 109, 101])))] []), (.ifs (.tru (.call 1 [(.var 0)])) [(.ret (.cst (.str [97, 108, 116, 101, 114, 110, 97, 116, 105, 118, 101])))] []), (.ret (.ite (.tru (.call 2 [(.var 0)])) (.cst (.str [110, 117, 109, 98, 101, 114])) (.cst (.str [119, 114, 111, 110, 103]))))]⟩
/-- 3: sign -/
def f_is_row_sign : Fn := ⟨1, 1, 0, [(.ret (.or (.cmp .inn (.var 0) (.glob 2)) (.or (.cmp .inn (.var 0) (.glob 3)) (.cmp .inn (.var 0) (.glob 4)))))]⟩
def f_tokens_of_b1 : List CS := [(.aug 3 .add (.cst (.int 1)))]
def f_tokens_of_b2 : List CS := [(.asg (.nm 3) (.bin false .add (.var 2) (.cst (.int 1)))), (.ifs (.tru (.call 3 [(.ix (.var 0) (.var 2))])) [(.whl (.and (.cmp .lt (.var 3) (.bi false .len [(.var 0)])) (.tru (.call 3 [(.ix (.var 0) (.var 3))]))) f_tokens_of_b1), (.expr (.bm .append (.var 1) [(.make false 0 [(.call 4 [(.sl false (.var 0) (some (.var 2)) (some (.var 3)))]), (.sl false (.var 0) (some (.var 2)) (some (.var 3))), (.bin false .add (.var 2) (.cst (.int 1)))])]))] [(.ifs (.cmp .eq (.sl false (.var 0) (some (.var 2)) (some (.bin false .add (.var 2) (.cst (.int 2))))) (.cst (.str [45, 62]))) [(.aug 3 .add (.cst (.int 1))), (.expr (.bm .append (.var 1) [(.make false 0 [(.cst (.str [45, 62])), (.cst (.str [45, 62])), (.bin false .add (.var 2) (.cst (.int 1)))])]))] [(.ifs (.cmp .ne (.ix (.var 0) (.var 2)) (.cst (.str [32]))) [(.expr (.bm .append (.var 1) [(.make false 0 [(.ite (.cmp .inn (.ix (.var 0) (.var 2)) (.glob 5)) (.ix (.var 0) (.var 2)) (.cst (.str [119, 114, 111, 110, 103]))), (.ix (.var 0) (.var 2)), (.bin false .add (.var 2) (.cst (.int 1)))])]))] [])])]), (.asg (.nm 2) (.var 3))]
/-- 6: line found begin end -/
def f_tokens_of : Fn := ⟨1, 4, 0, [(.asg (.nm 1) (.lst true [])), (.asg (.nm 2) (.cst (.int 0))), (.whl (.cmp .lt (.var 2) (.bi false .len [(.var 0)])) f_tokens_of_b2), (.expr (.bm .append (.var 1) [(.make false 0 [(.cst (.str [101, 110, 100])), (.cst (.str [])), (.bin false .add (.bi false .len [(.var 0)]) (.cst (.int 1)))])])), (.frz 1), (.ret (.var 1))]⟩
/-- 34: self name at rows -/
def f_KindLine___init__ : Fn := ⟨4, 4, 1, [(.asg (.at (.var 0) 3) (.var 1)), (.asg (.at (.var 0) 4) (.var 2)), (.asg (.at (.var 0) 5) (.var 3))]⟩
/-- 35: self name at fields field where -/
def f_KindLine_plain_rows : Fn := ⟨1, 6, 0, [(.ret (.bi false .tuple [(.lc false (.tp [1, 2, 3]) (.over (.at (.var 0) 5)) none (.tup [(.var 1), (.bi false .tuple [(.lc false (.tp [4, 5]) (.over (.var 3)) none (.var 4))])]))]))]⟩
/-- 36: self name at params kind body -/
def f_FunctionLine___init__ : Fn := ⟨6, 6, 1, [(.asg (.at (.var 0) 3) (.var 1)), (.asg (.at (.var 0) 4) (.var 2)), (.asg (.at (.var 0) 6) (.var 3)), (.asg (.at (.var 0) 7) (.var 4)), (.asg (.at (.var 0) 1) (.var 5)), (.asg (.at (.var 0) 8) (.call 5 [(.var 5)]))]⟩
def f_matches_in_b1 : List CS := [(.asg (.nm 1) (.bin false .add (.var 1) (.call 5 [(.var 2)])))]
def f_matches_in_b2 : List CS := [(.asg (.nm 1) (.bin false .add (.var 1) (.call 5 [(.var 4)])))]
/-- 5: body found part pattern inner -/
def f_matches_in : Fn := ⟨1, 5, 0, [(.ifs (.cmp .eq (.ix (.var 0) (.cst (.int 0))) (.cst (.str [109, 97, 116, 99, 104]))) [(.asg (.nm 1) (.bin false .add (.lst false [(.var 0)]) (.call 5 [(.ix (.var 0) (.cst (.int 1)))]))), (.for (.tp [3, 4]) (.over (.ix (.var 0) (.cst (.int 2)))) f_matches_in_b2 []), (.ret (.var 1))] []), (.asg (.nm 1) (.lst false [])), (.ifs (.cmp .inn (.ix (.var 0) (.cst (.int 0))) (.tup [(.cst (.str [109, 97, 100, 101])), (.cst (.str [99, 97, 108, 108]))])) [(.for (.nm 2) (.over (.ix (.var 0) (.cst (.int 2)))) f_matches_in_b1 [])] []), (.ret (.var 1))]⟩
/-- 37: self number line -/
def f_LineReader___init__ : Fn := ⟨3, 3, 1, [(.asg (.at (.var 0) 9) (.var 1)), (.asg (.at (.var 0) 10) (.call 6 [(.var 2)])), (.asg (.at (.var 0) 11) (.cst (.int 0))), (.asg (.at (.var 0) 12) (.cst (.str []))), (.asg (.at (.var 0) 13) (.cst (.int 0)))]⟩
/-- 38: self -/
def f_LineReader_peek : Fn := ⟨1, 1, 1, [(.ret (.at (.ix (.at (.var 0) 10) (.at (.var 0) 11)) 0))]⟩
/-- 39: self -/
def f_LineReader_here : Fn := ⟨1, 1, 1, [(.ret (.tup [(.at (.var 0) 9), (.at (.ix (.at (.var 0) 10) (.at (.var 0) 11)) 2)]))]⟩
/-- 40: self -/
def f_LineReader_fail : Fn := ⟨1, 1, 1, [(.raise 1 [(.at (.var 0) 9), (.at (.ix (.at (.var 0) 10) (.at (.var 0) 11)) 2)])]⟩
/-- 41: self sorts found -/
def f_LineReader_take : Fn := ⟨2, 3, 1, [(.ifs (.cmp .nin (.meth (.var 0) 14 []) (.var 1)) [(.expr (.meth (.var 0) 15 []))] []), (.asg (.nm 2) (.tup [(.at (.ix (.at (.var 0) 10) (.at (.var 0) 11)) 1), (.meth (.var 0) 16 [])])), (.augAt (.var 0) 11 .add (.cst (.int 1))), (.ret (.var 2))]⟩
/-- 42: self sort -/
def f_LineReader_accept : Fn := ⟨2, 2, 1, [(.ifs (.cmp .eq (.meth (.var 0) 14 []) (.var 1)) [(.augAt (.var 0) 11 .add (.cst (.int 1))), (.ret (.cst (.bool true)))] []), (.ret (.cst (.bool false)))]⟩
/-- 43: self found -/
def f_LineReader_whole_line : Fn := ⟨1, 2, 1, [(.ifs (.tru (.meth (.var 0) 17 [(.cst (.str [107, 105, 110, 100]))])) [(.asg (.nm 1) (.meth (.var 0) 18 []))] [(.expr (.meth (.var 0) 19 [(.lst false [(.cst (.str [102, 117, 110]))])])), (.asg (.nm 1) (.meth (.var 0) 20 []))]), (.expr (.meth (.var 0) 19 [(.lst false [(.cst (.str [101, 110, 100]))])])), (.ret (.var 1))]⟩
def f_LineReader_kind_line_b1 : List CS := [(.expr (.bm .append (.var 1) [(.meth (.var 0) 21 [])]))]
/-- 44: self rows name at -/
def f_LineReader_kind_line : Fn := ⟨1, 4, 1, [(.asg (.tp [(.nm 2), (.nm 3)]) (.meth (.var 0) 19 [(.lst false [(.cst (.str [110, 97, 109, 101]))])])), (.expr (.meth (.var 0) 19 [(.lst false [(.cst (.str [61]))])])), (.asg (.nm 1) (.lst true [(.meth (.var 0) 21 [])])), (.whl (.tru (.meth (.var 0) 17 [(.cst (.str [124]))])) f_LineReader_kind_line_b1), (.frz 1), (.ret (.make false 2 [(.var 2), (.var 3), (.var 1)]))]⟩
def f_LineReader_row_b1 : List CS := [(.expr (.bm .append (.var 1) [(.meth (.var 0) 19 [(.lst false [(.cst (.str [110, 97, 109, 101])), (.cst (.str [110, 117, 109]))])])]))]
/-- 45: self fields name at -/
def f_LineReader_row : Fn := ⟨1, 4, 1, [(.asg (.tp [(.nm 2), (.nm 3)]) (.meth (.var 0) 19 [(.lst false [(.cst (.str [97, 108, 116, 101, 114, 110, 97, 116, 105, 118, 101]))])])), (.asg (.nm 1) (.lst true [])), (.whl (.cmp .inn (.meth (.var 0) 14 []) (.tup [(.cst (.str [110, 97, 109, 101])), (.cst (.str [110, 117, 109]))])) f_LineReader_row_b1), (.frz 1), (.ret (.tup [(.var 2), (.var 3), (.var 1)]))]⟩
def f_LineReader_function_line_b1 : List CS := [(.expr (.bm .append (.var 1) [(.meth (.var 0) 22 [])]))]
/-- 46: self params kind name at -/
def f_LineReader_function_line : Fn := ⟨1, 5, 1, [(.asg (.tp [(.nm 3), (.nm 4)]) (.meth (.var 0) 19 [(.lst false [(.cst (.str [110, 97, 109, 101]))])])), (.asg (.at (.var 0) 12) (.var 3)), (.expr (.meth (.var 0) 19 [(.lst false [(.cst (.str [40]))])])), (.asg (.nm 1) (.lst true [])), (.ifs (.cmp .ne (.meth (.var 0) 14 []) (.cst (.str [41]))) [(.expr (.bm .append (.var 1) [(.meth (.var 0) 22 [])])), (.whl (.tru (.meth (.var 0) 17 [(.cst (.str [44]))])) f_LineReader_function_line_b1)] []), (.frz 1), (.expr (.meth (.var 0) 19 [(.lst false [(.cst (.str [41]))])])), (.asg (.nm 2) (.meth (.var 0) 19 [(.lst false [(.cst (.str [110, 97, 109, 101])), (.cst (.str [110, 117, 109]))])])), (.expr (.meth (.var 0) 19 [(.lst false [(.cst (.str [61]))])])), (.ret (.make false 3 [(.var 3), (.var 4), (.var 1), (.var 2), (.meth (.var 0) 23 [])]))]⟩
/-- 47: self -/
def f_LineReader_param : Fn := ⟨1, 1, 1, [(.ret (.bin false .add (.meth (.var 0) 19 [(.lst false [(.cst (.str [110, 97, 109, 101]))])]) (.meth (.var 0) 19 [(.lst false [(.cst (.str [110, 97, 109, 101])), (.cst (.str [110, 117, 109]))])])))]⟩
def f_LineReader_expression_b1 : List CS := [(.expr (.bm .append (.var 3) [(.meth (.var 0) 25 [])]))]
/-- 48: self place subject arms word at -/
def f_LineReader_expression : Fn := ⟨1, 6, 1, [(.ifs (.cmp .ne (.meth (.var 0) 14 []) (.cst (.str [109, 97, 116, 99, 104]))) [(.ret (.meth (.var 0) 24 []))] []), (.asg (.tp [(.nm 4), (.nm 5)]) (.meth (.var 0) 19 [(.lst false [(.cst (.str [109, 97, 116, 99, 104]))])])), (.asg (.nm 1) (.tup [(.at (.var 0) 12), (.at (.var 0) 13)])), (.augAt (.var 0) 13 .add (.cst (.int 1))), (.asg (.nm 2) (.meth (.var 0) 24 [])), (.expr (.meth (.var 0) 19 [(.lst false [(.cst (.str [123]))])])), (.asg (.nm 3) (.lst true [(.meth (.var 0) 25 [])])), (.whl (.tru (.meth (.var 0) 17 [(.cst (.str [59]))])) f_LineReader_expression_b1), (.frz 3), (.expr (.meth (.var 0) 19 [(.lst false [(.cst (.str [125]))])])), (.ret (.tup [(.cst (.str [109, 97, 116, 99, 104])), (.var 2), (.bi false .tuple [(.var 3)]), (.var 5), (.var 1)]))]⟩
/-- 49: self pattern -/
def f_LineReader_arm : Fn := ⟨1, 2, 1, [(.asg (.nm 1) (.meth (.var 0) 26 [])), (.expr (.meth (.var 0) 19 [(.lst false [(.cst (.str [45, 62]))])])), (.ret (.tup [(.var 1), (.meth (.var 0) 23 [])]))]⟩
/-- 50: self sort body at -/
def f_LineReader_simple : Fn := ⟨1, 4, 1, [(.asg (.nm 1) (.meth (.var 0) 14 [])), (.asg (.tp [(.nm 2), (.nm 3)]) (.meth (.var 0) 19 [(.lst false [(.cst (.str [110, 97, 109, 101])), (.cst (.str [97, 108, 116, 101, 114, 110, 97, 116, 105, 118, 101])), (.cst (.str [110, 117, 109, 98, 101, 114]))])])), (.ifs (.cmp .eq (.var 1) (.cst (.str [110, 117, 109, 98, 101, 114]))) [(.ret (.tup [(.cst (.str [110, 117, 109, 98, 101, 114])), (.bi false .int [(.var 2)]), (.var 3)]))] []), (.ifs (.cmp .eq (.var 1) (.cst (.str [97, 108, 116, 101, 114, 110, 97, 116, 105, 118, 101]))) [(.ret (.tup [(.cst (.str [109, 97, 100, 101])), (.var 2), (.ite (.cmp .eq (.meth (.var 0) 14 []) (.cst (.str [40]))) (.meth (.var 0) 27 [(.cst (.bool false))]) (.tup [])), (.var 3)]))] []), (.ifs (.cmp .eq (.meth (.var 0) 14 []) (.cst (.str [40]))) [(.ret (.tup [(.cst (.str [99, 97, 108, 108])), (.var 2), (.meth (.var 0) 27 [(.cst (.bool true))]), (.var 3)]))] []), (.ret (.tup [(.cst (.str [118, 97, 114, 105, 97, 98, 108, 101])), (.var 2), (.var 3)]))]⟩
def f_LineReader_parts_b1 : List CS := [(.expr (.bm .append (.var 2) [(.meth (.var 0) 23 [])]))]
/-- 51: self may_be_empty found -/
def f_LineReader_parts : Fn := ⟨2, 3, 1, [(.expr (.meth (.var 0) 19 [(.lst false [(.cst (.str [40]))])])), (.ifs (.and (.tru (.var 1)) (.tru (.meth (.var 0) 17 [(.cst (.str [41]))]))) [(.ret (.tup []))] []), (.asg (.nm 2) (.lst true [(.meth (.var 0) 23 [])])), (.whl (.tru (.meth (.var 0) 17 [(.cst (.str [44]))])) f_LineReader_parts_b1), (.frz 2), (.expr (.meth (.var 0) 19 [(.lst false [(.cst (.str [41]))])])), (.ret (.bi false .tuple [(.var 2)]))]⟩
def f_LineReader_pattern_b1 : List CS := [(.expr (.bm .append (.var 2) [(.meth (.var 0) 26 [])]))]
/-- 52: self sort inner body at -/
def f_LineReader_pattern : Fn := ⟨1, 5, 1, [(.asg (.nm 1) (.meth (.var 0) 14 [])), (.asg (.tp [(.nm 3), (.nm 4)]) (.meth (.var 0) 19 [(.lst false [(.cst (.str [95])), (.cst (.str [110, 97, 109, 101])), (.cst (.str [97, 108, 116, 101, 114, 110, 97, 116, 105, 118, 101])), (.cst (.str [110, 117, 109, 98, 101, 114]))])])), (.ifs (.cmp .eq (.var 1) (.cst (.str [95]))) [(.ret (.tup [(.cst (.str [97, 110, 121])), (.var 4)]))] []), (.ifs (.cmp .eq (.var 1) (.cst (.str [110, 97, 109, 101]))) [(.ret (.tup [(.cst (.str [118, 97, 114, 105, 97, 98, 108, 101])), (.var 3), (.var 4)]))] []), (.ifs (.cmp .eq (.var 1) (.cst (.str [110, 117, 109, 98, 101, 114]))) [(.ret (.tup [(.cst (.str [110, 117, 109, 98, 101, 114])), (.bi false .int [(.var 3)]), (.var 4)]))] []), (.asg (.nm 2) (.lst true [])), (.ifs (.tru (.meth (.var 0) 17 [(.cst (.str [40]))])) [(.expr (.bm .append (.var 2) [(.meth (.var 0) 26 [])])), (.whl (.tru (.meth (.var 0) 17 [(.cst (.str [44]))])) f_LineReader_pattern_b1), (.expr (.meth (.var 0) 19 [(.lst false [(.cst (.str [41]))])]))] []), (.frz 2), (.ret (.tup [(.cst (.str [109, 97, 100, 101])), (.var 3), (.bi false .tuple [(.var 2)]), (.var 4)]))]⟩
/-- 10: number line -/
def f_read_line : Fn := ⟨2, 2, 0, [(.ret (.meth (.make true 4 [(.var 0), (.var 1)]) 28 []))]⟩
def f_calls_in_b1 : List CS := [(.asg (.nm 1) (.bin false .add (.var 1) (.call 7 [(.var 2)])))]
def f_calls_in_b2 : List CS := [(.asg (.nm 1) (.bin false .add (.var 1) (.call 7 [(.var 4)])))]
/-- 7: body found part pattern inner -/
def f_calls_in : Fn := ⟨1, 5, 0, [(.ifs (.cmp .eq (.ix (.var 0) (.cst (.int 0))) (.cst (.str [109, 97, 116, 99, 104]))) [(.asg (.nm 1) (.call 7 [(.ix (.var 0) (.cst (.int 1)))])), (.for (.tp [3, 4]) (.over (.ix (.var 0) (.cst (.int 2)))) f_calls_in_b2 []), (.ret (.var 1))] []), (.asg (.nm 1) (.ite (.cmp .eq (.ix (.var 0) (.cst (.int 0))) (.cst (.str [99, 97, 108, 108]))) (.lst false [(.ix (.var 0) (.cst (.int 1)))]) (.lst false []))), (.ifs (.cmp .inn (.ix (.var 0) (.cst (.int 0))) (.tup [(.cst (.str [109, 97, 100, 101])), (.cst (.str [99, 97, 108, 108]))])) [(.for (.nm 2) (.over (.ix (.var 0) (.cst (.int 2)))) f_calls_in_b1 [])] []), (.ret (.var 1))]⟩
def f_Checker___init___b1 : List CS := [(.expr (.meth (.var 0) 31 [(.at (.var 0) 30), (.var 4), (.var 5), (.tup [(.at (.var 3) 3), (.lc false (.tp [7, 8]) (.over (.var 6)) none (.var 7))])]))]
def f_Checker___init___b2 : List CS := [(.expr (.meth (.var 0) 31 [(.var 2), (.at (.var 3) 3), (.at (.var 3) 4), (.var 3)])), (.ifs (.tru (.isC (.var 3) 2)) [(.for (.tp [4, 5, 6]) (.over (.at (.var 3) 5)) f_Checker___init___b1 [])] [])]
/-- 53: self lines tops line name at fields field where -/
def f_Checker___init__ : Fn := ⟨2, 9, 2, [(.asg (.at (.var 0) 29) (.lst true [])), (.asg (.at (.var 0) 30) (.dic true false [])), (.asg (.nm 2) (.dic true false [])), (.for (.nm 3) (.over (.var 1)) f_Checker___init___b2 []), (.frz 2), (.asg (.at (.var 0) 32) (.dc (.tp [4, 3]) (.items (.var 2)) (some (.tru (.isC (.var 3) 2))) (.var 4) (.var 3))), (.asg (.at (.var 0) 33) (.dc (.tp [4, 3]) (.items (.var 2)) (some (.not (.tru (.isC (.var 3) 2)))) (.var 4) (.var 3)))]⟩
/-- 54: self at reason -/
def f_Checker_note : Fn := ⟨3, 3, 1, [(.expr (.bm .append (.at (.var 0) 29) [(.tup [(.ix (.var 1) (.cst (.int 0))), (.ix (.var 1) (.cst (.int 1))), (.bm .index (.glob 7) [(.var 2)])])]))]⟩
/-- 55: self known name at thing -/
def f_Checker_introduce : Fn := ⟨5, 5, 1, [(.ifs (.cmp .inn (.var 2) (.var 1)) [(.expr (.meth (.var 0) 34 [(.var 3), (.cst (.str [116, 119, 105, 99, 101]))]))] [(.asg (.ix (.var 1) (.var 2)) (.var 4))])]⟩
/-- 56: self field -/
def f_Checker_check_kind_name : Fn := ⟨2, 2, 1, [(.ifs (.and (.cmp .ne (.ix (.var 1) (.cst (.int 0))) (.glob 6)) (.cmp .nin (.ix (.var 1) (.cst (.int 0))) (.at (.var 0) 32))) [(.expr (.meth (.var 0) 34 [(.ix (.var 1) (.cst (.int 1))), (.cst (.str [110, 97, 109, 101]))]))] [])]⟩
/-- 57: self fields founded field -/
def f_Checker_has_value : Fn := ⟨3, 4, 1, [(.ret (.bi false .all [(.lc false (.nm 3) (.over (.var 1)) none (.or (.cmp .nin (.var 3) (.at (.var 0) 32)) (.cmp .inn (.var 3) (.var 2))))]))]⟩
def f_Checker_founded_kinds_b1 : List CS := [(.ifs (.tru (.bi false .any [(.lc false (.tp [5, 6]) (.over (.meth (.var 4) 35 [])) none (.meth (.var 0) 36 [(.var 6), (.var 1)]))])) [(.asg (.ix (.var 1) (.var 3)) (.cst (.bool true)))] [])]
def f_Checker_founded_kinds_b2 : List CS := [(.for (.tp [3, 4]) (.items (.at (.var 0) 32)) f_Checker_founded_kinds_b1 [])]
/-- 58: self founded turn name kind alternative fields -/
def f_Checker_founded_kinds : Fn := ⟨1, 7, 1, [(.asg (.nm 1) (.dic true false [])), (.for (.nm 2) (.rng1 (.bi false .len [(.at (.var 0) 32)])) f_Checker_founded_kinds_b2 []), (.frz 1), (.ret (.var 1))]⟩
def f_Checker_check_kind_b1 : List CS := [(.expr (.meth (.var 0) 37 [(.var 6)]))]
def f_Checker_check_kind_b2 : List CS := [(.for (.nm 6) (.over (.var 5)) f_Checker_check_kind_b1 [])]
/-- 59: self kind founded name at fields field -/
def f_Checker_check_kind : Fn := ⟨3, 7, 1, [(.ifs (.and (.cmp .inn (.at (.var 1) 3) (.at (.var 0) 32)) (.cmp .nin (.at (.var 1) 3) (.var 2))) [(.expr (.meth (.var 0) 34 [(.at (.var 1) 4), (.cst (.str [101, 110, 100, 108, 101, 115, 115]))]))] []), (.for (.tp [3, 4, 5]) (.over (.at (.var 1) 5)) f_Checker_check_kind_b2 [])]⟩
def f_Checker_check_function_b1 : List CS := [(.ifs (.cmp .inn (.var 3) (.var 2)) [(.expr (.meth (.var 0) 34 [(.var 4), (.cst (.str [116, 119, 105, 99, 101]))]))] []), (.asg (.ix (.var 2) (.var 3)) (.var 5)), (.expr (.meth (.var 0) 37 [(.tup [(.var 5), (.var 6)])]))]
/-- 60: self function scope name at kind where -/
def f_Checker_check_function : Fn := ⟨2, 7, 1, [(.asg (.nm 2) (.dic true false [])), (.for (.tp [3, 4, 5, 6]) (.over (.at (.var 1) 6)) f_Checker_check_function_b1 []), (.frz 2), (.expr (.meth (.var 0) 37 [(.at (.var 1) 7)])), (.expr (.meth (.var 0) 23 [(.var 1), (.at (.var 1) 1), (.ix (.at (.var 1) 7) (.cst (.int 0))), (.var 2)]))]⟩
/-- 61: self one other known kind -/
def f_Checker_are_apart : Fn := ⟨3, 5, 1, [(.asg (.nm 3) (.lc false (.nm 4) (.over (.tup [(.var 1), (.var 2)])) (some (.or (.cmp .eq (.var 4) (.glob 6)) (.cmp .inn (.var 4) (.at (.var 0) 32)))) (.var 4))), (.ret (.and (.cmp .eq (.bi false .len [(.var 3)]) (.cst (.int 2))) (.cmp .ne (.var 1) (.var 2))))]⟩
/-- 62: self body scope -/
def f_Checker_own_kind : Fn := ⟨3, 3, 1, [(.ifs (.cmp .eq (.ix (.var 1) (.cst (.int 0))) (.cst (.str [110, 117, 109, 98, 101, 114]))) [(.ret (.glob 6))] []), (.ifs (.cmp .eq (.ix (.var 1) (.cst (.int 0))) (.cst (.str [118, 97, 114, 105, 97, 98, 108, 101]))) [(.ret (.bm .get2 (.var 2) [(.ix (.var 1) (.cst (.int 1))), (.cst .none)]))] []), (.ifs (.cmp .eq (.ix (.var 1) (.cst (.int 0))) (.cst (.str [109, 97, 100, 101]))) [(.ret (.ite (.cmp .inn (.ix (.var 1) (.cst (.int 1))) (.at (.var 0) 30)) (.ix (.ix (.at (.var 0) 30) (.ix (.var 1) (.cst (.int 1)))) (.cst (.int 0))) (.cst .none)))] []), (.ret (.ite (.cmp .inn (.ix (.var 1) (.cst (.int 1))) (.at (.var 0) 33)) (.ix (.at (.ix (.at (.var 0) 33) (.ix (.var 1) (.cst (.int 1)))) 7) (.cst (.int 0))) (.cst .none)))]⟩
/-- 63: self body name at kind where -/
def f_Checker_wanted_parts : Fn := ⟨2, 6, 1, [(.ifs (.cmp .eq (.ix (.var 1) (.cst (.int 0))) (.cst (.str [109, 97, 100, 101]))) [(.ret (.bi false .list [(.ix (.ix (.at (.var 0) 30) (.ix (.var 1) (.cst (.int 1)))) (.cst (.int 1)))]))] []), (.ret (.lc false (.tp [2, 3, 4, 5]) (.over (.at (.ix (.at (.var 0) 33) (.ix (.var 1) (.cst (.int 1)))) 6)) none (.var 4)))]⟩
def f_Checker_expression_b1 : List CS := [(.asg (.nm 9) (.dic true false [])), (.expr (.meth (.var 0) 26 [(.var 7), (.var 5), (.var 9)])), (.frz 9), (.expr (.meth (.var 0) 23 [(.var 1), (.var 8), (.var 3), .bad]))]
/-- 64: self function body wanted scope kind at pattern inner bound -/
def f_Checker_expression : Fn := ⟨5, 10, 1, [(.ifs (.cmp .eq (.ix (.var 2) (.cst (.int 0))) (.cst (.str [109, 97, 116, 99, 104]))) [(.asg (.nm 5) (.meth (.var 0) 38 [(.ix (.var 2) (.cst (.int 1))), (.var 4)])), (.expr (.meth (.var 0) 23 [(.var 1), (.ix (.var 2) (.cst (.int 1))), (.cst .none), (.var 4)])), (.for (.tp [7, 8]) (.over (.ix (.var 2) (.cst (.int 2)))) f_Checker_expression_b1 []), .retN] []), (.asg (.nm 5) (.meth (.var 0) 38 [(.var 2), (.var 4)])), (.asg (.nm 6) (.ix (.var 2) (.neg (.cst (.int 1))))), (.ifs (.cmp .isN (.var 5) (.cst .none)) [(.expr (.meth (.var 0) 34 [(.var 6), (.cst (.str [110, 97, 109, 101]))])), .retN] []), (.ifs (.and (.cmp .notN (.var 3) (.cst .none)) (.tru (.meth (.var 0) 39 [(.var 5), (.var 3)]))) [(.expr (.meth (.var 0) 34 [(.var 6), (.cst (.str [107, 105, 110, 100]))]))] []), (.ifs (.cmp .inn (.ix (.var 2) (.cst (.int 0))) (.tup [(.cst (.str [109, 97, 100, 101])), (.cst (.str [99, 97, 108, 108]))])) [(.expr (.meth (.var 0) 40 [(.var 1), (.var 2), (.var 4)]))] [])]⟩
def f_Checker_check_parts_b1 : List CS := [(.expr (.meth (.var 0) 23 [(.var 1), (.var 5), (.var 6), (.var 3)]))]
/-- 65: self function body scope kinds part kind -/
def f_Checker_check_parts : Fn := ⟨4, 7, 1, [(.asg (.nm 4) (.meth (.var 0) 41 [(.var 2)])), (.ifs (.cmp .ne (.bi false .len [(.var 4)]) (.bi false .len [(.ix (.var 2) (.cst (.int 2)))])) [(.expr (.meth (.var 0) 34 [(.ix (.var 2) (.neg (.cst (.int 1)))), (.cst (.str [99, 111, 117, 110, 116]))]))] []), (.ifs (.and (.cmp .eq (.ix (.var 2) (.cst (.int 0))) (.cst (.str [99, 97, 108, 108]))) (.cmp .inn (.at (.var 1) 3) (.meth (.var 0) 42 [(.ix (.var 2) (.cst (.int 1)))]))) [(.expr (.meth (.var 0) 34 [(.ix (.var 2) (.neg (.cst (.int 1)))), (.cst (.str [114, 105, 110, 103]))]))] []), (.for (.tp [5, 6]) (.zip (.ix (.var 2) (.cst (.int 2))) (.var 4)) f_Checker_check_parts_b1 [])]⟩
def f_Checker_led_from_b1 : List CS := [(.asg (.nm 4) (.bm .pop (.var 3) [])), (.ifs (.cmp .nin (.var 4) (.var 2)) [(.asg (.ix (.var 2) (.var 4)) (.cst (.bool true))), (.ifs (.cmp .inn (.var 4) (.at (.var 0) 33)) [(.expr .bad)] [])] [])]
/-- 66: self name found waiting other -/
def f_Checker_led_from : Fn := ⟨2, 5, 1, [(.asg (.nm 2) (.dic true false [])), (.asg (.nm 3) (.lst true [(.var 1)])), (.whl (.tru (.var 3)) f_Checker_led_from_b1), (.frz 2), (.ret (.var 2))]⟩
def f_Checker_pattern_b1 : List CS := [(.expr (.meth (.var 0) 26 [(.var 6), (.var 7), (.var 3)]))]
/-- 67: self pattern kind bound own fields part field -/
def f_Checker_pattern : Fn := ⟨4, 8, 1, [(.ifs (.cmp .eq (.ix (.var 1) (.cst (.int 0))) (.cst (.str [118, 97, 114, 105, 97, 98, 108, 101]))) [(.ifs (.cmp .inn (.ix (.var 1) (.cst (.int 1))) (.var 3)) [(.expr (.meth (.var 0) 34 [(.ix (.var 1) (.cst (.int 2))), (.cst (.str [116, 119, 105, 99, 101]))]))] []), (.asg (.ix (.var 3) (.ix (.var 1) (.cst (.int 1)))) (.var 2))] [(.ifs (.cmp .eq (.ix (.var 1) (.cst (.int 0))) (.cst (.str [110, 117, 109, 98, 101, 114]))) [(.ifs (.tru (.meth (.var 0) 39 [(.var 2), (.glob 6)])) [(.expr (.meth (.var 0) 34 [(.ix (.var 1) (.cst (.int 2))), (.cst (.str [107, 105, 110, 100]))]))] [])] [(.ifs (.cmp .eq (.ix (.var 1) (.cst (.int 0))) (.cst (.str [109, 97, 100, 101]))) [(.ifs (.cmp .nin (.ix (.var 1) (.cst (.int 1))) (.at (.var 0) 30)) [(.expr (.meth (.var 0) 34 [(.ix (.var 1) (.neg (.cst (.int 1)))), (.cst (.str [110, 97, 109, 101]))])), .retN] []), (.asg (.tp [(.nm 4), (.nm 5)]) (.ix (.at (.var 0) 30) (.ix (.var 1) (.cst (.int 1))))), (.ifs (.tru (.meth (.var 0) 39 [(.var 4), (.var 2)])) [(.expr (.meth (.var 0) 34 [(.ix (.var 1) (.neg (.cst (.int 1)))), (.cst (.str [107, 105, 110, 100]))]))] []), (.ifs (.cmp .ne (.bi false .len [(.var 5)]) (.bi false .len [(.ix (.var 1) (.cst (.int 2)))])) [(.expr (.meth (.var 0) 34 [(.ix (.var 1) (.neg (.cst (.int 1)))), (.cst (.str [99, 111, 117, 110, 116]))]))] []), (.for (.tp [6, 7]) (.zip (.ix (.var 1) (.cst (.int 2))) (.var 5)) f_Checker_pattern_b1 [])] [])])])]⟩
def f_check_program_b1 : List CS := [(.ifs (.tru (.isC (.var 3) 2)) [(.expr (.meth (.var 1) 44 [(.var 3), (.var 2)]))] [(.expr (.meth (.var 1) 45 [(.var 3)]))])]
/-- 11: lines checker founded line column reason -/
def f_check_program : Fn := ⟨1, 6, 0, [(.asg (.nm 1) (.make true 5 [(.var 0)])), (.asg (.nm 2) (.meth (.var 1) 43 [])), (.for (.nm 3) (.over (.var 0)) f_check_program_b1 []), (.ifs (.tru (.at (.var 1) 29)) [(.asg (.tp [(.nm 3), (.nm 4), (.nm 5)]) .bad), (.raise 6 [(.var 3), (.var 4), (.ix (.glob 7) (.var 5))])] [])]⟩
/-- 8: pattern part -/
def f_pattern_text : Fn := ⟨1, 2, 0, [(.ifs (.cmp .eq (.ix (.var 0) (.cst (.int 0))) (.cst (.str [97, 110, 121]))) [(.ret (.cst (.str [95])))] []), (.ifs (.or (.cmp .ne (.ix (.var 0) (.cst (.int 0))) (.cst (.str [109, 97, 100, 101]))) (.cmp .eq (.ix (.var 0) (.cst (.int 2))) (.tup []))) [(.ret .bad)] []), (.ret (.bin false .add (.bin false .add (.bin false .add (.ix (.var 0) (.cst (.int 1))) (.cst (.str [40]))) (.bm .join (.cst (.str [44, 32])) [(.lc false (.nm 1) (.over (.ix (.var 0) (.cst (.int 2)))) none (.call 8 [(.var 1)]))])) (.cst (.str [41]))))]⟩
/-- 9: body arms pattern inner part -/
def f_expression_text : Fn := ⟨1, 5, 0, [(.ifs (.cmp .eq (.ix (.var 0) (.cst (.int 0))) (.cst (.str [109, 97, 116, 99, 104]))) [(.asg (.nm 1) (.lc false (.tp [2, 3]) (.over (.ix (.var 0) (.cst (.int 2)))) none (.bin false .add (.bin false .add (.call 8 [(.var 2)]) (.cst (.str [32, 45, 62, 32]))) (.call 9 [(.var 3)])))), (.ret (.bin false .add (.bin false .add (.bin false .add (.bin false .add (.cst (.str [109, 97, 116, 99, 104, 32])) (.call 9 [(.ix (.var 0) (.cst (.int 1)))])) (.cst (.str [32, 123, 32]))) (.bm .join (.cst (.str [32, 59, 32])) [(.var 1)])) (.cst (.str [32, 125]))))] []), (.ifs (.or (.cmp .inn (.ix (.var 0) (.cst (.int 0))) (.tup [(.cst (.str [118, 97, 114, 105, 97, 98, 108, 101])), (.cst (.str [110, 117, 109, 98, 101, 114]))])) (.and (.cmp .eq (.ix (.var 0) (.cst (.int 0))) (.cst (.str [109, 97, 100, 101]))) (.cmp .eq (.ix (.var 0) (.cst (.int 2))) (.tup [])))) [(.ret .bad)] []), (.ret (.bin false .add (.bin false .add (.bin false .add (.ix (.var 0) (.cst (.int 1))) (.cst (.str [40]))) (.bm .join (.cst (.str [44, 32])) [(.lc false (.nm 4) (.over (.ix (.var 0) (.cst (.int 2)))) none (.call 9 [(.var 4)]))])) (.cst (.str [41]))))]⟩
/-- 12: kind rows name fields -/
def f_kind_text : Fn := ⟨1, 4, 0, [(.asg (.nm 1) (.lc false (.tp [2, 3]) (.over (.meth (.var 0) 35 [])) none (.bm .join (.cst (.str [32])) [(.bin false .add (.lst false [(.var 2)]) (.bi false .list [(.var 3)]))]))), (.ret (.bin false .add (.bin false .add (.bin false .add (.cst (.str [107, 105, 110, 100, 32])) (.at (.var 0) 3)) (.cst (.str [32, 61, 32]))) (.bm .join (.cst (.str [32, 124, 32])) [(.var 1)])))]⟩
/-- 13: function params head name at kind where -/
def f_function_text : Fn := ⟨1, 7, 0, [(.asg (.nm 1) (.bm .join (.cst (.str [44, 32])) [(.lc false (.tp [3, 4, 5, 6]) (.over (.at (.var 0) 6)) none (.bin false .add (.bin false .add (.var 3) (.cst (.str [32]))) (.var 5)))])), (.asg (.nm 2) (.bin false .add (.bin false .add (.bin false .add (.bin false .add (.bin false .add (.cst (.str [102, 117, 110, 32])) (.at (.var 0) 3)) (.cst (.str [40]))) (.var 1)) (.cst (.str [41, 32]))) (.ix (.at (.var 0) 7) (.cst (.int 0))))), (.ret (.bin false .add (.bin false .add (.var 2) (.cst (.str [32, 61, 32]))) (.call 9 [(.at (.var 0) 1)])))]⟩
/-- 68: self text lines kinds functions line kind function index name fields -/
def f_Program___init__ : Fn := ⟨2, 11, 1, [(.asg (.nm 2) (.lc false (.tp [8, 5]) (.enum (.bm .split (.var 1) [(.cst (.str [10]))])) none (.call 10 [(.bin false .add (.var 8) (.cst (.int 1))), (.var 5)]))), (.asg (.nm 3) (.lc false (.nm 5) (.over (.var 2)) (some (.tru (.isC (.var 5) 2))) (.var 5))), (.asg (.nm 4) (.lc false (.nm 5) (.over (.var 2)) (some (.not (.tru (.isC (.var 5) 2)))) (.var 5))), (.expr (.call 11 [(.var 2)])), (.asg (.at (.var 0) 46) (.dc (.nm 6) (.over (.var 3)) none (.at (.var 6) 3) (.var 6))), (.asg (.at (.var 0) 47) (.dc (.nm 7) (.over (.var 4)) none (.at (.var 7) 3) (.var 7))), (.asg (.at (.var 0) 48) (.dc2 (.nm 6) (.over (.var 3)) (.tp [9, 10]) (.over (.meth (.var 6) 35 [])) (.var 9) (.at (.var 6) 3)))]⟩
/-- 69: self other -/
def f_Program___eq__ : Fn := ⟨2, 2, 0, [(.ret (.and (.isC (.var 1) 7) (.cmp .eq (.at (.var 0) 49) (.at (.var 1) 49))))]⟩
/-- 70: self rows name -/
def f_Program_text : Fn := ⟨1, 3, 0, [(.asg (.nm 1) (.lc false (.nm 2) (.over .bad) none (.call 12 [(.ix (.at (.var 0) 46) (.var 2))]))), (.asg (.nm 1) (.bin false .add (.var 1) (.lc false (.nm 2) (.over .bad) none (.call 13 [(.ix (.at (.var 0) 47) (.var 2))])))), (.ret (.bm .join (.cst (.str [10])) [(.var 1)]))]⟩
/-- 71: self -/
def f_Program_kinds : Fn := ⟨1, 1, 0, [(.ret (.bi false .tuple [.bad]))]⟩
/-- 72: self -/
def f_Program_functions : Fn := ⟨1, 1, 0, [(.ret (.bi false .tuple [.bad]))]⟩
/-- 73: self other -/
def f_Program_grows_to : Fn := ⟨2, 2, 0, [(.expr (.call 14 [(.cst (.int 0))]))]⟩
/-- 74: self kind -/
def f_Program_alternatives : Fn := ⟨2, 2, 0, [(.ifs (.or (.not (.tru (.isT (.var 1) .str))) (.cmp .nin (.var 1) (.at (.var 0) 46))) [(.raise 8 [(.var 1)])] []), (.ret (.meth (.ix (.at (.var 0) 46) (.var 1)) 35 []))]⟩
/-- 75: self name -/
def f_Program_function_of : Fn := ⟨2, 2, 0, [(.ifs (.or (.not (.tru (.isT (.var 1) .str))) (.cmp .nin (.var 1) (.at (.var 0) 47))) [(.raise 9 [(.var 1)])] []), (.ret (.ix (.at (.var 0) 47) (.var 1)))]⟩
/-- 76: self name param at kind where -/
def f_Program_parameters : Fn := ⟨2, 6, 0, [(.ret (.bi false .tuple [(.lc false (.tp [2, 3, 4, 5]) (.over (.at (.meth (.var 0) 50 [(.var 1)]) 6)) none (.var 4))]))]⟩
/-- 77: self name -/
def f_Program_result : Fn := ⟨2, 2, 0, [(.expr (.call 14 [(.cst (.int 1))]))]⟩
/-- 80: program alternative rows name fields -/
def f_fields_of : Fn := ⟨2, 5, 0, [(.asg (.nm 2) (.meth (.ix (.at (.var 0) 46) (.ix (.at (.var 0) 48) (.var 1))) 35 [])), (.ret (.ix (.lc false (.tp [3, 4]) (.over (.var 2)) (some (.cmp .eq (.var 3) (.var 1))) (.var 4)) (.cst (.int 0))))]⟩
/-- 18: value part -/
def f_size : Fn := ⟨1, 2, 0, [(.ret (.ite (.tru (.isT (.var 0) .int)) (.cst (.int 1)) (.bin false .add (.cst (.int 1)) (.bi false .sum [(.lc false (.nm 1) (.over (.sl false (.var 0) (some (.cst (.int 1))) none)) none (.call 18 [(.var 1)]))]))))]⟩
def f_marks_of_b1 : List CS := [(.asg (.nm 4) (.bin false .add (.var 4) (.call 81 [(.var 0), (.var 5), (.var 6)])))]
/-- 81: program kind value names found field part name fields -/
def f_marks_of : Fn := ⟨3, 9, 0, [(.ifs (.cmp .eq (.var 1) (.glob 6)) [(.ret (.lst false [(.var 2)]))] []), (.asg (.nm 3) (.lc false (.tp [7, 8]) (.over (.meth (.var 0) 51 [(.var 1)])) none (.var 7))), (.asg (.nm 4) (.lst false [(.bm .index (.var 3) [(.ix (.var 2) (.cst (.int 0)))])])), (.for (.tp [5, 6]) (.zip (.call 80 [(.var 0), (.ix (.var 2) (.cst (.int 0)))]) (.sl false (.var 2) (some (.cst (.int 1))) none)) f_marks_of_b1 []), (.ret (.var 4))]⟩
def f_order_key_b1 : List CS := [(.asg (.nm 3) (.bin false .add (.var 3) (.call 81 [(.var 0), (.var 4), (.var 5)])))]
/-- 82: program kinds values found kind value -/
def f_order_key : Fn := ⟨3, 6, 0, [(.asg (.nm 3) (.lst false [(.bi false .sum [(.lc false (.nm 5) (.over (.var 2)) none (.call 18 [(.var 5)]))])])), (.for (.tp [4, 5]) (.zip (.var 1) (.var 2)) f_order_key_b1 []), (.ret (.var 3))]⟩
/-- 83: program kinds ones others -/
def f_is_first : Fn := ⟨4, 4, 0, [(.ret (.cmp .lt (.call 82 [(.var 0), (.var 1), (.var 2)]) (.call 82 [(.var 0), (.var 1), (.var 3)])))]⟩
/-- 19: _law_row _law_many _law_cell _law_found -/
def f__law_taken : Fn := ⟨2, 4, 1, [(.ifs (.cmp .gt (.ix (.var 0) (.cst (.int 3))) (.cst (.int 0))) [(.asg (.nm 3) (.bin false .mod (.bi false .int [(.ix (.var 0) (.cst (.int 3)))]) (.var 1))), (.asg (.ix (.var 0) (.cst (.int 3))) (.bin false .fdiv (.ix (.var 0) (.cst (.int 3))) (.var 1))), (.ret (.var 3))] []), (.asg (.ix (.var 0) (.cst (.int 1))) (.bin false .add (.ix (.var 0) (.cst (.int 1))) (.cst (.int 1)))), (.ifs (.cmp .gt (.ix (.var 0) (.cst (.int 1))) (.bi false .len [(.ix (.var 0) (.cst (.int 0)))])) [(.asg (.ix (.var 0) (.cst (.int 2))) (.bin false .mod (.bi false .int [(.bin false .add (.bin false .mul (.ix (.var 0) (.cst (.int 2))) (.cst (.int 48271))) (.cst (.int 11)))]) (.cst (.int 2147483647)))), (.ret (.bin false .mod (.bi false .int [(.bin false .fdiv (.ix (.var 0) (.cst (.int 2))) (.cst (.int 7)))]) (.var 1)))] []), (.asg (.nm 2) (.ix (.ix (.var 0) (.cst (.int 0))) (.bin false .sub (.ix (.var 0) (.cst (.int 1))) (.cst (.int 1))))), (.asg (.ix (.var 0) (.cst (.int 2))) (.bin false .mod (.bi false .int [(.bin false .add (.bin false .add (.bin false .mul (.ix (.var 0) (.cst (.int 2))) (.cst (.int 48271))) (.var 2)) (.cst (.int 11)))]) (.cst (.int 2147483647)))), (.ifs (.cmp .ge (.var 2) (.bin false .pow (.cst (.int 10)) (.cst (.int 18)))) [(.asg (.ix (.var 0) (.cst (.int 3))) (.bin false .fdiv (.var 2) (.var 1)))] []), (.ret (.bin false .mod (.bi false .int [(.var 2)]) (.var 1)))]⟩
def f__law_kinds_b1 : List CS := [(.asg (.nm 8) (.bin false .add (.lst false [(.cst (.str [110, 117, 109]))]) (.sl false (.var 1) none (some (.var 3))))), (.asg (.nm 9) (.lc false (.nm 10) (.rng1 (.call 19 [(.var 0), (.cst (.int 3))])) none (.ix (.var 8) (.call 19 [(.var 0), (.bi false .len [(.var 8)])])))), (.ifs (.cmp .eq (.var 7) (.cst (.int 0))) [(.asg (.nm 9) (.ix (.lst false [(.lst false [(.cst (.str [110, 117, 109]))]), (.lst false []), (.lst false [])]) (.call 19 [(.var 0), (.cst (.int 3))])))] []), (.expr (.bm .append (.var 6) [(.lst false [(.ix (.var 2) (.bin false .add (.bin false .mul (.cst (.int 3)) (.var 5)) (.var 7))), (.var 9)])]))]
def f__law_kinds_b2 : List CS := [(.asg (.nm 6) (.lst true [])), (.for (.nm 7) (.rng1 (.bin false .add (.cst (.int 1)) (.call 19 [(.var 0), (.cst (.int 3))]))) f__law_kinds_b1 []), (.frz 6), (.expr (.bm .append (.var 4) [(.lst false [(.ix (.var 1) (.var 5)), (.var 6)])]))]
/-- 30: _law_row _law_own _law_names _law_many _law_found _law_k _law_rows _law_j _law_pool _law_fields _law_i -/
def f__law_kinds : Fn := ⟨1, 11, 1, [(.asg (.nm 1) (.ix (.lst false [(.lst false [(.cst (.str [116, 114, 101, 101])), (.cst (.str [115, 104, 97, 112, 101]))]), (.lst false [(.cst (.str [122, 101, 100])), (.cst (.str [97]))]), (.lst false [(.cst (.str [108, 105, 115, 116])), (.cst (.str [111, 112, 116]))])]) (.call 19 [(.var 0), (.cst (.int 3))]))), (.asg (.nm 2) (.lst false [(.lst false [(.cst (.str [76, 101, 97, 102])), (.cst (.str [78, 111, 100, 101])), (.cst (.str [80, 97, 105, 114])), (.cst (.str [68, 111, 116])), (.cst (.str [66, 111, 120])), (.cst (.str [69, 110, 100]))]), (.lst false [(.cst (.str [65])), (.cst (.str [66])), (.cst (.str [67])), (.cst (.str [90, 122])), (.cst (.str [90])), (.cst (.str [65, 97]))])])), (.asg (.nm 2) (.ix (.bin false .add (.var 2) (.lst false [(.lst false [(.cst (.str [77, 97, 116, 99, 104])), (.cst (.str [75, 105, 110, 100])), (.cst (.str [70, 117, 110])), (.cst (.str [78, 117, 109])), (.cst (.str [89])), (.cst (.str [88]))])])) (.call 19 [(.var 0), (.cst (.int 3))]))), (.asg (.nm 3) (.bin false .add (.cst (.int 1)) (.call 19 [(.var 0), (.cst (.int 2))]))), (.asg (.nm 4) (.lst true [])), (.for (.nm 5) (.rng1 (.var 3)) f__law_kinds_b2 []), (.frz 4), (.ret (.var 4))]⟩
/-- 20: _law_kinds_here _law_kind _law_name _law_rows -/
def f__law_rows_of : Fn := ⟨2, 4, 0, [(.ret (.ix (.lc false (.tp [2, 3]) (.over (.var 0)) (some (.cmp .eq (.var 2) (.var 1))) (.var 3)) (.cst (.int 0))))]⟩
def f__law_sized_b1 : List CS := [(.asg (.nm 3) (.bin false .add (.var 3) (.lc false (.nm 6) (.over (.call 21 [(.var 0), (.var 5), (.bin false .sub (.var 2) (.cst (.int 1)))])) none (.bin false .add (.tup [(.var 4)]) (.var 6)))))]
/-- 22: _law_kinds_here _law_kind _law_total _law_found _law_name _law_fields _law_parts -/
def f__law_sized : Fn := ⟨3, 7, 0, [(.ifs (.cmp .eq (.var 1) (.cst (.str [110, 117, 109]))) [(.ret (.ite (.cmp .eq (.var 2) (.cst (.int 1))) (.lst false [(.cst (.int 0)), (.cst (.int 1)), (.cst (.int 2)), (.cst (.int 3))]) (.lst false [])))] []), (.asg (.nm 3) (.lst false [])), (.for (.tp [4, 5]) (.over (.call 20 [(.var 0), (.var 1)])) f__law_sized_b1 []), (.ret (.var 3))]⟩
def f__law_sized_rows_b1 : List CS := [(.asg (.nm 3) (.bin false .add (.var 3) (.lc false (.nm 7) (.over (.var 5)) none (.bin false .add (.tup [(.var 6)]) (.var 7)))))]
def f__law_sized_rows_b2 : List CS := [(.asg (.nm 5) (.call 21 [(.var 0), (.sl false (.var 1) (some (.cst (.int 1))) none), (.bin false .sub (.var 2) (.var 4))])), (.ifs (.cmp .ne (.var 5) (.lst false [])) [(.for (.nm 6) (.over (.call 22 [(.var 0), (.ix (.var 1) (.cst (.int 0))), (.var 4)])) f__law_sized_rows_b1 [])] [])]
/-- 21: _law_kinds_here _law_fields _law_total _law_found _law_first_here _law_rest _law_value _law_parts -/
def f__law_sized_rows : Fn := ⟨3, 8, 0, [(.ifs (.cmp .eq (.var 1) (.lst false [])) [(.ret (.ite (.cmp .eq (.var 2) (.cst (.int 0))) (.lst false [(.tup [])]) (.lst false [])))] []), (.asg (.nm 3) (.lst false [])), (.for (.nm 4) (.rng2 (.cst (.int 1)) (.bin false .sub (.bin false .add (.var 2) (.cst (.int 2))) (.bi false .len [(.var 1)]))) f__law_sized_rows_b2 []), (.ret (.var 3))]⟩
def f__law_marks_b1 : List CS := [(.asg (.nm 5) (.bin false .add (.var 5) (.call 23 [(.var 0), (.ix (.ix (.ix (.var 3) (.var 4)) (.cst (.int 1))) (.var 6)), (.ix (.var 2) (.bin false .add (.var 6) (.cst (.int 1))))])))]
/-- 23: _law_kinds_here _law_kind _law_value _law_rows _law_place _law_found _law_k -/
def f__law_marks : Fn := ⟨3, 7, 0, [(.ifs (.cmp .eq (.var 1) (.cst (.str [110, 117, 109]))) [(.ret (.lst false [(.var 2)]))] []), (.asg (.nm 3) (.call 20 [(.var 0), (.var 1)])), (.asg (.nm 4) (.ix (.lc false (.nm 6) (.rng1 (.bi false .len [(.var 3)])) (some (.cmp .eq (.ix (.ix (.var 3) (.var 6)) (.cst (.int 0))) (.ix (.var 2) (.cst (.int 0))))) (.var 6)) (.cst (.int 0)))), (.asg (.nm 5) (.lst false [(.var 4)])), (.for (.nm 6) (.rng1 (.bi false .len [(.ix (.ix (.var 3) (.var 4)) (.cst (.int 1)))])) f__law_marks_b1 []), (.ret (.var 5))]⟩
def f__law_key_b1 : List CS := [(.asg (.nm 3) (.bin false .add (.var 3) (.call 23 [(.var 0), (.ix (.var 1) (.var 4)), (.ix (.var 2) (.var 4))])))]
/-- 24: _law_kinds_here _law_fields _law_values _law_found _law_k -/
def f__law_key : Fn := ⟨3, 5, 0, [(.asg (.nm 3) (.lst false [])), (.for (.nm 4) (.rng1 (.bi false .len [(.var 1)])) f__law_key_b1 []), (.ret (.var 3))]⟩
def f__law_first_b1 : List CS := [(.asg (.nm 5) (.call 21 [(.var 0), (.var 1), (.var 4)])), (.ifs (.and (.cmp .gt (.bin false .add (.bi false .len [(.var 3)]) (.bi false .len [(.var 5)])) (.var 2)) (.cmp .ne (.var 3) (.lst false []))) [(.ret (.var 3))] []), (.asg (.nm 6) .bad), (.asg (.nm 3) (.bin false .add (.var 3) (.lc false (.nm 8) (.over (.var 6)) none (.ix (.var 8) (.cst (.int 1))))))]
/-- 78: _law_kinds_here _law_fields _law_most _law_found _law_total _law_more _law_pairs _law_values _law_pair -/
def f__law_first : Fn := ⟨3, 9, 0, [(.asg (.nm 3) (.lst false [])), (.for (.nm 4) (.rng1 (.cst (.int 7))) f__law_first_b1 []), (.ret (.var 3))]⟩
/-- 25: _law_value _law_part -/
def f__law_size : Fn := ⟨1, 2, 0, [(.ret (.ite (.tru (.isT (.var 0) .int)) (.cst (.int 1)) (.bin false .add (.cst (.int 1)) (.bi false .sum [(.lc false (.nm 1) (.over (.sl false (.var 0) (some (.cst (.int 1))) none)) none (.call 25 [(.var 1)]))]))))]⟩
/-- 26: _law_row _law_kinds_here _law_kind _law_depth _law_rows _law_name _law_fields _law_field -/
def f__law_deep : Fn := ⟨4, 8, 1, [(.ifs (.cmp .eq (.var 2) (.cst (.str [110, 117, 109]))) [(.ret (.ix (.lst false [(.cst (.int 0)), (.cst (.int 1)), (.cst (.int 2)), (.cst (.int 3)), (.cst (.int 7)), (.bin false .pow (.cst (.int 10)) (.cst (.int 20)))]) (.call 19 [(.var 0), (.cst (.int 6))])))] []), (.asg (.nm 4) (.call 20 [(.var 1), (.var 2)])), (.asg (.tp [(.nm 5), (.nm 6)]) (.ix (.var 4) (.ite (.cmp .gt (.var 3) (.cst (.int 0))) (.call 19 [(.var 0), (.bi false .len [(.var 4)])]) (.cst (.int 0))))), (.ret (.bin false .add (.tup [(.var 5)]) (.bi false .tuple [(.lc false (.nm 7) (.over (.var 6)) none (.call 26 [(.var 0), (.var 1), (.var 7), (.bin false .sub (.var 3) (.cst (.int 1)))]))])))]⟩
def f__law_program_text_b1 : List CS := [(.expr (.bm .append (.var 1) [(.bin false .add (.bin false .add (.bin false .add (.cst (.str [107, 105, 110, 100, 32])) (.var 2)) (.cst (.str [32, 61, 32]))) (.bm .join (.cst (.str [32, 124, 32])) [(.lc false (.tp [4, 5]) (.over (.var 3)) none (.bm .join (.cst (.str [32])) [(.bin false .add (.lst false [(.var 4)]) (.var 5))]))]))]))]
/-- 31: _law_kinds_here _law_lines _law_name _law_rows _law_one _law_fields -/
def f__law_program_text : Fn := ⟨1, 6, 0, [(.asg (.nm 1) (.lst true [(.cst (.str [102, 117, 110, 32, 102, 40, 110, 32, 110, 117, 109, 41, 32, 110, 117, 109, 32, 61, 32, 110]))])), (.for (.tp [2, 3]) (.over (.var 0)) f__law_program_text_b1 []), (.frz 1), (.ret (.bm .join (.cst (.str [10])) [(.var 1)]))]⟩
def f_law_k02_b1 : List CS := [(.asg (.nm 6) (.lc false (.nm 13) (.rng1 (.bin false .add (.cst (.int 1)) (.call 19 [(.var 1), (.cst (.int 3))]))) none (.ix (.var 4) (.call 19 [(.var 1), (.bi false .len [(.var 4)])])))), (.asg (.nm 7) (.bi false .tuple [(.lc false (.nm 14) (.over (.var 6)) none (.call 26 [(.var 1), (.var 2), (.var 14), (.bin false .add (.cst (.int 1)) (.call 19 [(.var 1), (.cst (.int 3))]))]))])), (.asg (.nm 8) (.bi false .tuple [(.lc false (.nm 14) (.over (.var 6)) none (.call 26 [(.var 1), (.var 2), (.var 14), (.bin false .add (.cst (.int 1)) (.call 19 [(.var 1), (.cst (.int 3))]))]))])), (.ifs (.cmp .eq (.call 19 [(.var 1), (.cst (.int 4))]) (.cst (.int 0))) [(.asg (.nm 8) (.bin false .add (.sl false (.var 7) none (some (.cst (.int 1)))) (.sl false (.var 8) (some (.cst (.int 1))) none)))] []), (.asg (.nm 9) (.bin false .add (.lst false [(.bi false .sum [(.lc false (.nm 15) (.over (.var 7)) none (.call 25 [(.var 15)]))])]) (.call 24 [(.var 2), (.var 6), (.var 7)]))), (.asg (.nm 10) (.bin false .add (.lst false [(.bi false .sum [(.lc false (.nm 15) (.over (.var 8)) none (.call 25 [(.var 15)]))])]) (.call 24 [(.var 2), (.var 6), (.var 8)]))), (.asg (.nm 11) (.lst false [(.call 83 [(.var 3), (.bi false .tuple [(.var 6)]), (.var 7), (.var 8)]), (.call 83 [(.var 3), (.bi false .tuple [(.var 6)]), (.var 8), (.var 7)])])), (.ifs (.or (.cmp .ne (.var 11) (.lst false [(.cmp .lt (.var 9) (.var 10)), (.cmp .lt (.var 10) (.var 9))])) (.not (.tru (.isT (.ix (.var 11) (.cst (.int 0))) .bool)))) [(.ret (.cst (.bool false)))] []), (.ifs (.or (.tru (.call 83 [(.var 3), (.bi false .tuple [(.var 6)]), (.var 7), (.var 7)])) (.cmp .ne (.cmp .eq (.var 11) (.lst false [(.cst (.bool false)), (.cst (.bool false))])) (.cmp .eq (.var 7) (.var 8)))) [(.ret (.cst (.bool false)))] [])]
/-- 84: _law_script _law_row _law_kinds_here _law_program _law_names _law_turn _law_fields _law_ones _law_others _law_first_here _law_second _law_told _law_one _law_k _law_kind _law_value -/
def f_law_k02 : Fn := ⟨1, 16, 0, [(.asg (.nm 1) (.lst true [(.var 0), (.cst (.int 0)), (.cst (.int 0)), (.cst (.int 0))])), (.asg (.nm 2) (.call 30 [(.var 1)])), (.asg (.nm 3) (.make false 7 [(.call 31 [(.var 2)])])), (.asg (.nm 4) (.bin false .add (.lst false [(.cst (.str [110, 117, 109]))]) (.lc false (.nm 12) (.over (.var 2)) none (.ix (.var 12) (.cst (.int 0)))))), (.for (.nm 5) (.rng1 (.cst (.int 12))) f_law_k02_b1 []), (.ret (.cst (.bool true)))]⟩
def txt_k02 : Txt where
  fns := [⟨14, .g "_wall", (["k"] : List PySem.Str), (["k"] : List PySem.Str), f__wall⟩,
    ⟨33, .m "Token" "__init__", (["self", "group", "text", "column"] : List PySem.Str), (["self", "group", "text", "column"] : List PySem.Str), f_Token___init__⟩,
    ⟨0, .g "is_name", (["thing"] : List PySem.Str), (["thing", "sign"] : List PySem.Str), f_is_name⟩,
    ⟨1, .g "is_alternative", (["thing"] : List PySem.Str), (["thing", "sign"] : List PySem.Str), f_is_alternative⟩,
    ⟨2, .g "is_number", (["text"] : List PySem.Str), (["text", "sign"] : List PySem.Str), f_is_number⟩,
    ⟨4, .g "group_of", (["text"] : List PySem.Str), (["text"] : List PySem.Str), f_group_of⟩,
    ⟨3, .g "is_row_sign", (["sign"] : List PySem.Str), (["sign"] : List PySem.Str), f_is_row_sign⟩,
    ⟨6, .g "tokens_of", (["line"] : List PySem.Str), (["line", "found", "begin", "end"] : List PySem.Str), f_tokens_of⟩,
    ⟨34, .m "KindLine" "__init__", (["self", "name", "at", "rows"] : List PySem.Str), (["self", "name", "at", "rows"] : List PySem.Str), f_KindLine___init__⟩,
    ⟨35, .m "KindLine" "plain_rows", (["self"] : List PySem.Str), (["self", "name", "at", "fields", "field", "where"] : List PySem.Str), f_KindLine_plain_rows⟩,
    ⟨36, .m "FunctionLine" "__init__", (["self", "name", "at", "params", "kind", "body"] : List PySem.Str), (["self", "name", "at", "params", "kind", "body"] : List PySem.Str), f_FunctionLine___init__⟩,
    ⟨5, .g "matches_in", (["body"] : List PySem.Str), (["body", "found", "part", "pattern", "inner"] : List PySem.Str), f_matches_in⟩,
    ⟨37, .m "LineReader" "__init__", (["self", "number", "line"] : List PySem.Str), (["self", "number", "line"] : List PySem.Str), f_LineReader___init__⟩,
    ⟨38, .m "LineReader" "peek", (["self"] : List PySem.Str), (["self"] : List PySem.Str), f_LineReader_peek⟩,
    ⟨39, .m "LineReader" "here", (["self"] : List PySem.Str), (["self"] : List PySem.Str), f_LineReader_here⟩,
    ⟨40, .m "LineReader" "fail", (["self"] : List PySem.Str), (["self"] : List PySem.Str), f_LineReader_fail⟩,
    ⟨41, .m "LineReader" "take", (["self", "sorts"] : List PySem.Str), (["self", "sorts", "found"] : List PySem.Str), f_LineReader_take⟩,
    ⟨42, .m "LineReader" "accept", (["self", "sort"] : List PySem.Str), (["self", "sort"] : List PySem.Str), f_LineReader_accept⟩,
    ⟨43, .m "LineReader" "whole_line", (["self"] : List PySem.Str), (["self", "found"] : List PySem.Str), f_LineReader_whole_line⟩,
    ⟨44, .m "LineReader" "kind_line", (["self"] : List PySem.Str), (["self", "rows", "name", "at"] : List PySem.Str), f_LineReader_kind_line⟩,
    ⟨45, .m "LineReader" "row", (["self"] : List PySem.Str), (["self", "fields", "name", "at"] : List PySem.Str), f_LineReader_row⟩,
    ⟨46, .m "LineReader" "function_line", (["self"] : List PySem.Str), (["self", "params", "kind", "name", "at"] : List PySem.Str), f_LineReader_function_line⟩,
    ⟨47, .m "LineReader" "param", (["self"] : List PySem.Str), (["self"] : List PySem.Str), f_LineReader_param⟩,
    ⟨48, .m "LineReader" "expression", (["self"] : List PySem.Str), (["self", "place", "subject", "arms", "word", "at"] : List PySem.Str), f_LineReader_expression⟩,
    ⟨49, .m "LineReader" "arm", (["self"] : List PySem.Str), (["self", "pattern"] : List PySem.Str), f_LineReader_arm⟩,
    ⟨50, .m "LineReader" "simple", (["self"] : List PySem.Str), (["self", "sort", "body", "at"] : List PySem.Str), f_LineReader_simple⟩,
    ⟨51, .m "LineReader" "parts", (["self", "may_be_empty"] : List PySem.Str), (["self", "may_be_empty", "found"] : List PySem.Str), f_LineReader_parts⟩,
    ⟨52, .m "LineReader" "pattern", (["self"] : List PySem.Str), (["self", "sort", "inner", "body", "at"] : List PySem.Str), f_LineReader_pattern⟩,
    ⟨10, .g "read_line", (["number", "line"] : List PySem.Str), (["number", "line"] : List PySem.Str), f_read_line⟩,
    ⟨7, .g "calls_in", (["body"] : List PySem.Str), (["body", "found", "part", "pattern", "inner"] : List PySem.Str), f_calls_in⟩,
    ⟨53, .m "Checker" "__init__", (["self", "lines"] : List PySem.Str), (["self", "lines", "tops", "line", "name", "at", "fields", "field", "where"] : List PySem.Str), f_Checker___init__⟩,
    ⟨54, .m "Checker" "note", (["self", "at", "reason"] : List PySem.Str), (["self", "at", "reason"] : List PySem.Str), f_Checker_note⟩,
    ⟨55, .m "Checker" "introduce", (["self", "known", "name", "at", "thing"] : List PySem.Str), (["self", "known", "name", "at", "thing"] : List PySem.Str), f_Checker_introduce⟩,
    ⟨56, .m "Checker" "check_kind_name", (["self", "field"] : List PySem.Str), (["self", "field"] : List PySem.Str), f_Checker_check_kind_name⟩,
    ⟨57, .m "Checker" "has_value", (["self", "fields", "founded"] : List PySem.Str), (["self", "fields", "founded", "field"] : List PySem.Str), f_Checker_has_value⟩,
    ⟨58, .m "Checker" "founded_kinds", (["self"] : List PySem.Str), (["self", "founded", "turn", "name", "kind", "alternative", "fields"] : List PySem.Str), f_Checker_founded_kinds⟩,
    ⟨59, .m "Checker" "check_kind", (["self", "kind", "founded"] : List PySem.Str), (["self", "kind", "founded", "name", "at", "fields", "field"] : List PySem.Str), f_Checker_check_kind⟩,
    ⟨60, .m "Checker" "check_function", (["self", "function"] : List PySem.Str), (["self", "function", "scope", "name", "at", "kind", "where"] : List PySem.Str), f_Checker_check_function⟩,
    ⟨61, .m "Checker" "are_apart", (["self", "one", "other"] : List PySem.Str), (["self", "one", "other", "known", "kind"] : List PySem.Str), f_Checker_are_apart⟩,
    ⟨62, .m "Checker" "own_kind", (["self", "body", "scope"] : List PySem.Str), (["self", "body", "scope"] : List PySem.Str), f_Checker_own_kind⟩,
    ⟨63, .m "Checker" "wanted_parts", (["self", "body"] : List PySem.Str), (["self", "body", "name", "at", "kind", "where"] : List PySem.Str), f_Checker_wanted_parts⟩,
    ⟨64, .m "Checker" "expression", (["self", "function", "body", "wanted", "scope"] : List PySem.Str), (["self", "function", "body", "wanted", "scope", "kind", "at", "pattern", "inner", "bound"] : List PySem.Str), f_Checker_expression⟩,
    ⟨65, .m "Checker" "check_parts", (["self", "function", "body", "scope"] : List PySem.Str), (["self", "function", "body", "scope", "kinds", "part", "kind"] : List PySem.Str), f_Checker_check_parts⟩,
    ⟨66, .m "Checker" "led_from", (["self", "name"] : List PySem.Str), (["self", "name", "found", "waiting", "other"] : List PySem.Str), f_Checker_led_from⟩,
    ⟨67, .m "Checker" "pattern", (["self", "pattern", "kind", "bound"] : List PySem.Str), (["self", "pattern", "kind", "bound", "own", "fields", "part", "field"] : List PySem.Str), f_Checker_pattern⟩,
    ⟨11, .g "check_program", (["lines"] : List PySem.Str), (["lines", "checker", "founded", "line", "column", "reason"] : List PySem.Str), f_check_program⟩,
    ⟨8, .g "pattern_text", (["pattern"] : List PySem.Str), (["pattern", "part"] : List PySem.Str), f_pattern_text⟩,
    ⟨9, .g "expression_text", (["body"] : List PySem.Str), (["body", "arms", "pattern", "inner", "part"] : List PySem.Str), f_expression_text⟩,
    ⟨12, .g "kind_text", (["kind"] : List PySem.Str), (["kind", "rows", "name", "fields"] : List PySem.Str), f_kind_text⟩,
    ⟨13, .g "function_text", (["function"] : List PySem.Str), (["function", "params", "head", "name", "at", "kind", "where"] : List PySem.Str), f_function_text⟩,
    ⟨68, .m "Program" "__init__", (["self", "text"] : List PySem.Str), (["self", "text", "lines", "kinds", "functions", "line", "kind", "function", "index", "name", "fields"] : List PySem.Str), f_Program___init__⟩,
    ⟨69, .m "Program" "__eq__", (["self", "other"] : List PySem.Str), (["self", "other"] : List PySem.Str), f_Program___eq__⟩,
    ⟨70, .p "Program" "text", (["self"] : List PySem.Str), (["self", "rows", "name"] : List PySem.Str), f_Program_text⟩,
    ⟨71, .p "Program" "kinds", (["self"] : List PySem.Str), (["self"] : List PySem.Str), f_Program_kinds⟩,
    ⟨72, .p "Program" "functions", (["self"] : List PySem.Str), (["self"] : List PySem.Str), f_Program_functions⟩,
    ⟨73, .m "Program" "grows_to", (["self", "other"] : List PySem.Str), (["self", "other"] : List PySem.Str), f_Program_grows_to⟩,
    ⟨74, .m "Program" "alternatives", (["self", "kind"] : List PySem.Str), (["self", "kind"] : List PySem.Str), f_Program_alternatives⟩,
    ⟨75, .m "Program" "function_of", (["self", "name"] : List PySem.Str), (["self", "name"] : List PySem.Str), f_Program_function_of⟩,
    ⟨76, .m "Program" "parameters", (["self", "name"] : List PySem.Str), (["self", "name", "param", "at", "kind", "where"] : List PySem.Str), f_Program_parameters⟩,
    ⟨77, .m "Program" "result", (["self", "name"] : List PySem.Str), (["self", "name"] : List PySem.Str), f_Program_result⟩,
    ⟨80, .g "fields_of", (["program", "alternative"] : List PySem.Str), (["program", "alternative", "rows", "name", "fields"] : List PySem.Str), f_fields_of⟩,
    ⟨18, .g "size", (["value"] : List PySem.Str), (["value", "part"] : List PySem.Str), f_size⟩,
    ⟨81, .g "marks_of", (["program", "kind", "value"] : List PySem.Str), (["program", "kind", "value", "names", "found", "field", "part", "name", "fields"] : List PySem.Str), f_marks_of⟩,
    ⟨82, .g "order_key", (["program", "kinds", "values"] : List PySem.Str), (["program", "kinds", "values", "found", "kind", "value"] : List PySem.Str), f_order_key⟩,
    ⟨83, .g "is_first", (["program", "kinds", "ones", "others"] : List PySem.Str), (["program", "kinds", "ones", "others"] : List PySem.Str), f_is_first⟩,
    ⟨19, .g "_law_taken", (["_law_row", "_law_many"] : List PySem.Str), (["_law_row", "_law_many", "_law_cell", "_law_found"] : List PySem.Str), f__law_taken⟩,
    ⟨30, .g "_law_kinds", (["_law_row"] : List PySem.Str), (["_law_row", "_law_own", "_law_names", "_law_many", "_law_found", "_law_k", "_law_rows", "_law_j", "_law_pool", "_law_fields", "_law_i"] : List PySem.Str), f__law_kinds⟩,
    ⟨20, .g "_law_rows_of", (["_law_kinds_here", "_law_kind"] : List PySem.Str), (["_law_kinds_here", "_law_kind", "_law_name", "_law_rows"] : List PySem.Str), f__law_rows_of⟩,
    ⟨22, .g "_law_sized", (["_law_kinds_here", "_law_kind", "_law_total"] : List PySem.Str), (["_law_kinds_here", "_law_kind", "_law_total", "_law_found", "_law_name", "_law_fields", "_law_parts"] : List PySem.Str), f__law_sized⟩,
    ⟨21, .g "_law_sized_rows", (["_law_kinds_here", "_law_fields", "_law_total"] : List PySem.Str), (["_law_kinds_here", "_law_fields", "_law_total", "_law_found", "_law_first_here", "_law_rest", "_law_value", "_law_parts"] : List PySem.Str), f__law_sized_rows⟩,
    ⟨23, .g "_law_marks", (["_law_kinds_here", "_law_kind", "_law_value"] : List PySem.Str), (["_law_kinds_here", "_law_kind", "_law_value", "_law_rows", "_law_place", "_law_found", "_law_k"] : List PySem.Str), f__law_marks⟩,
    ⟨24, .g "_law_key", (["_law_kinds_here", "_law_fields", "_law_values"] : List PySem.Str), (["_law_kinds_here", "_law_fields", "_law_values", "_law_found", "_law_k"] : List PySem.Str), f__law_key⟩,
    ⟨78, .g "_law_first", (["_law_kinds_here", "_law_fields", "_law_most"] : List PySem.Str), (["_law_kinds_here", "_law_fields", "_law_most", "_law_found", "_law_total", "_law_more", "_law_pairs", "_law_values", "_law_pair"] : List PySem.Str), f__law_first⟩,
    ⟨25, .g "_law_size", (["_law_value"] : List PySem.Str), (["_law_value", "_law_part"] : List PySem.Str), f__law_size⟩,
    ⟨26, .g "_law_deep", (["_law_row", "_law_kinds_here", "_law_kind", "_law_depth"] : List PySem.Str), (["_law_row", "_law_kinds_here", "_law_kind", "_law_depth", "_law_rows", "_law_name", "_law_fields", "_law_field"] : List PySem.Str), f__law_deep⟩,
    ⟨31, .g "_law_program_text", (["_law_kinds_here"] : List PySem.Str), (["_law_kinds_here", "_law_lines", "_law_name", "_law_rows", "_law_one", "_law_fields"] : List PySem.Str), f__law_program_text⟩,
    ⟨84, .g "law", (["_law_script"] : List PySem.Str), (["_law_script", "_law_row", "_law_kinds_here", "_law_program", "_law_names", "_law_turn", "_law_fields", "_law_ones", "_law_others", "_law_first_here", "_law_second", "_law_told", "_law_one", "_law_k", "_law_kind", "_law_value"] : List PySem.Str), f_law_k02⟩]
  cls := [(0, "Token"), (2, "KindLine"), (3, "FunctionLine"), (4, "LineReader"), (5, "Checker"), (7, "Program")]
  exc := [(10, "GrowthError"), (1, "InvalidText"), (6, "InvalidProgram"), (8, "UnknownKind"), (9, "UnknownFunction")]
  meth := [(2, 35, 35), (4, 14, 38), (4, 16, 39), (4, 15, 40), (4, 19, 41), (4, 17, 42), (4, 28, 43), (4, 18, 44), (4, 21, 45), (4, 20, 46), (4, 22, 47), (4, 23, 48), (4, 25, 49), (4, 24, 50), (4, 27, 51), (4, 26, 52), (5, 34, 54), (5, 31, 55), (5, 37, 56), (5, 36, 57), (5, 43, 58), (5, 44, 59), (5, 45, 60), (5, 39, 61), (5, 38, 62), (5, 41, 63), (5, 23, 64), (5, 40, 65), (5, 42, 66), (5, 26, 67), (7, 55, 73), (7, 51, 74), (7, 50, 75), (7, 56, 76), (7, 57, 77)]
  prop := [(7, 49, 70), (7, 53, 71), (7, 54, 72)]
  init := [(0, 33), (2, 34), (3, 36), (4, 37), (5, 53), (7, 68)]
  glob := [(2, "LETTERS", (.v (.str [97, 98, 99, 100, 101, 102, 103, 104, 105, 106, 107, 108, 109, 110, 111, 112, 113, 114, 115, 116, 117, 118, 119, 120, 121, 122]))), (3, "CAPITALS", (.v (.str [65, 66, 67, 68, 69, 70, 71, 72, 73, 74, 75, 76, 77, 78, 79, 80, 81, 82, 83, 84, 85, 86, 87, 88, 89, 90]))), (4, "DIGITS", (.v (.str [48, 49, 50, 51, 52, 53, 54, 55, 56, 57]))), (5, "SIGNS", (.v (.str [40, 41, 123, 125, 61, 124, 44, 59, 95]))), (0, "WORDS", (.k [(.str [107, 105, 110, 100]), (.str [102, 117, 110]), (.str [109, 97, 116, 99, 104]), (.str [110, 117, 109])])), (1, "LONGEST_NAME", (.v (.int 8))), (7, "REASONS", (.k [(.str [110, 97, 109, 101]), (.str [116, 119, 105, 99, 101]), (.str [107, 105, 110, 100]), (.str [99, 111, 117, 110, 116]), (.str [114, 105, 110, 103]), (.str [101, 110, 100, 108, 101, 115, 115])])), (6, "NUM", (.v (.str [110, 117, 109])))]
  sub := [(10, 10), (1, 1), (1, 10), (6, 6), (6, 10), (8, 8), (8, 10), (9, 9), (9, 10), (0, 0), (2, 2), (3, 3), (4, 4), (5, 5), (7, 7)]
  flds := [(1, (["self", "line", "column"] : List PySem.Str), [58, 2]), (6, (["self", "line", "column", "reason"] : List PySem.Str), [58, 2, 59]), (8, (["self", "name"] : List PySem.Str), [3]), (9, (["self", "name"] : List PySem.Str), [3])]
  atts := (["group", "body", "column", "name", "at", "rows", "params", "result_kind", "matches", "number", "tokens", "index", "owner", "count", "peek", "fail", "here", "accept", "kind_line", "take", "function_line", "row", "param", "expression", "simple", "arm", "pattern", "parts", "whole_line", "faults"] : List PySem.Str) ++ (["rows_by", "introduce", "kinds_by", "functions_by", "note", "plain_rows", "has_value", "check_kind_name", "own_kind", "are_apart", "check_parts", "wanted_parts", "led_from", "founded_kinds", "check_kind", "check_function", "kind_lines", "function_lines", "owners", "text", "function_of", "alternatives", "no 52", "kinds", "functions", "grows_to", "parameters", "result", "line", "reason"] : List PySem.Str)
end KG

set_option linter.all false
set_option maxRecDepth 100000
/-! L0: lemmas by which simp runs the evaluator. -/
namespace KG.Z
abbrev P := txt_k02.prg
theorem call_of {P : Prg} {k f : Nat} {F : Fn} (h : P.fn f = some F) (xs : List X) (st : Store) : callN P (k + 1) f xs st = callF (P.ctx (callN P k)) F xs st := by
  show (match P.fn f with | some F => callF (P.ctx (callN P k)) F xs st | none => .bad) = _
  rw [h]
















section
variable {α β : Type} (a : α) (s st : Store) (C : Ctx) (env : Env)
@[simp ↓] theorem bind_m (r : R α) (f : α → Store → R β) : r.bind f = (match r with
  | .bad => .bad
  | .ok a st => f a st
  | .exc c ns vs st => .exc c ns vs st) := by cases r <;> rfl
@[simp ↓] theorem run_m (e : Env) (r : R α) (f : α → Store → S) : r.run e f = (match r with
  | .bad => .bad
  | .ok a st => f a st
  | .exc c ns vs st => .exc c ns vs e st) := by cases r <;> rfl
@[simp ↓] theorem next_m (r : S) (f : Env → Store → S) : r.next f = (match r with
  | .nx e st => f e st
  | .bad => .bad
  | .ret x st => .ret x st
  | .brk e st => .brk e st
  | .cnt e st => .cnt e st
  | .exc c ns vs e st => .exc c ns vs e st) := by cases r <;> rfl
@[simp] theorem bind_ok (f : α → Store → R β) : (R.ok a s).bind f = f a s := rfl
@[simp] theorem bind_exc (c : Nat) (ns vs) (f : α → Store → R β) : (R.exc c ns vs s).bind f = .exc c ns vs s := rfl
@[simp] theorem run_ok (e : Env) (f : α → Store → S) : (R.ok a s).run e f = f a s := rfl
@[simp] theorem run_exc (e : Env) (c : Nat) (ns vs) (f : α → Store → S) : (R.exc c ns vs s).run e f = .exc c ns vs e s := rfl
@[simp] theorem next_nx (e : Env) (f : Env → Store → S) : (S.nx e s).next f = f e s := rfl
@[simp] theorem next_ret (x : X) (f : Env → Store → S) : (S.ret x s).next f = .ret x s := rfl
@[simp] theorem next_cnt (e : Env) (f : Env → Store → S) : (S.cnt e s).next f = .cnt e s := rfl
@[simp] theorem next_brk (e : Env) (f : Env → Store → S) : (S.brk e s).next f = .brk e s := rfl
@[simp] theorem next_exc (e : Env) (c : Nat) (ns vs) (f : Env → Store → S) : (S.exc c ns vs e s).next f = .exc c ns vs e s := rfl
@[simp] theorem noX_ok : noX (R.ok a s) = .ok a s := rfl
@[simp] theorem noXI_nx (it : CI) (e : Env) : noXI it (.nx e s) = .nx e s := by cases it <;> rfl
@[simp] theorem noXI_ret (it : CI) (x : X) : noXI it (.ret x s) = .ret x s := by cases it <;> rfl
@[simp] theorem optR_some : optR (some a) s = .ok a s := rfl
@[simp] theorem boolR_some (b : Bool) : boolR (some b) s = .ok (.v (.bool b)) s := rfl
@[simp] theorem wkR_some (xs : List Val) : wkR (some xs) s = .ok ⟨none, xs⟩ s := rfl
-- the program
@[simp] theorem cx_call (Q : Prg) (c) : (Q.ctx c).call = c := rfl
@[simp] theorem cx_meth (Q : Prg) (c) : (Q.ctx c).meth = Q.meth := rfl
@[simp] theorem cx_prop (Q : Prg) (c) : (Q.ctx c).prop = Q.prop := rfl
@[simp] theorem cx_init (Q : Prg) (c) : (Q.ctx c).init = Q.init := rfl
@[simp] theorem cx_glob (Q : Prg) (c) : (Q.ctx c).glob = Q.glob := rfl
@[simp] theorem cx_sub (Q : Prg) (c) : (Q.ctx c).sub = Q.sub := rfl
@[simp] theorem cx_flds (Q : Prg) (c) : (Q.ctx c).flds = Q.flds := rfl
-- expressions
@[simp ↓] theorem e_cst (v : Val) : evE C (.cst v) env st = .ok (.v v) st := rfl
/-- a slot -/
def lk (i : Nat) (env : Env) : Option X := env[i]?.join
@[simp] theorem lk_0 (x : Option X) (r : Env) : lk 0 (x :: r) = x := by cases x <;> rfl
@[simp] theorem lk_s (n : Nat) (x : Option X) (r : Env) : lk (n + 1) (x :: r) = lk n r := by simp [lk]
@[simp ↓] theorem e_var (i : Nat) : evE C (.var i) env st = optR (lk i env) st := rfl
@[simp ↓] theorem e_glob (i : Nat) : evE C (.glob i) env st = optR (C.glob i) st := rfl
@[simp ↓] theorem e_bin (m op a b) : evE C (.bin m op a b) env st = (evE C a env st).bind fun x st => (evE C b env st).bind fun y st => binV m op x y st := rfl
@[simp ↓] theorem e_neg (a) : evE C (.neg a) env st = (evE C a env st).bind negV := rfl
@[simp ↓] theorem e_cmp (op a b) : evE C (.cmp op a b) env st = (evE C a env st).bind fun x st => (evE C b env st).bind fun y st => boolR (cmpV op x y st) st := rfl
@[simp ↓] theorem e_and (a b) : evE C (.and a b) env st = (evE C a env st).bind fun x st => (boolV x st).bind fun k st => if k then evE C b env st else .ok (.v (.bool false)) st := rfl
@[simp ↓] theorem e_or (a b) : evE C (.or a b) env st = (evE C a env st).bind fun x st => (boolV x st).bind fun k st => if k then .ok (.v (.bool true)) st else evE C b env st := rfl
@[simp ↓] theorem e_not (a) : evE C (.not a) env st = (evE C a env st).bind fun x st => (boolV x st).bind fun k st => .ok (.v (.bool (!k))) st := rfl
@[simp ↓] theorem e_ite (c a b) : evE C (.ite c a b) env st = (evT C c env st).bind fun k st => if k then evE C a env st else evE C b env st := rfl
@[simp ↓] theorem e_tup (es) : evE C (.tup es) env st = (evEs C es env st).bind tupV := rfl
@[simp ↓] theorem e_lst (m es) : evE C (.lst m es) env st = (evEs C es env st).bind (lstV m) := rfl
@[simp ↓] theorem e_dic (m t es) : evE C (.dic m t es) env st = (evEs C es env st).bind (dicV m t) := rfl
@[simp ↓] theorem e_ix (a i) : evE C (.ix a i) env st = (evE C a env st).bind fun x st => (evE C i env st).bind fun y st => optR ((ixV x y st).map .v) st := rfl
@[simp ↓] theorem e_sl (m a lo hi) : evE C (.sl m a lo hi) env st = (evE C a env st).bind fun x st => (evO C lo env st).bind fun l st => (evO C hi env st).bind fun h st => slI m x l h st := rfl
@[simp ↓] theorem e_at (a n) : evE C (.at a n) env st = (evE C a env st).bind fun x st => attrV C x n st := rfl
@[simp ↓] theorem e_call (f as) : evE C (.call f as) env st = (evEs C as env st).bind (C.call f) := rfl
@[simp ↓] theorem e_meth (o n as) : evE C (.meth o n as) env st = (evE C o env st).bind fun x st => (optR (methF C x n st) st).bind fun f st => (evEs C as env st).bind fun xs st => C.call f (x :: xs) st := rfl
@[simp ↓] theorem e_make (m c as) : evE C (.make m c as) env st = (evEs C as env st).bind (makeV C m c) := rfl
@[simp ↓] theorem e_bi (m b as) : evE C (.bi m b as) env st = (evEs C as env st).bind (biV m b) := rfl
@[simp ↓] theorem e_bm (b o as) : evE C (.bm b o as) env st = (evE C o env st).bind fun x st => if bmTy b x st then (evEs C as env st).bind fun xs st => bmV b x xs st else .bad := rfl
@[simp ↓] theorem e_isT (a t) : evE C (.isT a t) env st = (evE C a env st).bind fun x st => boolR (isTV x t st) st := rfl
@[simp ↓] theorem e_isC (a c) : evE C (.isC a c) env st = (evE C a env st).bind fun x st => boolR (isCV C x c st) st := rfl
@[simp ↓] theorem e_chain (o p a b c) : evE C (.chain o p a b c) env st = (evE C a env st).bind fun x st => (evE C b env st).bind fun y st => (optR (cmpV o x y st) st).bind fun k st =>
      if k then (evE C c env st).bind fun z st => boolR (cmpV p y z st) st else .ok (.v (.bool false)) st := rfl
@[simp ↓] theorem t_and (a b) : evT C (.and a b) env st = (evT C a env st).bind fun k st => if k then evT C b env st else .ok false st := rfl
@[simp ↓] theorem t_or (a b) : evT C (.or a b) env st = (evT C a env st).bind fun k st => if k then .ok true st else evT C b env st := rfl
@[simp ↓] theorem t_not (a) : evT C (.not a) env st = (evT C a env st).bind fun k st => .ok (!k) st := rfl
@[simp ↓] theorem t_cmp (op a b) : evT C (.cmp op a b) env st = (evE C a env st).bind fun x st => (evE C b env st).bind fun y st => optR (cmpV op x y st) st := rfl
@[simp ↓] theorem t_tru (e) : evT C (.tru e) env st = (evE C e env st).bind fun x st => optR (truth x st) st := rfl
@[simp ↓] theorem t_chain (o p a b c) : evT C (.chain o p a b c) env st = (evE C a env st).bind fun x st => (evE C b env st).bind fun y st => (optR (cmpV o x y st) st).bind fun k st =>
      if k then (evE C c env st).bind fun z st => optR (cmpV p y z st) st else .ok false st := rfl
@[simp ↓] theorem es_nil : evEs C [] env st = .ok [] st := rfl
@[simp ↓] theorem es_cons (e r) : evEs C (e :: r) env st = (evE C e env st).bind fun x st => (evEs C r env st).bind fun xs st => .ok (x :: xs) st := rfl
/-- an int -/
def intR (x : X) (st : Store) : R (Option Int) := match x with
    | .v (.int i) => .ok (some i) st
    | _ => .bad
@[simp] theorem intR_int (i : Int) : intR (.v (.int i)) st = .ok (some i) st := rfl
@[simp ↓] theorem o_none : evO C none env st = .ok none st := rfl
@[simp ↓] theorem o_some (e) : evO C (some e) env st = (evE C e env st).bind intR := rfl
@[simp ↓] theorem c_none : evC C none env st = .ok true st := rfl
@[simp ↓] theorem c_some (e) : evC C (some e) env st = evT C e env st := rfl
@[simp ↓] theorem i_over (e) : evI C (.over e) env st = (evE C e env st).bind overV := rfl
@[simp ↓] theorem i_rng1 (e) : evI C (.rng1 e) env st = (evE C e env st).bind fun x st => rngV (.v (.int 0)) x (.v (.int 1)) st := id rfl
@[simp ↓] theorem i_enum (e) : evI C (.enum e) env st = (evE C e env st).bind fun x st => wkR ((lstOf x).map enumV) st := rfl
@[simp ↓] theorem i_zip (a b) : evI C (.zip a b) env st = (evE C a env st).bind fun x st => (evE C b env st).bind fun y st => wkR (zip2 x y) st := rfl
@[simp ↓] theorem i_items (e) : evI C (.items e) env st = wkR ((pkE C e env st).bind itemsV) st := rfl
-- statements
@[simp ↓] theorem ss_nil : evSs C [] env st = .nx env st := rfl
@[simp ↓] theorem ss_cons (x r) : evSs C (x :: r) env st = (evS C x env st).next (evSs C r) := rfl
@[simp ↓] theorem s_expr (e) : evS C (.expr e) env st = (evE C e env st).run env fun _ st => .nx env st := rfl
@[simp ↓] theorem s_asg (t e) : evS C (.asg t e) env st = (evE C e env st).run env fun x st => assign C t x env st := rfl
@[simp ↓] theorem s_frz (i) : evS C (.frz i) env st = frzS i env st := rfl
@[simp ↓] theorem s_aug (i op e) : evS C (.aug i op e) env st = (optR (lk i env) st).run env fun x st => (evE C e env st).run env fun y st => (augV op x y st).run env fun z st => .nx (env.set i (some z)) st := rfl
@[simp ↓] theorem s_augAt (o n op e) : evS C (.augAt o n op e) env st = (evE C o env st).run env fun y st => (optR (fldO C y n st) st).run env fun x st => (evE C e env st).run env fun w st2 =>
      if clsOf y st2 == clsOf y st then (augV op x w st2).run env fun z st => putAt C y n z env st else .bad := rfl
@[simp ↓] theorem s_ret (e) : evS C (.ret e) env st = (evE C e env st).run env fun x st => .ret x st := rfl
@[simp ↓] theorem s_retN : evS C .retN env st = .ret (.v .none) st := rfl
@[simp ↓] theorem s_ifs (c a b) : evS C (.ifs c a b) env st = (evT C c env st).run env fun k st => if k then evSs C a env st else evSs C b env st := rfl
@[simp ↓] theorem s_whl (c b) : evS C (.whl c b) env st = whlL (evT C c) (evSs C b) WF env st := rfl
/-- a turn of a for -/
def turn (C : Ctx) (t : Tg) (b : List CS) (v : Val) (env : Env) (st : Store) : S := match bindT t v env with
      | some env => evSs C b env st
      | none => .bad
@[simp ↓] theorem s_for (t it b e) : evS C (.for t it b e) env st = (evI C it env st).run env fun w st => noXI it (forL w (turn C t b) (evSs C e) w.xs env st) := rfl
@[simp ↓] theorem s_brk : evS C .brk env st = .brk env st := rfl
@[simp ↓] theorem s_cnt : evS C .cnt env st = .cnt env st := rfl
@[simp ↓] theorem s_pass : evS C .pass env st = .nx env st := rfl
@[simp ↓] theorem s_raise (c as) : evS C (.raise c as) env st = (evEs C as env st).run env fun xs st => raiseV C c xs env st := rfl
/-- what a try's suite ends with -/
def tryS (C : Ctx) (hs : List Hd) (r : S) : S := match r with
    | .exc c ns vs e s => handle C c ns vs e s hs
    | r => r
@[simp ↓] theorem s_tr (b hs) : evS C (.tr b hs) env st = tryS C hs (evSs C b env st) := rfl
@[simp] theorem tryS_nx (hs) (e) : tryS C hs (.nx e st) = .nx e st := rfl
@[simp] theorem tryS_exc (hs c ns vs e) : tryS C hs (.exc c ns vs e st) = handle C c ns vs e st hs := rfl
@[simp ↓] theorem a_nm (i x) : assign C (.nm i) x env st = .nx (env.set i (some x)) st := rfl
@[simp ↓] theorem a_at (o n x) : assign C (.at o n) x env st = (evE C o env st).run env fun y st => putAt C y n x env st := rfl
@[simp ↓] theorem a_ix (o i x) : assign C (.ix o i) x env st = (evE C o env st).run env fun y st => (evE C i env st).run env fun k st => putIx y k x env st := rfl
@[simp ↓] theorem a_tp (ts) (xs : List Val) : assign C (.tp ts) (.v (.tup xs)) env st = assigns C ts xs env st := rfl
@[simp ↓] theorem a_tl (ts) (xs : List Val) : assign C (.tp ts) (.v (.lst xs)) env st = assigns C ts xs env st := rfl
@[simp ↓] theorem as_nil : assigns C [] [] env st = .nx env st := rfl
@[simp ↓] theorem as_cons (t ts x xs) : assigns C (t :: ts) (x :: xs) env st = (assign C t (.v x) env st).next (assigns C ts xs) := rfl
-- targets
@[simp] theorem b_nm (i v) : bindT (.nm i) v env = some (env.set i (some (.v v))) := rfl
@[simp] theorem b_tp (is) (xs : List Val) : bindT (.tp is) (.tup xs) env = if xs.length = is.length then some ((is.zip xs).foldl (fun e p => e.set p.1 (some (.v p.2))) env) else none := rfl
@[simp] theorem b_tl (is) (xs : List Val) : bindT (.tp is) (.lst xs) env = if xs.length = is.length then some ((is.zip xs).foldl (fun e p => e.set p.1 (some (.v p.2))) env) else none := rfl
-- plain operations
@[simp] theorem boolV_b (b) : boolV (.v (.bool b)) st = .ok b st := rfl
@[simp] theorem negV_i (i) : negV (.v (.int i)) st = .ok (.v (.int (-i))) st := rfl
@[simp] theorem bin_add (m i j) : binV m .add (.v (.int i)) (.v (.int j)) st = .ok (.v (.int (i + j))) st := rfl
@[simp] theorem bin_sub (m i j) : binV m .sub (.v (.int i)) (.v (.int j)) st = .ok (.v (.int (i - j))) st := rfl
@[simp] theorem bin_mul (m i j) : binV m .mul (.v (.int i)) (.v (.int j)) st = if small i || small j then .ok (.v (.int (i * j))) st else .bad := rfl
@[simp] theorem bin_mod (m i j) : binV m .mod (.v (.int i)) (.v (.int j)) st = if 0 < j then .ok (.v (.int (i % j))) st else .bad := rfl
@[simp] theorem bin_fdiv (m i j) : binV m .fdiv (.v (.int i)) (.v (.int j)) st = if 0 < j ∧ j < 1073741824 then .ok (.v (.int (i / j))) st else .bad := rfl
@[simp] theorem bin_pow (m i j) : binV m .pow (.v (.int i)) (.v (.int j)) st = if 0 ≤ j ∧ j ≤ 1000000 ∧ i.natAbs < 18446744073709551616 then .ok (.v (.int (i ^ j.toNat))) st else .bad := rfl
@[simp] theorem bin_addS (m a b) : binV m .add (.v (.str a)) (.v (.str b)) st = if a.length + b.length ≤ LIM then .ok (.v (.str (a ++ b))) st else .bad := rfl
@[simp] theorem bin_addT (m a b) : binV m .add (.v (.tup a)) (.v (.tup b)) st = if a.length + b.length ≤ LIM then .ok (.v (.tup (a ++ b))) st else .bad := rfl
@[simp] theorem bin_addL (m a b) : binV m .add (.v (.lst a)) (.v (.lst b)) st = newL m (a ++ b) st := rfl
@[simp] theorem newL_f (xs) : newL false xs st = if xs.length ≤ LIM then .ok (.v (.lst xs)) st else .bad := rfl
@[simp] theorem newL_t (xs) : newL true xs st = if xs.length ≤ LIM then .ok (.r st.length) (st ++ [.lst xs]) else .bad := rfl
@[simp] theorem asVal_v (a : Val) : asVal (.v a) st = some a := rfl
/-- an item -/
def ixL (xs : List Val) (i : Int) : Option Val := match ixAt xs.length i with
  | some j => xs[j]?
  | none => none
@[simp] theorem ixL_nat (xs : List Val) (n : Nat) : ixL xs (n : Int) = xs[n]? := by
  unfold ixL ixAt
  rw [if_pos (Int.natCast_nonneg n)]
  by_cases h : n < xs.length
  · rw [if_pos (by omega)]; simp
  · rw [if_neg (by omega)]
    exact (List.getElem?_eq_none (by omega)).symm
@[simp] theorem ixL_lit (xs : List Val) (n : Nat) : ixL xs (no_index (OfNat.ofNat n : Int)) = xs[n]? := ixL_nat xs n
@[simp] theorem ixL_0 (xs : List Val) : ixL xs 0 = xs[0]? := ixL_nat xs 0
@[simp] theorem ixL_1 (xs : List Val) : ixL xs 1 = xs[1]? := ixL_nat xs 1
def ixC (o : Option Cell) (i : Int) : Option Val := match o with
  | some (.lst xs) => ixL xs i
  | some (.dct t ks vs) => if fitKey t (.int i) then dget ks vs (.int i) else none
  | _ => none
@[simp] theorem ixC_l (xs) (i : Int) : ixC (some (.lst xs)) i = ixL xs i := rfl
@[simp] theorem ix_l (xs) (i : Int) : ixV (.v (.lst xs)) (.v (.int i)) st = ixL xs i := rfl
@[simp] theorem ix_t (xs) (i : Int) : ixV (.v (.tup xs)) (.v (.int i)) st = ixL xs i := rfl
@[simp] theorem ix_k (xs) (i : Int) : ixV (.k xs) (.v (.int i)) st = ixL xs i := rfl
@[simp] theorem ix_r (n : Nat) (i : Int) : ixV (.r n) (.v (.int i)) st = ixC st[n]? i := by
  unfold ixV asSeq asList asDict ixC
  simp only
  match st[n]? with
  | some (.ins c ns vs) => rfl
  | some (.lst _) => rfl
  | some (.rls _) => rfl
  | some (.dct _ _ _) => rfl
  | some .dead => rfl
  | none => rfl
@[simp] theorem ix_s (s : Tx) (i : Int) : ixV (.v (.str s)) (.v (.int i)) st = if s.length ≤ LIM then (match ixAt s.length i with
    | some j => s[j]?.map fun c => .str [c]
    | none => none) else none := rfl
@[simp] theorem ix_d (t ks vs) (k : Tx) : ixV (.v (.dct t ks vs)) (.v (.str k)) st = if fitKey t (.str k) then dget ks vs (.str k) else none := rfl
@[simp] theorem fit_s (k) : fitKey false (.str k) = true := rfl
-- comparisons
@[simp] theorem eq_s (a b : Tx) : cmpV .eq (.v (.str a)) (.v (.str b)) st = some (a == b) := rfl
@[simp] theorem ne_s (a b : Tx) : cmpV .ne (.v (.str a)) (.v (.str b)) st = some (!(a == b)) := rfl
@[simp] theorem eq_i (a b : Int) : cmpV .eq (.v (.int a)) (.v (.int b)) st = some (a == b) := rfl
@[simp] theorem ne_i (a b : Int) : cmpV .ne (.v (.int a)) (.v (.int b)) st = some (!(a == b)) := rfl
@[simp] theorem ne_b (a b : Bool) : cmpV .ne (.v (.bool a)) (.v (.bool b)) st = some (!(a == b)) := rfl
@[simp] theorem lt_i (a b : Int) : cmpV .lt (.v (.int a)) (.v (.int b)) st = some (decide (a < b)) := rfl
@[simp] theorem le_i (a b : Int) : cmpV .le (.v (.int a)) (.v (.int b)) st = some (decide (a ≤ b)) := rfl
@[simp] theorem gt_i (a b : Int) : cmpV .gt (.v (.int a)) (.v (.int b)) st = some (decide (b < a)) := rfl
@[simp] theorem ge_i (a b : Int) : cmpV .ge (.v (.int a)) (.v (.int b)) st = some (decide (b ≤ a)) := rfl
@[simp] theorem in_c (c : Nat) (s : Tx) : cmpV .inn (.v (.str [c])) (.v (.str s)) st = some (s.contains c) := rfl
@[simp] theorem nin_c (c : Nat) (s : Tx) : cmpV .nin (.v (.str [c])) (.v (.str s)) st = some (!(s.contains c)) := rfl
def inS (a : Val) (xs : List Val) : Option Bool := if a.okD && isDL xs then some (xs.any fun b => b.eqv a) else none
def inD (a : Val) (t : Bool) (ks vs : List Val) : Option Bool := if fitKey t a then some ((dget ks vs a).isSome) else none
def inO (a : Val) (o : Option Cell) : Option Bool := match o with
  | some (.lst xs) => inS a xs
  | some (.dct t ks vs) => inD a t ks vs
  | _ => none
theorem inV_seq {a : Val} {y : X} {xs : List Val} {st : Store} (h : asSeq y st = some xs) (h2 : ∀ s, y ≠ .v (.str s)) : inV (.v a) y st = inS a xs := by
  unfold inV
  split
  · exact absurd rfl (h2 _)
  · rename_i e _
    cases e
    rw [h]
    rfl
  · rename_i h3 _
    exact absurd rfl (h3 a)
theorem inV_dct {a : Val} {y : X} {t ks vs} {st : Store} (h0 : asSeq y st = none) (h : asDict y st = some (t, ks, vs)) (h2 : ∀ s, y ≠ .v (.str s)) : inV (.v a) y st = inD a t ks vs := by
  unfold inV
  split
  · exact absurd rfl (h2 _)
  · rename_i e _
    cases e
    rw [h0, h]
    rfl
  · rename_i h3 _
    exact absurd rfl (h3 a)
@[simp] theorem in_k (a : Val) (xs) : cmpV .inn (.v a) (.k xs) st = inS a xs := inV_seq rfl (by simp)
@[simp] theorem in_t (a : Val) (xs) : cmpV .inn (.v a) (.v (.tup xs)) st = inS a xs := inV_seq rfl (by simp)
@[simp] theorem in_l (a : Val) (xs) : cmpV .inn (.v a) (.v (.lst xs)) st = inS a xs := inV_seq rfl (by simp)
@[simp] theorem in_d (a : Val) (t ks vs) : cmpV .inn (.v a) (.v (.dct t ks vs)) st = inD a t ks vs := inV_dct rfl rfl (by simp)
@[simp] theorem nin_k (a : Val) (xs) : cmpV .nin (.v a) (.k xs) st = (inS a xs).map (!·) := congrArg (Option.map (!·)) (inV_seq rfl (by simp))
@[simp] theorem nin_t (a : Val) (xs) : cmpV .nin (.v a) (.v (.tup xs)) st = (inS a xs).map (!·) := congrArg (Option.map (!·)) (inV_seq rfl (by simp))
@[simp] theorem nin_l (a : Val) (xs) : cmpV .nin (.v a) (.v (.lst xs)) st = (inS a xs).map (!·) := congrArg (Option.map (!·)) (inV_seq rfl (by simp))
@[simp] theorem nin_d (a : Val) (t ks vs) : cmpV .nin (.v a) (.v (.dct t ks vs)) st = (inD a t ks vs).map (!·) := congrArg (Option.map (!·)) (inV_dct rfl rfl (by simp))
theorem inV_r (a : Val) (n : Nat) : inV (.v a) (.r n) st = inO a st[n]? := by
  match h : st[n]? with
  | some (.lst xs) => exact inV_seq (by simp [asSeq, asList, h]) (by simp)
  | some (.dct t ks vs) => exact inV_dct (by simp [asSeq, asList, h]) (by simp [asDict, h]) (by simp)
  | none => unfold inV; simp [inO, asSeq, asList, asDict, h]
  | some .dead => unfold inV; simp [inO, asSeq, asList, asDict, h]
  | some (.rls _) => unfold inV; simp [inO, asSeq, asList, asDict, h]
  | some (.ins _ _ _) => unfold inV; simp [inO, asSeq, asList, asDict, h]
@[simp] theorem in_r (a : Val) (n : Nat) : cmpV .inn (.v a) (.r n) st = inO a st[n]? := inV_r st a n
@[simp] theorem nin_r (a : Val) (n : Nat) : cmpV .nin (.v a) (.r n) st = (inO a st[n]?).map (!·) := congrArg (Option.map (!·)) (inV_r st a n)
@[simp] theorem inO_l (a : Val) (xs) : inO a (some (.lst xs)) = inS a xs := rfl
@[simp] theorem inO_d (a : Val) (t ks vs) : inO a (some (.dct t ks vs)) = inD a t ks vs := rfl
@[simp] theorem inD_s (a : Tx) (ks vs) : inD (.str a) false ks vs = some ((dget ks vs (.str a)).isSome) := rfl
@[simp] theorem is_none : cmpV .isN (.v .none) y st = some true := rfl
@[simp] theorem notn_none : cmpV .notN (.v .none) y st = some false := rfl
@[simp] theorem is_str (s) : cmpV .isN (.v (.str s)) y st = some false := rfl
@[simp] theorem notn_str (s) : cmpV .notN (.v (.str s)) y st = some true := rfl
@[simp] theorem tr_b (b) : truth (.v (.bool b)) st = some b := rfl
@[simp] theorem tr_l (xs) : truth (.v (.lst xs)) st = some (!xs.isEmpty) := rfl
def trC (o : Option Cell) : Option Bool := match o with
  | some (.lst xs) => some (!xs.isEmpty)
  | _ => none
@[simp] theorem tr_r (n : Nat) : truth (.r n) st = trC st[n]? := by
  unfold truth asList trC
  simp only
  match st[n]? with
  | some (.ins c ns vs) => rfl
  | some (.lst _) => rfl
  | some (.rls _) => rfl
  | some (.dct _ _ _) => rfl
  | some .dead => rfl
  | none => rfl
@[simp] theorem trC_l (xs) : trC (some (.lst xs)) = some (!xs.isEmpty) := rfl
-- built-ins
@[simp] theorem bi_len (m as) : biV m .len as st = lenF as st := rfl
@[simp] theorem len_s (s) : lenF [.v (.str s)] st = if s.length ≤ LIM then .ok (.v (.int s.length)) st else .bad := rfl
@[simp] theorem len_l (xs) : lenF [.v (.lst xs)] st = .ok (.v (.int xs.length)) st := rfl
@[simp] theorem len_t (xs) : lenF [.v (.tup xs)] st = .ok (.v (.int xs.length)) st := rfl
@[simp] theorem len_d (t ks vs) : lenF [.v (.dct t ks vs)] st = .ok (.v (.int ks.length)) st := rfl
@[simp] theorem bi_int (m i) : biV m .int [.v (.int i)] st = .ok (.v (.int i)) st := rfl
@[simp] theorem bi_tup_l (m xs) : biV m .tuple [.v (.lst xs)] st = .ok (.v (.tup xs)) st := rfl
@[simp] theorem bi_tup_t (m xs) : biV m .tuple [.v (.tup xs)] st = .ok (.v (.tup xs)) st := rfl
def boolsR (f : List Bool → Bool) (o : Option (List Bool)) (st : Store) : R X := match o with
    | some bs => .ok (.v (.bool (f bs))) st
    | none => .bad
@[simp] theorem bi_all (m xs) : biV m .all [.v (.lst xs)] st = boolsR (fun bs => bs.all id) (isBools xs) st := rfl
@[simp] theorem bi_any (m xs) : biV m .any [.v (.lst xs)] st = boolsR (fun bs => bs.any id) (isBools xs) st := rfl
theorem isBools_map : ∀ bs : List Bool, isBools (bs.map .bool) = some bs
  | [] => rfl
  | b :: r => by simp [isBools, isBools_map r]
@[simp] theorem boolsR_some (f bs) : boolsR f (some bs) st = .ok (.v (.bool (f bs))) st := rfl
def intsR (o : Option (List Int)) (st : Store) : R X := match o with
    | some is => .ok (.v (.int is.sum)) st
    | none => .bad
@[simp] theorem bi_sum (m xs) : biV m .sum [.v (.lst xs)] st = intsR (isInts xs) st := rfl
@[simp] theorem intsR_some (f) : intsR (some f) st = .ok (.v (.int f.sum)) st := rfl
theorem isInts_map : ∀ bs : List Int, isInts (bs.map .int) = some bs
  | [] => rfl
  | b :: r => by simp [isInts, isInts_map r]
theorem isStrs_map : ∀ bs : List Tx, isStrs (bs.map .str) = some bs
  | [] => rfl
  | b :: r => by simp [isStrs, isStrs_map r]
-- methods of built-ins
@[simp] theorem ty_join (s) : bmTy .join (.v (.str s)) st = true := rfl
@[simp] theorem ty_split (s) : bmTy .split (.v (.str s)) st = true := rfl
@[simp] theorem bm_split (s : Tx) (c : Nat) : bmV .split (.v (.str s)) [.v (.str [c])] st = if s.length + 2 ≤ LIM ∧ c < 256 then newL false ((splitC c s).map .str) st else .bad := rfl
def joinR (s : Tx) (o : Option (List Tx)) (st : Store) : R X := match o with
    | some xs => if totalLen s xs ≤ LIM then .ok (.v (.str (joinT s xs))) st else .bad
    | none => .bad
@[simp] theorem bm_join (s : Tx) (xs) : bmV .join (.v (.str s)) [.v (.lst xs)] st = joinR s (isStrs xs) st := rfl
@[simp] theorem joinR_some (s : Tx) (xs) : joinR s (some xs) st = if totalLen s xs ≤ LIM then .ok (.v (.str (joinT s xs))) st else .bad := rfl
def apC (n : Nat) (a : Val) (o : Option Cell) (st : Store) : R X := match o with
    | some (.lst xs) => if xs.length < LIM then .ok (.v .none) (st.set n (.lst (xs ++ [a]))) else .bad
    | _ => .bad
@[simp] theorem bm_append (n : Nat) (a : Val) : bmV .append (.r n) [.v a] st = apC n a st[n]? st := rfl
@[simp] theorem apC_l (n : Nat) (a : Val) (xs) : apC n a (some (.lst xs)) st = if xs.length < LIM then .ok (.v .none) (st.set n (.lst (xs ++ [a]))) else .bad := rfl
def tyA (o : Option Cell) : Bool := match o with
      | some (.lst _) => true
      | some (.rls _) => true
      | _ => false
@[simp] theorem ty_append (n) : bmTy .append (.r n) st = tyA st[n]? := rfl
@[simp] theorem tyA_l (xs) : tyA (some (.lst xs)) = true := rfl
@[simp] theorem ty_get (t ks vs) : bmTy .get2 (.v (.dct t ks vs)) st = true := rfl
@[simp] theorem bm_get (t ks vs) (k d : Val) : bmV .get2 (.v (.dct t ks vs)) [.v k, .v d] st = if fitKey t k then .ok (.v ((dget ks vs k).getD d)) st else .bad := rfl
-- displays
@[simp] theorem tv_nil : toVals [] = some [] := rfl
@[simp] theorem tv_cons (a : Val) (r) : toVals (.v a :: r) = (toVals r).map (a :: ·) := rfl
def tupR (o : Option (List Val)) (st : Store) : R X := match o with
  | some vs => if vs.length ≤ LIM then .ok (.v (.tup vs)) st else .bad
  | none => .bad
@[simp] theorem tup_x (xs) : tupV xs st = tupR (toVals xs) st := rfl
@[simp] theorem tupR_s (vs : List Val) : tupR (some vs) st = if vs.length ≤ LIM then .ok (.v (.tup vs)) st else .bad := rfl
theorem lstV_vs {m xs vs} (h : toVals xs = some vs) : lstV m xs st = newL m vs st := by unfold lstV; rw [h]
@[simp] theorem lst_0 (m) : lstV m [] st = newL m [] st := rfl
@[simp] theorem lst_1 (m a) : lstV m [.v a] st = newL m [a] st := rfl
@[simp] theorem lst_2 (m a b) : lstV m [.v a, .v b] st = newL m [a, b] st := rfl
@[simp] theorem lst_3 (m a b c) : lstV m [.v a, .v b, .v c] st = newL m [a, b, c] st := rfl
@[simp] theorem lst_4 (m a b c d) : lstV m [.v a, .v b, .v c, .v d] st = newL m [a, b, c, d] st := rfl
@[simp] theorem lst_6 (m a b c d e f) : lstV m [.v a, .v b, .v c, .v d, .v e, .v f] st = newL m [a, b, c, d, e, f] st := rfl
@[simp] theorem lst_8 (m a b c d e f g h) : lstV m [.v a, .v b, .v c, .v d, .v e, .v f, .v g, .v h] st = newL m [a, b, c, d, e, f, g, h] st := rfl
@[simp] theorem lst_12 (m a b c d e f g h i j k l) : lstV m [.v a, .v b, .v c, .v d, .v e, .v f, .v g, .v h, .v i, .v j, .v k, .v l] st = newL m [a, b, c, d, e, f, g, h, i, j, k, l] st := rfl
@[simp] theorem dic_0 (m t) : dicV m t [] st = dictR m t [] [] st := rfl
@[simp] theorem dictR_f (t ks vs) : dictR false t ks vs st = if ks.length ≤ LIM then .ok (.v (.dct t ks vs)) st else .bad := rfl
@[simp] theorem dictR_t (t ks vs) : dictR true t ks vs st = if ks.length ≤ LIM then .ok (.r st.length) (st ++ [.dct t ks vs]) else .bad := rfl
-- types
@[simp] theorem it_i_int (i) : isTV (.v (.int i)) .int st = some true := rfl
@[simp] theorem it_b_int (i) : isTV (.v (.bool i)) .int st = some true := rfl
@[simp] theorem it_s_int (i) : isTV (.v (.str i)) .int st = some false := rfl
@[simp] theorem it_t_int (i) : isTV (.v (.tup i)) .int st = some false := rfl
@[simp] theorem it_n_int : isTV (.v .none) .int st = some false := rfl
@[simp] theorem it_i_bool (i) : isTV (.v (.int i)) .bool st = some false := rfl
@[simp] theorem it_b_bool (i) : isTV (.v (.bool i)) .bool st = some true := rfl
@[simp] theorem it_s_str (i) : isTV (.v (.str i)) .str st = some true := rfl
@[simp] theorem it_i_str (i) : isTV (.v (.int i)) .str st = some false := rfl
@[simp] theorem it_b_str (i) : isTV (.v (.bool i)) .str st = some false := rfl
@[simp] theorem it_t_str (i) : isTV (.v (.tup i)) .str st = some false := rfl
@[simp] theorem it_n_str : isTV (.v .none) .str st = some false := rfl
@[simp] theorem it_t_tup (i) : isTV (.v (.tup i)) .tup st = some true := rfl
@[simp] theorem it_i_tup (i) : isTV (.v (.int i)) .tup st = some false := rfl
@[simp] theorem it_b_tup (i) : isTV (.v (.bool i)) .tup st = some false := rfl
@[simp] theorem it_s_tup (i) : isTV (.v (.str i)) .tup st = some false := rfl
@[simp] theorem it_n_tup : isTV (.v .none) .tup st = some false := rfl
-- slices
@[simp] theorem sl_t (m xs lo hi) : slI m (.v (.tup xs)) lo hi st = .ok (.v (.tup (cut xs lo hi))) st := rfl
@[simp] theorem sl_l (m xs lo hi) : slI m (.v (.lst xs)) lo hi st = newL m (cut xs lo hi) st := rfl
@[simp] theorem sl_s (m xs lo hi) : slI m (.v (.str xs)) lo hi st = if xs.length ≤ LIM then .ok (.v (.str (cut xs lo hi))) st else .bad := rfl
-- instances
@[simp] theorem cls_v (c ns vs) : clsOf (.v (.obj c ns vs)) st = some c := rfl
def clsC (o : Option Cell) : Option Nat := match o with
    | some (.ins c _ _) => some c
    | _ => none
@[simp] theorem cls_r (n) : clsOf (.r n) st = clsC st[n]? := rfl
@[simp] theorem clsC_i (c ns vs) : clsC (some (.ins c ns vs)) = some c := rfl
@[simp] theorem fld_v (c ns vs n) : fldV (.v (.obj c ns vs)) n st = (flook ns vs n).map X.v := rfl
def fldC (n : Nat) (o : Option Cell) : Option X := match o with
    | some (.ins _ ns vs) => flook ns vs n
    | _ => none
@[simp] theorem fld_r (a n) : fldV (.r a) n st = fldC n st[a]? := rfl
@[simp] theorem fldC_i (n c ns vs) : fldC n (some (.ins c ns vs)) = flook ns vs n := rfl
theorem flook_c {α : Type} (n : Nat) (ns : List Nat) (v : α) (vs : List α) (x : Nat) : flook (n :: ns) (v :: vs) x = if n == x then some v else flook ns vs x := rfl
/-- an attribute of an instance of a class -/
def attO (C : Ctx) (x : X) (n : Nat) (st : Store) (c : Nat) : R X := match C.prop c n with
    | some f => noX (C.call f [x] st)
    | none => (match C.meth c n with
      | some _ => .bad
      | none => optR (fldV x n st) st)
theorem att_x {x n c} (h : clsOf x st = some c) : attrV C x n st = attO C x n st c := by unfold attrV; rw [h]; rfl
theorem attO_f {C : Ctx} {x n st c} (h1 : C.prop c n = none) (h2 : C.meth c n = none) : attO C x n st c = optR (fldV x n st) st := by unfold attO; rw [h1]; simp only; rw [h2]
def attC (C : Ctx) (a n : Nat) (st : Store) (o : Option Cell) : R X := match o with
  | some (.ins c _ _) => attO C (.r a) n st c
  | _ => .bad
@[simp] theorem att_v (c ns vs n) : attrV C (.v (.obj c ns vs)) n st = attO C (.v (.obj c ns vs)) n st c := rfl
@[simp] theorem att_r (a n) : attrV C (.r a) n st = attC C a n st st[a]? := by
  unfold attrV attC
  simp only [clsOf]
  match st[a]? with
  | some (.ins c ns vs) => rfl
  | some (.lst _) => rfl
  | some (.rls _) => rfl
  | some (.dct _ _ _) => rfl
  | some .dead => rfl
  | none => rfl
@[simp] theorem attC_i (a n c ns vs) : attC C a n st (some (.ins c ns vs)) = attO C (.r a) n st c := rfl
def metO (C : Ctx) (x : X) (n : Nat) (st : Store) (c : Nat) : Option Nat := match fldV x n st with
    | none => C.meth c n
    | some _ => none
def metC (C : Ctx) (a n : Nat) (o : Option Cell) : Option Nat := match o with
  | some (.ins c ns vs) => (match flook ns vs n with
    | none => C.meth c n
    | some _ => none)
  | _ => none
@[simp] theorem met_v (c ns vs n) : methF C (.v (.obj c ns vs)) n st = match flook ns vs n with
    | none => C.meth c n
    | some _ => none := by
  unfold methF fldV
  simp only [clsOf]
  cases flook ns vs n <;> rfl
@[simp] theorem met_r (a n) : methF C (.r a) n st = metC C a n st[a]? := by
  unfold methF metC fldV
  simp only [clsOf]
  match st[a]? with
  | some (.ins c ns vs) => rfl
  | some (.lst _) => rfl
  | some (.rls _) => rfl
  | some (.dct _ _ _) => rfl
  | some .dead => rfl
  | none => rfl
@[simp] theorem metC_i (a n c ns vs) : metC C a n (some (.ins c ns vs)) = match flook ns vs n with
    | none => C.meth c n
    | some _ => none := rfl
@[simp] theorem isC_v (c ns vs n) : isCV C (.v (.obj c ns vs)) n st = some (C.sub c n) := rfl
def pat (C : Ctx) (a n : Nat) (x : X) (env : Env) (st : Store) (o : Option Cell) : S := match o with
    | some (.ins c ns vs) => (match C.prop c n, C.meth c n with
      | none, none => if ns.length < 900 then .nx env (st.set a (.ins c (fput ns vs n x).1 (fput ns vs n x).2)) else .bad
      | _, _ => .bad)
    | _ => .bad
@[simp] theorem putAt_r (a n x) : putAt C (.r a) n x env st = pat C a n x env st st[a]? := rfl
def patC (C : Ctx) (a n : Nat) (x : X) (env : Env) (st : Store) (c : Nat) (ns : List Nat) (vs : List X) (p m : Option Nat) : S := match p, m with
      | none, none => if ns.length < 900 then .nx env (st.set a (.ins c (fput ns vs n x).1 (fput ns vs n x).2)) else .bad
      | _, _ => .bad
@[simp] theorem pat_i (a n x c ns vs) : pat C a n x env st (some (.ins c ns vs)) = patC C a n x env st c ns vs (C.prop c n) (C.meth c n) := rfl
@[simp] theorem patC_n (a n x c ns vs) : patC C a n x env st c ns vs none none = if ns.length < 900 then .nx env (st.set a (.ins c (fput ns vs n x).1 (fput ns vs n x).2)) else .bad := rfl
theorem fput_c {α : Type} (n : Nat) (ns : List Nat) (v : α) (vs : List α) (x : Nat) (y : α) : fput (n :: ns) (v :: vs) x y = if n == x then (n :: ns, y :: vs) else (n :: (fput ns vs x y).1, v :: (fput ns vs x y).2) := rfl
theorem fput_0 {α : Type} (x : Nat) (y : α) : fput [] [] x y = ([x], [y]) := rfl
def pix (a : Nat) (k v : Val) (env : Env) (st : Store) (o : Option Cell) : S := match o with
    | some (.dct t ks vs) => if fitKey t k && decide (ks.length < LIM) then .nx env (st.set a (.dct t (dput ks vs k v).1 (dput ks vs k v).2)) else .bad
    | some (.lst xs) => (match k with
      | .int j => (match ixAt xs.length j with
        | some p => .nx env (st.set a (.lst (xs.set p v)))
        | none => .bad)
      | _ => .bad)
    | _ => .bad
@[simp] theorem putIx_r (a k v) : putIx (.r a) (.v k) (.v v) env st = pix a k v env st st[a]? := rfl
@[simp] theorem pix_d (a k v t ks vs) : pix a k v env st (some (.dct t ks vs)) = if fitKey t k && decide (ks.length < LIM) then .nx env (st.set a (.dct t (dput ks vs k v).1 (dput ks vs k v).2)) else .bad := rfl
def pixL (a : Nat) (xs : List Val) (v : Val) (env : Env) (st : Store) (o : Option Nat) : S := match o with
        | some p => .nx env (st.set a (.lst (xs.set p v)))
        | none => .bad
@[simp] theorem pix_l (a j v xs) : pix a (.int j) v env st (some (.lst xs)) = pixL a xs v env st (ixAt xs.length j) := rfl
@[simp] theorem pixL_s (a xs v p) : pixL a xs v env st (some p) = .nx env (st.set a (.lst (xs.set p v))) := rfl
@[simp] theorem ixAt_4_1 : ixAt 4 1 = some 1 := rfl
@[simp] theorem ixAt_4_2 : ixAt 4 2 = some 2 := rfl
@[simp] theorem ixAt_4_3 : ixAt 4 3 = some 3 := rfl
@[simp] theorem aug_i (i j) : augV .add (.v (.int i)) (.v (.int j)) st = .ok (.v (.int (i + j))) st := rfl
-- freezing
@[simp] theorem frz_v (lo k) (a : Val) : frz lo st k (.v a) = some a := by cases k <;> rfl
def frzC (i : Nat) (env : Env) (st : Store) (x : Option X) : S := match x with
  | some (.r n) => (match st[n]? with
    | some (.lst xs) => .nx (env.set i (some (.v (.lst xs)))) (st.set n .dead)
    | some (.dct t ks vs) => .nx (env.set i (some (.v (.dct t ks vs)))) (st.set n .dead)
    | _ => .bad)
  | _ => .nx env st
def frzD (i n : Nat) (env : Env) (st : Store) (o : Option Cell) : S := match o with
    | some (.lst xs) => .nx (env.set i (some (.v (.lst xs)))) (st.set n .dead)
    | some (.dct t ks vs) => .nx (env.set i (some (.v (.dct t ks vs)))) (st.set n .dead)
    | _ => .bad
@[simp] theorem frzS_x (i) : frzS i env st = frzC i env st (lk i env) := rfl
@[simp] theorem frzC_r (i n) : frzC i env st (some (.r n)) = frzD i n env st st[n]? := rfl
@[simp] theorem frzC_v (i a) : frzC i env st (some (.v a)) = .nx env st := rfl
@[simp] theorem frzD_l (i n xs) : frzD i n env st (some (.lst xs)) = .nx (env.set i (some (.v (.lst xs)))) (st.set n .dead) := rfl
@[simp] theorem frzD_d (i n t ks vs) : frzD i n env st (some (.dct t ks vs)) = .nx (env.set i (some (.v (.dct t ks vs)))) (st.set n .dead) := rfl
@[simp] theorem okX_v (lo) (a : Val) : okX lo (.v a) = true := rfl
@[simp] theorem okX_r (lo n) : okX lo (.r n) = decide (n < lo) := rfl
@[simp] theorem okC_l (lo xs) : okC lo (.lst xs) = true := rfl
@[simp] theorem okC_d (lo t ks vs) : okC lo (.dct t ks vs) = true := rfl
@[simp] theorem okC_i (lo c ns vs) : okC lo (.ins c ns vs) = vs.all (okX lo) := rfl
@[simp] theorem okC_dead (lo) : okC lo .dead = true := rfl
-- walks
@[simp] theorem ov_l (xs) : overV (.v (.lst xs)) st = .ok ⟨none, xs⟩ st := rfl
@[simp] theorem ov_t (xs) : overV (.v (.tup xs)) st = .ok ⟨none, xs⟩ st := rfl
@[simp] theorem ov_s (s : Tx) : overV (.v (.str s)) st = .ok ⟨none, s.map fun c => .str [c]⟩ st := rfl
@[simp] theorem rng_i (i j k) : rngV (.v (.int i)) (.v (.int j)) (.v (.int k)) st = wkR (rangeV i j k) st := id rfl
@[simp] theorem lstOf_l (xs) : lstOf (.v (.lst xs)) = some xs := rfl
@[simp] theorem zip2_l (xs ys) : zip2 (.v (.lst xs)) (.v (.lst ys)) = some (zipV xs ys) := rfl
@[simp] theorem zip2_t (xs ys) : zip2 (.v (.tup xs)) (.v (.tup ys)) = some (zipV xs ys) := rfl
@[simp] theorem okG_n (xs) : okG none xs st = true := rfl
@[simp] theorem one_v (a : Val) : one (.v a) st = .ok [a] st := rfl
@[simp] theorem two_v (a b : Val) : two (.v a) (.v b) st = .ok [(a, b)] st := rfl
@[simp] theorem for_nil (xs) (f els) : forL ⟨none, xs⟩ f els [] env st = els env st := rfl
def goFor (w : Wk) (f : Val → Env → Store → S) (els : Env → Store → S) (r : List Val) (q : S) : S := match q with
    | .nx e s => forL w f els r e s
    | .cnt e s => forL w f els r e s
    | .brk e s => .nx e s
    | r => r
theorem for_cons (xs x r) (f els) : forL ⟨none, xs⟩ f els (x :: r) env st = goFor ⟨none, xs⟩ f els r (f x env st) := rfl
@[simp] theorem goFor_nx (w f els r e) : goFor w f els r (.nx e st) = forL w f els r e st := rfl
@[simp] theorem goFor_cnt (w f els r e) : goFor w f els r (.cnt e st) = forL w f els r e st := rfl
@[simp] theorem goFor_brk (w f els r e) : goFor w f els r (.brk e st) = .nx e st := rfl
@[simp] theorem goFor_ret (w f els r x) : goFor w f els r (.ret x st) = .ret x st := rfl

@[simp] theorem loop_nil (xs) (f : Val → Store → R (List α)) : loopL ⟨none, xs⟩ f [] st = .ok [] st := rfl
theorem loop_cons (xs x r) (f : Val → Store → R (List α)) : loopL ⟨none, xs⟩ f (x :: r) st = (f x st).bind fun ys st1 => (loopL ⟨none, xs⟩ f r st1).bind fun zs st2 => .ok (ys ++ zs) st2 := rfl
/-- an item of a list comprehension -/
def itemL (C : Ctx) (t : Tg) (c : Option CT) (e : CE) (env : Env) (v : Val) (st : Store) : R (List Val) := (optR (bindT t v env) st).bind fun env st => (evC C c env st).bind fun k st =>
        if k then (evE C e env st).bind one else .ok [] st
@[simp ↓] theorem e_lc (m t it c e) : evE C (.lc m t it c e) env st = (evI C it env st).bind fun w st => (noX (loopL w (itemL C t c e env) w.xs st)).bind (newL m) := rfl
def itemD (C : Ctx) (t : Tg) (c : Option CT) (k e : CE) (env : Env) (v : Val) (st : Store) : R (List (Val × Val)) := (optR (bindT t v env) st).bind fun env st => (evC C c env st).bind fun b st =>
        if b then (evE C k env st).bind fun x st => (evE C e env st).bind fun y st => two x y st else .ok [] st
@[simp ↓] theorem e_dc (t it c k e) : evE C (.dc t it c k e) env st = (evI C it env st).bind fun w st => (noX (loopL w (itemD C t c k e env) w.xs st)).bind (dictF false) := rfl
/-- a walk whose items keep the store -/
theorem loop_pure {w : Wk} (hw : w.g = none) {f : Val → Store → R (List α)} (g : Val → List α) {st : Store} : ∀ {xs : List Val}, (∀ x ∈ xs, f x st = .ok (g x) st) → loopL w f xs st = .ok (xs.flatMap g) st
  | [], _ => by unfold loopL; rw [hw]; rfl
  | x :: r, h => by
    unfold loopL
    rw [hw, h x (by simp), bind_ok, loop_pure hw g (xs := r) (fun y hy => h y (by simp [hy]))]
    simp
theorem loop_map {w : Wk} (hw : w.g = none) {f : Val → Store → R (List α)} (g : Val → α) {st : Store} {xs : List Val} (h : ∀ x ∈ xs, f x st = .ok [g x] st) : loopL w f xs st = .ok (xs.map g) st := by
  rw [loop_pure hw (fun x => [g x]) h]
  congr 1
  induction xs with
  | nil => rfl
  | cons a r ih => simp [ih (fun x hx => h x (by simp [hx]))]
end
-- calls
/-- what a def's body ends with -/
def resB (r : S) : R X := match r with
  | .ret x st => .ok x st
  | .nx _ st => .ok (.v .none) st
  | .exc c ns vs _ st => .exc c ns vs st
  | _ => .bad
@[simp] theorem resB_ret (x st) : resB (.ret x st) = .ok x st := rfl
@[simp] theorem resB_nx (x st) : resB (.nx x st) = .ok (.v .none) st := rfl
@[simp] theorem resB_exc (c ns vs e st) : resB (.exc c ns vs e st) = .exc c ns vs st := rfl
def seal0 (st : Store) (r : R X) : R X := match r with
        | .ok x st1 => (match frz 0 st1 4 x with
          | some v => .ok (.v v) st
          | none => .bad)
        | .exc c ns vs _ => .exc c ns vs st
        | .bad => .bad
@[simp] theorem seal0_v (st st1 a) : seal0 st (.ok (.v a) st1) = .ok (.v a) st := by simp [seal0]
@[simp] theorem seal0_exc (st c ns vs st1) : seal0 st (.exc c ns vs st1) = .exc c ns vs st := rfl
def seal1 (st : Store) (r : R X) : R X := match r with
      | .ok x st1 => sealV st.length x st1
      | .exc c ns vs st1 => if (st1.take st.length).all (okC st.length) then .exc c ns vs (st1.take st.length) else .bad
      | .bad => .bad
@[simp] theorem seal1_v (st st1 a) : seal1 st (.ok (.v a) st1) = if (st1.take st.length).all (okC st.length) then .ok (.v a) (st1.take st.length) else .bad := rfl
theorem call0 {P : Prg} {k f : Nat} {np ns : Nat} {body : List CS} (h : P.fn f = some ⟨np, ns, 0, body⟩) {vs : List Val} (hl : vs.length = np) (hn : np ≤ ns) (st : Store) :
    callN P (k + 1) f (vs.map .v) st = seal0 st (resB (evSs (P.ctx (callN P k)) body (start ⟨np, ns, 0, body⟩ (vs.map .v)) [])) := by
  rw [call_of h]
  unfold callF
  rw [if_pos (by simp [hl, hn])]
  have e : ∀ vs : List Val, toVals (vs.map X.v) = some vs := by
    intro vs
    induction vs with
    | nil => rfl
    | cons a r ih => simp [ih]
  simp only [e]
  rfl
theorem call1 {P : Prg} {k f : Nat} {np ns : Nat} {body : List CS} (h : P.fn f = some ⟨np, ns, 1, body⟩) {xs : List X} (hl : xs.length = np) (hn : np ≤ ns) (st : Store) :
    callN P (k + 1) f xs st = seal1 st (resB (evSs (P.ctx (callN P k)) body (start ⟨np, ns, 1, body⟩ xs) st)) := by
  rw [call_of h]
  unfold callF
  rw [if_pos (by simp [hl, hn])]
  rfl
theorem call2 {P : Prg} {k f : Nat} {np ns : Nat} {body : List CS} (h : P.fn f = some ⟨np, ns, 2, body⟩) {xs : List X} (hl : xs.length = np) (hn : np ≤ ns) (st : Store) :
    callN P (k + 1) f xs st = resB (evSs (P.ctx (callN P k)) body (start ⟨np, ns, 2, body⟩ xs) st) := by
  rw [call_of h]
  unfold callF
  rw [if_pos (by simp [hl, hn])]
  rfl
@[simp] theorem fn_14 : txt_k02.prg.fn 14 = some f__wall := rfl
@[simp] theorem fn_33 : txt_k02.prg.fn 33 = some f_Token___init__ := rfl
@[simp] theorem fn_0 : txt_k02.prg.fn 0 = some f_is_name := rfl
@[simp] theorem fn_1 : txt_k02.prg.fn 1 = some f_is_alternative := rfl
@[simp] theorem fn_2 : txt_k02.prg.fn 2 = some f_is_number := rfl
@[simp] theorem fn_4 : txt_k02.prg.fn 4 = some f_group_of := rfl
@[simp] theorem fn_3 : txt_k02.prg.fn 3 = some f_is_row_sign := rfl
@[simp] theorem fn_6 : txt_k02.prg.fn 6 = some f_tokens_of := rfl
@[simp] theorem fn_34 : txt_k02.prg.fn 34 = some f_KindLine___init__ := rfl
@[simp] theorem fn_35 : txt_k02.prg.fn 35 = some f_KindLine_plain_rows := rfl
@[simp] theorem fn_36 : txt_k02.prg.fn 36 = some f_FunctionLine___init__ := rfl
@[simp] theorem fn_5 : txt_k02.prg.fn 5 = some f_matches_in := rfl
@[simp] theorem fn_37 : txt_k02.prg.fn 37 = some f_LineReader___init__ := rfl
@[simp] theorem fn_38 : txt_k02.prg.fn 38 = some f_LineReader_peek := rfl
@[simp] theorem fn_39 : txt_k02.prg.fn 39 = some f_LineReader_here := rfl
@[simp] theorem fn_40 : txt_k02.prg.fn 40 = some f_LineReader_fail := rfl
@[simp] theorem fn_41 : txt_k02.prg.fn 41 = some f_LineReader_take := rfl
@[simp] theorem fn_42 : txt_k02.prg.fn 42 = some f_LineReader_accept := rfl
@[simp] theorem fn_43 : txt_k02.prg.fn 43 = some f_LineReader_whole_line := rfl
@[simp] theorem fn_44 : txt_k02.prg.fn 44 = some f_LineReader_kind_line := rfl
@[simp] theorem fn_45 : txt_k02.prg.fn 45 = some f_LineReader_row := rfl
@[simp] theorem fn_46 : txt_k02.prg.fn 46 = some f_LineReader_function_line := rfl
@[simp] theorem fn_47 : txt_k02.prg.fn 47 = some f_LineReader_param := rfl
@[simp] theorem fn_48 : txt_k02.prg.fn 48 = some f_LineReader_expression := rfl
@[simp] theorem fn_49 : txt_k02.prg.fn 49 = some f_LineReader_arm := rfl
@[simp] theorem fn_50 : txt_k02.prg.fn 50 = some f_LineReader_simple := rfl
@[simp] theorem fn_51 : txt_k02.prg.fn 51 = some f_LineReader_parts := rfl
@[simp] theorem fn_52 : txt_k02.prg.fn 52 = some f_LineReader_pattern := rfl
@[simp] theorem fn_10 : txt_k02.prg.fn 10 = some f_read_line := rfl
@[simp] theorem fn_7 : txt_k02.prg.fn 7 = some f_calls_in := rfl
@[simp] theorem fn_53 : txt_k02.prg.fn 53 = some f_Checker___init__ := rfl
@[simp] theorem fn_54 : txt_k02.prg.fn 54 = some f_Checker_note := rfl
@[simp] theorem fn_55 : txt_k02.prg.fn 55 = some f_Checker_introduce := rfl
@[simp] theorem fn_56 : txt_k02.prg.fn 56 = some f_Checker_check_kind_name := rfl
@[simp] theorem fn_57 : txt_k02.prg.fn 57 = some f_Checker_has_value := rfl
@[simp] theorem fn_58 : txt_k02.prg.fn 58 = some f_Checker_founded_kinds := rfl
@[simp] theorem fn_59 : txt_k02.prg.fn 59 = some f_Checker_check_kind := rfl
@[simp] theorem fn_60 : txt_k02.prg.fn 60 = some f_Checker_check_function := rfl
@[simp] theorem fn_61 : txt_k02.prg.fn 61 = some f_Checker_are_apart := rfl
@[simp] theorem fn_62 : txt_k02.prg.fn 62 = some f_Checker_own_kind := rfl
@[simp] theorem fn_63 : txt_k02.prg.fn 63 = some f_Checker_wanted_parts := rfl
@[simp] theorem fn_64 : txt_k02.prg.fn 64 = some f_Checker_expression := rfl
@[simp] theorem fn_65 : txt_k02.prg.fn 65 = some f_Checker_check_parts := rfl
@[simp] theorem fn_66 : txt_k02.prg.fn 66 = some f_Checker_led_from := rfl
@[simp] theorem fn_67 : txt_k02.prg.fn 67 = some f_Checker_pattern := rfl
@[simp] theorem fn_11 : txt_k02.prg.fn 11 = some f_check_program := rfl
@[simp] theorem fn_8 : txt_k02.prg.fn 8 = some f_pattern_text := rfl
@[simp] theorem fn_9 : txt_k02.prg.fn 9 = some f_expression_text := rfl
@[simp] theorem fn_12 : txt_k02.prg.fn 12 = some f_kind_text := rfl
@[simp] theorem fn_13 : txt_k02.prg.fn 13 = some f_function_text := rfl
@[simp] theorem fn_68 : txt_k02.prg.fn 68 = some f_Program___init__ := rfl
@[simp] theorem fn_69 : txt_k02.prg.fn 69 = some f_Program___eq__ := rfl
@[simp] theorem fn_70 : txt_k02.prg.fn 70 = some f_Program_text := rfl
@[simp] theorem fn_71 : txt_k02.prg.fn 71 = some f_Program_kinds := rfl
@[simp] theorem fn_72 : txt_k02.prg.fn 72 = some f_Program_functions := rfl
@[simp] theorem fn_73 : txt_k02.prg.fn 73 = some f_Program_grows_to := rfl
@[simp] theorem fn_74 : txt_k02.prg.fn 74 = some f_Program_alternatives := rfl
@[simp] theorem fn_75 : txt_k02.prg.fn 75 = some f_Program_function_of := rfl
@[simp] theorem fn_76 : txt_k02.prg.fn 76 = some f_Program_parameters := rfl
@[simp] theorem fn_77 : txt_k02.prg.fn 77 = some f_Program_result := rfl
@[simp] theorem fn_80 : txt_k02.prg.fn 80 = some f_fields_of := rfl
@[simp] theorem fn_18 : txt_k02.prg.fn 18 = some f_size := rfl
@[simp] theorem fn_81 : txt_k02.prg.fn 81 = some f_marks_of := rfl
@[simp] theorem fn_82 : txt_k02.prg.fn 82 = some f_order_key := rfl
@[simp] theorem fn_83 : txt_k02.prg.fn 83 = some f_is_first := rfl
@[simp] theorem fn_19 : txt_k02.prg.fn 19 = some f__law_taken := rfl
@[simp] theorem fn_30 : txt_k02.prg.fn 30 = some f__law_kinds := rfl
@[simp] theorem fn_20 : txt_k02.prg.fn 20 = some f__law_rows_of := rfl
@[simp] theorem fn_22 : txt_k02.prg.fn 22 = some f__law_sized := rfl
@[simp] theorem fn_21 : txt_k02.prg.fn 21 = some f__law_sized_rows := rfl
@[simp] theorem fn_23 : txt_k02.prg.fn 23 = some f__law_marks := rfl
@[simp] theorem fn_24 : txt_k02.prg.fn 24 = some f__law_key := rfl
@[simp] theorem fn_78 : txt_k02.prg.fn 78 = some f__law_first := rfl
@[simp] theorem fn_25 : txt_k02.prg.fn 25 = some f__law_size := rfl
@[simp] theorem fn_26 : txt_k02.prg.fn 26 = some f__law_deep := rfl
@[simp] theorem fn_31 : txt_k02.prg.fn 31 = some f__law_program_text := rfl
@[simp] theorem fn_84 : txt_k02.prg.fn 84 = some f_law_k02 := rfl
@[simp] theorem me_2_35 : txt_k02.prg.meth 2 35 = some 35 := rfl
@[simp] theorem me_4_14 : txt_k02.prg.meth 4 14 = some 38 := rfl
@[simp] theorem me_4_16 : txt_k02.prg.meth 4 16 = some 39 := rfl
@[simp] theorem me_4_15 : txt_k02.prg.meth 4 15 = some 40 := rfl
@[simp] theorem me_4_19 : txt_k02.prg.meth 4 19 = some 41 := rfl
@[simp] theorem me_4_17 : txt_k02.prg.meth 4 17 = some 42 := rfl
@[simp] theorem me_4_28 : txt_k02.prg.meth 4 28 = some 43 := rfl
@[simp] theorem me_4_18 : txt_k02.prg.meth 4 18 = some 44 := rfl
@[simp] theorem me_4_21 : txt_k02.prg.meth 4 21 = some 45 := rfl
@[simp] theorem me_4_20 : txt_k02.prg.meth 4 20 = some 46 := rfl
@[simp] theorem me_4_22 : txt_k02.prg.meth 4 22 = some 47 := rfl
@[simp] theorem me_4_23 : txt_k02.prg.meth 4 23 = some 48 := rfl
@[simp] theorem me_4_25 : txt_k02.prg.meth 4 25 = some 49 := rfl
@[simp] theorem me_4_24 : txt_k02.prg.meth 4 24 = some 50 := rfl
@[simp] theorem me_4_27 : txt_k02.prg.meth 4 27 = some 51 := rfl
@[simp] theorem me_4_26 : txt_k02.prg.meth 4 26 = some 52 := rfl
@[simp] theorem me_5_34 : txt_k02.prg.meth 5 34 = some 54 := rfl
@[simp] theorem me_5_31 : txt_k02.prg.meth 5 31 = some 55 := rfl
@[simp] theorem me_5_37 : txt_k02.prg.meth 5 37 = some 56 := rfl
@[simp] theorem me_5_36 : txt_k02.prg.meth 5 36 = some 57 := rfl
@[simp] theorem me_5_43 : txt_k02.prg.meth 5 43 = some 58 := rfl
@[simp] theorem me_5_44 : txt_k02.prg.meth 5 44 = some 59 := rfl
@[simp] theorem me_5_45 : txt_k02.prg.meth 5 45 = some 60 := rfl
@[simp] theorem me_5_39 : txt_k02.prg.meth 5 39 = some 61 := rfl
@[simp] theorem me_5_38 : txt_k02.prg.meth 5 38 = some 62 := rfl
@[simp] theorem me_5_41 : txt_k02.prg.meth 5 41 = some 63 := rfl
@[simp] theorem me_5_23 : txt_k02.prg.meth 5 23 = some 64 := rfl
@[simp] theorem me_5_40 : txt_k02.prg.meth 5 40 = some 65 := rfl
@[simp] theorem me_5_42 : txt_k02.prg.meth 5 42 = some 66 := rfl
@[simp] theorem me_5_26 : txt_k02.prg.meth 5 26 = some 67 := rfl
@[simp] theorem me_7_55 : txt_k02.prg.meth 7 55 = some 73 := rfl
@[simp] theorem me_7_51 : txt_k02.prg.meth 7 51 = some 74 := rfl
@[simp] theorem me_7_50 : txt_k02.prg.meth 7 50 = some 75 := rfl
@[simp] theorem me_7_56 : txt_k02.prg.meth 7 56 = some 76 := rfl
@[simp] theorem me_7_57 : txt_k02.prg.meth 7 57 = some 77 := rfl
@[simp] theorem me_0_0 : txt_k02.prg.meth 0 0 = none := id rfl
@[simp] theorem pr_0_0 : txt_k02.prg.prop 0 0 = none := id rfl
@[simp] theorem me_0_1 : txt_k02.prg.meth 0 1 = none := id rfl
@[simp] theorem pr_0_1 : txt_k02.prg.prop 0 1 = none := id rfl
@[simp] theorem me_0_2 : txt_k02.prg.meth 0 2 = none := id rfl
@[simp] theorem pr_0_2 : txt_k02.prg.prop 0 2 = none := id rfl
@[simp] theorem me_2_3 : txt_k02.prg.meth 2 3 = none := id rfl
@[simp] theorem pr_2_3 : txt_k02.prg.prop 2 3 = none := id rfl
@[simp] theorem me_2_4 : txt_k02.prg.meth 2 4 = none := id rfl
@[simp] theorem pr_2_4 : txt_k02.prg.prop 2 4 = none := id rfl
@[simp] theorem me_2_5 : txt_k02.prg.meth 2 5 = none := id rfl
@[simp] theorem pr_2_5 : txt_k02.prg.prop 2 5 = none := id rfl
@[simp] theorem me_3_3 : txt_k02.prg.meth 3 3 = none := id rfl
@[simp] theorem pr_3_3 : txt_k02.prg.prop 3 3 = none := id rfl
@[simp] theorem me_3_4 : txt_k02.prg.meth 3 4 = none := id rfl
@[simp] theorem pr_3_4 : txt_k02.prg.prop 3 4 = none := id rfl
@[simp] theorem me_3_6 : txt_k02.prg.meth 3 6 = none := id rfl
@[simp] theorem pr_3_6 : txt_k02.prg.prop 3 6 = none := id rfl
@[simp] theorem me_3_7 : txt_k02.prg.meth 3 7 = none := id rfl
@[simp] theorem pr_3_7 : txt_k02.prg.prop 3 7 = none := id rfl
@[simp] theorem me_3_1 : txt_k02.prg.meth 3 1 = none := id rfl
@[simp] theorem pr_3_1 : txt_k02.prg.prop 3 1 = none := id rfl
@[simp] theorem me_3_8 : txt_k02.prg.meth 3 8 = none := id rfl
@[simp] theorem pr_3_8 : txt_k02.prg.prop 3 8 = none := id rfl
@[simp] theorem me_4_9 : txt_k02.prg.meth 4 9 = none := id rfl
@[simp] theorem pr_4_9 : txt_k02.prg.prop 4 9 = none := id rfl
@[simp] theorem me_4_10 : txt_k02.prg.meth 4 10 = none := id rfl
@[simp] theorem pr_4_10 : txt_k02.prg.prop 4 10 = none := id rfl
@[simp] theorem me_4_11 : txt_k02.prg.meth 4 11 = none := id rfl
@[simp] theorem pr_4_11 : txt_k02.prg.prop 4 11 = none := id rfl
@[simp] theorem me_4_12 : txt_k02.prg.meth 4 12 = none := id rfl
@[simp] theorem pr_4_12 : txt_k02.prg.prop 4 12 = none := id rfl
@[simp] theorem me_4_13 : txt_k02.prg.meth 4 13 = none := id rfl
@[simp] theorem pr_4_13 : txt_k02.prg.prop 4 13 = none := id rfl
@[simp] theorem me_5_29 : txt_k02.prg.meth 5 29 = none := id rfl
@[simp] theorem pr_5_29 : txt_k02.prg.prop 5 29 = none := id rfl
@[simp] theorem me_5_30 : txt_k02.prg.meth 5 30 = none := id rfl
@[simp] theorem pr_5_30 : txt_k02.prg.prop 5 30 = none := id rfl
@[simp] theorem me_5_32 : txt_k02.prg.meth 5 32 = none := id rfl
@[simp] theorem pr_5_32 : txt_k02.prg.prop 5 32 = none := id rfl
@[simp] theorem me_5_33 : txt_k02.prg.meth 5 33 = none := id rfl
@[simp] theorem pr_5_33 : txt_k02.prg.prop 5 33 = none := id rfl
@[simp] theorem me_7_46 : txt_k02.prg.meth 7 46 = none := id rfl
@[simp] theorem pr_7_46 : txt_k02.prg.prop 7 46 = none := id rfl
@[simp] theorem me_7_47 : txt_k02.prg.meth 7 47 = none := id rfl
@[simp] theorem pr_7_47 : txt_k02.prg.prop 7 47 = none := id rfl
@[simp] theorem me_7_48 : txt_k02.prg.meth 7 48 = none := id rfl
@[simp] theorem pr_7_48 : txt_k02.prg.prop 7 48 = none := id rfl
@[simp] theorem in_0 : txt_k02.prg.init 0 = some 33 := rfl
@[simp] theorem in_2 : txt_k02.prg.init 2 = some 34 := rfl
@[simp] theorem in_3 : txt_k02.prg.init 3 = some 36 := rfl
@[simp] theorem in_4 : txt_k02.prg.init 4 = some 37 := rfl
@[simp] theorem in_5 : txt_k02.prg.init 5 = some 53 := rfl
@[simp] theorem in_7 : txt_k02.prg.init 7 = some 68 := rfl
def g_LETTERS : X := (.v (.str [97, 98, 99, 100, 101, 102, 103, 104, 105, 106, 107, 108, 109, 110, 111, 112, 113, 114, 115, 116, 117, 118, 119, 120, 121, 122]))
@[simp] theorem gl_2 : txt_k02.prg.glob 2 = some g_LETTERS := rfl
def g_CAPITALS : X := (.v (.str [65, 66, 67, 68, 69, 70, 71, 72, 73, 74, 75, 76, 77, 78, 79, 80, 81, 82, 83, 84, 85, 86, 87, 88, 89, 90]))
@[simp] theorem gl_3 : txt_k02.prg.glob 3 = some g_CAPITALS := rfl
def g_DIGITS : X := (.v (.str [48, 49, 50, 51, 52, 53, 54, 55, 56, 57]))
@[simp] theorem gl_4 : txt_k02.prg.glob 4 = some g_DIGITS := rfl
def g_SIGNS : X := (.v (.str [40, 41, 123, 125, 61, 124, 44, 59, 95]))
@[simp] theorem gl_5 : txt_k02.prg.glob 5 = some g_SIGNS := rfl
def g_WORDS : X := (.k [(.str [107, 105, 110, 100]), (.str [102, 117, 110]), (.str [109, 97, 116, 99, 104]), (.str [110, 117, 109])])
@[simp] theorem gl_0 : txt_k02.prg.glob 0 = some g_WORDS := rfl
def g_LONGEST_NAME : X := (.v (.int 8))
@[simp] theorem gl_1 : txt_k02.prg.glob 1 = some g_LONGEST_NAME := rfl
def g_REASONS : X := (.k [(.str [110, 97, 109, 101]), (.str [116, 119, 105, 99, 101]), (.str [107, 105, 110, 100]), (.str [99, 111, 117, 110, 116]), (.str [114, 105, 110, 103]), (.str [101, 110, 100, 108, 101, 115, 115])])
@[simp] theorem gl_7 : txt_k02.prg.glob 7 = some g_REASONS := rfl
def g_NUM : X := (.v (.str [110, 117, 109]))
@[simp] theorem gl_6 : txt_k02.prg.glob 6 = some g_NUM := rfl
@[simp] theorem sb_0_0 : txt_k02.prg.sub 0 0 = true := rfl
@[simp] theorem sb_0_2 : txt_k02.prg.sub 0 2 = false := rfl
@[simp] theorem sb_0_3 : txt_k02.prg.sub 0 3 = false := rfl
@[simp] theorem sb_0_4 : txt_k02.prg.sub 0 4 = false := rfl
@[simp] theorem sb_0_5 : txt_k02.prg.sub 0 5 = false := rfl
@[simp] theorem sb_0_7 : txt_k02.prg.sub 0 7 = false := rfl
@[simp] theorem sb_2_0 : txt_k02.prg.sub 2 0 = false := rfl
@[simp] theorem sb_2_2 : txt_k02.prg.sub 2 2 = true := rfl
@[simp] theorem sb_2_3 : txt_k02.prg.sub 2 3 = false := rfl
@[simp] theorem sb_2_4 : txt_k02.prg.sub 2 4 = false := rfl
@[simp] theorem sb_2_5 : txt_k02.prg.sub 2 5 = false := rfl
@[simp] theorem sb_2_7 : txt_k02.prg.sub 2 7 = false := rfl
@[simp] theorem sb_3_0 : txt_k02.prg.sub 3 0 = false := rfl
@[simp] theorem sb_3_2 : txt_k02.prg.sub 3 2 = false := rfl
@[simp] theorem sb_3_3 : txt_k02.prg.sub 3 3 = true := rfl
@[simp] theorem sb_3_4 : txt_k02.prg.sub 3 4 = false := rfl
@[simp] theorem sb_3_5 : txt_k02.prg.sub 3 5 = false := rfl
@[simp] theorem sb_3_7 : txt_k02.prg.sub 3 7 = false := rfl
@[simp] theorem sb_4_0 : txt_k02.prg.sub 4 0 = false := rfl
@[simp] theorem sb_4_2 : txt_k02.prg.sub 4 2 = false := rfl
@[simp] theorem sb_4_3 : txt_k02.prg.sub 4 3 = false := rfl
@[simp] theorem sb_4_4 : txt_k02.prg.sub 4 4 = true := rfl
@[simp] theorem sb_4_5 : txt_k02.prg.sub 4 5 = false := rfl
@[simp] theorem sb_4_7 : txt_k02.prg.sub 4 7 = false := rfl
@[simp] theorem sb_5_0 : txt_k02.prg.sub 5 0 = false := rfl
@[simp] theorem sb_5_2 : txt_k02.prg.sub 5 2 = false := rfl
@[simp] theorem sb_5_3 : txt_k02.prg.sub 5 3 = false := rfl
@[simp] theorem sb_5_4 : txt_k02.prg.sub 5 4 = false := rfl
@[simp] theorem sb_5_5 : txt_k02.prg.sub 5 5 = true := rfl
@[simp] theorem sb_5_7 : txt_k02.prg.sub 5 7 = false := rfl
@[simp] theorem sb_7_0 : txt_k02.prg.sub 7 0 = false := rfl
@[simp] theorem sb_7_2 : txt_k02.prg.sub 7 2 = false := rfl
@[simp] theorem sb_7_3 : txt_k02.prg.sub 7 3 = false := rfl
@[simp] theorem sb_7_4 : txt_k02.prg.sub 7 4 = false := rfl
@[simp] theorem sb_7_5 : txt_k02.prg.sub 7 5 = false := rfl
@[simp] theorem sb_7_7 : txt_k02.prg.sub 7 7 = true := rfl
@[simp] theorem sb_10_10 : txt_k02.prg.sub 10 10 = true := rfl
@[simp] theorem sb_10_1 : txt_k02.prg.sub 10 1 = false := rfl
@[simp] theorem sb_10_6 : txt_k02.prg.sub 10 6 = false := rfl
@[simp] theorem sb_10_8 : txt_k02.prg.sub 10 8 = false := rfl
@[simp] theorem sb_10_9 : txt_k02.prg.sub 10 9 = false := rfl
@[simp] theorem sb_1_10 : txt_k02.prg.sub 1 10 = true := rfl
@[simp] theorem sb_1_1 : txt_k02.prg.sub 1 1 = true := rfl
@[simp] theorem sb_1_6 : txt_k02.prg.sub 1 6 = false := rfl
@[simp] theorem sb_1_8 : txt_k02.prg.sub 1 8 = false := rfl
@[simp] theorem sb_1_9 : txt_k02.prg.sub 1 9 = false := rfl
@[simp] theorem sb_6_10 : txt_k02.prg.sub 6 10 = true := rfl
@[simp] theorem sb_6_1 : txt_k02.prg.sub 6 1 = false := rfl
@[simp] theorem sb_6_6 : txt_k02.prg.sub 6 6 = true := rfl
@[simp] theorem sb_6_8 : txt_k02.prg.sub 6 8 = false := rfl
@[simp] theorem sb_6_9 : txt_k02.prg.sub 6 9 = false := rfl
@[simp] theorem sb_8_10 : txt_k02.prg.sub 8 10 = true := rfl
@[simp] theorem sb_8_1 : txt_k02.prg.sub 8 1 = false := rfl
@[simp] theorem sb_8_6 : txt_k02.prg.sub 8 6 = false := rfl
@[simp] theorem sb_8_8 : txt_k02.prg.sub 8 8 = true := rfl
@[simp] theorem sb_8_9 : txt_k02.prg.sub 8 9 = false := rfl
@[simp] theorem sb_9_10 : txt_k02.prg.sub 9 10 = true := rfl
@[simp] theorem sb_9_1 : txt_k02.prg.sub 9 1 = false := rfl
@[simp] theorem sb_9_6 : txt_k02.prg.sub 9 6 = false := rfl
@[simp] theorem sb_9_8 : txt_k02.prg.sub 9 8 = false := rfl
@[simp] theorem sb_9_9 : txt_k02.prg.sub 9 9 = true := rfl
end KG.Z

set_option linter.all false
set_option maxRecDepth 100000
/-! L1: the draws; walks with an invariant. -/
namespace KG.Z
/-- the row of a law: the next cell, the mixed number, what is left of a great cell -/
structure Rw where
  a : Int
  b : Int
  c : Int
  ha : 0 ≤ a
def rowC (sc : List Int) (r : Rw) : Cell := .lst [.lst (sc.map .int), .int r.a, .int r.b, .int r.c]
@[simp] theorem okC_row (n sc r) : okC n (rowC sc r) = true := rfl
def drw (sc : List Int) (r : Rw) (m : Int) : Int × Rw :=
  if 0 < r.c then (r.c % m, ⟨r.a, r.b, r.c / m, r.ha⟩)
  else if (sc.length : Int) < r.a + 1 then (((r.b * 48271 + 11) % 2147483647) / 7 % m, ⟨r.a + 1, (r.b * 48271 + 11) % 2147483647, r.c, by have := r.ha; omega⟩)
  else match sc[r.a.toNat]? with
    | some x => (x % m, ⟨r.a + 1, (r.b * 48271 + x + 11) % 2147483647, if 1000000000000000000 ≤ x then x / m else r.c, by have := r.ha; omega⟩)
    | none => (0, r)
theorem drw_0 (sc r) {m : Int} (hm : 0 < m) : 0 ≤ (drw sc r m).1 := by
  unfold drw
  split
  · exact Int.emod_nonneg _ (by omega)
  · split
    · exact Int.emod_nonneg _ (by omega)
    · split
      · exact Int.emod_nonneg _ (by omega)
      · exact Int.le_refl 0
theorem drw_m (sc r) {m : Int} (hm : 0 < m) : (drw sc r m).1 < m := by
  unfold drw
  split
  · exact Int.emod_lt_of_pos _ hm
  · split
    · exact Int.emod_lt_of_pos _ hm
    · split
      · exact Int.emod_lt_of_pos _ hm
      · exact hm
/-- cells without names of cells -/
def okR (rest : Store) : Prop := ∀ n, rest.all (okC n) = true
@[simp] theorem okR_nil : okR [] := fun _ => rfl
@[simp] theorem okR_l (xs r) : okR (.lst xs :: r) ↔ okR r := ⟨fun h n => by have := h n; simpa using this, fun h n => by have := h n; simpa using this⟩
@[simp] theorem okR_d (r) : okR (.dead :: r) ↔ okR r := ⟨fun h n => by have := h n; simpa using this, fun h n => by have := h n; simpa using this⟩
@[simp] theorem okR_row (sc x r) : okR (rowC sc x :: r) ↔ okR r := ⟨fun h n => by have := h n; simpa using this, fun h n => by have := h n; simpa using this⟩
@[simp] theorem okR_app (a b) : okR (a ++ b) ↔ okR a ∧ okR b := by
  unfold okR
  simp only [List.all_append, Bool.and_eq_true]
  exact ⟨fun h => ⟨fun n => (h n).1, fun n => (h n).2⟩, fun h n => ⟨h.1 n, h.2 n⟩⟩
theorem okR.all {r : Store} (h : okR r) (n : Nat) : r.all (okC n) = true := h n
theorem taken_eq (k : Nat) (sc : List Int) (r : Rw) (m : Int) (rest : Store) (hm : 0 < m) (hm2 : m < 1073741824) (hr : okR rest) :
    callN P (k + 1) 19 [.r 0, .v (.int m)] (rowC sc r :: rest) = .ok (.v (.int (drw sc r m).1)) (rowC sc (drw sc r m).2 :: rest) := by
  obtain ⟨a, b, c, ha⟩ := r
  have hN : 0 < m ∧ m < 1073741824 := ⟨hm, hm2⟩
  rw [call1 (P := P) (f := 19) rfl rfl (by decide)]
  have sm : small 48271 = true := by decide
  by_cases h1 : 0 < c
  · simp [f__law_taken, start, rowC, h1, hm, hm2, hr.all, drw]
  · by_cases h2 : (sc.length : Int) < a + 1
    · simp [f__law_taken, start, rowC, h1, hm, hm2, hr.all, h2, sm, drw]
    · obtain ⟨x, hx⟩ : ∃ x, sc[a.toNat]? = some x := ⟨sc[a.toNat]'(by omega), List.getElem?_eq_getElem (by omega)⟩
      have e1 : ixL (sc.map .int) a = some (.int x) := by
        have : a = (a.toNat : Int) := by omega
        rw [this, ixL_nat]
        simp [hx]
      have e2 : a + 1 - 1 = a := by omega
      by_cases h3 : 1000000000000000000 ≤ x
      · simp [f__law_taken, start, rowC, h1, hm, hm2, hr.all, h2, sm, e1, e2, h3, drw, hx]
      · simp [f__law_taken, start, rowC, h1, hm, hm2, hr.all, h2, sm, e1, e2, h3, drw, hx]
theorem for_ind {w : Wk} (hw : w.g = none) {f : Val → Env → Store → S} {els : Env → Store → S} (I : Nat → Env → Store → Prop) : ∀ (xs : List Val) (n : Nat) (e0 : Env) (s0 : Store), I n e0 s0 →
    (∀ (i : Nat) (h : i < xs.length) e s, I (n + i) e s → ∃ e' s', f xs[i] e s = .nx e' s' ∧ I (n + i + 1) e' s') → ∃ e' s', I (n + xs.length) e' s' ∧ forL w f els xs e0 s0 = els e' s'
  | [], n, e0, s0, h0, _ => ⟨e0, s0, h0, by unfold forL; rw [hw]; rfl⟩
  | x :: r, n, e0, s0, h0, st => by
    obtain ⟨e1, s1, h1, h2⟩ := st 0 (by simp) e0 s0 h0
    obtain ⟨e2, s2, h3, h4⟩ := for_ind hw (f := f) (els := els) I r (n + 1) e1 s1 h2 (fun i hi e s hs => by
      obtain ⟨e', s', q1, q2⟩ := st (i + 1) (by simpa using hi) e s (by rw [show n + (i + 1) = n + 1 + i by omega]; exact hs)
      exact ⟨e', s', by simpa using q1, by rw [show n + 1 + i + 1 = n + (i + 1) + 1 by omega]; exact q2⟩)
    refine ⟨e2, s2, by rw [show n + (x :: r).length = n + 1 + r.length by simp; omega]; exact h3, ?_⟩
    unfold forL
    rw [hw]
    have h1' : f x e0 s0 = .nx e1 s1 := by simpa using h1
    rw [h1']
    exact h4
theorem loop_ind {α : Type} {w : Wk} (hw : w.g = none) {f : Val → Store → R (List α)} (I : List α → Store → Prop) : ∀ (xs : List Val) (acc : List α) (s0 : Store), I acc s0 →
    (∀ x ∈ xs, ∀ acc s, I acc s → ∃ ys s', f x s = .ok ys s' ∧ I (acc ++ ys) s') → ∃ zs s', I (acc ++ zs) s' ∧ loopL w f xs s0 = .ok zs s'
  | [], acc, s0, h0, _ => ⟨[], s0, by simpa using h0, by unfold loopL; rw [hw]; rfl⟩
  | x :: r, acc, s0, h0, st => by
    obtain ⟨ys, s1, h1, h2⟩ := st x (by simp) acc s0 h0
    obtain ⟨zs, s2, h3, h4⟩ := loop_ind hw (f := f) I r (acc ++ ys) s1 h2 (fun y hy => st y (by simp [hy]))
    refine ⟨ys ++ zs, s2, by simpa [List.append_assoc] using h3, ?_⟩
    unfold loopL
    rw [hw, h1, bind_ok, h4]
    rfl
@[simp] theorem get_last {α : Type} (r : List α) (x : α) : (r ++ [x])[r.length]? = some x := by simp
@[simp] theorem set_last {α : Type} (r : List α) (x y : α) : (r ++ [x]).set r.length y = r ++ [y] := by
  induction r with
  | nil => rfl
  | cons a r ih => simp [ih]
theorem ixL_in {xs : List Val} {d : Int} (h : 0 ≤ d) (h2 : d < xs.length) : ∃ x ∈ xs, ixL xs d = some x := by
  have e : d = (d.toNat : Int) := by omega
  rw [e, ixL_nat]
  exact ⟨xs[d.toNat]'(by omega), List.getElem_mem _, List.getElem?_eq_getElem (by omega)⟩
@[simp] theorem range_0 : rangeV 0 0 1 = some [] := by rfl
@[simp] theorem range_1 : rangeV 0 1 1 = some [.int 0] := by rfl
@[simp] theorem range_2 : rangeV 0 2 1 = some [.int 0, .int 1] := by rfl
@[simp] theorem range_3 : rangeV 0 3 1 = some [.int 0, .int 1, .int 2] := by rfl
abbrev numT : Tx := [110, 117, 109]
theorem LIM_le {n : Nat} (h : n ≤ 1000) : n ≤ LIM := by unfold LIM; omega
theorem LIM_lt {n : Nat} (h : n ≤ 1000) : n < LIM := by unfold LIM; omega
theorem d2 {d : Int} (h : 0 ≤ d) (h2 : d < 2) : d = 0 ∨ d = 1 := by omega
theorem d3 {d : Int} (h : 0 ≤ d) (h2 : d < 3) : d = 0 ∨ d = 1 ∨ d = 2 := by omega
end KG.Z

set_option linter.all false
set_option maxRecDepth 100000
/-! L2: _law_kinds. -/
namespace KG.Z
/-- an item of a pool -/
theorem pool_item (k : Nat) (sc : List Int) (r : Rw) (rest : Store) (hr : okR rest) (pool : List Tx) (hp : pool ≠ []) (hp2 : pool.length ≤ 1000) (x : Val)
    (e0 e1 e2 e3 e4 e5 e6 e7 e9 e10 : Option X) (he : e0 = some (.r 0)) :
    ∃ (t : Tx) (r' : Rw), t ∈ pool ∧ itemL (P.ctx (callN P (k + 1))) (.nm 10) none (.ix (.var 8) (.call 19 [(.var 0), (.bi false .len [(.var 8)])]))
      [e0, e1, e2, e3, e4, e5, e6, e7, some (.v (.lst (pool.map .str))), e9, e10] x (rowC sc r :: rest) = .ok [.str t] (rowC sc r' :: rest) := by
  subst he
  have h1 : (0 : Int) < pool.length := by have := List.length_pos_iff.mpr hp; omega
  obtain ⟨v, hv, hv2⟩ := ixL_in (xs := pool.map .str) (drw_0 sc r h1) (by simpa using drw_m sc r h1)
  obtain ⟨t, ht, rfl⟩ := List.mem_map.mp hv
  refine ⟨t, (drw sc r pool.length).2, ht, ?_⟩
  simp [itemL, taken_eq k sc r pool.length rest h1 (by omega) hr, hv2]
/-- drawn fields -/
theorem pool_items (k : Nat) (sc : List Int) (rest : Store) (hr : okR rest) (pool : List Tx) (hp : pool ≠ []) (hp2 : pool.length ≤ 1000)
    (e0 e1 e2 e3 e4 e5 e6 e7 e9 e10 : Option X) (he : e0 = some (.r 0)) (ws : List Val) : ∀ (xs : List Val) (r : Rw),
    ∃ (fs : List Tx) (r' : Rw), fs.length = xs.length ∧ (∀ f ∈ fs, f ∈ pool) ∧ loopL ⟨none, ws⟩ (itemL (P.ctx (callN P (k + 1))) (.nm 10) none (.ix (.var 8) (.call 19 [(.var 0), (.bi false .len [(.var 8)])]))
      [e0, e1, e2, e3, e4, e5, e6, e7, some (.v (.lst (pool.map .str))), e9, e10]) xs (rowC sc r :: rest) = .ok (fs.map .str) (rowC sc r' :: rest)
  | [], r => ⟨[], r, rfl, by simp, rfl⟩
  | x :: xs, r => by
    obtain ⟨t, r1, h1, h2⟩ := pool_item k sc r rest hr pool hp hp2 x e0 e1 e2 e3 e4 e5 e6 e7 e9 e10 he
    obtain ⟨fs, r2, h3, h4, h5⟩ := pool_items k sc rest hr pool hp hp2 e0 e1 e2 e3 e4 e5 e6 e7 e9 e10 he ws xs r1
    refine ⟨t :: fs, r2, by simp [h3], ?_, ?_⟩
    · intro f hf
      rcases List.mem_cons.mp hf with h | h
      · rw [h]; exact h1
      · exact h4 f h
    · rw [loop_cons, h2, bind_ok, h5]
      rfl
theorem kturn (k : Nat) (sc : List Int) (r : Rw) (rest : Store) (hr : okR rest) (o1 o2 : Tx) (many : Int) (pl : List Tx)
    (hc : cut [Val.str o1, Val.str o2] none (some many) = pl.map Val.str) (hpl : pl.length ≤ 2) (names : List Val) (kk j : Int) (hs : small kk = true) (nm : Tx) (hn : ixL names (3 * kk + j) = some (.str nm))
    (Q : List Val) (hR : Q.length ≤ 10) (e4 e7 e8 e9 e10 : Option X) :
    ∃ (fs : List Tx) (r' : Rw) (e8' : Option X), fs.length ≤ 2 ∧ (∀ f ∈ fs, f ∈ numT :: pl) ∧ (j = 0 → fs = [numT] ∨ fs = []) ∧
      turn (P.ctx (callN P (k + 1))) (.nm 7) f__law_kinds_b1 (.int j) [some (.r 0), some (.v (.lst [.str o1, .str o2])), some (.v (.lst names)), some (.v (.int many)), e4, some (.v (.int kk)), some (.r (rest.length + 1)), e7, e8, e9, e10] (rowC sc r :: (rest ++ [.lst Q]))
        = .nx [some (.r 0), some (.v (.lst [.str o1, .str o2])), some (.v (.lst names)), some (.v (.int many)), e4, some (.v (.int kk)), some (.r (rest.length + 1)), some (.v (.int j)), e8', some (.v (.lst (fs.map .str))), e10]
          (rowC sc r' :: (rest ++ [.lst (Q ++ [.lst [.str nm, .lst (fs.map .str)]])])) := by
  have hr' : okR (rest ++ [Cell.lst Q]) := by simp [hr]
  have hL : pl.length ≤ LIM := LIM_le (by omega)
  have hL1 : pl.length + 1 ≤ LIM := LIM_le (by omega)
  have hL2 : (numT :: pl).length ≤ 1000 := by simp; omega
  have hQ : Q.length < LIM := LIM_lt (by omega)
  have l0 : 0 ≤ LIM := by decide
  have l1 : 1 ≤ LIM := by decide
  have l2 : 2 ≤ LIM := by decide
  have l3 : 3 ≤ LIM := by decide
  have sm : small 3 = true := by decide
  obtain ⟨ds, hd⟩ : ∃ ds, rangeV 0 (drw sc r 3).1 1 = some ds ∧ ds.length ≤ 2 := by
    rcases d3 (drw_0 sc r (m := 3) (by decide)) (drw_m sc r (by decide)) with h | h | h <;> rw [h] <;> simp
  obtain ⟨fs, r2, f1, f2, f3⟩ := pool_items k sc (rest ++ [.lst Q]) hr' (numT :: pl) (by simp) hL2 (some (.r 0)) (some (.v (.lst [.str o1, .str o2]))) (some (.v (.lst names))) (some (.v (.int many))) e4 (some (.v (.int kk))) (some (.r (rest.length + 1))) (some (.v (.int j))) e9 e10 rfl ds ds (drw sc r 3).2
  have hf : fs.length ≤ LIM := LIM_le (by omega)
  by_cases hj : j = 0
  · subst hj
    obtain ⟨f0, hf0, hf1⟩ : ∃ f0 : List Tx, ixL [.lst [.str numT], .lst [], .lst []] (drw sc r2 3).1 = some (.lst (f0.map .str)) ∧ (f0 = [numT] ∨ f0 = []) := by
      rcases d3 (drw_0 sc r2 (m := 3) (by decide)) (drw_m sc r2 (by decide)) with h | h | h <;> rw [h]
      · exact ⟨[numT], rfl, .inl rfl⟩
      · exact ⟨[], rfl, .inr rfl⟩
      · exact ⟨[], rfl, .inr rfl⟩
    refine ⟨f0, (drw sc r2 3).2, some (.v (.lst ((numT :: pl).map .str))), ?_, ?_, fun _ => hf1, ?_⟩
    · rcases hf1 with h | h <;> simp [h]
    · rcases hf1 with h | h <;> simp [h]
    · simp at f3 hn
      simp [turn, f__law_kinds_b1, l0, l1, l2, l3, hc, hL, hL1, taken_eq, hr, hd.1, f3, hf, hf0, hs, sm, hn, hQ]
  · refine ⟨fs, r2, some (.v (.lst ((numT :: pl).map .str))), by omega, f2, fun h => absurd h hj, ?_⟩
    simp at f3
    simp [turn, f__law_kinds_b1, l0, l1, l2, l3, hc, hL, hL1, taken_eq, hr, hd.1, f3, hf, hj, hs, sm, hn, hQ]
abbrev Row := Tx × List Tx
abbrev Kd := List (Tx × List Row)
def rowV (p : Row) : Val := .lst [.str p.1, .lst (p.2.map .str)]
def kdV (p : Tx × List Row) : Val := .lst [.str p.1, .lst (p.2.map rowV)]
def kindsV (K : Kd) : Val := .lst (K.map kdV)
theorem krows (k : Nat) (sc : List Int) (rest : Store) (hr : okR rest) (o1 o2 : Tx) (many : Int) (pl : List Tx)
    (hc : cut [Val.str o1, Val.str o2] none (some many) = pl.map Val.str) (hpl : pl.length ≤ 2) (names : List Val) (kk : Int) (hs : small kk = true) (nmf : Nat → Tx) (e4 e10 : Option X) (ws : List Val) :
    ∀ (js : List Nat) (Q : List Val) (r : Rw) (e7 e8 e9 : Option X), (∀ j ∈ js, ixL names (3 * kk + (j : Int)) = some (.str (nmf j))) → Q.length + js.length ≤ 10 →
    ∃ (rows : List Row) (r' : Rw) (e7' e8' e9' : Option X), rows.map (·.1) = js.map nmf ∧ (∀ p ∈ rows, p.2.length ≤ 2 ∧ ∀ f ∈ p.2, f ∈ numT :: pl) ∧
      (∀ js', js = 0 :: js' → ∃ p ps, rows = p :: ps ∧ (p.2 = [numT] ∨ p.2 = [])) ∧
      forL ⟨none, ws⟩ (turn (P.ctx (callN P (k + 1))) (.nm 7) f__law_kinds_b1) (evSs (P.ctx (callN P (k + 1))) []) (js.map fun j : Nat => Val.int (j : Int))
        [some (.r 0), some (.v (.lst [.str o1, .str o2])), some (.v (.lst names)), some (.v (.int many)), e4, some (.v (.int kk)), some (.r (rest.length + 1)), e7, e8, e9, e10] (rowC sc r :: (rest ++ [.lst Q]))
        = .nx [some (.r 0), some (.v (.lst [.str o1, .str o2])), some (.v (.lst names)), some (.v (.int many)), e4, some (.v (.int kk)), some (.r (rest.length + 1)), e7', e8', e9', e10] (rowC sc r' :: (rest ++ [.lst (Q ++ rows.map rowV)]))
  | [], Q, r, e7, e8, e9, _, _ => ⟨[], r, e7, e8, e9, rfl, by simp, by simp, by simp⟩
  | j :: js, Q, r, e7, e8, e9, hj, hQ => by
    simp at hQ
    obtain ⟨fs, r1, e8', f1, f2, f3, f4⟩ := kturn k sc r rest hr o1 o2 many pl hc hpl names kk j hs (nmf j) (hj j (by simp)) Q (by omega) e4 e7 e8 e9 e10
    obtain ⟨rows, r2, g7, g8, g9, g1, g2, g3, g4⟩ := krows k sc rest hr o1 o2 many pl hc hpl names kk hs nmf e4 e10 ws js (Q ++ [rowV (nmf j, fs)]) r1 (some (.v (.int j))) e8' (some (.v (.lst (fs.map .str)))) (fun j hh => hj j (by simp [hh])) (by simp; omega)
    refine ⟨(nmf j, fs) :: rows, r2, g7, g8, g9, by simp [g1], ?_, ?_, ?_⟩
    · intro p hp
      rcases List.mem_cons.mp hp with h | h
      · rw [h]; exact ⟨f1, f2⟩
      · exact g2 p h
    · intro js' e
      cases e
      exact ⟨_, _, rfl, f3 rfl⟩
    · rw [List.map_cons, for_cons, f4, goFor_nx]
      rw [show (Q ++ [.lst [.str (nmf j), .lst (fs.map .str)]]) = Q ++ [rowV (nmf j, fs)] from rfl, g4]
      simp
def kWords : List Tx := [[116, 114, 101, 101], [115, 104, 97, 112, 101], [122, 101, 100], [97], [108, 105, 115, 116], [111, 112, 116]]
def owns : List (Tx × Tx) := [([116, 114, 101, 101], [115, 104, 97, 112, 101]), ([122, 101, 100], [97]), ([108, 105, 115, 116], [111, 112, 116])]
def alts : List (List Tx) := [[[76, 101, 97, 102], [78, 111, 100, 101], [80, 97, 105, 114], [68, 111, 116], [66, 111, 120], [69, 110, 100]], [[65], [66], [67], [90, 122], [90], [65, 97]],
  [[77, 97, 116, 99, 104], [75, 105, 110, 100], [70, 117, 110], [78, 117, 109], [89], [88]]]
/-- the kinds that are drawn: names of a row, alternatives of a row, the first of each kind needs no kind -/
structure WK (K : Kd) : Prop where
  ex : ∃ o ∈ owns, ∃ al ∈ alts, ∃ pl : List Tx, (pl = [o.1] ∨ pl = [o.1, o.2]) ∧ K.map (·.1) = pl ∧
    (∀ (i : Nat) (p : Tx × List Row), K[i]? = some p → 1 ≤ p.2.length ∧ p.2.length ≤ 3 ∧ p.2.map (·.1) = (al.drop (3 * i)).take p.2.length ∧
      (∀ q ∈ p.2, q.2.length ≤ 2 ∧ ∀ f ∈ q.2, f ∈ numT :: pl) ∧ ∃ q qs, p.2 = q :: qs ∧ (q.2 = [numT] ∨ q.2 = []))
theorem kkind (k : Nat) (sc : List Int) (r : Rw) (o1 o2 : Tx) (many : Int) (pl : List Tx)
    (hc : cut [Val.str o1, Val.str o2] none (some many) = pl.map Val.str) (hpl : pl.length ≤ 2) (al : List Tx) (hal : al ∈ alts) (kk : Nat) (hk : kk < 2) (ok : Tx) (hok : [o1, o2][kk]? = some ok)
    (T : Store) (hT : okR T) (F : List Val) (hF : F.length ≤ 10) (e5 e6 e7 e8 e9 e10 : Option X) :
    ∃ (rows : List Row) (r' : Rw) (e6' e7' e8' e9' : Option X), 1 ≤ rows.length ∧ rows.length ≤ 3 ∧ rows.map (·.1) = (al.drop (3 * kk)).take rows.length ∧ (∀ p ∈ rows, p.2.length ≤ 2 ∧ ∀ f ∈ p.2, f ∈ numT :: pl) ∧
      (∃ p ps, rows = p :: ps ∧ (p.2 = [numT] ∨ p.2 = [])) ∧
      turn (P.ctx (callN P (k + 1))) (.nm 5) f__law_kinds_b2 (.int (kk : Int)) [some (.r 0), some (.v (.lst [.str o1, .str o2])), some (.v (.lst (al.map .str))), some (.v (.int many)), some (.r 1), e5, e6, e7, e8, e9, e10] (rowC sc r :: .lst F :: T)
        = .nx [some (.r 0), some (.v (.lst [.str o1, .str o2])), some (.v (.lst (al.map .str))), some (.v (.int many)), some (.r 1), some (.v (.int (kk : Int))), e6', e7', e8', e9', e10]
          (rowC sc r' :: .lst (F ++ [kdV (ok, rows)]) :: (T ++ [.dead])) := by
  have l0 : 0 ≤ LIM := by decide
  have l2 : 2 ≤ LIM := by decide
  have hr : okR (Cell.lst F :: T) := by simp [hT]
  have hF' : F.length < LIM := LIM_lt (by omega)
  have hs : small (kk : Int) = true := by
    rcases Nat.lt_or_ge kk 1 with h | h
    · rw [show kk = 0 by omega]; rfl
    · rw [show kk = 1 by omega]; rfl
  obtain ⟨n, hn1, hn3, hd⟩ : ∃ n : Nat, 1 ≤ n ∧ n ≤ 3 ∧ rangeV 0 (1 + (drw sc r 3).1) 1 = some ((List.range n).map fun j : Nat => Val.int (j : Int)) := by
    rcases d3 (drw_0 sc r (m := 3) (by decide)) (drw_m sc r (by decide)) with h | h | h <;> rw [h]
    · exact ⟨1, by omega, by omega, rfl⟩
    · exact ⟨2, by omega, by omega, rfl⟩
    · exact ⟨3, by omega, by omega, rfl⟩
  have hx : ∀ (k2 : Nat), k2 < 2 → ∀ al ∈ alts, ∀ j : Nat, j < 3 → ixL (al.map .str) (3 * (k2 : Int) + (j : Int)) = some (.str ((al[3 * k2 + j]?).getD [])) := by
    intro k2 h2 al hal j hj
    simp only [alts, List.mem_cons, List.not_mem_nil, or_false] at hal
    rcases (by omega : k2 = 0 ∨ k2 = 1) with rfl | rfl <;> rcases (by omega : j = 0 ∨ j = 1 ∨ j = 2) with rfl | rfl | rfl <;> rcases hal with rfl | rfl | rfl <;> rfl
  have hy : ∀ (k2 : Nat), k2 < 2 → ∀ al ∈ alts, ∀ n, n ≤ 3 → ((List.range n).map fun j => (al[3 * k2 + j]?).getD []) = (al.drop (3 * k2)).take n := by decide
  obtain ⟨rows, r2, e7', e8', e9', g1, g2, g3, g4⟩ := krows k sc (.lst F :: T) hr o1 o2 many pl hc hpl (al.map .str) kk hs (fun j => (al[3 * kk + j]?).getD []) (some (.r 1)) e10
    ((List.range n).map fun j : Nat => Val.int (j : Int)) (List.range n) [] (drw sc r 3).2 e7 e8 e9 (fun j hj => hx kk hk al hal j (by have := List.mem_range.mp hj; omega)) (by simp; omega)
  have hlen : rows.length = n := by have := congrArg List.length g1; simpa using this
  have hix : ixL [Val.str o1, Val.str o2] (kk : Int) = some (.str ok) := by
    rw [ixL_nat]
    rcases Nat.lt_or_ge kk 1 with h | h
    · obtain rfl : kk = 0 := by omega
      simp at hok ⊢; exact hok
    · obtain rfl : kk = 1 := by omega
      simp at hok ⊢; exact hok
  refine ⟨rows, r2, some (.v (.lst (rows.map rowV))), e7', e8', e9', by omega, by omega, ?_, g2, ?_, ?_⟩
  · rw [g1, hy kk hk al hal n hn3, hlen]
  · exact g3 ((List.range n).tail) (by rw [show n = (n - 1) + 1 by omega, List.range_succ_eq_map]; rfl)
  · simp at g4
    simp [turn, f__law_kinds_b2, l0, l2, taken_eq, hT, hd, g4, hix, hF', kdV]
theorem kinds_ok (k : Nat) (sc : List Int) (r : Rw) : ∃ (K : Kd) (r' : Rw), WK K ∧ callN P (k + 2) 30 [.r 0] [rowC sc r] = .ok (.v (kindsV K)) [rowC sc r'] := by
  have l0 : 0 ≤ LIM := by decide
  have l1 : 1 ≤ LIM := by decide
  have l2 : 2 ≤ LIM := by decide
  have l3 : 3 ≤ LIM := by decide
  have l6 : 6 ≤ LIM := by decide
  rw [call1 (P := P) (f := 30) rfl rfl (by decide)]
  obtain ⟨o, ho, ho1⟩ : ∃ o ∈ owns, ixL [.lst [.str [116, 114, 101, 101], .str [115, 104, 97, 112, 101]], .lst [.str [122, 101, 100], .str [97]], .lst [.str [108, 105, 115, 116], .str [111, 112, 116]]] (drw sc r 3).1 = some (.lst [.str o.1, .str o.2]) := by
    rcases d3 (drw_0 sc r (m := 3) (by decide)) (drw_m sc r (by decide)) with h | h | h <;> rw [h]
    · exact ⟨_, List.mem_cons_self .., rfl⟩
    · exact ⟨_, List.mem_cons_of_mem _ (List.mem_cons_self ..), rfl⟩
    · exact ⟨_, List.mem_cons_of_mem _ (List.mem_cons_of_mem _ (List.mem_cons_self ..)), rfl⟩
  generalize hr1 : (drw sc r 3).2 = r1 at *
  obtain ⟨al, hal, hal1⟩ : ∃ al ∈ alts, ixL [.lst [.str [76, 101, 97, 102], .str [78, 111, 100, 101], .str [80, 97, 105, 114], .str [68, 111, 116], .str [66, 111, 120], .str [69, 110, 100]], .lst [.str [65], .str [66], .str [67], .str [90, 122], .str [90], .str [65, 97]],
      .lst [.str [77, 97, 116, 99, 104], .str [75, 105, 110, 100], .str [70, 117, 110], .str [78, 117, 109], .str [89], .str [88]]] (drw sc r1 3).1 = some (.lst (al.map .str)) := by
    rcases d3 (drw_0 sc r1 (m := 3) (by decide)) (drw_m sc r1 (by decide)) with h | h | h <;> rw [h]
    · exact ⟨_, List.mem_cons_self .., rfl⟩
    · exact ⟨_, List.mem_cons_of_mem _ (List.mem_cons_self ..), rfl⟩
    · exact ⟨_, List.mem_cons_of_mem _ (List.mem_cons_of_mem _ (List.mem_cons_self ..)), rfl⟩
  generalize hr2 : (drw sc r1 3).2 = r2 at *
  rcases d2 (drw_0 sc r2 (m := 2) (by decide)) (drw_m sc r2 (by decide)) with hm | hm
  · obtain ⟨rows, r3, e6, e7, e8, e9, g1, g2, g3, g4, g5, g6⟩ := kkind k sc (drw sc r2 2).2 o.1 o.2 1 [o.1] rfl (by simp) al hal 0 (by omega) o.1 rfl [] (by simp) [] (by simp) none none none none none none
    refine ⟨[(o.1, rows)], r3, ⟨o, ho, al, hal, _, .inl rfl, rfl, ?_⟩, ?_⟩
    · intro i p hp
      rcases i with _ | i
      · simp at hp
        subst hp
        exact ⟨g1, g2, g3, g4, g5⟩
      · simp at hp
    · simp at g6
      simp [f__law_kinds, start, l0, l1, l2, l3, l6, taken_eq, hr1, hr2, ho1, hal1, hm, for_cons, g6, kindsV]
  · obtain ⟨rows, r3, e6, e7, e8, e9, g1, g2, g3, g4, g5, g6⟩ := kkind k sc (drw sc r2 2).2 o.1 o.2 2 [o.1, o.2] rfl (by simp) al hal 0 (by omega) o.1 rfl [] (by simp) [] (by simp) none none none none none none
    obtain ⟨rows2, r4, e62, e72, e82, e92, g12, g22, g32, g42, g52, g62⟩ := kkind k sc r3 o.1 o.2 2 [o.1, o.2] rfl (by simp) al hal 1 (by omega) o.2 rfl [.dead] (by simp) [kdV (o.1, rows)] (by simp) (some (.v (.int 0))) e6 e7 e8 e9 none
    refine ⟨[(o.1, rows), (o.2, rows2)], r4, ⟨o, ho, al, hal, _, .inr rfl, rfl, ?_⟩, ?_⟩
    · intro i p hp
      rcases i with _ | _ | i
      · simp at hp
        subst hp
        exact ⟨g1, g2, g3, g4, g5⟩
      · simp at hp
        subst hp
        exact ⟨g12, g22, g32, g42, g52⟩
      · simp at hp
    · simp at g6 g62
      simp [f__law_kinds, start, l0, l1, l2, l3, l6, taken_eq, hr1, hr2, ho1, hal1, hm, for_cons, g6, g62, kindsV]
end KG.Z

set_option linter.all false
set_option maxRecDepth 100000
/-! L3: tokens_of. -/
namespace KG.Z
def LET : Tx := [97, 98, 99, 100, 101, 102, 103, 104, 105, 106, 107, 108, 109, 110, 111, 112, 113, 114, 115, 116, 117, 118, 119, 120, 121, 122]
def CAP : Tx := [65, 66, 67, 68, 69, 70, 71, 72, 73, 74, 75, 76, 77, 78, 79, 80, 81, 82, 83, 84, 85, 86, 87, 88, 89, 90]
def DIG : Tx := [48, 49, 50, 51, 52, 53, 54, 55, 56, 57]
def SIG : Tx := [40, 41, 123, 125, 61, 124, 44, 59, 95]
theorem g_let : g_LETTERS = .v (.str LET) := rfl
theorem g_cap : g_CAPITALS = .v (.str CAP) := rfl
theorem g_dig : g_DIGITS = .v (.str DIG) := rfl
theorem g_sig : g_SIGNS = .v (.str SIG) := rfl
def isRow (c : Nat) : Bool := LET.contains c || (CAP.contains c || DIG.contains c)
theorem row_ok' (k : Nat) (c : Nat) (st : Store) : callN P (k + 1) 3 [.v (.str [c])] st = .ok (.v (.bool (isRow c))) st := by
  rw [show [X.v (.str [c])] = [Val.str [c]].map X.v from rfl, call0 (P := P) (f := 3) rfl rfl (by decide)]
  simp only [isRow]
  cases h1 : LET.contains c <;> cases h2 : CAP.contains c <;> simp [start, g_let, g_cap, g_dig, h1, h2] <;> simp_all
inductive Seg | w (t : Tx) | c (n : Nat) | ar
def Seg.t : Seg → Tx
  | .w t => t
  | .c n => [n]
  | .ar => [45, 62]
def flatS (l : List Seg) : Tx := l.flatMap Seg.t
def tokV (g b : Tx) (col : Int) : Val := .obj 0 [0, 1, 2] [.str g, .str b, .int col]
def toks (g : Tx → Tx) : Nat → List Seg → List Val
  | _, [] => []
  | p, .w t :: r => tokV (g t) t (p + 1) :: toks g (p + t.length) r
  | p, .ar :: r => tokV [45, 62] [45, 62] (p + 1) :: toks g (p + 2) r
  | p, .c n :: r => if n = 32 then toks g (p + 1) r else tokV (if SIG.contains n then [n] else [119, 114, 111, 110, 103]) [n] (p + 1) :: toks g (p + 1) r
/-- no row sign comes first -/
def noRow : Tx → Bool
  | [] => true
  | c :: _ => !isRow c
def okSeg : List Seg → Bool
  | [] => true
  | .w t :: r => !t.isEmpty && t.all isRow && noRow (flatS r) && okSeg r
  | .ar :: r => okSeg r
  | .c n :: r => !isRow n && n != 45 && okSeg r
theorem ixs_at {line : Tx} (hl : line.length ≤ LIM) {b : Int} {n : Nat} (hb : b = n) {c : Nat} (h : line[n]? = some c) (st : Store) : ixV (.v (.str line)) (.v (.int b)) st = some (.str [c]) := by
  subst hb
  obtain ⟨h1, h2⟩ := List.getElem?_eq_some_iff.mp h
  rw [ix_s, if_pos hl]
  unfold ixAt
  rw [if_pos (Int.natCast_nonneg n), if_pos (by omega)]
  simp [h]
theorem cut_take {α : Type} (a p : List α) (j : Nat) {b e : Int} (hb : b = a.length) (he : e = a.length + j) : cut (a ++ p) (some b) (some e) = p.take j := by
  subst hb he
  have h1 : slAt (a ++ p).length 0 (some (a.length : Int)) = a.length := by
    simp only [slAt, List.length_append]
    rw [if_neg (by omega)]
    omega
  have h2 : slAt (a ++ p).length (a ++ p).length (some ((a.length : Int) + j)) = min (a.length + j) (a.length + p.length) := by
    simp only [slAt, List.length_append]
    rw [if_neg (by omega)]
    omega
  unfold cut
  rw [h1, h2, List.drop_left]
  rcases Nat.le_total j p.length with h | h
  · rw [show min (a.length + j) (a.length + p.length) - a.length = j by omega]
  · rw [show min (a.length + j) (a.length + p.length) - a.length = p.length by omega, List.take_length, List.take_of_length_le h]
theorem cut_at {α : Type} (a w p : List α) {b e : Int} (hb : b = a.length) (he : e = a.length + w.length) : cut (a ++ (w ++ p)) (some b) (some e) = w := by
  rw [cut_take a (w ++ p) w.length hb he]
  simp
def isVX : X → Bool
  | .r _ => false
  | _ => true
@[simp] theorem isVX_v (a : Val) : isVX (.v a) = true := rfl
theorem okX_isV {x : X} (h : isVX x = true) (lo : Nat) : okX lo x = true := by
  cases x <;> first | rfl | cases h
@[simp] theorem okR_i (c ns vs r) : okR (.ins c ns vs :: r) ↔ (vs.all isVX = true ∧ okR r) := by
  refine ⟨fun h => ⟨?_, fun n => ?_⟩, fun h n => ?_⟩
  · have := h 0
    simp only [List.all_cons, okC_i, Bool.and_eq_true] at this
    refine List.all_eq_true.mpr fun x hx => ?_
    have := List.all_eq_true.mp this.1 x hx
    cases x with
    | v a => rfl
    | r n => simp at this
    | k a => rfl
  · have := h n
    simp only [List.all_cons, Bool.and_eq_true] at this
    exact this.2
  · simp only [List.all_cons, okC_i, Bool.and_eq_true]
    exact ⟨List.all_eq_true.mpr fun x hx => okX_isV (List.all_eq_true.mp h.1 x hx) n, h.2 n⟩
theorem frz_i (st : Store) (c : Nat) (ns : List Nat) (ws : List Val) : frz st.length (st ++ [.ins c ns (ws.map X.v)]) 4 (.r st.length) = some (.obj c ns ws) := by
  unfold frz
  rw [if_neg (Nat.lt_irrefl _), get_last]
  have : ∀ ws : List Val, mapO (fun x => frz st.length (st ++ [.ins c ns (ws.map X.v)]) 3 x) (ws.map X.v) = some ws := by
    intro ws'
    generalize ht : st ++ [.ins c ns (ws'.map X.v)] = t
    clear ht
    induction ws' with
    | nil => rfl
    | cons a r ih => simp [mapO, ih]
  simp only
  rw [this ws]
  rfl
theorem make_f {C : Ctx} {c f : Nat} {xs : List X} {st : Store} {ns : List Nat} {ws : List Val} (h : C.init c = some f) (hs : okR st)
    (hc : C.call f (.r st.length :: xs) (st ++ [.ins c [] []]) = .ok (.v .none) (st ++ [.ins c ns (ws.map X.v)])) : makeV C false c xs st = .ok (.v (.obj c ns ws)) st := by
  unfold makeV
  rw [h]
  simp only [hc, bind_ok, frz_i, List.take_left]
  rw [if_neg (by simp), if_pos (hs st.length)]
theorem make_t {C : Ctx} {c f : Nat} {xs : List X} {st st1 : Store} (h : C.init c = some f)
    (hc : C.call f (.r st.length :: xs) (st ++ [.ins c [] []]) = .ok (.v .none) st1) : makeV C true c xs st = .ok (.r st.length) st1 := by
  unfold makeV
  rw [h]
  simp only [hc, bind_ok]
  rfl
@[simp] theorem take_app {α : Type} (a : List α) (x : α) : (a ++ [x]).take (a.length + 1) = a ++ [x] := by
  rw [List.take_of_length_le]; simp
@[simp] theorem take_app' {α : Type} (a : List α) : a.take a.length = a := List.take_length
theorem mk_tok (k : Nat) (st : Store) (hs : okR st) (g b : Tx) (col : Int) : makeV (P.ctx (callN P (k + 1))) false 0 [.v (.str g), .v (.str b), .v (.int col)] st = .ok (.v (tokV g b col)) st := by
  refine make_f (f := 33) (ws := [.str g, .str b, .int col]) rfl hs ?_
  rw [cx_call, call1 (P := P) (f := 33) rfl rfl (by decide)]
  have l3 : 3 ≤ LIM := by decide
  simp [f_Token___init__, start, fput_0, fput_c, hs.all]
theorem inner (k : Nat) {line : Tx} (hl : line.length ≤ LIM) (x1 x2 : Option X) : ∀ (w : Tx) (a p : Tx) (e : Int) (n : Nat) (st : Store), line = a ++ (w ++ p) → e = a.length → w.all isRow = true → noRow p = true → w.length < n →
    whlL (evT (P.ctx (callN P (k + 1))) (.and (.cmp .lt (.var 3) (.bi false .len [(.var 0)])) (.tru (.call 3 [(.ix (.var 0) (.var 3))])))) (evSs (P.ctx (callN P (k + 1))) f_tokens_of_b1) n
      [some (.v (.str line)), x1, x2, some (.v (.int e))] st = .nx [some (.v (.str line)), x1, x2, some (.v (.int (e + w.length)))] st
  | w, a, p, e, 0, st, _, _, _, _, h => absurd h (by omega)
  | [], a, p, e, n + 1, st, hline, he, _, hp, _ => by
    unfold whlL
    cases p with
    | nil =>
      have h1 : ¬ (e < line.length) := by subst hline he; simp
      simp [hl, h1]
    | cons c p =>
      have h1 : e < line.length := by subst hline he; simp; omega
      have h2 := ixs_at hl he (c := c) (by subst hline; simp) st
      simp [noRow] at hp
      simp only [t_and, t_cmp, t_tru, e_var, lk_0, lk_s, optR_some, bind_ok, e_bi, es_cons, es_nil, bi_len, len_s, if_pos hl, lt_i, e_call, e_ix, h2, h1, decide_true, cx_call, Option.map_some, row_ok', tr_b, hp, run_ok, if_true]
      simp
  | c :: w, a, p, e, n + 1, st, hline, he, hw, hp, hn => by
    have h1 : e < line.length := by subst hline he; simp; omega
    have h2 := ixs_at hl he (c := c) (by subst hline; simp) st
    simp at hw
    have h3 : isRow c = true := hw.1
    have ih := inner k hl x1 x2 w (a ++ [c]) p (e + 1) n st (by rw [hline]; simp) (by rw [he]; simp) (by simpa using hw.2) hp (by simp at hn; omega)
    unfold whlL
    simp only [t_and, t_cmp, t_tru, e_var, lk_0, lk_s, optR_some, bind_ok, e_bi, es_cons, es_nil, bi_len, len_s, if_pos hl, lt_i, e_call, e_ix, h2, h1, decide_true, cx_call, Option.map_some, row_ok', tr_b, h3, run_ok, if_true]
    rw [show evSs (P.ctx (callN P (k + 1))) f_tokens_of_b1 [some (.v (.str line)), x1, x2, some (.v (.int e))] st = .nx [some (.v (.str line)), x1, x2, some (.v (.int (e + 1)))] st by simp [f_tokens_of_b1]]
    simp only
    rw [ih]
    simp
    omega
/-- the group of each word -/
def Grp (k : Nat) (g : Tx → Tx) (ws : List Tx) : Prop := ∀ w ∈ ws, ∀ st, callN P k 4 [.v (.str w)] st = .ok (.v (.str (g w))) st
def Seg.ws : Seg → List Tx
  | .w t => [t]
  | _ => []
theorem outer (k : Nat) (g : Tx → Tx) {line : Tx} (hl : line.length ≤ LIM) : ∀ (l : List Seg) (pre : Tx) (b : Int) (n : Nat) (acc : List Val) (x3 : Option X), line = pre ++ flatS l → b = pre.length → okSeg l = true → Grp (k + 1) g (l.flatMap Seg.ws) →
    l.length < n → acc.length + l.length < LIM → ∃ x3', whlL (evT (P.ctx (callN P (k + 1))) (.cmp .lt (.var 2) (.bi false .len [(.var 0)]))) (evSs (P.ctx (callN P (k + 1))) f_tokens_of_b2) n
      [some (.v (.str line)), some (.r 0), some (.v (.int b)), x3] [.lst acc] = .nx [some (.v (.str line)), some (.r 0), some (.v (.int line.length)), x3'] [.lst (acc ++ toks g pre.length l)]
  | _, _, _, 0, _, _, _, _, _, _, h, _ => absurd h (by omega)
  | [], pre, b, n + 1, acc, x3, hline, hb, _, _, _, _ => by
    unfold whlL
    have h1 : ¬ (b < line.length) := by subst hline hb; simp [flatS]
    refine ⟨x3, ?_⟩
    have h2 : b = line.length := by subst hline hb; simp [flatS]
    simp [hl, h1, toks]
    exact h2
  | .c m :: r, pre, b, n + 1, acc, x3, hline, hb, hs, hg, hn, hA => by
    simp [okSeg] at hs
    simp at hn hA
    have h1 : b < line.length := by subst hline hb; simp [flatS, Seg.t]; omega
    have h2 : ∀ st, ixV (.v (.str line)) (.v (.int b)) st = some (.str [m]) := ixs_at hl hb (c := m) (by subst hline; simp [flatS, Seg.t])
    have h3 : (cut line (some b) (some (b + 2)) == [45, 62]) = false := by
      rw [show line = pre ++ (m :: flatS r) by rw [hline]; simp [flatS, Seg.t], cut_take pre (m :: flatS r) 2 hb (by omega)]
      simp [hs.1.2]
    have ht : ∀ (acc' : List Val) (x : Option X), acc'.length + r.length < LIM → ∃ x3', whlL (evT (P.ctx (callN P (k + 1))) (.cmp .lt (.var 2) (.bi false .len [(.var 0)]))) (evSs (P.ctx (callN P (k + 1))) f_tokens_of_b2) n
      [some (.v (.str line)), some (.r 0), some (.v (.int (b + 1))), x] [.lst acc'] = .nx [some (.v (.str line)), some (.r 0), some (.v (.int line.length)), x3'] [.lst (acc' ++ toks g (pre ++ [m]).length r)] := fun acc' x h =>
        outer k g hl r (pre ++ [m]) (b + 1) n acc' x (by rw [hline]; simp [flatS, Seg.t]) (by rw [hb]; simp) hs.2 (fun w hw => hg w (by simp [hw])) (by omega) h
    have hacc : acc.length < LIM := by omega
    have hb' : pre.length = b := hb.symm
    unfold whlL
    simp only [t_cmp, e_var, lk_0, lk_s, optR_some, bind_ok, e_bi, es_cons, es_nil, bi_len, len_s, if_pos hl, lt_i, h1, decide_true, run_ok, if_true]
    by_cases hm : m = 32
    · subst hm
      rw [show evSs (P.ctx (callN P (k + 1))) f_tokens_of_b2 [some (.v (.str line)), some (.r 0), some (.v (.int b)), x3] [.lst acc] = .nx [some (.v (.str line)), some (.r 0), some (.v (.int (b + 1))), some (.v (.int (b + 1)))] [.lst acc] by
        simp [f_tokens_of_b2, h2, row_ok', hs.1.1, hl, h3]]
      obtain ⟨x3', hx⟩ := ht acc (some (.v (.int (b + 1)))) (by omega)
      refine ⟨x3', ?_⟩
      simp only [hx]
      simp [toks]
    · rw [show evSs (P.ctx (callN P (k + 1))) f_tokens_of_b2 [some (.v (.str line)), some (.r 0), some (.v (.int b)), x3] [.lst acc] = .nx [some (.v (.str line)), some (.r 0), some (.v (.int (b + 1))), some (.v (.int (b + 1)))] [.lst (acc ++ [tokV (if SIG.contains m then [m] else [119, 114, 111, 110, 103]) [m] (b + 1)])] by
        by_cases hS : m ∈ SIG <;> simp [f_tokens_of_b2, h2, row_ok', hs.1.1, hl, h3, hm, g_sig, hS, mk_tok, hacc]]
      obtain ⟨x3', hx⟩ := ht (acc ++ [tokV (if SIG.contains m then [m] else [119, 114, 111, 110, 103]) [m] (b + 1)]) (some (.v (.int (b + 1)))) (by simp; omega)
      refine ⟨x3', ?_⟩
      simp only [hx]
      simp [toks, hm, hb']
  | .ar :: r, pre, b, n + 1, acc, x3, hline, hb, hs, hg, hn, hA => by
    simp [okSeg] at hs
    simp at hn hA
    have h1 : b < line.length := by subst hline hb; simp [flatS, Seg.t]; omega
    have h2 : ∀ st, ixV (.v (.str line)) (.v (.int b)) st = some (.str [45]) := ixs_at hl hb (c := 45) (by subst hline; simp [flatS, Seg.t])
    have h3 : cut line (some b) (some (b + 2)) = [45, 62] := by
      rw [show line = pre ++ (45 :: 62 :: flatS r) by rw [hline]; simp [flatS, Seg.t], cut_take pre (45 :: 62 :: flatS r) 2 hb (by omega)]
      simp
    have hacc : acc.length < LIM := by omega
    have hb' : pre.length = b := hb.symm
    obtain ⟨x3', hx⟩ := outer k g hl r (pre ++ [45, 62]) (b + 2) n (acc ++ [tokV [45, 62] [45, 62] (b + 1)]) (some (.v (.int (b + 2)))) (by rw [hline]; simp [flatS, Seg.t]) (by rw [hb]; simp) hs (fun w hw => hg w (by simp [hw])) (by omega) (by simp; omega)
    unfold whlL
    simp only [t_cmp, e_var, lk_0, lk_s, optR_some, bind_ok, e_bi, es_cons, es_nil, bi_len, len_s, if_pos hl, lt_i, h1, decide_true, run_ok, if_true]
    rw [show evSs (P.ctx (callN P (k + 1))) f_tokens_of_b2 [some (.v (.str line)), some (.r 0), some (.v (.int b)), x3] [.lst acc] = .nx [some (.v (.str line)), some (.r 0), some (.v (.int (b + 2))), some (.v (.int (b + 2)))] [.lst (acc ++ [tokV [45, 62] [45, 62] (b + 1)])] by
        have : isRow 45 = false := rfl
        simp [f_tokens_of_b2, h2, row_ok', this, hl, h3, mk_tok, hacc, Int.add_assoc]]
    refine ⟨x3', ?_⟩
    simp only [hx]
    simp [toks, hb']
  | .w t :: r, pre, b, n + 1, acc, x3, hline, hb, hs, hg, hn, hA => by
    simp only [okSeg, Bool.and_eq_true] at hs
    obtain ⟨⟨⟨hs1, hs2⟩, hs3⟩, hs4⟩ := hs
    simp at hn hA
    obtain ⟨c, t, rfl⟩ : ∃ c t', t = c :: t' := by cases t with
      | nil => cases hs1
      | cons c t => exact ⟨c, t, rfl⟩
    have hc : isRow c = true ∧ t.all isRow = true := by simpa using hs2
    have h1 : b < line.length := by subst hline hb; simp [flatS, Seg.t]; omega
    have h2 : ∀ st, ixV (.v (.str line)) (.v (.int b)) st = some (.str [c]) := ixs_at hl hb (c := c) (by subst hline; simp [flatS, Seg.t])
    have hl1 : line = (pre ++ [c]) ++ (t ++ flatS r) := by rw [hline]; simp [flatS, Seg.t]
    have hW : t.length < WF := by
      have : t.length ≤ line.length := by rw [hl1]; simp; omega
      unfold LIM at hl
      unfold WF
      omega
    have h4 := fun st => inner k hl (some (.r 0)) (some (.v (.int b))) t (pre ++ [c]) (flatS r) (b + 1) WF st hl1 (by rw [hb]; simp) hc.2 hs3 hW
    have h5 : cut line (some b) (some (b + 1 + t.length)) = c :: t := by
      rw [show line = pre ++ ((c :: t) ++ flatS r) by rw [hline]; simp [flatS, Seg.t]]
      exact cut_at pre (c :: t) (flatS r) hb (by simp; omega)
    have h6 := hg (c :: t) (by simp [Seg.ws])
    have hacc : acc.length < LIM := by omega
    have hb' : pre.length = b := hb.symm
    obtain ⟨x3', hx⟩ := outer k g hl r (pre ++ (c :: t)) (b + 1 + t.length) n (acc ++ [tokV (g (c :: t)) (c :: t) (b + 1)]) (some (.v (.int (b + 1 + t.length)))) (by rw [hline]; simp [flatS, Seg.t]) (by rw [hb]; simp; omega) hs4 (fun w hw => hg w (by simp [hw])) (by omega) (by simp; omega)
    unfold whlL
    simp only [t_cmp, e_var, lk_0, lk_s, optR_some, bind_ok, e_bi, es_cons, es_nil, bi_len, len_s, if_pos hl, lt_i, h1, decide_true, run_ok, if_true]
    rw [show evSs (P.ctx (callN P (k + 1))) f_tokens_of_b2 [some (.v (.str line)), some (.r 0), some (.v (.int b)), x3] [.lst acc] = .nx [some (.v (.str line)), some (.r 0), some (.v (.int (b + 1 + t.length))), some (.v (.int (b + 1 + t.length)))] [.lst (acc ++ [tokV (g (c :: t)) (c :: t) (b + 1)])] by
        simp [f_tokens_of_b2, h2, row_ok', hc.1, h4, hl, h5, h6, mk_tok, hacc]]
    refine ⟨x3', ?_⟩
    simp only [hx]
    simp [toks, hb']
/-- the tokens of a line -/
def lineT (g : Tx → Tx) (l : List Seg) : List Val := toks g 0 l ++ [tokV [101, 110, 100] [] ((flatS l).length + 1)]
theorem flatS_len : ∀ l : List Seg, okSeg l = true → l.length ≤ (flatS l).length
  | [], _ => by simp [flatS]
  | .c m :: r, h => by
    simp [okSeg] at h
    have := flatS_len r h.2
    simp [flatS, Seg.t] at this ⊢
    omega
  | .ar :: r, h => by
    simp [okSeg] at h
    have := flatS_len r h
    simp [flatS, Seg.t] at this ⊢
    omega
  | .w t :: r, h => by
    simp only [okSeg, Bool.and_eq_true] at h
    have := flatS_len r h.2
    have : 0 < t.length := by cases t with
      | nil => simp at h
      | cons c t => simp
    simp [flatS, Seg.t] at *
    omega
theorem tokens_ok (k : Nat) (g : Tx → Tx) (l : List Seg) (hl : (flatS l).length < LIM) (hs : okSeg l = true) (hg : Grp (k + 1) g (l.flatMap Seg.ws)) (st : Store) :
    callN P (k + 2) 6 [.v (.str (flatS l))] st = .ok (.v (.lst (lineT g l))) st := by
  have h0 := flatS_len l hs
  have hW : l.length < WF := by unfold LIM at hl; unfold WF; omega
  have l0 : 0 ≤ LIM := by decide
  obtain ⟨x3, hx⟩ := outer k g (line := flatS l) (by omega) l [] 0 WF [] none rfl rfl hs hg hW (by simp; omega)
  rw [show [X.v (.str (flatS l))] = [Val.str (flatS l)].map X.v from rfl, call0 (P := P) (f := 6) rfl rfl (by decide)]
  simp at hx
  have h1 : (flatS l).length ≤ LIM := by omega
  have h2 : (toks g 0 l).length < LIM := by
    have : ∀ (l : List Seg) (p : Nat), (toks g p l).length ≤ l.length := by
      intro l
      induction l with
      | nil => intro p; simp [toks]
      | cons a r ih =>
        intro p
        cases a with
        | w t => simp [toks]; exact ih _
        | ar => simp [toks]; exact ih _
        | c m =>
          unfold toks
          split
          · exact Nat.le_trans (ih _) (by simp)
          · simp; exact ih _
    have := this l 0
    omega
  simp [f_tokens_of, start, l0, hx, h1, mk_tok, h2, lineT]
end KG.Z

set_option linter.all false
set_option maxRecDepth 100000
/-! L4: group_of, and the words. -/
namespace KG.Z
theorem okD_s (w : Tx) : (Val.str w).okD = true := rfl
theorem inS_strs (w : Tx) (ws : List Tx) : inS (.str w) (ws.map .str) = some (decide (w ∈ ws)) := by
  have h1 : ∀ ws : List Tx, isDL (ws.map .str) = true := by
    intro ws
    induction ws with
    | nil => rfl
    | cons a r ih => simp [isDL, Val.isD, ih]
  have h2 : ∀ ws : List Tx, (ws.map Val.str).any (fun b => b.eqv (.str w)) = decide (w ∈ ws) := by
    intro ws
    induction ws with
    | nil => simp
    | cons a r ih =>
      simp only [List.map_cons, List.any_cons, ih, List.mem_cons, Val.eqv]
      by_cases h : w = a
      · simp [h]
      · have : ¬ a = w := fun e => h e.symm
        simp [h, this]
  unfold inS
  rw [h1, okD_s, h2]
  rfl
@[simp] theorem inS_0 (w : Tx) : inS (.str w) [] = some false := by have := inS_strs w []; simpa using this
@[simp] theorem inS_1 (w a : Tx) : inS (.str w) [.str a] = some (decide (w = a)) := by have := inS_strs w [a]; simpa using this
@[simp] theorem inS_2 (w a b : Tx) : inS (.str w) [.str a, .str b] = some (decide (w = a ∨ w = b)) := by have := inS_strs w [a, b]; simpa using this
@[simp] theorem inS_3 (w a b c : Tx) : inS (.str w) [.str a, .str b, .str c] = some (decide (w = a ∨ w = b ∨ w = c)) := by have := inS_strs w [a, b, c]; simpa using this
@[simp] theorem inS_4 (w a b c d : Tx) : inS (.str w) [.str a, .str b, .str c, .str d] = some (decide (w = a ∨ w = b ∨ w = c ∨ w = d)) := by have := inS_strs w [a, b, c, d]; simpa using this
def WRD : List Tx := [[107, 105, 110, 100], [102, 117, 110], [109, 97, 116, 99, 104], [110, 117, 109]]
theorem g_words : g_WORDS = .k (WRD.map .str) := rfl
theorem g_num : g_NUM = .v (.str numT) := rfl
/-- all signs of a text are in a row of signs -/
theorem all_in (C : Ctx) (G : Tx) (gx : X) (gi : Nat) (hg : C.glob gi = some gx) (hx : gx = .v (.str G)) (s : Tx) (x0 x1 : Option X) (st : Store) (ws : List Val) :
    loopL ⟨none, ws⟩ (itemL C (.nm 1) none (.cmp .inn (.var 1) (.glob gi)) [x0, x1]) (s.map fun c => Val.str [c]) st = .ok (s.map fun c => Val.bool (decide (c ∈ G))) st := by
  subst hx
  induction s with
  | nil => simp
  | cons c r ih =>
    rw [List.map_cons, loop_cons]
    simp [itemL, hg, ih]
def isName (w : Tx) : Bool := decide (1 ≤ w.length) && decide (w.length ≤ 8) && !(decide (w ∈ WRD)) && w.all fun c => decide (c ∈ LET)
def isAlt : Tx → Bool
  | [] => false
  | c :: r => decide (r.length ≤ 7) && decide (c ∈ CAP) && r.all fun c => decide (c ∈ LET)
theorem len8 : g_LONGEST_NAME = .v (.int 8) := rfl
@[simp] theorem isBools_0 : isBools [] = some [] := rfl
@[simp] theorem isBools_c (b r) : isBools (.bool b :: r) = (isBools r).map (b :: ·) := rfl
@[simp] theorem isInts_0 : isInts [] = some [] := rfl
@[simp] theorem isInts_c (b r) : isInts (.int b :: r) = (isInts r).map (b :: ·) := rfl
@[simp] theorem isStrs_0 : isStrs [] = some [] := rfl
@[simp] theorem isStrs_c (b r) : isStrs (.str b :: r) = (isStrs r).map (b :: ·) := rfl
@[simp] theorem isBools_comp {α : Type} (f : α → Bool) (s : List α) : isBools (s.map (Val.bool ∘ f)) = some (s.map f) := by
  rw [show s.map (Val.bool ∘ f) = (s.map f).map .bool by simp, isBools_map]
@[simp] theorem isInts_comp {α : Type} (f : α → Int) (s : List α) : isInts (s.map (Val.int ∘ f)) = some (s.map f) := by
  rw [show s.map (Val.int ∘ f) = (s.map f).map .int by simp, isInts_map]
@[simp] theorem isStrs_comp {α : Type} (f : α → Tx) (s : List α) : isStrs (s.map (Val.str ∘ f)) = some (s.map f) := by
  rw [show s.map (Val.str ∘ f) = (s.map f).map .str by simp, isStrs_map]
@[simp] theorem isStrs_lam {α : Type} (f : α → Tx) (s : List α) : isStrs (s.map fun a => Val.str (f a)) = some (s.map f) := isStrs_comp f s
@[simp] theorem isInts_lam {α : Type} (f : α → Int) (s : List α) : isInts (s.map fun a => Val.int (f a)) = some (s.map f) := isInts_comp f s
@[simp] theorem isBools_lam {α : Type} (f : α → Bool) (s : List α) : isBools (s.map fun a => Val.bool (f a)) = some (s.map f) := isBools_comp f s
theorem name_ok (k : Nat) (w : Tx) (hl : w.length ≤ LIM) (st : Store) : callN P (k + 1) 0 [.v (.str w)] st = .ok (.v (.bool (isName w))) st := by
  rw [show [X.v (.str w)] = [Val.str w].map X.v from rfl, call0 (P := P) (f := 0) rfl rfl (by decide)]
  have h := all_in (P.ctx (callN P k)) LET g_LETTERS 2 (gl_2) g_let w (some (.v (.str w))) none [] (w.map fun c => Val.str [c])
  have c1 : (1 : Int) ≤ w.length ↔ 1 ≤ w.length := by omega
  have c2 : (w.length : Int) ≤ 8 ↔ w.length ≤ 8 := by omega
  by_cases h1 : 1 ≤ w.length <;> by_cases h2 : w.length ≤ 8 <;> by_cases h3 : w ∈ WRD <;>
    simp [f_is_name, start, hl, g_words, inS_strs, c1, c2, h1, h2, h3, len8, isName, h]
theorem cut_1 {α : Type} (c : α) (r : List α) : cut (c :: r) (some 1) none = r := by
  have h1 : slAt (c :: r).length 0 (some 1) = 1 := by simp [slAt]
  unfold cut
  rw [h1]
  simp [slAt]
theorem alt_ok (k : Nat) (w : Tx) (hl : w.length ≤ LIM) (st : Store) : callN P (k + 1) 1 [.v (.str w)] st = .ok (.v (.bool (isAlt w))) st := by
  rw [show [X.v (.str w)] = [Val.str w].map X.v from rfl, call0 (P := P) (f := 1) rfl rfl (by decide)]
  cases w with
  | nil => simp [f_is_alternative, start, hl, isAlt]
  | cons c r =>
    have h := all_in (P.ctx (callN P k)) LET g_LETTERS 2 (gl_2) g_let r (some (.v (.str (c :: r)))) none [] (r.map fun c => Val.str [c])
    have c1 : (1 : Int) ≤ (r.length : Int) + 1 := by omega
    have hl' : r.length ≤ LIM := by simp at hl; omega
    have c2 : (r.length : Int) + 1 ≤ 8 ↔ r.length ≤ 7 := by omega
    simp at hl
    have hx := ixs_at (line := c :: r) (by simpa using hl) (b := 0) (n := 0) rfl (c := c) rfl
    by_cases h2 : r.length ≤ 7 <;> by_cases h3 : c ∈ CAP <;>
      simp [f_is_alternative, start, hl, hl', hx, c1, c2, h2, h3, len8, isAlt, h, g_cap, cut_1]
def isNum (w : Tx) : Bool := (w.all fun c => decide (c ∈ DIG)) && (decide (w.head? ≠ some 48) || decide (w.length = 1))
theorem num_ok (k : Nat) (w : Tx) (hw : w ≠ []) (hl : w.length ≤ LIM) (st : Store) : callN P (k + 1) 2 [.v (.str w)] st = .ok (.v (.bool (isNum w))) st := by
  rw [show [X.v (.str w)] = [Val.str w].map X.v from rfl, call0 (P := P) (f := 2) rfl rfl (by decide)]
  have h := all_in (P.ctx (callN P k)) DIG g_DIGITS 4 (gl_4) g_dig w (some (.v (.str w))) none [] (w.map fun c => Val.str [c])
  cases w with
  | nil => exact absurd rfl hw
  | cons c r =>
    simp at hl
    have hx := ixs_at (line := c :: r) (by simpa using hl) (b := 0) (n := 0) rfl (c := c) rfl
    have e1 : (r.length : Int) + 1 = 1 ↔ r = [] := by
      rw [← List.length_eq_zero_iff]; omega
    simp at h
    have e2 : ((r.length : Int) + 1 == 1) = decide (r = []) := by
      by_cases h : r = []
      · simp [h]
      · simp [h, e1]
    have hA : (∀ x, x ∈ r → x ∈ DIG) = True ∨ (∀ x, x ∈ r → x ∈ DIG) = False := by
      by_cases h1 : (∀ x ∈ r, x ∈ DIG)
      · exact .inl (propext ⟨fun _ => trivial, fun _ => h1⟩)
      · exact .inr (propext ⟨h1, False.elim⟩)
    have hB : (∀ x, x ∈ r → x ∈ DIG) = False → ∃ x, x ∈ r ∧ ¬x ∈ DIG := fun h1 => by
      have : ¬ ∀ x, x ∈ r → x ∈ DIG := by rw [h1]; exact id
      simpa using this
    by_cases h2 : c = 48
    · subst h2
      rcases hA with h1 | h1 <;> by_cases h0 : 48 ∈ DIG <;> simp [f_is_number, start, isNum, h, h0, h1, hx, hl, e2] <;> (try rw [List.all_eq]; simp [h1])
    · rcases hA with h1 | h1 <;> by_cases h0 : c ∈ DIG <;> simp [f_is_number, start, isNum, h, h0, h1, h2, hx, hl, e2] <;> exact hB h1
def grp (w : Tx) : Tx := if w ∈ WRD then w else if isName w = true then [110, 97, 109, 101] else if isAlt w = true then [97, 108, 116, 101, 114, 110, 97, 116, 105, 118, 101] else if isNum w = true then [110, 117, 109, 98, 101, 114] else [119, 114, 111, 110, 103]
theorem group_ok (k : Nat) (w : Tx) (hw : w ≠ []) (hl : w.length ≤ LIM) (st : Store) : callN P (k + 2) 4 [.v (.str w)] st = .ok (.v (.str (grp w))) st := by
  rw [show [X.v (.str w)] = [Val.str w].map X.v from rfl, call0 (P := P) (f := 4) rfl rfl (by decide)]
  by_cases h1 : w ∈ WRD <;> by_cases h2 : isName w = true <;> by_cases h3 : isAlt w = true <;> by_cases h4 : isNum w = true <;>
    simp [f_group_of, start, g_words, inS_strs, h1, h2, h3, h4, grp, name_ok, alt_ok, num_ok, hl, hw]
theorem grp_all (k : Nat) (ws : List Tx) (h : ∀ w ∈ ws, w ≠ [] ∧ w.length ≤ LIM) : Grp (k + 2) grp ws := fun w hw st => group_ok k w (h w hw).1 (h w hw).2 st
end KG.Z

set_option linter.all false
set_option maxRecDepth 100000
/-! L5: the reader of a kind's line. -/
namespace KG.Z
structure Tk where
  g : Tx
  b : Tx
  col : Int
def tkV (t : Tk) : Val := tokV t.g t.b t.col
def atV (n : Int) (t : Tk) : Val := .tup [.int n, .int t.col]
/-- the reader's cell -/
def lrC (n : Int) (T : List Tk) (i : Nat) (ow : Tx) (cnt : Int) : Cell := .ins 4 [9, 10, 11, 12, 13] [.v (.int n), .v (.lst (T.map tkV)), .v (.int (i : Int)), .v (.str ow), .v (.int cnt)]
@[simp] theorem okR_lr (n T i ow cnt r) : okR (lrC n T i ow cnt :: r) ↔ okR r := by simp [lrC]
@[simp] theorem okC_lr (m n T i ow cnt) : okC m (lrC n T i ow cnt) = true := by simp [lrC]
@[simp] theorem attO_n {C : Ctx} {x n st c} (h1 : C.prop c n = none) (h2 : C.meth c n = none) : attO C x n st c = optR (fldV x n st) st := attO_f h1 h2
@[simp] theorem flook_0 {α : Type} (x : Nat) : flook ([] : List Nat) ([] : List α) x = none := rfl
def fldP (C : Ctx) (a n : Nat) (st : Store) (o : Option Cell) : Option X := match o with
  | some (.ins c ns vs) => (match C.prop c n, C.meth c n with
    | none, none => flook ns vs n
    | _, _ => none)
  | _ => none
@[simp] theorem fldO_r (C : Ctx) (a n : Nat) (st : Store) : fldO C (.r a) n st = fldP C a n st st[a]? := by
  unfold fldO fldP fldV
  simp only [clsOf]
  match st[a]? with
  | some (.ins c ns vs) => rfl
  | some (.lst _) => rfl
  | some (.rls _) => rfl
  | some (.dct _ _ _) => rfl
  | some .dead => rfl
  | none => rfl
theorem fldP_i {C : Ctx} {a n c : Nat} {st : Store} {ns vs} (h1 : C.prop c n = none) (h2 : C.meth c n = none) : fldP C a n st (some (.ins c ns vs)) = flook ns vs n := by unfold fldP; simp only; rw [h1, h2]
theorem tk_at {T : List Tk} {i : Nat} {t : Tk} {r : List Tk} (h : T.drop i = t :: r) : T[i]? = some t := by
  have := congrArg (·[0]?) h
  simpa using this
theorem tk_next {T : List Tk} {i : Nat} {t : Tk} {r : List Tk} (h : T.drop i = t :: r) : T.drop (i + 1) = r := by
  have := congrArg (List.drop 1) h
  simpa [List.drop_drop] using this
section
variable (k : Nat) (n : Int) (T : List Tk) (ow : Tx) (cnt : Int) (rest : Store)
theorem peek_ok (hr : okR rest) {i : Nat} {t : Tk} (h : T[i]? = some t) : callN P (k + 1) 38 [.r 0] (lrC n T i ow cnt :: rest) = .ok (.v (.str t.g)) (lrC n T i ow cnt :: rest) := by
  rw [call1 (P := P) (f := 38) rfl rfl (by decide)]
  simp [f_LineReader_peek, start, lrC, flook_c, h, tkV, tokV, hr.all]
theorem here_ok (hr : okR rest) {i : Nat} {t : Tk} (h : T[i]? = some t) : callN P (k + 1) 39 [.r 0] (lrC n T i ow cnt :: rest) = .ok (.v (atV n t)) (lrC n T i ow cnt :: rest) := by
  rw [call1 (P := P) (f := 39) rfl rfl (by decide)]
  have l2 : 2 ≤ LIM := by decide
  simp [f_LineReader_here, start, lrC, flook_c, h, tkV, tokV, hr.all, l2, atV]
theorem take_ok (hr : okR rest) {i : Nat} {t : Tk} (h : T[i]? = some t) (ss : List Tx) (hs : t.g ∈ ss) : callN P (k + 2) 41 [.r 0, .v (.lst (ss.map .str))] (lrC n T i ow cnt :: rest) = .ok (.v (.tup [.str t.b, atV n t])) (lrC n T (i + 1) ow cnt :: rest) := by
  rw [call1 (P := P) (f := 41) rfl rfl (by decide)]
  have l2 : 2 ≤ LIM := by decide
  have h1 := peek_ok k n T ow cnt rest hr h
  have h2 := here_ok k n T ow cnt rest hr h
  simp [lrC] at h1 h2
  simp [f_LineReader_take, start, lrC, flook_c, h1, h2, h, tkV, tokV, hr.all, l2, inS_strs, hs, fldP_i, fput_c]
theorem accept_ok (hr : okR rest) {i : Nat} {t : Tk} (h : T[i]? = some t) (s : Tx) : callN P (k + 2) 42 [.r 0, .v (.str s)] (lrC n T i ow cnt :: rest) = if t.g = s then .ok (.v (.bool true)) (lrC n T (i + 1) ow cnt :: rest) else .ok (.v (.bool false)) (lrC n T i ow cnt :: rest) := by
  rw [call1 (P := P) (f := 42) rfl rfl (by decide)]
  have h1 := peek_ok k n T ow cnt rest hr h
  simp [lrC] at h1
  by_cases hs : t.g = s
  · simp [f_LineReader_accept, start, lrC, flook_c, h1, h, tkV, tokV, hr.all, hs, fldP_i, fput_c]
  · simp [f_LineReader_accept, start, lrC, flook_c, h1, h, tkV, tokV, hr.all, hs, fldP_i, fput_c]
end
abbrev nameT : Tx := [110, 97, 109, 101]
abbrev altT : Tx := [97, 108, 116, 101, 114, 110, 97, 116, 105, 118, 101]
abbrev barT : Tx := [124]
abbrev endT : Tx := [101, 110, 100]
abbrev kindT : Tx := [107, 105, 110, 100]
def fldV' (n : Int) (t : Tk) : Val := .tup [.str t.b, atV n t]
@[simp] theorem okR_d' (t ks vs r) : okR (.dct t ks vs :: r) ↔ okR r := ⟨fun h n => by have := h n; simpa using this, fun h n => by have := h n; simpa using this⟩
section
variable (k : Nat) (n : Int) (T : List Tk) (ow : Tx) (cnt : Int)
theorem row_loop (hr : okR rest) (x2 x3 : Option X) (tn : Tk) (post : List Tk) (hn : ¬ (tn.g = nameT ∨ tn.g = numT)) : ∀ (fts : List Tk) (i m : Nat) (acc : List Val), T.drop i = fts ++ tn :: post → (∀ f ∈ fts, f.g = nameT ∨ f.g = numT) → fts.length < m → acc.length + fts.length < LIM →
    whlL (evT (P.ctx (callN P (k + 2))) (.cmp .inn (.meth (.var 0) 14 []) (.tup [(.cst (.str nameT)), (.cst (.str numT))]))) (evSs (P.ctx (callN P (k + 2))) f_LineReader_row_b1) m
      [some (.r 0), some (.r (rest.length + 1)), x2, x3] (lrC n T i ow cnt :: (rest ++ [.lst acc])) = .nx [some (.r 0), some (.r (rest.length + 1)), x2, x3] (lrC n T (i + fts.length) ow cnt :: (rest ++ [.lst (acc ++ fts.map (fldV' n))]))
  | _, _, 0, _, _, _, h, _ => absurd h (by omega)
  | [], i, m + 1, acc, hT, _, _, _ => by
    have h1 := peek_ok (k + 1) n T ow cnt (rest ++ [.lst acc]) (by simp [hr]) (tk_at hT)
    unfold whlL
    have l2 : 2 ≤ LIM := by decide
    have h2 : metC (P.ctx (callN P (k + 2))) 0 14 (some (lrC n T i ow cnt)) = some 38 := rfl
    simp [h1, h2, l2, hn]
  | f :: fts, i, m + 1, acc, hT, hf, hm, hA => by
    have h0 : okR (rest ++ [Cell.lst acc]) := by simp [hr]
    have h1 := peek_ok (k + 1) n T ow cnt (rest ++ [.lst acc]) h0 (tk_at hT)
    have h3 := take_ok k n T ow cnt (rest ++ [.lst acc]) h0 (tk_at hT) [nameT, numT] (by simpa using hf f (by simp))
    have ih := row_loop hr x2 x3 tn post hn fts (i + 1) m (acc ++ [fldV' n f]) (tk_next hT) (fun f hh => hf f (by simp [hh])) (by simp at hm; omega) (by simp at hA ⊢; omega)
    have l2 : 2 ≤ LIM := by decide
    have h2 : metC (P.ctx (callN P (k + 2))) 0 14 (some (lrC n T i ow cnt)) = some 38 := rfl
    have h4 : metC (P.ctx (callN P (k + 2))) 0 19 (some (lrC n T i ow cnt)) = some 41 := rfl
    have h5 : f.g = nameT ∨ f.g = numT := hf f (by simp)
    have h6 : acc.length < LIM := by simp at hA; omega
    unfold whlL
    rw [show evT (P.ctx (callN P (k + 2))) (.cmp .inn (.meth (.var 0) 14 []) (.tup [(.cst (.str nameT)), (.cst (.str numT))])) [some (.r 0), some (.r (rest.length + 1)), x2, x3] (lrC n T i ow cnt :: (rest ++ [.lst acc])) = .ok true (lrC n T i ow cnt :: (rest ++ [.lst acc])) by
      simp [h1, h2, l2, h5]]
    simp at h3
    rw [run_ok, if_pos rfl, show evSs (P.ctx (callN P (k + 2))) f_LineReader_row_b1 [some (.r 0), some (.r (rest.length + 1)), x2, x3] (lrC n T i ow cnt :: (rest ++ [.lst acc])) = .nx [some (.r 0), some (.r (rest.length + 1)), x2, x3] (lrC n T (i + 1) ow cnt :: (rest ++ [.lst (acc ++ [fldV' n f])])) by
      simp [f_LineReader_row_b1, h4, h3, l2, h6, fldV']]
    simp only
    rw [ih]
    simp [Nat.add_assoc, Nat.add_comm 1]
def rowV' (n : Int) (ta : Tk) (fts : List Tk) : Val := .tup [.str ta.b, atV n ta, .lst (fts.map (fldV' n))]
theorem row_ok (hr : okR rest) (ta tn : Tk) (fts post : List Tk) (i : Nat) (hT : T.drop i = ta :: (fts ++ tn :: post)) (ha : ta.g = altT) (hf : ∀ f ∈ fts, f.g = nameT ∨ f.g = numT) (hn : ¬ (tn.g = nameT ∨ tn.g = numT)) (hl : fts.length < 1000) :
    callN P (k + 3) 45 [.r 0] (lrC n T i ow cnt :: rest) = .ok (.v (rowV' n ta fts)) (lrC n T (i + 1 + fts.length) ow cnt :: rest) := by
  rw [call1 (P := P) (f := 45) rfl rfl (by decide)]
  have l0 : 0 ≤ LIM := by decide
  have l1 : 1 ≤ LIM := by decide
  have l2 : 2 ≤ LIM := by decide
  have l3 : 3 ≤ LIM := by decide
  have h3 := take_ok k n T ow cnt rest hr (tk_at hT) [altT] (by simp [ha])
  have h4 : metC (P.ctx (callN P (k + 2))) 0 19 (some (lrC n T i ow cnt)) = some 41 := rfl
  have h5 := row_loop k n T ow cnt hr (some (.v (.str ta.b))) (some (.v (atV n ta))) tn post hn fts (i + 1) WF [] (tk_next hT) hf (by unfold WF; omega) (by simp; unfold LIM; omega)
  simp at h3 h5
  simp [f_LineReader_row, start, h3, h4, l0, l1, l2, l3, h5, hr.all, rowV']
end
end KG.Z

set_option linter.all false
set_option maxRecDepth 100000
/-! L6: a kind's line is read. -/
namespace KG.Z
structure RT where
  bar : Tk
  ta : Tk
  fts : List Tk
def RT.toks (r : RT) : List Tk := r.bar :: r.ta :: r.fts
structure RT.ok (r : RT) : Prop where
  bar : r.bar.g = barT
  alt : r.ta.g = altT
  fld : ∀ f ∈ r.fts, f.g = nameT ∨ f.g = numT
  len : r.fts.length < 1000
def klV (n : Int) (tn ta : Tk) (fts : List Tk) (rts : List RT) : Val := .obj 2 [3, 4, 5] [.str tn.b, atV n tn, .lst (rowV' n ta fts :: rts.map fun r => rowV' n r.ta r.fts)]
section
variable (k : Nat) (n : Int) (T : List Tk) (ow : Tx) (cnt : Int)
/-- what stands behind a row: a bar or the end -/
theorem behind {rts : List RT} (hr : ∀ r ∈ rts, r.ok) {te : Tk} (he : ¬ (te.g = nameT ∨ te.g = numT)) (post : List Tk) : ∃ tn p, rts.flatMap RT.toks ++ te :: post = tn :: p ∧ ¬ (tn.g = nameT ∨ tn.g = numT) := by
  cases rts with
  | nil => exact ⟨te, post, rfl, he⟩
  | cons r rts =>
    refine ⟨r.bar, _, rfl, ?_⟩
    rw [(hr r (by simp)).bar]
    decide
theorem kind_loop (hr : okR rest) (x2 x3 : Option X) (te : Tk) (post : List Tk) (he : ¬ (te.g = nameT ∨ te.g = numT)) (he2 : te.g ≠ barT) : ∀ (rts : List RT) (i m : Nat) (acc : List Val), T.drop i = rts.flatMap RT.toks ++ te :: post → (∀ r ∈ rts, r.ok) → rts.length < m → acc.length + rts.length < LIM →
    whlL (evT (P.ctx (callN P (k + 3))) (.tru (.meth (.var 0) 17 [(.cst (.str barT))]))) (evSs (P.ctx (callN P (k + 3))) f_LineReader_kind_line_b1) m
      [some (.r 0), some (.r (rest.length + 1)), x2, x3] (lrC n T i ow cnt :: (rest ++ [.lst acc])) = .nx [some (.r 0), some (.r (rest.length + 1)), x2, x3] (lrC n T (i + (rts.flatMap RT.toks).length) ow cnt :: (rest ++ [.lst (acc ++ rts.map fun r => rowV' n r.ta r.fts)]))
  | _, _, 0, _, _, _, h, _ => absurd h (by omega)
  | [], i, m + 1, acc, hT, _, _, _ => by
    have h1 := accept_ok (k + 1) n T ow cnt (rest ++ [.lst acc]) (by simp [hr]) (tk_at hT) barT
    rw [if_neg he2] at h1
    unfold whlL
    have h2 : metC (P.ctx (callN P (k + 3))) 0 17 (some (lrC n T i ow cnt)) = some 42 := rfl
    simp [h1, h2]
  | r :: rts, i, m + 1, acc, hT, hf, hm, hA => by
    have h0 : okR (rest ++ [Cell.lst acc]) := by simp [hr]
    have hrk := hf r (by simp)
    have hT1 : T.drop i = r.bar :: (r.ta :: (r.fts ++ (rts.flatMap RT.toks ++ te :: post))) := by rw [hT]; simp [RT.toks]
    obtain ⟨tn, p, e1, e2⟩ := behind (fun r hh => hf r (by simp [hh])) he post (rts := rts)
    have h1 := accept_ok (k + 1) n T ow cnt (rest ++ [.lst acc]) h0 (tk_at hT1) barT
    rw [if_pos hrk.bar] at h1
    have hT2 := tk_next hT1
    have h3 := row_ok k n T ow cnt h0 r.ta tn r.fts p (i + 1) (by rw [hT2, e1]) hrk.alt hrk.fld e2 hrk.len
    have hT3 : T.drop (i + 1 + 1 + r.fts.length) = rts.flatMap RT.toks ++ te :: post := by
      have := congrArg (List.drop (r.fts.length)) (tk_next hT2)
      rw [List.drop_drop] at this
      rw [this, List.drop_left]
    have ih := kind_loop hr x2 x3 te post he he2 rts (i + 1 + 1 + r.fts.length) m (acc ++ [rowV' n r.ta r.fts]) hT3 (fun r hh => hf r (by simp [hh])) (by simp at hm; omega) (by simp at hA ⊢; omega)
    have h2 : metC (P.ctx (callN P (k + 3))) 0 17 (some (lrC n T i ow cnt)) = some 42 := rfl
    have h4 : metC (P.ctx (callN P (k + 3))) 0 21 (some (lrC n T (i + 1) ow cnt)) = some 45 := rfl
    have h6 : acc.length < LIM := by simp at hA; omega
    unfold whlL
    rw [show evT (P.ctx (callN P (k + 3))) (.tru (.meth (.var 0) 17 [(.cst (.str barT))])) [some (.r 0), some (.r (rest.length + 1)), x2, x3] (lrC n T i ow cnt :: (rest ++ [.lst acc])) = .ok true (lrC n T (i + 1) ow cnt :: (rest ++ [.lst acc])) by
      simp [h1, h2]]
    rw [run_ok, if_pos rfl, show evSs (P.ctx (callN P (k + 3))) f_LineReader_kind_line_b1 [some (.r 0), some (.r (rest.length + 1)), x2, x3] (lrC n T (i + 1) ow cnt :: (rest ++ [.lst acc])) = .nx [some (.r 0), some (.r (rest.length + 1)), x2, x3] (lrC n T (i + 1 + 1 + r.fts.length) ow cnt :: (rest ++ [.lst (acc ++ [rowV' n r.ta r.fts])])) by
      simp [f_LineReader_kind_line_b1, h4, h3, h6]]
    simp only
    rw [ih, show i + 1 + 1 + r.fts.length + (rts.flatMap RT.toks).length = i + ((r :: rts).flatMap RT.toks).length by simp [RT.toks]; omega]
    simp
theorem mk_kl (nm : Tx) (a : Val) (rows : List Val) (st : Store) (hs : okR st) : makeV (P.ctx (callN P (k + 1))) false 2 [.v (.str nm), .v a, .v (.lst rows)] st = .ok (.v (.obj 2 [3, 4, 5] [.str nm, a, .lst rows])) st := by
  refine make_f (f := 34) (ws := [.str nm, a, .lst rows]) rfl hs ?_
  rw [cx_call, call1 (P := P) (f := 34) rfl rfl (by decide)]
  simp [f_KindLine___init__, start, fput_0, fput_c, hs.all]
theorem kind_line_ok (hr : okR rest) (tn tq ta te : Tk) (fts : List Tk) (rts : List RT) (post : List Tk) (i : Nat) (hT : T.drop i = tn :: tq :: ta :: (fts ++ (rts.flatMap RT.toks ++ te :: post)))
    (h1 : tn.g = nameT) (h2 : tq.g = [61]) (h3 : ta.g = altT) (h4 : ∀ f ∈ fts, f.g = nameT ∨ f.g = numT) (h5 : fts.length < 1000) (h6 : ∀ r ∈ rts, r.ok) (h7 : rts.length < 1000) (he : ¬ (te.g = nameT ∨ te.g = numT)) (he2 : te.g ≠ barT) :
    callN P (k + 4) 44 [.r 0] (lrC n T i ow cnt :: rest) = .ok (.v (klV n tn ta fts rts)) (lrC n T (i + 1 + 1 + 1 + fts.length + (rts.flatMap RT.toks).length) ow cnt :: rest) := by
  rw [call1 (P := P) (f := 44) rfl rfl (by decide)]
  have l1 : 1 ≤ LIM := by decide
  have hT2 := tk_next hT
  have hT3 := tk_next hT2
  obtain ⟨tb, p, e1, e2⟩ := behind h6 he post
  have q1 := take_ok (k + 1) n T ow cnt rest hr (tk_at hT) [nameT] (by simp [h1])
  have q2 := take_ok (k + 1) n T ow cnt rest hr (tk_at hT2) [[61]] (by simp [h2])
  have q3 := row_ok k n T ow cnt hr ta tb fts p (i + 1 + 1) (by rw [hT3, e1]) h3 h4 e2 h5
  have hT4 : T.drop (i + 1 + 1 + 1 + fts.length) = rts.flatMap RT.toks ++ te :: post := by
    have := congrArg (List.drop (fts.length)) (tk_next hT3)
    rw [List.drop_drop] at this
    rw [this, List.drop_left]
  have q4 := kind_loop k n T ow cnt hr (some (.v (.str tn.b))) (some (.v (atV n tn))) te post he he2 rts (i + 1 + 1 + 1 + fts.length) WF [rowV' n ta fts] hT4 h6 (by unfold WF; omega) (by simp; unfold LIM; omega)
  have m1 : metC (P.ctx (callN P (k + 3))) 0 19 (some (lrC n T i ow cnt)) = some 41 := rfl
  have m2 : metC (P.ctx (callN P (k + 3))) 0 19 (some (lrC n T (i + 1) ow cnt)) = some 41 := rfl
  have m3 : metC (P.ctx (callN P (k + 3))) 0 21 (some (lrC n T (i + 1 + 1) ow cnt)) = some 45 := rfl
  simp at q1 q2 q4
  simp [f_LineReader_kind_line, start, q1, q2, q3, q4, m1, m2, m3, l1, mk_kl, hr, hr.all, klV]
theorem whole_ok (tk tn tq ta te : Tk) (fts : List Tk) (rts : List RT) (i : Nat) (hT : T = tk :: tn :: tq :: ta :: (fts ++ (rts.flatMap RT.toks ++ [te])))
    (h0 : tk.g = kindT) (h1 : tn.g = nameT) (h2 : tq.g = [61]) (h3 : ta.g = altT) (h4 : ∀ f ∈ fts, f.g = nameT ∨ f.g = numT) (h5 : fts.length < 1000) (h6 : ∀ r ∈ rts, r.ok) (h7 : rts.length < 1000) (he : te.g = endT) :
    ∃ i', callN P (k + 5) 43 [.r 0] [lrC n T 0 ow cnt] = .ok (.v (klV n tn ta fts rts)) [lrC n T i' ow cnt] := by
  have g0 : T.drop 0 = tk :: tn :: tq :: ta :: (fts ++ (rts.flatMap RT.toks ++ te :: [])) := hT
  have q1 := accept_ok (k + 2) n T ow cnt [] okR_nil (tk_at g0) kindT
  rw [if_pos h0] at q1
  have q2 := kind_line_ok k n T ow cnt okR_nil tn tq ta te fts rts [] 1 (tk_next g0) h1 h2 h3 h4 h5 h6 h7 (by rw [he]; decide) (by rw [he]; decide)
  have g1 : T.drop (1 + 1 + 1 + 1 + fts.length + (rts.flatMap RT.toks).length) = te :: [] := by
    rw [hT, show 1 + 1 + 1 + 1 + fts.length + (rts.flatMap RT.toks).length = (fts ++ rts.flatMap RT.toks).length + 4 by simp; omega]
    simp only [List.drop_succ_cons]
    rw [← List.append_assoc, List.drop_left]
  have q3 := take_ok (k + 2) n T ow cnt [] okR_nil (tk_at g1) [endT] (by simp [he])
  have m1 : metC (P.ctx (callN P (k + 4))) 0 17 (some (lrC n T 0 ow cnt)) = some 42 := rfl
  have m2 : metC (P.ctx (callN P (k + 4))) 0 18 (some (lrC n T 1 ow cnt)) = some 44 := rfl
  have m3 : metC (P.ctx (callN P (k + 4))) 0 19 (some (lrC n T (1 + 1 + 1 + 1 + fts.length + (rts.flatMap RT.toks).length) ow cnt)) = some 41 := rfl
  have l1 : 1 ≤ LIM := by decide
  refine ⟨1 + 1 + 1 + 1 + fts.length + (rts.flatMap RT.toks).length + 1, ?_⟩
  generalize 1 + 1 + 1 + 1 + fts.length + (rts.flatMap RT.toks).length = j at *
  rw [call1 (P := P) (f := 43) rfl rfl (by decide)]
  simp at q3
  simp [f_LineReader_whole_line, start, q1, q2, q3, m1, m2, m3, l1]
end
theorem kind_read (k : Nat) (n : Int) (g : Tx → Tx) (l : List Seg) (hl : (flatS l).length < LIM) (hs : okSeg l = true) (hg : Grp (k + 4) g (l.flatMap Seg.ws)) (T : List Tk) (hT : lineT g l = T.map tkV)
    (tk tn tq ta te : Tk) (fts : List Tk) (rts : List RT) (hT2 : T = tk :: tn :: tq :: ta :: (fts ++ (rts.flatMap RT.toks ++ [te])))
    (h0 : tk.g = kindT) (h1 : tn.g = nameT) (h2 : tq.g = [61]) (h3 : ta.g = altT) (h4 : ∀ f ∈ fts, f.g = nameT ∨ f.g = numT) (h5 : fts.length < 1000) (h6 : ∀ r ∈ rts, r.ok) (h7 : rts.length < 1000) (he : te.g = endT) (st : Store) :
    callN P (k + 7) 10 [.v (.int n), .v (.str (flatS l))] st = .ok (.v (klV n tn ta fts rts)) st := by
  obtain ⟨i', q1⟩ := whole_ok (k + 1) n T [] 0 tk tn tq ta te fts rts 0 hT2 h0 h1 h2 h3 h4 h5 h6 h7 he
  have q2 := tokens_ok (k + 3) g l hl hs hg
  have q3 : makeV (P.ctx (callN P (k + 6))) true 4 [.v (.int n), .v (.str (flatS l))] [] = .ok (.r 0) [lrC n T 0 [] 0] := by
    refine make_t (f := 37) rfl ?_
    rw [cx_call, call1 (P := P) (f := 37) rfl rfl (by decide)]
    simp [f_LineReader___init__, start, fput_0, fput_c, q2, hT, lrC]
  have m1 : metC (P.ctx (callN P (k + 6))) 0 28 (some (lrC n T 0 [] 0)) = some 43 := rfl
  rw [show [X.v (.int n), X.v (.str (flatS l))] = [Val.int n, Val.str (flatS l)].map X.v from rfl, call0 (P := P) (f := 10) rfl rfl (by decide)]
  simp [f_read_line, start, q3, m1, q1]
end KG.Z

set_option linter.all false
set_option maxRecDepth 100000
/-! L7: the text of drawn kinds, and its lines read. -/
namespace KG.Z
theorem loop_emb {α β : Type} {w : Wk} (hw : w.g = none) {f : Val → Store → R (List β)} (em : α → Val) (g : α → β) {st : Store} : ∀ {xs : List α}, (∀ x ∈ xs, f (em x) st = .ok [g x] st) → loopL w f (xs.map em) st = .ok (xs.map g) st
  | [], _ => by unfold loopL; rw [hw]; rfl
  | x :: r, h => by
    have ih := loop_emb hw (f := f) em g (st := st) (xs := r) (fun y hy => h y (by simp [hy]))
    rw [List.map_cons]
    unfold loopL
    rw [hw, h x (by simp), bind_ok, ih]
    simp
def okW (w : Tx) : Prop := w ≠ [] ∧ w.length ≤ 8 ∧ w.all isRow = true
structure KW (p : Tx × List Row) : Prop where
  nm : grp p.1 = nameT ∧ okW p.1
  rows : 1 ≤ p.2.length ∧ p.2.length ≤ 3
  alt : ∀ q ∈ p.2, grp q.1 = altT ∧ okW q.1
  fl : ∀ q ∈ p.2, q.2.length ≤ 2 ∧ ∀ f ∈ q.2, (grp f = nameT ∨ grp f = numT) ∧ okW f
theorem WK.kw {K : Kd} (h : WK K) : ∀ p ∈ K, KW p := by
  obtain ⟨o, ho, al, hal, pl, hpl, hn, hr⟩ := h.ex
  have d1 : ∀ o ∈ owns, ∀ w ∈ [o.1, o.2], grp w = nameT ∧ w ≠ [] ∧ w.length ≤ 8 ∧ w.all isRow = true := by decide
  have d2 : ∀ al ∈ alts, ∀ w ∈ al, grp w = altT ∧ w ≠ [] ∧ w.length ≤ 8 ∧ w.all isRow = true := by decide
  have d3 : grp numT = numT ∧ numT ≠ [] ∧ numT.length ≤ 8 ∧ numT.all isRow = true := by decide
  have hpl' : ∀ w ∈ pl, w ∈ [o.1, o.2] := by
    rcases hpl with h | h <;> rw [h] <;> simp
  intro p hp
  obtain ⟨i, hi, e⟩ := List.getElem_of_mem hp
  obtain ⟨a1, a2, a3, a4, a5⟩ := hr i p (by rw [List.getElem?_eq_getElem hi, e])
  refine ⟨?_, ⟨a1, a2⟩, ?_, ?_⟩
  · exact d1 o ho p.1 (hpl' _ (by rw [← hn]; exact List.mem_map.mpr ⟨p, hp, rfl⟩))
  · intro q hq
    have : q.1 ∈ p.2.map (·.1) := List.mem_map.mpr ⟨q, hq, rfl⟩
    rw [a3] at this
    exact d2 al hal q.1 (List.mem_of_mem_drop (List.mem_of_mem_take this))
  · intro q hq
    refine ⟨(a4 q hq).1, fun f hf => ?_⟩
    rcases List.mem_cons.mp ((a4 q hq).2 f hf) with h | h
    · rw [h]; exact ⟨.inr d3.1, d3.2⟩
    · exact ⟨.inl (d1 o ho f (hpl' _ h)).1, (d1 o ho f (hpl' _ h)).2⟩
def kline (p : Tx × List Row) : Tx := [107, 105, 110, 100, 32] ++ p.1 ++ [32, 61, 32] ++ joinT [32, 124, 32] (p.2.map fun q => joinT [32] (q.1 :: q.2))
def funL : Tx := [102, 117, 110, 32, 102, 40, 110, 32, 110, 117, 109, 41, 32, 110, 117, 109, 32, 61, 32, 110]
def ptext (K : Kd) : Tx := joinT [10] (funL :: K.map kline)
theorem joinT_len (s : Tx) : ∀ xs : List Tx, (joinT s xs).length ≤ totalLen s xs
  | [] => by simp [joinT]
  | [a] => by simp [joinT, totalLen]
  | a :: b :: r => by
    have := joinT_len s (b :: r)
    simp [joinT, totalLen] at this ⊢
    have e : s.length * (r.length + 1 + 1) = s.length * (r.length + 1) + s.length := by rw [Nat.mul_succ]
    omega
theorem totalLen_c (s a : Tx) (r : List Tx) : totalLen s (a :: r) = a.length + s.length + totalLen s r := by
  simp [totalLen, Nat.mul_succ]; omega
theorem totalLen_le (s : Tx) (B : Nat) : ∀ xs : List Tx, (∀ x ∈ xs, x.length ≤ B) → totalLen s xs ≤ (B + s.length) * xs.length
  | [], _ => by simp [totalLen]
  | a :: r, h => by
    have h1 := totalLen_le s B r (fun x hx => h x (by simp [hx]))
    have h2 := h a (by simp)
    rw [totalLen_c, List.length_cons, Nat.mul_succ]
    omega
theorem KW.row_len {p} (h : KW p) {q : Row} (hq : q ∈ p.2) : totalLen [32] (q.1 :: q.2) ≤ 27 := by
  have h1 := totalLen_le [32] 8 (q.1 :: q.2) (by
    intro x hx
    rcases List.mem_cons.mp hx with e | e
    · rw [e]; exact (h.alt q hq).2.2.1
    · exact ((h.fl q hq).2 x e).2.2.1)
  have h2 := (h.fl q hq).1
  simp at h1
  omega
theorem KW.rows_len {p} (h : KW p) : totalLen [32, 124, 32] (p.2.map fun q => joinT [32] (q.1 :: q.2)) ≤ 90 := by
  have h1 := totalLen_le [32, 124, 32] 27 (p.2.map fun q => joinT [32] (q.1 :: q.2)) (by
    intro x hx
    obtain ⟨q, hq, rfl⟩ := List.mem_map.mp hx
    exact Nat.le_trans (joinT_len _ _) (h.row_len hq))
  have := h.rows.2
  simp at h1
  omega
theorem KW.line_len {p} (h : KW p) : (kline p).length ≤ 106 := by
  have h1 := Nat.le_trans (joinT_len _ _) h.rows_len
  have h2 := h.nm.2.2.1
  simp [kline]
  omega
theorem text_loop (k : Nat) (kv : X) (ws : List Val) : ∀ (K : Kd) (acc : List Val) (x2 x3 x4 x5 : Option X), (∀ p ∈ K, KW p) → acc.length + K.length ≤ 100 →
    ∃ x2' x3', forL ⟨none, ws⟩ (turn (P.ctx (callN P k)) (.tp [2, 3]) f__law_program_text_b1) (evSs (P.ctx (callN P k)) []) (K.map kdV) [some kv, some (.r 0), x2, x3, x4, x5] [.lst acc]
      = .nx [some kv, some (.r 0), x2', x3', x4, x5] [.lst (acc ++ (K.map kline).map .str)]
  | [], acc, x2, x3, x4, x5, _, _ => ⟨x2, x3, by simp⟩
  | p :: K, acc, x2, x3, x4, x5, h, hA => by
    have hp := h p (by simp)
    obtain ⟨y2, y3, ih⟩ := text_loop k kv ws K (acc ++ [.str (kline p)]) (some (.v (.str p.1))) (some (.v (.lst (p.2.map rowV)))) x4 x5 (fun q hq => h q (by simp [hq])) (by simp at hA ⊢; omega)
    refine ⟨y2, y3, ?_⟩
    rw [List.map_cons, for_cons]
    have hl := loop_emb (w := ⟨none, p.2.map rowV⟩) rfl (f := itemL (P.ctx (callN P k)) (.tp [4, 5]) none (.bm .join (.cst (.str [32])) [(.bin false .add (.lst false [(.var 4)]) (.var 5))]) [some kv, some (.r 0), some (.v (.str p.1)), some (.v (.lst (p.2.map rowV))), x4, x5])
      rowV (fun q => Val.str (joinT [32] (q.1 :: q.2))) (st := [.lst acc]) (xs := p.2) (by
        intro q hq
        have h1 := hp.row_len hq
        have h2 : q.2.length + 1 ≤ LIM := LIM_le (by have := (hp.fl q hq).1; omega)
        have h3 : totalLen [32] (q.1 :: q.2) ≤ LIM := LIM_le (by omega)
        have l1 : 1 ≤ LIM := by decide
        simp [itemL, rowV, l1, h2, isStrs_map, h3])
    have h1 : p.2.length ≤ LIM := LIM_le (by have := hp.rows; omega)
    have h2 : totalLen [32, 124, 32] (p.2.map fun q => joinT [32] (q.1 :: q.2)) ≤ LIM := LIM_le (by have := hp.rows_len; omega)
    have h3 : acc.length < LIM := LIM_lt (by simp at hA; omega)
    have h4 := hp.nm.2.2.1
    have h5 : 5 + p.1.length ≤ LIM := LIM_le (by omega)
    have h6 : (kline p).length ≤ LIM := LIM_le (by have := hp.line_len; omega)
    have ht : turn (P.ctx (callN P k)) (.tp [2, 3]) f__law_program_text_b1 (kdV p) [some kv, some (.r 0), x2, x3, x4, x5] [.lst acc] = .nx [some kv, some (.r 0), some (.v (.str p.1)), some (.v (.lst (p.2.map rowV))), x4, x5] [.lst (acc ++ [.str (kline p)])] := by
      have h7 : p.1.length + 1 + 1 + 1 + 1 + 1 + 3 ≤ LIM := LIM_le (by omega)
      simp [kline] at h6
      have h8 : p.1.length + 3 + 1 + 1 + 1 + 1 + 1 + ((joinT [32, 124, 32] (p.2.map fun q => joinT [32] (q.1 :: q.2))).length) ≤ LIM := by omega
      simp [turn, kdV, f__law_program_text_b1, hl, h1, h2, h3, h5, h6, h7, h8, kline]
    rw [ht, goFor_nx, ih]
    simp
theorem text_ok (k : Nat) (K : Kd) (hK : ∀ p ∈ K, KW p) (hl : K.length ≤ 9) (st : Store) : callN P (k + 1) 31 [.v (kindsV K)] st = .ok (.v (.str (ptext K))) st := by
  obtain ⟨x2, x3, h⟩ := text_loop k (.v (kindsV K)) (K.map kdV) K [.str funL] none none none none hK (by simp; omega)
  have h1 : totalLen [10] (funL :: K.map kline) ≤ LIM := by
    have h1 := totalLen_le [10] 106 (funL :: K.map kline) (by
      intro x hx
      rcases List.mem_cons.mp hx with e | e
      · rw [e]; decide
      · obtain ⟨p, hp, rfl⟩ := List.mem_map.mp e
        exact (hK p hp).line_len)
    simp at h1
    unfold LIM
    omega
  have l1 : 1 ≤ LIM := by decide
  rw [show [X.v (kindsV K)] = [kindsV K].map X.v from rfl, call0 (P := P) (f := 31) rfl rfl (by decide)]
  simp [kindsV, funL] at h h1
  simp [f__law_program_text, start, kindsV, l1, h, h1, ptext, funL]
-- a line's tokens
abbrev FA := Tx × Val
structure RA where
  nm : Tx
  at' : Val
  fs : List FA
structure KA where
  nm : Tx
  at' : Val
  rows : List RA
def faV (f : FA) : Val := .tup [.str f.1, f.2]
def raV (r : RA) : Val := .tup [.str r.nm, r.at', .lst (r.fs.map faV)]
def kaV (k : KA) : Val := .obj 2 [3, 4, 5] [.str k.nm, k.at', .lst (k.rows.map raV)]
def RA.row (r : RA) : Row := (r.nm, r.fs.map (·.1))
def KA.kd (k : KA) : Tx × List Row := (k.nm, k.rows.map RA.row)
def fSeg (f : Tx) : List Seg := [.c 32, .w f]
def rSeg (q : Row) : List Seg := .w q.1 :: q.2.flatMap fSeg
def bSeg (q : Row) : List Seg := .c 32 :: .c 124 :: .c 32 :: rSeg q
def kSeg (nm : Tx) (q : Row) (qs : List Row) : List Seg := .w kindT :: .c 32 :: .w nm :: .c 32 :: .c 61 :: .c 32 :: (rSeg q ++ qs.flatMap bSeg)
theorem flat_f : ∀ fs : List Tx, ∀ a : Tx, a ++ flatS (fs.flatMap fSeg) = joinT [32] (a :: fs)
  | [], a => by simp [flatS, joinT]
  | f :: r, a => by
    have := flat_f r f
    simp [flatS, fSeg, Seg.t] at this ⊢
    simp [joinT, this]
theorem flat_r (q : Row) : flatS (rSeg q) = joinT [32] (q.1 :: q.2) := by
  rw [← flat_f]
  simp [rSeg, flatS, Seg.t]
theorem flat_b : ∀ (qs : List Row) (q : Row), flatS (rSeg q ++ qs.flatMap bSeg) = joinT [32, 124, 32] ((q :: qs).map fun q => joinT [32] (q.1 :: q.2))
  | [], q => by simp [joinT, flat_r]
  | p :: r, q => by
    have h := flat_b r p
    have h2 := flat_r q
    simp [flatS, bSeg, Seg.t] at h h2 ⊢
    simp [joinT, h, h2]
theorem kline_flat (nm : Tx) (q : Row) (qs : List Row) : kline (nm, q :: qs) = flatS (kSeg nm q qs) := by
  have := flat_b qs q
  simp [flatS] at this
  simp [kline, kSeg, flatS, Seg.t, this]
theorem toks_f (p : Nat) (r : List Seg) : ∀ (fs : List Tx) (p : Nat), (∀ f ∈ fs, grp f = nameT ∨ grp f = numT) → ∃ (ts : List Tk) (p' : Nat), ts.map (·.b) = fs ∧ (∀ t ∈ ts, t.g = nameT ∨ t.g = numT) ∧ toks grp p (fs.flatMap fSeg ++ r) = ts.map tkV ++ toks grp p' r
  | [], p, _ => ⟨[], p, rfl, by simp, by simp⟩
  | f :: fs, p, h => by
    obtain ⟨ts, p', h1, h2, h3⟩ := toks_f p r fs (p + 1 + f.length) (fun g hg => h g (by simp [hg]))
    refine ⟨⟨grp f, f, (p + 1 : Nat) + 1⟩ :: ts, p', by simp [h1], ?_, ?_⟩
    · intro t ht
      rcases List.mem_cons.mp ht with e | e
      · rw [e]; exact h f (by simp)
      · exact h2 t e
    · simp [fSeg, toks] at h3 ⊢
      simp [h3, tkV]
theorem toks_b (r : List Seg) : ∀ (qs : List Row) (p : Nat), (∀ q ∈ qs, grp q.1 = altT ∧ q.2.length ≤ 2 ∧ ∀ f ∈ q.2, grp f = nameT ∨ grp f = numT) → ∃ (rts : List RT) (p' : Nat), rts.map (fun x => (x.ta.b, x.fts.map (·.b))) = qs ∧ (∀ t ∈ rts, t.ok) ∧ toks grp p (qs.flatMap bSeg ++ r) = (rts.flatMap RT.toks).map tkV ++ toks grp p' r
  | [], p, _ => ⟨[], p, rfl, by simp, by simp⟩
  | q :: qs, p, h => by
    obtain ⟨ha, hl, hf⟩ := h q (by simp)
    obtain ⟨ts, p1, h1, h2, h3⟩ := toks_f 0 (qs.flatMap bSeg ++ r) q.2 (p + 1 + 1 + 1 + q.1.length) hf
    obtain ⟨rts, p2, g1, g2, g3⟩ := toks_b r qs p1 (fun q hq => h q (by simp [hq]))
    refine ⟨⟨⟨barT, barT, (p + 1 : Nat) + 1⟩, ⟨grp q.1, q.1, (p + 1 + 1 + 1 : Nat) + 1⟩, ts⟩ :: rts, p2, by simp [h1, g1], ?_, ?_⟩
    · intro t ht
      rcases List.mem_cons.mp ht with e | e
      · rw [e]
        refine ⟨rfl, ha, h2, ?_⟩
        have := congrArg List.length h1
        simp at this ⊢
        omega
      · exact g2 t e
    · have hs : 124 ∈ SIG := by decide
      simp [bSeg, rSeg, toks] at h3 ⊢
      simp [h3, g3, tkV, RT.toks, hs]
theorem okS_f : ∀ (fs : List Tx) (r : List Seg), (∀ f ∈ fs, okW f) → okSeg r = true → noRow (flatS r) = true → okSeg (fs.flatMap fSeg ++ r) = true ∧ noRow (flatS (fs.flatMap fSeg ++ r)) = true
  | [], r, _, h, h2 => by simpa using ⟨h, h2⟩
  | f :: fs, r, hf, h, h2 => by
    have ih := okS_f fs r (fun g hg => hf g (by simp [hg])) h h2
    have h1 := hf f (by simp)
    have e : isRow 32 = false := rfl
    refine ⟨?_, ?_⟩
    · have e2 : f.isEmpty = false := by cases f with
        | nil => exact absurd rfl h1.1
        | cons a r => rfl
      have e3 := h1.2.2
      simp only [List.flatMap_cons, fSeg, List.cons_append, List.nil_append, okSeg, e, e2, e3, Bool.and_eq_true, List.append_assoc]
      exact ⟨by decide, ⟨⟨by decide, ih.2⟩, ih.1⟩⟩
    · simp [flatS, fSeg, Seg.t, noRow, e]
theorem okS_b : ∀ (qs : List Row), (∀ q ∈ qs, okW q.1 ∧ ∀ f ∈ q.2, okW f) → okSeg (qs.flatMap bSeg) = true ∧ noRow (flatS (qs.flatMap bSeg)) = true
  | [], _ => ⟨rfl, rfl⟩
  | q :: qs, hq => by
    have ih := okS_b qs (fun g hg => hq g (by simp [hg]))
    have h1 := hq q (by simp)
    have h2 := okS_f q.2 (qs.flatMap bSeg) h1.2 ih.1 ih.2
    have e : isRow 32 = false := rfl
    have e' : isRow 124 = false := rfl
    refine ⟨?_, ?_⟩
    · have e2 : q.1.isEmpty = false := by
        cases hh : q.1 with
        | nil => exact absurd hh h1.1.1
        | cons a r => rfl
      have e3 := h1.1.2.2
      simp only [List.flatMap_cons, bSeg, rSeg, List.cons_append, List.nil_append, okSeg, e, e', e2, e3, Bool.and_eq_true, List.append_assoc]
      exact ⟨by decide, by decide, by decide, ⟨⟨by decide, h2.2⟩, h2.1⟩⟩
    · simp [flatS, bSeg, Seg.t, noRow, e]
theorem okS_k (nm : Tx) (q : Row) (qs : List Row) (hn : okW nm) (hq : ∀ p ∈ q :: qs, okW p.1 ∧ ∀ f ∈ p.2, okW f) : okSeg (kSeg nm q qs) = true := by
  have ih := okS_b qs (fun g hg => hq g (by simp [hg]))
  have h1 := hq q (by simp)
  have h2 := okS_f q.2 (qs.flatMap bSeg) h1.2 ih.1 ih.2
  have e : isRow 32 = false := rfl
  have e' : isRow 61 = false := rfl
  have em : ∀ w : Tx, okW w → w.isEmpty = false := fun w hw => by
    cases w with
    | nil => exact absurd rfl hw.1
    | cons a r => rfl
  have n1 : ∀ r, noRow (flatS (.c 32 :: r)) = true := fun r => by simp [flatS, Seg.t, noRow, e]
  simp only [kSeg, rSeg, List.cons_append, okSeg, e, e', em nm hn, em q.1 h1.1, hn.2.2, h1.1.2.2, n1, h2.1, h2.2, Bool.and_eq_true]
  decide
theorem kind_ok (k : Nat) (n : Int) (p : Tx × List Row) (h : KW p) : ∃ ka : KA, ka.kd = p ∧ ∀ st, callN P (k + 7) 10 [.v (.int n), .v (.str (kline p))] st = .ok (.v (kaV ka)) st := by
  obtain ⟨nm, rows⟩ := p
  obtain ⟨q, qs, rfl⟩ : ∃ q qs, rows = q :: qs := by
    cases rows with
    | nil => have := h.rows.1; simp at this
    | cons q qs => exact ⟨q, qs, rfl⟩
  have hq := h.alt q (by simp)
  have hqf := h.fl q (by simp)
  obtain ⟨rts, p2, g1, g2, g3⟩ := toks_b [] qs (0 + 4 + 1 + nm.length + 1 + 1 + 1 + q.1.length) (fun q hq => ⟨(h.alt q (by simp at hq ⊢; exact .inr hq)).1, (h.fl q (by simp at hq ⊢; exact .inr hq)).1, fun f hf => ((h.fl q (by simp at hq ⊢; exact .inr hq)).2 f hf).1⟩)
  clear g3 p2
  obtain ⟨ts, p1, f1, f2, f3⟩ := toks_f 0 (qs.flatMap bSeg) q.2 (0 + 4 + 1 + nm.length + 1 + 1 + 1 + q.1.length) (fun f hf => (hqf.2 f hf).1)
  obtain ⟨rts, p2, g1, g2, g3⟩ := toks_b [] qs p1 (fun q hq => ⟨(h.alt q (by simp at hq ⊢; exact .inr hq)).1, (h.fl q (by simp at hq ⊢; exact .inr hq)).1, fun f hf => ((h.fl q (by simp at hq ⊢; exact .inr hq)).2 f hf).1⟩)
  have hl := h.line_len
  rw [kline_flat] at hl
  have hsg := okS_k nm q qs h.nm.2 (fun p hp => ⟨(h.alt p hp).2, fun f hf => ((h.fl p hp).2 f hf).2⟩)
  have hw : ∀ w ∈ (kSeg nm q qs).flatMap Seg.ws, w ≠ [] ∧ w.length ≤ LIM := by
    intro w hw
    have hk : okW w := by
      simp only [kSeg, rSeg, List.cons_append, List.flatMap_cons, Seg.ws, List.nil_append, List.mem_cons, List.flatMap_append, List.mem_append, List.mem_flatMap] at hw
      rcases hw with e | e | e | ⟨s, ⟨f, hf, hs⟩, hw⟩ | ⟨s, ⟨p, hp, hs⟩, hw⟩
      · subst e; exact ⟨by decide, by decide, by decide⟩
      · subst e; exact h.nm.2
      · subst e; exact hq.2
      · simp [fSeg] at hs
        rcases hs with e | e
        · subst e; simp [Seg.ws] at hw
        · subst e
          simp [Seg.ws] at hw
          subst hw
          exact (hqf.2 _ hf).2
      · simp [bSeg, rSeg] at hs
        rcases hs with e | e | e | e | ⟨f, hf, hs⟩
        · subst e; simp [Seg.ws] at hw
        · subst e; simp [Seg.ws] at hw
        · subst e; simp [Seg.ws] at hw
        · subst e
          simp [Seg.ws] at hw
          subst hw
          exact (h.alt p (by simp [hp])).2
        · simp [fSeg] at hs
          rcases hs with e | e
          · subst e; simp [Seg.ws] at hw
          · subst e
            simp [Seg.ws] at hw
            subst hw
            exact ((h.fl p (by simp [hp])).2 _ hf).2
    exact ⟨hk.1, LIM_le (by have := hk.2.1; omega)⟩
  refine ⟨⟨nm, atV n ⟨grp nm, nm, (0 + 4 + 1 : Nat) + 1⟩, ⟨q.1, atV n ⟨grp q.1, q.1, (0 + 4 + 1 + nm.length + 1 + 1 + 1 : Nat) + 1⟩, ts.map fun t => (t.b, atV n t)⟩ :: rts.map fun r => ⟨r.ta.b, atV n r.ta, r.fts.map fun t => (t.b, atV n t)⟩⟩, ?_, fun st => ?_⟩
  · simp [KA.kd, RA.row]
    refine ⟨Prod.ext rfl (by simpa [Function.comp_def] using f1), ?_⟩
    rw [← g1]
    simp [RA.row, Function.comp_def]
  · rw [kline_flat]
    have := kind_read k n grp (kSeg nm q qs) (by unfold LIM; omega) hsg (grp_all _ _ hw)
      (⟨kindT, kindT, (0 : Nat) + 1⟩ :: ⟨grp nm, nm, (0 + 4 + 1 : Nat) + 1⟩ :: ⟨[61], [61], (0 + 4 + 1 + nm.length + 1 : Nat) + 1⟩ :: ⟨grp q.1, q.1, (0 + 4 + 1 + nm.length + 1 + 1 + 1 : Nat) + 1⟩ :: (ts ++ (rts.flatMap RT.toks ++ [⟨endT, [], (flatS (kSeg nm q qs)).length + 1⟩]))) ?_ _ _ _ _ _ _ _ rfl rfl h.nm.1 rfl hq.1 f2 ?_ g2 ?_ rfl st
    · rw [this]
      simp [kaV, klV, rowV', fldV', raV, faV, Function.comp_def]
    · have e1 : 61 ∈ SIG := by decide
      have e2 : grp kindT = kindT := by decide
      simp at f3 g3
      simp [lineT, kSeg, rSeg, toks, f3, g3, e1, e2, tkV]
    · have := congrArg List.length f1
      simp at this
      omega
    · have := congrArg List.length g1
      have := h.rows.2
      simp at *
      omega
end KG.Z

set_option linter.all false
set_option maxRecDepth 100000
/-! L8: check_program for drawn kinds. -/
namespace KG.Z
def plV (q : Row) : Val := .tup [.str q.1, .tup (q.2.map .str)]
/-- a kind that was read, of a small size -/
structure KO (a : KA) : Prop where
  kw : KW a.kd
theorem KO.rows {a : KA} (h : KO a) : a.rows.length ≤ 3 := by have := h.kw.rows.2; simpa [KA.kd] using this
theorem KO.fs {a : KA} (h : KO a) {r : RA} (hr : r ∈ a.rows) : r.fs.length ≤ 2 := by
  have := (h.kw.fl r.row (by simp [KA.kd]; exact ⟨r, hr, rfl⟩)).1
  simpa [RA.row] using this
theorem plain_ok (k : Nat) (a : KA) (h : KO a) (st : Store) : callN P (k + 1) 35 [.v (kaV a)] st = .ok (.v (.tup (a.kd.2.map plV))) st := by
  rw [show [X.v (kaV a)] = [kaV a].map X.v from rfl, call0 (P := P) (f := 35) rfl rfl (by decide)]
  have l2 : 2 ≤ LIM := by decide
  have h1 : a.rows.length ≤ LIM := LIM_le (by have := h.rows; omega)
  have hl := loop_emb (w := ⟨none, a.rows.map raV⟩) rfl (f := itemL (P.ctx (callN P k)) (.tp [1, 2, 3]) none (.tup [(.var 1), (.bi false .tuple [(.lc false (.tp [4, 5]) (.over (.var 3)) none (.var 4))])]) [some (.v (kaV a)), none, none, none, none, none])
      raV (fun r => plV r.row) (st := []) (xs := a.rows) (by
        intro r hr
        have h2 := h.fs hr
        have h3 : r.fs.length ≤ LIM := LIM_le (by omega)
        have hl2 := loop_emb (w := ⟨none, r.fs.map faV⟩) rfl (f := itemL (P.ctx (callN P k)) (.tp [4, 5]) none (.var 4) [some (.v (kaV a)), some (.v (.str r.nm)), some (.v r.at'), some (.v (.lst (r.fs.map faV))), none, none])
          faV (fun f => Val.str f.1) (st := []) (xs := r.fs) (by intro f _; simp [itemL, faV])
        simp [itemL, raV, hl2, h3, l2, plV, RA.row])
  simp [kaV] at hl
  simp [f_KindLine_plain_rows, start, kaV, flook_c, hl, h1, KA.kd, Function.comp_def]
-- dicts with names as keys
theorem dget_none : ∀ (ks : List Tx) (vs : List Val) (x : Tx), x ∉ ks → dget (ks.map .str) vs (.str x) = none
  | [], _, _, _ => by simp [dget]
  | k :: ks, [], _, _ => by simp [dget]
  | k :: ks, v :: vs, x, h => by
    have h1 : ¬ k = x := fun e => h (by simp [e])
    have := dget_none ks vs x (fun e => h (by simp [e]))
    simp [dget, Val.beq, h1, this]
theorem dget_some : ∀ (ks : List Tx) (vs : List Val) (x : Tx), ks.length = vs.length → x ∈ ks → ∃ v ∈ vs, dget (ks.map .str) vs (.str x) = some v
  | [], _, _, _, h => by cases h
  | k :: ks, [], _, h, _ => by simp at h
  | k :: ks, v :: vs, x, hl, h => by
    by_cases h1 : k = x
    · exact ⟨v, by simp, by simp [dget, Val.beq, h1]⟩
    · obtain ⟨w, hw, e⟩ := dget_some ks vs x (by simpa using hl) (by rcases List.mem_cons.mp h with e | e; exact absurd e.symm h1; exact e)
      exact ⟨w, by simp [hw], by simp [dget, Val.beq, h1, e]⟩
theorem dget_mem (ks : List Tx) (vs : List Val) (x : Tx) (hl : ks.length = vs.length) : (dget (ks.map .str) vs (.str x)).isSome = decide (x ∈ ks) := by
  by_cases h : x ∈ ks
  · obtain ⟨v, _, e⟩ := dget_some ks vs x hl h
    simp [e, h]
  · simp [dget_none ks vs x h, h]
theorem drep_len : ∀ (ks vs : List Val) (x y : Val), ks.length = vs.length → (drep ks vs x y).length = vs.length
  | [], [], _, _, _ => rfl
  | [], v :: vs, _, _, h => by simp at h
  | k :: ks, [], _, _, h => by simp at h
  | k :: ks, v :: vs, x, y, h => by simp [drep, drep_len ks vs x y (by simpa using h)]
theorem dput_new (ks : List Tx) (vs : List Val) (x : Tx) (y : Val) (h : x ∉ ks) : dput (ks.map .str) vs (.str x) y = ((ks ++ [x]).map .str, vs ++ [y]) := by
  unfold dput
  rw [dget_none ks vs x h]
  simp
theorem dput_any (ks : List Tx) (vs : List Val) (x : Tx) (y : Val) (hl : ks.length = vs.length) : ∃ (ks' : List Tx) (vs' : List Val), dput (ks.map .str) vs (.str x) y = (ks'.map .str, vs') ∧ ks'.length = vs'.length ∧ ks'.length ≤ ks.length + 1 ∧ x ∈ ks' ∧ ∀ z ∈ ks, z ∈ ks' := by
  by_cases h : x ∈ ks
  · refine ⟨ks, drep (ks.map .str) vs (.str x) y, ?_, ?_, by omega, h, fun z hz => hz⟩
    · unfold dput
      rw [if_pos (by rw [dget_mem ks vs x hl]; simp [h])]
    · rw [drep_len _ _ _ _ (by simpa using hl), hl]
  · exact ⟨ks ++ [x], vs ++ [y], dput_new ks vs x y h, by simp [hl], by simp, by simp, fun z hz => by simp [hz]⟩
theorem dputs_new : ∀ (ps : List (Tx × Val)) (ks : List Tx) (vs : List Val), (ks ++ ps.map (·.1)).Nodup → dputs false (ks.map .str) vs (ps.map fun p => (.str p.1, p.2)) = some ((ks ++ ps.map (·.1)).map .str, vs ++ ps.map (·.2))
  | [], ks, vs, _ => by simp [dputs]
  | p :: ps, ks, vs, h => by
    have h1 : p.1 ∉ ks := by
      intro e
      have := List.nodup_append.mp h
      exact this.2.2 _ e _ (by simp) rfl
    have := dputs_new ps (ks ++ [p.1]) (vs ++ [p.2]) (by simpa using h)
    simp only [List.map_cons, dputs, fit_s, dput_new ks vs p.1 p.2 h1, this]
    simp
theorem dputs_any : ∀ (ps : List (Tx × Val)) (ks : List Tx) (vs : List Val), ks.length = vs.length → ∃ (ks' : List Tx) (vs' : List Val), dputs false (ks.map .str) vs (ps.map fun p => (.str p.1, p.2)) = some (ks'.map .str, vs') ∧ ks'.length = vs'.length ∧ ks'.length ≤ ks.length + ps.length
  | [], ks, vs, h => ⟨ks, vs, by simp [dputs], h, by simp⟩
  | p :: ps, ks, vs, h => by
    obtain ⟨k1, v1, e1, e2, e3, _, _⟩ := dput_any ks vs p.1 p.2 h
    obtain ⟨k2, v2, g1, g2, g3⟩ := dputs_any ps k1 v1 e2
    refine ⟨k2, v2, ?_, g2, by simp at e3 g3 ⊢; omega⟩
    simp only [List.map_cons, dputs, fit_s, e1, g1]
    simp
-- the checker's own cells
def ckC (kb fb : Val) : Cell := .ins 5 [29, 30, 32, 33] [.r 1, .r 2, .v kb, .v fb]
def ckS (kb fb : Val) (a b : List Val) : Store := [ckC kb fb, .lst [], .dct false a b, .dead]
def funV (n : Int) : Val := .obj 3 [3, 4, 6, 7, 1, 8] [.str [102], .tup [.int n, .int 5], .lst [.tup [.str [110], .tup [.int n, .int 7], .str numT, .tup [.int n, .int 9]]],
  .tup [.str numT, .tup [.int n, .int 14]], .tup [.str [118, 97, 114, 105, 97, 98, 108, 101], .str [110], .tup [.int n, .int 20]], .lst []]
theorem fun_line (k : Nat) (n : Int) (st : Store) : callN P (k + 8) 10 [.v (.int n), .v (.str funL)] st = .ok (.v (funV n)) st := by
  kernel_rfl
theorem check_fun (k : Nat) (n : Int) (kb fb : Val) (a b : List Val) : callN P (k + 5) 60 [.r 0, .v (funV n)] (ckS kb fb a b) = .ok (.v .none) (ckS kb fb a b) := by
  kernel_rfl
def ck0 (a b c d : List Val) : Store := [.ins 5 [29, 30] [.r 1, .r 2], .lst [], .dct false a b, .dct false c d]
theorem intro2 (k : Nat) (ks : List Tx) (vs c d : List Val) (nm : Tx) (at' th : Val) (h : nm ∉ ks) (hl : ks.length < LIM) :
    callN P (k + 1) 55 [.r 0, .r 2, .v (.str nm), .v at', .v th] (ck0 (ks.map .str) vs c d) = .ok (.v .none) (ck0 ((ks ++ [nm]).map .str) (vs ++ [th]) c d) := by
  rw [call1 (P := P) (f := 55) rfl rfl (by decide)]
  simp [f_Checker_introduce, start, ck0, dget_none ks vs nm h, dput_new ks vs nm th h, hl]
theorem intro3 (k : Nat) (ks : List Tx) (vs a b : List Val) (nm : Tx) (at' th : Val) (h : nm ∉ ks) (hl : ks.length < LIM) :
    callN P (k + 1) 55 [.r 0, .r 3, .v (.str nm), .v at', .v th] (ck0 a b (ks.map .str) vs) = .ok (.v .none) (ck0 a b ((ks ++ [nm]).map .str) (vs ++ [th])) := by
  rw [call1 (P := P) (f := 55) rfl rfl (by decide)]
  simp [f_Checker_introduce, start, ck0, dget_none ks vs nm h, dput_new ks vs nm th h, hl]
/-- the rows of a kind are introduced -/
theorem rows_intro (k : Nat) (lv : X) (kv : KA) (hk : KO kv) (c d : List Val) (ws : List Val) : ∀ (rs : List RA) (ks : List Tx) (vs : List Val) (x4 x5 x6 : Option X), (∀ r ∈ rs, r ∈ kv.rows) → (ks ++ rs.map (·.nm)).Nodup → ks.length + rs.length ≤ 100 → ks.length = vs.length →
    ∃ vs' x4' x5' x6', (ks ++ rs.map (·.nm)).length = vs'.length ∧ forL ⟨none, ws⟩ (turn (P.ctx (callN P (k + 1))) (.tp [4, 5, 6]) f_Checker___init___b1) (evSs (P.ctx (callN P (k + 1))) []) (rs.map raV)
      [some (.r 0), some lv, some (.r 3), some (.v (kaV kv)), x4, x5, x6, none, none] (ck0 (ks.map .str) vs c d)
      = .nx [some (.r 0), some lv, some (.r 3), some (.v (kaV kv)), x4', x5', x6', none, none] (ck0 ((ks ++ rs.map (·.nm)).map .str) vs' c d)
  | [], ks, vs, x4, x5, x6, _, _, _, hl => ⟨vs, x4, x5, x6, by simpa using hl, by simp⟩
  | r :: rs, ks, vs, x4, x5, x6, hr, hn, hL, hl => by
    have l2 : 2 ≤ LIM := by decide
    have h1 := hk.fs (hr r (by simp))
    have h2 : r.fs.length ≤ LIM := LIM_le (by omega)
    have hnm : r.nm ∉ ks := by
      intro e
      have := List.nodup_append.mp hn
      exact this.2.2 _ e _ (by simp) rfl
    have h3 : ks.length < LIM := LIM_lt (by simp at hL; omega)
    have hlc := loop_emb (w := ⟨none, r.fs.map faV⟩) rfl (f := itemL (P.ctx (callN P (k + 1))) (.tp [7, 8]) none (.var 7) [some (.r 0), some lv, some (.r 3), some (.v (kaV kv)), some (.v (.str r.nm)), some (.v r.at'), some (.v (.lst (r.fs.map faV))), none, none])
      faV (fun f => Val.str f.1) (st := ck0 (ks.map .str) vs c d) (xs := r.fs) (by intro f _; simp [itemL, faV])
    have hi := intro2 k ks vs c d r.nm r.at' (.tup [.str kv.nm, .lst (r.fs.map fun f => .str f.1)]) hnm h3
    obtain ⟨vs', y4, y5, y6, g1, g2⟩ := rows_intro k lv kv hk c d ws rs (ks ++ [r.nm]) (vs ++ [.tup [.str kv.nm, .lst (r.fs.map fun f => .str f.1)]]) (some (.v (.str r.nm))) (some (.v r.at')) (some (.v (.lst (r.fs.map faV)))) (fun q hq => hr q (by simp [hq])) (by simpa using hn) (by simp at hL ⊢; omega) (by simp [hl])
    refine ⟨vs', y4, y5, y6, by simpa using g1, ?_⟩
    have ht : turn (P.ctx (callN P (k + 1))) (.tp [4, 5, 6]) f_Checker___init___b1 (raV r) [some (.r 0), some lv, some (.r 3), some (.v (kaV kv)), x4, x5, x6, none, none] (ck0 (ks.map .str) vs c d)
        = .nx [some (.r 0), some lv, some (.r 3), some (.v (kaV kv)), some (.v (.str r.nm)), some (.v r.at'), some (.v (.lst (r.fs.map faV))), none, none] (ck0 ((ks ++ [r.nm]).map .str) (vs ++ [.tup [.str kv.nm, .lst (r.fs.map fun f => .str f.1)]]) c d) := by
      simp [ck0] at hi hlc
      simp [turn, raV, f_Checker___init___b1, ck0, flook_c, kaV]
      simp [kaV, raV] at hlc
      simp [hlc, h2, l2, hi]
    rw [List.map_cons, for_cons, ht, goFor_nx, g2]
    simp
end KG.Z

set_option linter.all false
set_option maxRecDepth 100000
/-! L9: the checker is made; founded kinds; nothing is at fault. -/
namespace KG.Z
@[simp] theorem pk_var (C : Ctx) (i env st) : pkE C (.var i) env st = lk i env := rfl
def pkA (C : Ctx) (n : Nat) (st : Store) (o : Option X) : Option X := match o with
    | some x => (match clsOf x st with
      | some c => (match C.prop c n, C.meth c n with
        | none, none => fldV x n st
        | _, _ => none)
      | none => none)
    | none => none
@[simp] theorem pk_at (C : Ctx) (i n env st) : pkE C (.at (.var i) n) env st = pkA C n st (lk i env) := rfl
@[simp] theorem pkA_r (C : Ctx) (n st a) : pkA C n st (some (.r a)) = fldP C a n st st[a]? := by
  unfold fldP pkA fldV
  simp only [clsOf]
  match st[a]? with
  | some (.ins c ns vs) => rfl
  | some (.lst _) => rfl
  | some (.rls _) => rfl
  | some (.dct _ _ _) => rfl
  | some .dead => rfl
  | none => rfl
@[simp] theorem items_d (ks vs) : itemsV (.v (.dct false ks vs)) = some (zipV ks vs) := rfl
def altsOf (kas : List KA) : List Tx := kas.flatMap fun a => a.rows.map (·.nm)
theorem lines_intro (k : Nat) (lv : X) (ws : List Val) : ∀ (kas : List KA) (ks : List Tx) (vs : List Val) (ts : List Tx) (tv : List Val) (x3 x4 x5 x6 : Option X), (∀ a ∈ kas, KO a) → (ks ++ altsOf kas).Nodup → (ts ++ kas.map (·.nm)).Nodup →
    ks.length + (altsOf kas).length ≤ 100 → ts.length + kas.length ≤ 100 → ks.length = vs.length → ts.length = tv.length →
    ∃ vs' x3' x4' x5' x6', (ks ++ altsOf kas).length = vs'.length ∧ forL ⟨none, ws⟩ (turn (P.ctx (callN P (k + 1))) (.nm 3) f_Checker___init___b2) (evSs (P.ctx (callN P (k + 1))) []) (kas.map kaV)
      [some (.r 0), some lv, some (.r 3), x3, x4, x5, x6, none, none] (ck0 (ks.map .str) vs (ts.map .str) tv)
      = .nx [some (.r 0), some lv, some (.r 3), x3', x4', x5', x6', none, none] (ck0 ((ks ++ altsOf kas).map .str) vs' ((ts ++ kas.map (·.nm)).map .str) (tv ++ kas.map kaV))
  | [], ks, vs, ts, tv, x3, x4, x5, x6, _, _, _, _, _, hl, _ => ⟨vs, x3, x4, x5, x6, by simpa [altsOf] using hl, by simp [altsOf]⟩
  | a :: kas, ks, vs, ts, tv, x3, x4, x5, x6, hr, hn, hn2, hL, hL2, hl, hl2 => by
    have hnm : a.nm ∉ ts := by
      intro e
      have := List.nodup_append.mp hn2
      exact this.2.2 _ e _ (by simp) rfl
    have e0 : altsOf (a :: kas) = a.rows.map (·.nm) ++ altsOf kas := by simp [altsOf]
    rw [e0] at hn hL
    simp at hL hL2
    have h1 := intro3 k ts tv (ks.map .str) vs a.nm a.at' (kaV a) hnm (LIM_lt (by omega))
    obtain ⟨v1, y4, y5, y6, f1, f2⟩ := rows_intro k lv a (hr a (by simp)) ((ts ++ [a.nm]).map .str) (tv ++ [kaV a]) (a.rows.map raV) a.rows ks vs x4 x5 x6 (fun r h => h) (by
      have := List.nodup_append.mp (by rw [← List.append_assoc] at hn; exact hn)
      exact this.1) (by omega) hl
    obtain ⟨v2, z3, z4, z5, z6, g1, g2⟩ := lines_intro k lv ws kas (ks ++ a.rows.map (·.nm)) v1 (ts ++ [a.nm]) (tv ++ [kaV a]) (some (.v (kaV a))) y4 y5 y6 (fun b hb => hr b (by simp [hb])) (by simpa using hn) (by simpa using hn2) (by simp; omega) (by simp; omega) f1 (by simp [hl2])
    refine ⟨v2, z3, z4, z5, z6, by rw [e0]; simpa using g1, ?_⟩
    have ht : turn (P.ctx (callN P (k + 1))) (.nm 3) f_Checker___init___b2 (kaV a) [some (.r 0), some lv, some (.r 3), x3, x4, x5, x6, none, none] (ck0 (ks.map .str) vs (ts.map .str) tv)
        = .nx [some (.r 0), some lv, some (.r 3), some (.v (kaV a)), y4, y5, y6, none, none] (ck0 ((ks ++ a.rows.map (·.nm)).map .str) v1 ((ts ++ [a.nm]).map .str) (tv ++ [kaV a])) := by
      simp [ck0] at h1 f2
      simp [turn, f_Checker___init___b2, ck0, flook_c, kaV]
      simp [kaV] at h1 f2
      simp [h1, f2, flook_c]
    rw [List.map_cons, for_cons, ht, goFor_nx, g2, e0]
    simp
theorem zipV_map {α : Type} (f g : α → Val) : ∀ xs : List α, zipV (xs.map f) (xs.map g) = xs.map fun x => .tup [f x, g x]
  | [] => rfl
  | x :: r => by
    have := zipV_map f g r
    simp [zipV] at this ⊢
    exact this
def nms (kas : List KA) : List Tx := kas.map (·.nm)
def kbV (kas : List KA) : Val := .dct false ((nms kas).map .str) (kas.map kaV)
def fbV : Val := .dct false [.str [102]] [funV 1]
theorem loop_none {α β : Type} {w : Wk} (hw : w.g = none) {f : Val → Store → R (List β)} (em : α → Val) {st : Store} : ∀ {xs : List α}, (∀ x ∈ xs, f (em x) st = .ok [] st) → loopL w f (xs.map em) st = .ok [] st
  | [], _ => by unfold loopL; rw [hw]; rfl
  | x :: r, h => by
    have ih := loop_none hw (f := f) em (st := st) (xs := r) (fun y hy => h y (by simp [hy]))
    rw [List.map_cons]
    unfold loopL
    rw [hw, h x (by simp), bind_ok, ih]
    rfl
@[simp] theorem isC_fun (c st n) : isCV (P.ctx c) (.v (funV n)) 2 st = some false := rfl
theorem checker_init (k : Nat) (kas : List KA) (hk : ∀ a ∈ kas, KO a) (hn : (altsOf kas).Nodup) (hn2 : ([102] :: kas.map (·.nm)).Nodup) (hL : (altsOf kas).length ≤ 90) (hL2 : kas.length ≤ 90) :
    ∃ av, (altsOf kas).length = av.length ∧ callN P (k + 2) 53 [.r 0, .v (.lst (funV 1 :: kas.map kaV))] [.ins 5 [] []] = .ok (.v .none) (ckS (kbV kas) fbV ((altsOf kas).map .str) av) := by
  have l0 : 0 ≤ LIM := by decide
  have h1 := intro3 k [] [] [] [] [102] (.tup [.int 1, .int 5]) (funV 1) (by simp) (by decide)
  obtain ⟨av, x3, x4, x5, x6, g1, g2⟩ := lines_intro k (.v (.lst (funV 1 :: kas.map kaV))) (funV 1 :: kas.map kaV) kas [] [] [[102]] [funV 1] (some (.v (funV 1))) none none none hk (by simpa using hn) (by simpa using hn2) (by simp; omega) (by simp; omega) rfl rfl
  refine ⟨av, by simpa using g1, ?_⟩
  have ht : turn (P.ctx (callN P (k + 1))) (.nm 3) f_Checker___init___b2 (funV 1) [some (.r 0), some (.v (.lst (funV 1 :: kas.map kaV))), some (.r 3), none, none, none, none, none, none] (ck0 [] [] [] [])
        = .nx [some (.r 0), some (.v (.lst (funV 1 :: kas.map kaV))), some (.r 3), some (.v (funV 1)), none, none, none, none, none] (ck0 [] [] [.str [102]] [funV 1]) := by
      simp [ck0] at h1
      simp [turn, f_Checker___init___b2, ck0, flook_c, funV]
      simp [funV] at h1
      simp [h1]
  have l1 := dputs_new (kas.map fun a => (a.nm, kaV a)) [] [] (by
    have := (List.nodup_cons.mp hn2).2
    simpa [Function.comp_def] using this)
  simp [Function.comp_def] at l1
  have q1 := fun S x3 x4 x5 x6 => loop_emb (w := ⟨none, .tup [.str [102], funV 1] :: kas.map fun a => .tup [.str a.nm, kaV a]⟩) rfl (f := itemD (P.ctx (callN P (k + 1))) (.tp [4, 3]) (some (.tru (.isC (.var 3) 2))) (.var 4) (.var 3)
      [some (.r 0), some (.v (.lst (funV 1 :: kas.map kaV))), some (.v (.dct false (.str [102] :: kas.map fun a => .str a.nm) (funV 1 :: kas.map kaV))), x3, x4, x5, x6, none, none]) (fun a => .tup [.str a.nm, kaV a]) (fun a => (Val.str a.nm, kaV a)) (st := S) (xs := kas) (by
        intro a _
        simp [itemD, kaV])
  have q2 := fun S x3 x4 x5 x6 => loop_none (w := ⟨none, .tup [.str [102], funV 1] :: kas.map fun a => .tup [.str a.nm, kaV a]⟩) rfl (f := itemD (P.ctx (callN P (k + 1))) (.tp [4, 3]) (some (.not (.tru (.isC (.var 3) 2)))) (.var 4) (.var 3)
      [some (.r 0), some (.v (.lst (funV 1 :: kas.map kaV))), some (.v (.dct false (.str [102] :: kas.map fun a => .str a.nm) (funV 1 :: kas.map kaV))), x3, x4, x5, x6, none, none]) (fun a => .tup [.str a.nm, kaV a]) (st := S) (xs := kas) (by
        intro a _
        simp [itemD, kaV])
  have hz : zipV (.str [102] :: kas.map fun a => .str a.nm) (funV 1 :: kas.map kaV) = .tup [.str [102], funV 1] :: kas.map fun a => .tup [.str a.nm, kaV a] := by
    have := zipV_map (fun a : KA => Val.str a.nm) kaV kas
    simp [zipV] at this ⊢
    exact this
  rw [call2 (P := P) (f := 53) rfl rfl (by decide)]
  simp [ck0] at g2 ht
  have hl3 : kas.length < LIM := LIM_lt (by omega)
  have hl4 : kas.length ≤ LIM := LIM_le (by omega)
  simp [f_Checker___init__, start, fput_0, fput_c, l0, for_cons, ht, g2, hz, loop_cons, q1, itemD, Function.comp_def, hl3, hl4, dictF, dictOf, l1, q2, isC_fun, dputs, dput, dget, show 1 < LIM by decide, show 1 ≤ LIM by decide, ckS, ckC, kbV, fbV, nms]
end KG.Z

set_option linter.all false
set_option maxRecDepth 100000
/-! L10: check_program is silent. -/
namespace KG.Z
def ck5 (kb fb : Val) (a b : List Val) (ks : List Tx) (vs : List Val) : Store := [ckC kb fb, .lst [], .dct false a b, .dead, .dct false (ks.map .str) vs]
def hv (nm ks fs : List Tx) : Bool := fs.all fun f => !(decide (f ∈ nm)) || decide (f ∈ ks)
theorem nms_len (kas : List KA) : (nms kas).length = (kas.map kaV).length := by simp [nms]
theorem has_ok (k : Nat) (kas : List KA) (a b : List Val) (ks : List Tx) (vs : List Val) (hl : ks.length = vs.length) (fs : List Tx) (hf : fs.length ≤ 10) :
    callN P (k + 1) 57 [.r 0, .v (.tup (fs.map .str)), .r 4] (ck5 (kbV kas) fbV a b ks vs) = .ok (.v (.bool (hv (nms kas) ks fs))) (ck5 (kbV kas) fbV a b ks vs) := by
  have h1 : fs.length ≤ LIM := LIM_le (by omega)
  have hlp := loop_emb (w := ⟨none, fs.map .str⟩) rfl (f := itemL (P.ctx (callN P k)) (.nm 3) none (.or (.cmp .nin (.var 3) (.at (.var 0) 32)) (.cmp .inn (.var 3) (.var 2))) [some (.r 0), some (.v (.tup (fs.map .str))), some (.r 4), none]) Val.str
    (fun f => Val.bool (!(decide (f ∈ nms kas)) || decide (f ∈ ks))) (st := ck5 (kbV kas) fbV a b ks vs) (xs := fs) (by
      intro f _
      have e1 := dget_mem (nms kas) (kas.map kaV) f (nms_len kas)
      have e2 := dget_mem ks vs f hl
      by_cases h1 : f ∈ nms kas
      · simp [itemL, ck5, ckC, flook_c, kbV, e1, e2, h1]
      · simp [itemL, ck5, ckC, flook_c, kbV, e1, e2, h1])
  rw [call1 (P := P) (f := 57) rfl rfl (by decide)]
  simp [ck5, ckC] at hlp
  simp [f_Checker_has_value, start, ck5, ckC, hlp, h1, hv, Function.comp_def]
def itV (a : KA) : Val := .tup [.str a.nm, kaV a]
/-- the first alternative needs no kind -/
def FirstOK (a : KA) : Prop := ∃ q qs, a.kd.2 = q :: qs ∧ (q.2 = [numT] ∨ q.2 = [])
theorem found_turn (k : Nat) (kas : List KA) (hnum : numT ∉ nms kas) (a' : KA) (hk : KO a') (hf : FirstOK a') (a b : List Val) (ks : List Tx) (vs : List Val) (hl : ks.length = vs.length) (hL : ks.length ≤ 900) (x2 x3 x4 : Option X) :
    ∃ (ks' : List Tx) (vs' : List Val), ks'.length = vs'.length ∧ ks'.length ≤ ks.length + 1 ∧ a'.nm ∈ ks' ∧ (∀ z ∈ ks, z ∈ ks') ∧
      turn (P.ctx (callN P (k + 1))) (.tp [3, 4]) f_Checker_founded_kinds_b1 (itV a') [some (.r 0), some (.r 4), x2, x3, x4, none, none] (ck5 (kbV kas) fbV a b ks vs)
        = .nx [some (.r 0), some (.r 4), x2, some (.v (.str a'.nm)), some (.v (kaV a')), none, none] (ck5 (kbV kas) fbV a b ks' vs') := by
  obtain ⟨ks', vs', e1, e2, e3, e4, e5⟩ := dput_any ks vs a'.nm (.bool true) hl
  refine ⟨ks', vs', e2, e3, e4, e5, ?_⟩
  have hrl := hk.kw.rows.2
  have h1 : a'.kd.2.length ≤ LIM := LIM_le (by omega)
  have h2 : ks.length < LIM := LIM_lt (by omega)
  have hlp := loop_emb (w := ⟨none, a'.kd.2.map plV⟩) rfl (f := itemL (P.ctx (callN P (k + 1))) (.tp [5, 6]) none (.meth (.var 0) 36 [(.var 6), (.var 1)]) [some (.r 0), some (.r 4), x2, some (.v (.str a'.nm)), some (.v (kaV a')), none, none]) plV
    (fun q => Val.bool (hv (nms kas) ks q.2)) (st := ck5 (kbV kas) fbV a b ks vs) (xs := a'.kd.2) (by
      intro q hq
      have hq2 := (hk.kw.fl q hq).1
      have h := has_ok k kas a b ks vs hl q.2 (by omega)
      have hm : metC (P.ctx (callN P (k + 1))) 0 36 (some (ckC (kbV kas) fbV)) = some 57 := rfl
      simp [ck5] at h
      simp [itemL, plV, ck5, hm, h])
  have hany : (a'.kd.2.map fun q => hv (nms kas) ks q.2).any id = true := by
    obtain ⟨q, qs, e, hq⟩ := hf
    rw [e]
    rcases hq with h | h <;> simp [h, hv, hnum]
  have hp := plain_ok k a' hk
  have hm2 : ∀ st, methF (P.ctx (callN P (k + 1))) (.v (kaV a')) 35 st = some 35 := fun _ => rfl
  simp [ck5] at hlp
  simp at hany
  simp [turn, itV, f_Checker_founded_kinds_b1, hm2, hp, ck5, hlp, h1, hany, h2, e1]
theorem found_loop (k : Nat) (kas : List KA) (hnum : numT ∉ nms kas) (a b : List Val) (ws : List Val) (x2 : Option X) : ∀ (l : List KA) (ks : List Tx) (vs : List Val) (x3 x4 : Option X), (∀ a ∈ l, KO a ∧ FirstOK a) → ks.length = vs.length → ks.length + l.length ≤ 900 →
    ∃ (ks' : List Tx) (vs' : List Val) (x3' x4' : Option X), ks'.length = vs'.length ∧ ks'.length ≤ ks.length + l.length ∧ (∀ a ∈ l, a.nm ∈ ks') ∧ (∀ z ∈ ks, z ∈ ks') ∧
      forL ⟨none, ws⟩ (turn (P.ctx (callN P (k + 1))) (.tp [3, 4]) f_Checker_founded_kinds_b1) (evSs (P.ctx (callN P (k + 1))) []) (l.map itV) [some (.r 0), some (.r 4), x2, x3, x4, none, none] (ck5 (kbV kas) fbV a b ks vs)
        = .nx [some (.r 0), some (.r 4), x2, x3', x4', none, none] (ck5 (kbV kas) fbV a b ks' vs')
  | [], ks, vs, x3, x4, _, hl, _ => ⟨ks, vs, x3, x4, hl, by simp, by simp, fun z hz => hz, by simp⟩
  | p :: l, ks, vs, x3, x4, h, hl, hL => by
    simp at hL
    obtain ⟨k1, v1, e1, e2, e3, e4, e5⟩ := found_turn k kas hnum p (h p (by simp)).1 (h p (by simp)).2 a b ks vs hl (by omega) x2 x3 x4
    obtain ⟨k2, v2, y3, y4, g1, g2, g3, g4, g5⟩ := found_loop k kas hnum a b ws x2 l k1 v1 (some (.v (.str p.nm))) (some (.v (kaV p))) (fun a ha => h a (by simp [ha])) e1 (by omega)
    refine ⟨k2, v2, y3, y4, g1, by simp; omega, ?_, fun z hz => g4 z (e4 z hz), ?_⟩
    · intro q hq
      rcases List.mem_cons.mp hq with e | e
      · rw [e]; exact g4 _ e3
      · exact g3 q e
    · rw [List.map_cons, for_cons, e5, goFor_nx, g5]
theorem found_outer (k : Nat) (kas : List KA) (hnum : numT ∉ nms kas) (hk : ∀ a ∈ kas, KO a ∧ FirstOK a) (hkl : kas.length ≤ 9) (a b : List Val) (ws : List Val) : ∀ (xs : List Val) (ks : List Tx) (vs : List Val) (x2 x3 x4 : Option X), ks.length = vs.length → ks.length + xs.length * 9 ≤ 800 →
    ∃ (ks' : List Tx) (vs' : List Val) (x2' x3' x4' : Option X), ks'.length = vs'.length ∧ ks'.length ≤ 800 ∧ (xs ≠ [] → ∀ a ∈ kas, a.nm ∈ ks') ∧ (∀ z ∈ ks, z ∈ ks') ∧
      forL ⟨none, ws⟩ (turn (P.ctx (callN P (k + 1))) (.nm 2) f_Checker_founded_kinds_b2) (evSs (P.ctx (callN P (k + 1))) []) xs [some (.r 0), some (.r 4), x2, x3, x4, none, none] (ck5 (kbV kas) fbV a b ks vs)
        = .nx [some (.r 0), some (.r 4), x2', x3', x4', none, none] (ck5 (kbV kas) fbV a b ks' vs')
  | [], ks, vs, x2, x3, x4, hl, hL => ⟨ks, vs, x2, x3, x4, hl, by simp at hL; omega, by simp, fun z hz => hz, by simp⟩
  | x :: xs, ks, vs, x2, x3, x4, hl, hL => by
    simp at hL
    obtain ⟨k1, v1, y3, y4, e1, e2, e3, e4, e5⟩ := found_loop k kas hnum a b (kas.map itV) (some (.v x)) kas ks vs x3 x4 hk hl (by omega)
    obtain ⟨k2, v2, z2, z3, z4, g1, g2, g3, g4, g5⟩ := found_outer k kas hnum hk hkl a b ws xs k1 v1 (some (.v x)) y3 y4 e1 (by omega)
    refine ⟨k2, v2, z2, z3, z4, g1, g2, fun _ a ha => g4 _ (e3 a ha), fun z hz => g4 _ (e4 z hz), ?_⟩
    have hz : zipV ((nms kas).map .str) (kas.map kaV) = kas.map itV := by
      have := zipV_map (fun a : KA => Val.str a.nm) kaV kas
      simp [nms, Function.comp_def, this]
      exact fun a _ => rfl
    have ht : turn (P.ctx (callN P (k + 1))) (.nm 2) f_Checker_founded_kinds_b2 x [some (.r 0), some (.r 4), x2, x3, x4, none, none] (ck5 (kbV kas) fbV a b ks vs) = .nx [some (.r 0), some (.r 4), some (.v x), y3, y4, none, none] (ck5 (kbV kas) fbV a b k1 v1) := by
      simp [ck5, ckC, kbV] at e5
      simp [turn, f_Checker_founded_kinds_b2, ck5, ckC, kbV, fldP_i, flook_c, hz, e5]
    rw [for_cons, ht, goFor_nx, g5]
theorem range_nat (n : Nat) (h : n < 1000) : rangeV 0 n 1 = some ((List.range n).map fun i : Nat => .int (0 + i)) := by
  have h1 : (0 : Int).natAbs < 4611686018427387904 ∧ (n : Int).natAbs < 4611686018427387904 := ⟨by omega, by omega⟩
  have h2 : ((n : Int) - 0).toNat = n := by omega
  unfold rangeV
  simp only [if_pos h1, if_true, h2]
theorem founded_ok (k : Nat) (kas : List KA) (hnum : numT ∉ nms kas) (hk : ∀ a ∈ kas, KO a ∧ FirstOK a) (hkl : kas.length ≤ 9) (hk1 : kas ≠ []) (a b : List Val) :
    ∃ (ks : List Tx) (vs : List Val), ks.length = vs.length ∧ (∀ a ∈ kas, a.nm ∈ ks) ∧ callN P (k + 2) 58 [.r 0] (ckS (kbV kas) fbV a b) = .ok (.v (.dct false (ks.map .str) vs)) (ckS (kbV kas) fbV a b) := by
  obtain ⟨ks, vs, x2, x3, x4, g1, g2, g3, g4, g5⟩ := found_outer k kas hnum hk hkl a b ((List.range kas.length).map fun i : Nat => .int (0 + i)) ((List.range kas.length).map fun i : Nat => .int (0 + i)) [] [] none none none rfl (by simp; omega)
  refine ⟨ks, vs, g1, g3 ?_, ?_⟩
  · cases kas with
    | nil => exact absurd rfl hk1
    | cons x r => simp
  · rw [call1 (P := P) (f := 58) rfl rfl (by decide)]
    have hrg := range_nat kas.length (by omega)
    have l0 : 0 ≤ LIM := by decide
    have e0 : (nms kas).length = kas.length := by simp [nms]
    simp [ck5, ckC, kbV] at g5
    simp at hrg
    simp -implicitDefEqProofs [f_Checker_founded_kinds, start, ckS, ckC, kbV, flook_c, e0, hrg, l0, g5]
theorem field_ok (k : Nat) (kas : List KA) (a b : List Val) (f : FA) (hf : f.1 = numT ∨ f.1 ∈ nms kas) : callN P (k + 1) 56 [.r 0, .v (faV f)] (ckS (kbV kas) fbV a b) = .ok (.v .none) (ckS (kbV kas) fbV a b) := by
  rw [call1 (P := P) (f := 56) rfl rfl (by decide)]
  by_cases h : f.1 = numT
  · simp [f_Checker_check_kind_name, start, faV, h, g_num, ckS, ckC]
  · have h2 : f.1 ∈ nms kas := by rcases hf with e | e; exact absurd e h; exact e
    have e1 := dget_mem (nms kas) (kas.map kaV) f.1 (nms_len kas)
    simp [f_Checker_check_kind_name, start, faV, h, g_num, ckS, ckC, flook_c, kbV, e1, h2]
theorem fields_loop (k : Nat) (kas : List KA) (a b : List Val) (ws : List Val) (e1 e2 e3 e4 e5 : Option X) : ∀ (fs : List FA) (x : Option X), (∀ f ∈ fs, f.1 = numT ∨ f.1 ∈ nms kas) → ∃ x',
    forL ⟨none, ws⟩ (turn (P.ctx (callN P (k + 1))) (.nm 6) f_Checker_check_kind_b1) (evSs (P.ctx (callN P (k + 1))) []) (fs.map faV) [some (.r 0), e1, e2, e3, e4, e5, x] (ckS (kbV kas) fbV a b)
      = .nx [some (.r 0), e1, e2, e3, e4, e5, x'] (ckS (kbV kas) fbV a b)
  | [], x, _ => ⟨x, by simp⟩
  | f :: fs, x, h => by
    obtain ⟨x', ih⟩ := fields_loop k kas a b ws e1 e2 e3 e4 e5 fs (some (.v (faV f))) (fun g hg => h g (by simp [hg]))
    have h1 := field_ok k kas a b f (h f (by simp))
    have hm : metC (P.ctx (callN P (k + 1))) 0 37 (some (ckC (kbV kas) fbV)) = some 56 := rfl
    refine ⟨x', ?_⟩
    rw [List.map_cons, for_cons, show turn (P.ctx (callN P (k + 1))) (.nm 6) f_Checker_check_kind_b1 (faV f) [some (.r 0), e1, e2, e3, e4, e5, x] (ckS (kbV kas) fbV a b) = .nx [some (.r 0), e1, e2, e3, e4, e5, some (.v (faV f))] (ckS (kbV kas) fbV a b) by
      simp [ckS] at h1
      simp [turn, f_Checker_check_kind_b1, ckS, hm, h1], goFor_nx, ih]
theorem crows_loop (k : Nat) (kas : List KA) (a b : List Val) (ws : List Val) (e1 e2 : Option X) : ∀ (rs : List RA) (x3 x4 x5 x6 : Option X), (∀ r ∈ rs, ∀ f ∈ r.fs, f.1 = numT ∨ f.1 ∈ nms kas) → ∃ x3' x4' x5' x6',
    forL ⟨none, ws⟩ (turn (P.ctx (callN P (k + 1))) (.tp [3, 4, 5]) f_Checker_check_kind_b2) (evSs (P.ctx (callN P (k + 1))) []) (rs.map raV) [some (.r 0), e1, e2, x3, x4, x5, x6] (ckS (kbV kas) fbV a b)
      = .nx [some (.r 0), e1, e2, x3', x4', x5', x6'] (ckS (kbV kas) fbV a b)
  | [], x3, x4, x5, x6, _ => ⟨x3, x4, x5, x6, by simp⟩
  | r :: rs, x3, x4, x5, x6, h => by
    obtain ⟨y, hy⟩ := fields_loop k kas a b (r.fs.map faV) e1 e2 (some (.v (.str r.nm))) (some (.v r.at')) (some (.v (.lst (r.fs.map faV)))) r.fs x6 (h r (by simp))
    obtain ⟨z3, z4, z5, z6, ih⟩ := crows_loop k kas a b ws e1 e2 rs (some (.v (.str r.nm))) (some (.v r.at')) (some (.v (.lst (r.fs.map faV)))) y (fun g hg => h g (by simp [hg]))
    refine ⟨z3, z4, z5, z6, ?_⟩
    rw [List.map_cons, for_cons, show turn (P.ctx (callN P (k + 1))) (.tp [3, 4, 5]) f_Checker_check_kind_b2 (raV r) [some (.r 0), e1, e2, x3, x4, x5, x6] (ckS (kbV kas) fbV a b) = .nx [some (.r 0), e1, e2, some (.v (.str r.nm)), some (.v r.at'), some (.v (.lst (r.fs.map faV))), y] (ckS (kbV kas) fbV a b) by
      simp [turn, f_Checker_check_kind_b2, raV, hy], goFor_nx, ih]
theorem check_kind_ok (k : Nat) (kas : List KA) (a b : List Val) (p : KA) (hp : p ∈ kas) (hf : ∀ r ∈ p.rows, ∀ f ∈ r.fs, f.1 = numT ∨ f.1 ∈ nms kas) (ks : List Tx) (vs : List Val) (hl : ks.length = vs.length) (hks : p.nm ∈ ks) :
    callN P (k + 2) 59 [.r 0, .v (kaV p), .v (.dct false (ks.map .str) vs)] (ckS (kbV kas) fbV a b) = .ok (.v .none) (ckS (kbV kas) fbV a b) := by
  have h1 := dget_mem (nms kas) (kas.map kaV) p.nm (nms_len kas)
  have h2 := dget_mem ks vs p.nm hl
  have h3 : p.nm ∈ nms kas := List.mem_map.mpr ⟨p, hp, rfl⟩
  obtain ⟨x3, x4, x5, x6, h4⟩ := crows_loop k kas a b (p.rows.map raV) (some (.v (kaV p))) (some (.v (.dct false (ks.map .str) vs))) p.rows none none none none hf
  rw [call1 (P := P) (f := 59) rfl rfl (by decide)]
  simp [ckS, ckC, kbV, kaV] at h4
  simp [f_Checker_check_kind, start, kaV, ckS, ckC, flook_c, kbV, h1, h2, h3, hks, h4]
theorem lines_loop (k : Nat) (kas : List KA) (a b : List Val) (ws : List Val) (ks : List Tx) (vs : List Val) (hl : ks.length = vs.length) (e0 : Option X) : ∀ (l : List KA) (x3 x4 x5 : Option X), (∀ p ∈ l, p ∈ kas ∧ p.nm ∈ ks ∧ ∀ r ∈ p.rows, ∀ f ∈ r.fs, f.1 = numT ∨ f.1 ∈ nms kas) → ∃ x3' x4' x5',
    forL ⟨none, ws⟩ (turn (P.ctx (callN P (k + 2))) (.nm 3) f_check_program_b1) (evSs (P.ctx (callN P (k + 2))) []) (l.map kaV) [e0, some (.r 0), some (.v (.dct false (ks.map .str) vs)), x3, x4, x5] (ckS (kbV kas) fbV a b)
      = .nx [e0, some (.r 0), some (.v (.dct false (ks.map .str) vs)), x3', x4', x5'] (ckS (kbV kas) fbV a b)
  | [], x3, x4, x5, _ => ⟨x3, x4, x5, by simp⟩
  | p :: l, x3, x4, x5, h => by
    obtain ⟨y3, y4, y5, ih⟩ := lines_loop k kas a b ws ks vs hl e0 l (some (.v (kaV p))) x4 x5 (fun g hg => h g (by simp [hg]))
    obtain ⟨h1, h2, h3⟩ := h p (by simp)
    have h4 := check_kind_ok k kas a b p h1 h3 ks vs hl h2
    have hm : metC (P.ctx (callN P (k + 2))) 0 44 (some (ckC (kbV kas) fbV)) = some 59 := rfl
    have hc : ∀ st, isCV (P.ctx (callN P (k + 2))) (.v (kaV p)) 2 st = some true := fun _ => rfl
    refine ⟨y3, y4, y5, ?_⟩
    rw [List.map_cons, for_cons, show turn (P.ctx (callN P (k + 2))) (.nm 3) f_check_program_b1 (kaV p) [e0, some (.r 0), some (.v (.dct false (ks.map .str) vs)), x3, x4, x5] (ckS (kbV kas) fbV a b) = .nx [e0, some (.r 0), some (.v (.dct false (ks.map .str) vs)), some (.v (kaV p)), x4, x5] (ckS (kbV kas) fbV a b) by
      simp [ckS] at h4
      simp [turn, f_check_program_b1, hc, ckS, hm, h4], goFor_nx, ih]
/-- drawn kinds as they were read -/
structure KS (kas : List KA) : Prop where
  ko : ∀ a ∈ kas, KO a ∧ FirstOK a
  nodA : (altsOf kas).Nodup
  nod : ([102] :: nms kas).Nodup
  num : numT ∉ nms kas
  len : kas.length ≤ 9 ∧ (altsOf kas).length ≤ 90
  ne : kas ≠ []
  fld : ∀ a ∈ kas, ∀ r ∈ a.rows, ∀ f ∈ r.fs, f.1 = numT ∨ f.1 ∈ nms kas
theorem check_ok (k : Nat) (kas : List KA) (h : KS kas) (st : Store) : callN P (k + 6) 11 [.v (.lst (funV 1 :: kas.map kaV))] st = .ok (.v .none) st := by
  obtain ⟨av, e1, e2⟩ := checker_init (k + 3) kas (fun a ha => (h.ko a ha).1) h.nodA h.nod h.len.2 (by have := h.len.1; omega)
  obtain ⟨ks, vs, f1, f2, f3⟩ := founded_ok (k + 3) kas h.num h.ko h.len.1 h.ne ((altsOf kas).map .str) av
  obtain ⟨x3, x4, x5, g⟩ := lines_loop (k + 3) kas ((altsOf kas).map .str) av (funV 1 :: kas.map kaV) ks vs f1 (some (.v (.lst (funV 1 :: kas.map kaV)))) kas (some (.v (funV 1))) none none (fun p hp => ⟨hp, f2 p hp, h.fld p hp⟩)
  have c := check_fun k 1 (kbV kas) fbV ((altsOf kas).map .str) av
  have hmk : makeV (P.ctx (callN P (k + 5))) true 5 [.v (.lst (funV 1 :: kas.map kaV))] [] = .ok (.r 0) (ckS (kbV kas) fbV ((altsOf kas).map .str) av) := make_t (f := 53) rfl e2
  have hm : metC (P.ctx (callN P (k + 5))) 0 45 (some (ckC (kbV kas) fbV)) = some 60 := rfl
  have hm2 : metC (P.ctx (callN P (k + 5))) 0 43 (some (ckC (kbV kas) fbV)) = some 58 := rfl
  have ht : turn (P.ctx (callN P (k + 5))) (.nm 3) f_check_program_b1 (funV 1) [some (.v (.lst (funV 1 :: kas.map kaV))), some (.r 0), some (.v (.dct false (ks.map .str) vs)), none, none, none] (ckS (kbV kas) fbV ((altsOf kas).map .str) av) = .nx [some (.v (.lst (funV 1 :: kas.map kaV))), some (.r 0), some (.v (.dct false (ks.map .str) vs)), some (.v (funV 1)), none, none] (ckS (kbV kas) fbV ((altsOf kas).map .str) av) := by
    simp [ckS] at c
    simp [turn, f_check_program_b1, ckS, hm, c]
  have hfl : attC (P.ctx (callN P (k + 5))) 0 29 (ckS (kbV kas) fbV ((altsOf kas).map .str) av) (some (ckC (kbV kas) fbV)) = .ok (.r 1) (ckS (kbV kas) fbV ((altsOf kas).map .str) av) := rfl
  rw [show [X.v (.lst (funV 1 :: kas.map kaV))] = [Val.lst (funV 1 :: kas.map kaV)].map X.v from rfl, call0 (P := P) (f := 11) rfl rfl (by decide)]
  simp [ckS] at f3 ht g hfl
  simp -implicitDefEqProofs [f_check_program, start, hmk, ckS, hm2, f3, for_cons, ht, g, hfl]
end KG.Z

set_option linter.all false
set_option maxRecDepth 100000
/-! L11: the program of drawn kinds is made. -/
namespace KG.Z
theorem splitC_end (c : Nat) : ∀ a : Tx, c ∉ a → splitC c a = [a]
  | [], _ => rfl
  | x :: r, h => by
    have h1 : (x == c) = false := by simp; exact fun e => h (by simp [e])
    have := splitC_end c r (fun e => h (by simp [e]))
    simp [splitC, h1, this]
theorem splitC_app (c : Nat) (r : Tx) : ∀ a : Tx, c ∉ a → splitC c (a ++ c :: r) = a :: splitC c r
  | [], _ => by simp [splitC]
  | x :: q, h => by
    have h1 : (x == c) = false := by simp; exact fun e => h (by simp [e])
    have := splitC_app c r q (fun e => h (by simp [e]))
    simp [splitC, h1, this]
theorem splitC_join (c : Nat) : ∀ (xs : List Tx) (a : Tx), (∀ x ∈ a :: xs, c ∉ x) → splitC c (joinT [c] (a :: xs)) = a :: xs
  | [], a, h => splitC_end c a (h a (by simp))
  | b :: r, a, h => by
    have := splitC_join c r b (fun x hx => h x (List.mem_cons_of_mem _ hx))
    simp only [joinT, List.append_assoc, List.singleton_append]
    rw [splitC_app c _ a (h a (by simp)), this]
theorem no10_w {w : Tx} (h : okW w) : 10 ∉ w := by
  intro e
  have := List.all_eq_true.mp h.2.2 10 e
  revert this
  decide
theorem joinT_no (c : Nat) (s : Tx) (hs : c ∉ s) : ∀ xs : List Tx, (∀ x ∈ xs, c ∉ x) → c ∉ joinT s xs
  | [], _ => by simp [joinT]
  | [a], h => by simpa [joinT] using h a (by simp)
  | a :: b :: r, h => by
    have h1 := joinT_no c s hs (b :: r) (fun x hx => h x (List.mem_cons_of_mem _ hx))
    have h2 := h a (by simp)
    simp [joinT, hs, h1, h2]
theorem KW.no10 {p} (h : KW p) : 10 ∉ kline p := by
  have h1 : 10 ∉ joinT [32, 124, 32] (p.2.map fun q => joinT [32] (q.1 :: q.2)) := joinT_no 10 _ (by decide) _ (by
    intro x hx
    obtain ⟨q, hq, rfl⟩ := List.mem_map.mp hx
    refine joinT_no 10 _ (by decide) _ ?_
    intro w hw
    rcases List.mem_cons.mp hw with e | e
    · rw [e]; exact no10_w (h.alt q hq).2
    · exact no10_w ((h.fl q hq).2 w e).2)
  have h2 := no10_w h.nm.2
  simp [kline, h1, h2]
def lnV (n : Nat) (l : List Val) : List Val := (l.zipIdx n).map fun p => .tup [.int p.2, p.1]
theorem enumV_ln (l : List Val) : enumV l = lnV 0 l := rfl
theorem read_all (k : Nat) : ∀ (K : Kd) (n : Nat), (∀ p ∈ K, KW p) → ∃ kas : List KA, kas.map KA.kd = K ∧ ∀ (ws : List Val) (e0 e1 e2 e3 e4 e5 e6 e7 e8 e9 e10 : Option X) (st : Store),
    loopL ⟨none, ws⟩ (itemL (P.ctx (callN P (k + 7))) (.tp [8, 5]) none (.call 10 [(.bin false .add (.var 8) (.cst (.int 1))), (.var 5)]) [e0, e1, e2, e3, e4, e5, e6, e7, e8, e9, e10]) (lnV n ((K.map kline).map .str)) st = .ok (kas.map kaV) st
  | [], n, _ => ⟨[], rfl, fun _ _ _ _ _ _ _ _ _ _ _ _ _ => rfl⟩
  | p :: K, n, h => by
    obtain ⟨a, ha, ha2⟩ := kind_ok k ((n : Int) + 1) p (h p (by simp))
    obtain ⟨kas, hk, hk2⟩ := read_all k K (n + 1) (fun q hq => h q (by simp [hq]))
    refine ⟨a :: kas, by simp [ha, hk], fun ws e0 e1 e2 e3 e4 e5 e6 e7 e8 e9 e10 st => ?_⟩
    have := hk2 ws e0 e1 e2 e3 e4 e5 e6 e7 e8 e9 e10 st
    simp only [lnV, List.map_cons, List.zipIdx_cons] at this ⊢
    rw [loop_cons]
    simp [itemL, ha2]
    simp [itemL] at this
    rw [this]
theorem loop_embF {α β : Type} {w : Wk} (hw : w.g = none) {f : Val → Store → R (List β)} (em : α → Val) (g : α → List β) {st : Store} : ∀ {xs : List α}, (∀ x ∈ xs, f (em x) st = .ok (g x) st) → loopL w f (xs.map em) st = .ok (xs.flatMap g) st
  | [], _ => by unfold loopL; rw [hw]; rfl
  | x :: r, h => by
    have ih := loop_embF hw (f := f) em g (st := st) (xs := r) (fun y hy => h y (by simp [hy]))
    rw [List.map_cons]
    unfold loopL
    rw [hw, h x (by simp), bind_ok, ih]
    simp
def item2 (C : Ctx) (t2 : Tg) (k e : CE) (env : Env) (v : Val) (st : Store) : R (List (Val × Val)) := (optR (bindT t2 v env) st).bind fun env st => (evE C k env st).bind fun x st => (evE C e env st).bind fun y st => two x y st
def itemO (C : Ctx) (t : Tg) (t2 : Tg) (it2 : CI) (k e : CE) (env : Env) (v : Val) (st : Store) : R (List (Val × Val)) := (optR (bindT t v (wipeE env (tgSlots t2))) st).bind fun env st => (evI C it2 env st).bind fun w2 st =>
        loopL w2 (item2 C t2 k e env) w2.xs st
@[simp] theorem e_dc2' (C : Ctx) (t it t2 it2 k e env st) : evE C (.dc2 t it t2 it2 k e) env st = (evI C it env st).bind fun w st => (noX (loopL w (itemO C t t2 it2 k e env) w.xs st)).bind (dictF false) := rfl
def pgV (kas : List KA) (ow : Val) : Val := .obj 7 [46, 47, 48] [kbV kas, fbV, ow]
theorem KS.rowsL {kas} (h : KS kas) {a : KA} (ha : a ∈ kas) : a.kd.2.length ≤ 3 := (h.ko a ha).1.kw.rows.2
def ownPs (kas : List KA) : List (Tx × Val) := kas.flatMap fun a => a.kd.2.map fun q => (q.1, Val.str a.nm)
theorem ownPs_keys : ∀ kas : List KA, (ownPs kas).map (·.1) = altsOf kas
  | [] => rfl
  | a :: r => by
    have := ownPs_keys r
    simp [ownPs, altsOf] at this ⊢
    rw [this]
    simp [KA.kd, RA.row, Function.comp_def]
/-- the owners of the alternatives -/
def ownV (kas : List KA) : Val := .dct false ((altsOf kas).map .str) ((ownPs kas).map (·.2))
theorem program_ok (k : Nat) (K : Kd) (hK : ∀ p ∈ K, KW p) (hl : K.length ≤ 9) (hS : ∀ kas : List KA, kas.map KA.kd = K → KS kas) : ∃ (kas : List KA), kas.map KA.kd = K ∧ KS kas ∧ ∀ st : Store, okR st →
    makeV (P.ctx (callN P (k + 10))) false 7 [.v (.str (ptext K))] st = .ok (.v (pgV kas (ownV kas))) st := by
  obtain ⟨kas, e1, e2⟩ := read_all (k + 2) K 1 hK
  have hs := hS kas e1
  have o1 := dputs_new (ownPs kas) [] [] (by rw [ownPs_keys]; exact hs.nodA)
  rw [ownPs_keys] at o1
  have o3 : (altsOf kas).length ≤ 90 := hs.len.2
  refine ⟨kas, e1, hs, fun st hst => ?_⟩
  refine make_f (f := 68) (ws := [kbV kas, fbV, ownV kas]) rfl hst ?_
  have hkl : kas.length ≤ 9 := hs.len.1
  have c1 : kas.length ≤ LIM := LIM_le (by omega)
  have c2 : kas.length + 1 ≤ LIM := LIM_le (by omega)
  have c3 : kas.length < LIM := LIM_lt (by omega)
  have hlen : (ptext K).length + 2 ≤ LIM := by
    have h1 := totalLen_le [10] 106 (funL :: K.map kline) (by
      intro x hx
      rcases List.mem_cons.mp hx with e | e
      · rw [e]; decide
      · obtain ⟨p, hp, rfl⟩ := List.mem_map.mp e
        exact (hK p hp).line_len)
    have h2 := joinT_len [10] (funL :: K.map kline)
    simp at h1
    unfold ptext LIM
    omega
  have hsp : splitC 10 (ptext K) = funL :: K.map kline := splitC_join 10 _ _ (by
    intro x hx
    rcases List.mem_cons.mp hx with e | e
    · rw [e]; decide
    · obtain ⟨p, hp, rfl⟩ := List.mem_map.mp e
      exact (hK p hp).no10)
  have hKl : K.length + 1 ≤ LIM := LIM_le (by omega)
  have hc := check_ok (k + 3) kas hs
  have hf := fun st => fun_line (k + 1) 1 st
  have hen : enumV (.str funL :: K.map fun x => Val.str (kline x)) = .tup [.int 0, .str funL] :: lnV 1 ((K.map kline).map .str) := by simp [enumV, lnV, Function.comp_def]
  generalize lnV 1 ((K.map kline).map .str) = LN at e2 hen
  have q1 := fun (ws : List Val) (e0 e1 e2 e3 e4 e5 e6 e7 e8 e9 e10 : Option X) (S : Store) => loop_emb (w := ⟨none, ws⟩) rfl (f := itemL (P.ctx (callN P (k + 9))) (.nm 5) (some (.tru (.isC (.var 5) 2))) (.var 5) [e0, e1, e2, e3, e4, e5, e6, e7, e8, e9, e10]) kaV kaV (st := S) (xs := kas) (by
    intro a _
    have hc : ∀ st, isCV (P.ctx (callN P (k + 9))) (.v (kaV a)) 2 st = some true := fun _ => rfl
    simp [itemL, hc])
  have q2 := fun (ws : List Val) (e0 e1 e2 e3 e4 e5 e6 e7 e8 e9 e10 : Option X) (S : Store) => loop_none (w := ⟨none, ws⟩) rfl (f := itemL (P.ctx (callN P (k + 9))) (.nm 5) (some (.not (.tru (.isC (.var 5) 2)))) (.var 5) [e0, e1, e2, e3, e4, e5, e6, e7, e8, e9, e10]) kaV (st := S) (xs := kas) (by
    intro a _
    have hc : ∀ st, isCV (P.ctx (callN P (k + 9))) (.v (kaV a)) 2 st = some true := fun _ => rfl
    simp [itemL, hc])
  have q3 := fun (ws : List Val) (e0 e1 e2 e3 e4 e5 e6 e7 e8 e9 e10 : Option X) (S : Store) => loop_emb (w := ⟨none, ws⟩) rfl (f := itemD (P.ctx (callN P (k + 9))) (.nm 6) none (.at (.var 6) 3) (.var 6) [e0, e1, e2, e3, e4, e5, e6, e7, e8, e9, e10]) kaV (fun a => (Val.str a.nm, kaV a)) (st := S) (xs := kas) (by
    intro a _
    simp [itemD, kaV, flook_c])
  have q4 := fun (ws : List Val) (e0 e1 e2 e3 e4 e5 e6 e7 e8 e9 e10 : Option X) (S : Store) => loop_embF (w := ⟨none, ws⟩) rfl (f := itemO (P.ctx (callN P (k + 9))) (.nm 6) (.tp [9, 10]) (.over (.meth (.var 6) 35 [])) (.var 9) (.at (.var 6) 3) [e0, e1, e2, e3, e4, e5, e6, e7, e8, e9, e10]) kaV (fun a => a.kd.2.map fun q => (Val.str q.1, Val.str a.nm)) (st := S) (xs := kas) (by
    intro a ha
    have hm2 : ∀ st, methF (P.ctx (callN P (k + 9))) (.v (kaV a)) 35 st = some 35 := fun _ => rfl
    have hp := plain_ok (k + 8) a (hs.ko a ha).1
    have q5 := fun (ws : List Val) (S : Store) => loop_emb (w := ⟨none, ws⟩) rfl (f := item2 (P.ctx (callN P (k + 9))) (.tp [9, 10]) (.var 9) (.at (.var 6) 3) [e0, e1, e2, e3, e4, e5, some (.v (kaV a)), e7, e8, none, none]) plV (fun q => (Val.str q.1, Val.str a.nm)) (st := S) (xs := a.kd.2) (by
      intro q _
      simp [item2, plV, kaV, flook_c])
    simp [itemO, tgSlots, wipeE, hm2, hp, q5])
  have d1 := dputs_new (kas.map fun a => (a.nm, kaV a)) [] [] (by
    have := (List.nodup_cons.mp hs.nod).2
    simpa [Function.comp_def, nms] using this)
  simp [Function.comp_def] at d1
  have d2 : dputs false [] [] (kas.flatMap fun a => a.kd.2.map fun q => (Val.str q.1, Val.str a.nm)) = some ((altsOf kas).map .str, (ownPs kas).map (·.2)) := by
    simpa [ownPs, List.map_flatMap, Function.comp_def] using o1
  have d3 : (kas.flatMap fun a => a.kd.2.map fun q => (Val.str q.1, Val.str a.nm)).length < LIM := by
    have h1 : ∀ l : List KA, (∀ a ∈ l, a ∈ kas) → (l.flatMap fun a => a.kd.2.map fun q => (Val.str q.1, Val.str a.nm)).length ≤ 3 * l.length := by
      intro l
      induction l with
      | nil => simp
      | cons a r ih =>
        intro h
        have h2 := ih (fun b hb => h b (by simp [hb]))
        have h3 := hs.rowsL (h a (by simp))
        simp only [List.flatMap_cons, List.length_append, List.length_map, List.length_cons]
        omega
    exact LIM_lt (by have := h1 kas (fun a ha => ha); omega)
  have d4 : (altsOf kas).length ≤ LIM := LIM_le (by omega)
  rw [cx_call, call1 (P := P) (f := 68) rfl rfl (by decide)]
  have r0 : ∀ st : Store, okR st → ∀ n : Nat, st.all (okC n) = true := fun st h n => h n
  have h0 := fun (e0 e1 e2 e3 e4 e5 e6 e7 e8 e9 e10 : Option X) (S : Store) => (show itemL (P.ctx (callN P (k + 9))) (.tp [8, 5]) none (.call 10 [(.bin false .add (.var 8) (.cst (.int 1))), (.var 5)]) [e0, e1, e2, e3, e4, e5, e6, e7, e8, e9, e10] (.tup [.int 0, .str funL]) S = .ok [funV 1] S by
    simp [itemL, hf])
  have h1 := fun (e0 e1 e2 e3 e4 e5 e6 e7 e8 e9 e10 : Option X) (S : Store) => (show itemL (P.ctx (callN P (k + 9))) (.nm 5) (some (.tru (.isC (.var 5) 2))) (.var 5) [e0, e1, e2, e3, e4, e5, e6, e7, e8, e9, e10] (funV 1) S = .ok [] S by
    simp [itemL])
  have h2 := fun (e0 e1 e2 e3 e4 e5 e6 e7 e8 e9 e10 : Option X) (S : Store) => (show itemL (P.ctx (callN P (k + 9))) (.nm 5) (some (.not (.tru (.isC (.var 5) 2)))) (.var 5) [e0, e1, e2, e3, e4, e5, e6, e7, e8, e9, e10] (funV 1) S = .ok [funV 1] S by
    simp [itemL])
  have h3 := fun (e0 e1 e2 e3 e4 e5 e6 e7 e8 e9 e10 : Option X) (S : Store) => (show itemD (P.ctx (callN P (k + 9))) (.nm 7) none (.at (.var 7) 3) (.var 7) [e0, e1, e2, e3, e4, e5, e6, e7, e8, e9, e10] (funV 1) S = .ok [(.str [102], funV 1)] S by
    simp [itemD, funV, flook_c])
  have hz : dputs false [] [] [(Val.str [102], funV 1)] = some ([.str [102]], [funV 1]) := rfl
  have lz : 1 ≤ LIM := by decide
  have lz2 : 1 < LIM := by decide
  simp [List.length_flatMap] at d3
  simp [f_Program___init__, start, hlen, hsp, hKl, hen, loop_cons, h0, e2, h1, q1, h2, q2, hc, c1, c2, c3, q3, dictF, dictOf, d1, h3, hz, lz, lz2, fput_0, fput_c, q4, d2, d3, d4, hst.all, kbV, fbV, nms, ownV, Function.comp_def]
end KG.Z

set_option linter.all false
set_option maxRecDepth 100000
/-! L12: drawn kinds as they were read. -/
namespace KG.Z
theorem altsOf_kd : ∀ kas : List KA, altsOf kas = (kas.map KA.kd).flatMap fun p => p.2.map (·.1)
  | [] => rfl
  | a :: r => by
    have := altsOf_kd r
    simp [altsOf] at this ⊢
    simp [this, KA.kd, RA.row, Function.comp_def]
theorem nms_kd (kas : List KA) : nms kas = (kas.map KA.kd).map (·.1) := by simp [nms, KA.kd, Function.comp_def]
/-- what the names are -/
structure WN (K : Kd) : Prop where
  pl : ∃ o ∈ owns, K.map (·.1) = [o.1] ∨ K.map (·.1) = [o.1, o.2]
  nodA : (K.flatMap fun p => p.2.map (·.1)).Nodup
  lenA : (K.flatMap fun p => p.2.map (·.1)).length ≤ 6
  fst : ∀ p ∈ K, ∃ q qs, p.2 = q :: qs ∧ (q.2 = [numT] ∨ q.2 = [])
  fld : ∀ p ∈ K, ∀ q ∈ p.2, ∀ f ∈ q.2, f = numT ∨ f ∈ K.map (·.1)
theorem WK.wn {K : Kd} (h : WK K) : WN K := by
  obtain ⟨o, ho, al, hal, pl, hpl, hn, hr⟩ := h.ex
  have d1 : ∀ al ∈ alts, ∀ l0 < 4, ∀ l1 < 4, ((al.drop 0).take l0 ++ (al.drop 3).take l1).Nodup := by decide
  have hA : (K.flatMap fun p => p.2.map (·.1)).Nodup ∧ (K.flatMap fun p => p.2.map (·.1)).length ≤ 6 := by
    rcases hpl with e | e
    · rw [e] at hn
      obtain ⟨p, rfl⟩ : ∃ p, K = [p] := by
        cases K with
        | nil => cases hn
        | cons p r => cases r with
          | nil => exact ⟨p, rfl⟩
          | cons q r => simp at hn
      obtain ⟨a1, a2, a3, _, _⟩ := hr 0 p rfl
      have := d1 al hal p.2.length (by omega) 0 (by omega)
      simp [a3] at this ⊢
      exact ⟨this, by have := congrArg List.length a3; simp at this; omega⟩
    · rw [e] at hn
      obtain ⟨p, q, rfl⟩ : ∃ p q, K = [p, q] := by
        cases K with
        | nil => cases hn
        | cons p r => cases r with
          | nil => simp at hn
          | cons q r => cases r with
            | nil => exact ⟨p, q, rfl⟩
            | cons q r => simp at hn
      obtain ⟨a1, a2, a3, _, _⟩ := hr 0 p rfl
      obtain ⟨b1, b2, b3, _, _⟩ := hr 1 q rfl
      have := d1 al hal p.2.length (by omega) q.2.length (by omega)
      simp [a3, b3] at this ⊢
      exact ⟨this, by omega⟩
  refine ⟨⟨o, ho, by rw [hn]; exact hpl⟩, hA.1, hA.2, ?_, ?_⟩
  · intro p hp
    obtain ⟨i, hi, e⟩ := List.getElem_of_mem hp
    exact (hr i p (by rw [List.getElem?_eq_getElem hi, e])).2.2.2.2
  · intro p hp q hq f hf
    obtain ⟨i, hi, e⟩ := List.getElem_of_mem hp
    have := ((hr i p (by rw [List.getElem?_eq_getElem hi, e])).2.2.2.1 q hq).2 f hf
    rw [hn]
    exact List.mem_cons.mp this
theorem WN.len {K : Kd} (h : WN K) : 1 ≤ K.length ∧ K.length ≤ 2 := by
  obtain ⟨o, _, e⟩ := h.pl
  rcases e with e | e
  · have := congrArg List.length e; simp at this; omega
  · have := congrArg List.length e; simp at this; omega
theorem WN.names {K : Kd} (h : WN K) : ([102] :: K.map (·.1)).Nodup ∧ numT ∉ K.map (·.1) := by
  have d : ∀ o ∈ owns, ([102] :: [o.1]).Nodup ∧ numT ∉ [o.1] ∧ ([102] :: [o.1, o.2]).Nodup ∧ numT ∉ [o.1, o.2] := by decide
  obtain ⟨o, ho, e⟩ := h.pl
  have := d o ho
  rcases e with e | e
  · rw [e]; exact ⟨this.1, this.2.1⟩
  · rw [e]; exact ⟨this.2.2.1, this.2.2.2⟩
theorem wk_ks {K : Kd} (h : WK K) (kas : List KA) (e : kas.map KA.kd = K) : KS kas := by
  have hw := h.wn
  have hk := h.kw
  refine ⟨?_, ?_, ?_, ?_, ⟨?_, ?_⟩, ?_, ?_⟩
  · intro a ha
    have : a.kd ∈ K := by rw [← e]; exact List.mem_map.mpr ⟨a, ha, rfl⟩
    exact ⟨⟨hk _ this⟩, hw.fst _ this⟩
  · rw [altsOf_kd, e]; exact hw.nodA
  · rw [nms_kd, e]; exact hw.names.1
  · rw [nms_kd, e]; exact hw.names.2
  · have := congrArg List.length e
    have := hw.len
    simp at *
    omega
  · rw [altsOf_kd, e]; have := hw.lenA; omega
  · intro e2
    rw [e2] at e
    have := hw.len
    rw [← e] at this
    simp at this
  · intro a ha r hr f hf
    have : a.kd ∈ K := by rw [← e]; exact List.mem_map.mpr ⟨a, ha, rfl⟩
    have := hw.fld _ this r.row (by simp [KA.kd]; exact ⟨r, hr, rfl⟩) f.1 (by simp [RA.row]; exact ⟨f.2, hf⟩)
    rw [nms_kd, e]
    exact this
end KG.Z

set_option linter.all false
set_option maxRecDepth 100000
/-! L13: sizes; what fits a kind. -/
namespace KG.Z
/-- data of some levels -/
def DV : Nat → Val → Prop
  | _, .none => True
  | _, .bool _ => True
  | _, .int _ => True
  | _, .str _ => True
  | 0, _ => False
  | n + 1, .tup xs => xs.length ≤ 10 ∧ ∀ x ∈ xs, DV n x
  | _, _ => False
/-- values of some levels -/
def GV : Nat → Val → Prop
  | _, .int _ => True
  | n + 1, .tup (.str _ :: ps) => ps.length ≤ 9 ∧ ∀ x ∈ ps, GV n x
  | _, _ => False
def szN : Nat → Val → Int
  | n + 1, .tup (_ :: ps) => 1 + (ps.map (szN n)).sum
  | _, _ => 1
theorem size_any (f : Nat) (F : Fn) (hF : F = ⟨1, 2, 0, [(.ret (.ite (.tru (.isT (.var 0) .int)) (.cst (.int 1)) (.bin false .add (.cst (.int 1)) (.bi false .sum [(.lc false (.nm 1) (.over (.sl false (.var 0) (some (.cst (.int 1))) none)) none (.call f [(.var 1)]))]))))]⟩) (hf : P.fn f = some F) (k : Nat) :
    ∀ (n : Nat) (v : Val), GV n v → ∀ st, callN P (k + n + 1) f [.v v] st = .ok (.v (.int (szN n v))) st
  | n, .int i, _, st => by
    subst hF
    rw [show [X.v (.int i)] = [Val.int i].map X.v from rfl, call0 hf rfl (by decide)]
    cases n <;> simp [start, szN]
  | 0, .tup (.str _ :: ps), h, _ => by simp [GV] at h
  | n + 1, .tup (.str s :: ps), h, st => by
    have ih := fun x hx S => size_any f F hF hf k n x (h.2 x hx) S
    have hl : ps.length ≤ LIM := LIM_le (by have := h.1; omega)
    subst hF
    rw [show k + (n + 1) + 1 = k + n + 1 + 1 from rfl, show [X.v (.tup (.str s :: ps))] = [Val.tup (.str s :: ps)].map X.v from rfl, call0 hf rfl (by decide)]
    have hlp := loop_emb (w := ⟨none, ps⟩) rfl (f := itemL (P.ctx (callN P (k + n + 1))) (.nm 1) none (.call f [(.var 1)]) [some (.v (.tup (.str s :: ps))), none]) id (fun x => Val.int (szN n x)) (st := []) (xs := ps) (by
      intro x hx
      simp [itemL, ih x hx])
    simp at hlp
    simp [start, szN, cut_1, hlp, hl]
  | n, .none, h, _ => by cases n <;> cases h
  | n, .bool _, h, _ => by cases n <;> cases h
  | n, .str _, h, _ => by cases n <;> cases h
  | n, .lst _, h, _ => by cases n <;> cases h
  | n, .dct _ _ _, h, _ => by cases n <;> cases h
  | n, .obj _ _ _, h, _ => by cases n <;> cases h
  | n, .tup [], h, _ => by cases n <;> cases h
  | n, .tup (.none :: _), h, _ => by cases n <;> cases h
  | n, .tup (.bool _ :: _), h, _ => by cases n <;> cases h
  | n, .tup (.int _ :: _), h, _ => by cases n <;> cases h
  | n, .tup (.tup _ :: _), h, _ => by cases n <;> cases h
  | n, .tup (.lst _ :: _), h, _ => by cases n <;> cases h
  | n, .tup (.dct _ _ _ :: _), h, _ => by cases n <;> cases h
  | n, .tup (.obj _ _ _ :: _), h, _ => by cases n <;> cases h
theorem size_ok (k n : Nat) (v : Val) (h : GV n v) (st : Store) : callN P (k + n + 1) 18 [.v v] st = .ok (.v (.int (szN n v))) st := size_any 18 f_size rfl rfl k n v h st
theorem lsize_ok (k n : Nat) (v : Val) (h : GV n v) (st : Store) : callN P (k + n + 1) 25 [.v v] st = .ok (.v (.int (szN n v))) st := size_any 25 f__law_size rfl rfl k n v h st
def isW : Val → Bool
  | .int i => decide (0 ≤ i)
  | _ => false
def rowsK (K : Kd) (kind : Tx) : List Row := ((K.find? fun p => decide (p.1 = kind)).map (·.2)).getD []
def fitN (K : Kd) : Nat → Tx → Val → Bool
  | 0, kind, v => if kind = numT then isW v else false
  | n + 1, kind, v => if kind = numT then isW v else match v with
    | .tup (.str s :: ps) => (match (rowsK K kind).find? fun q => decide (q.1 = s) with
      | some q => decide (q.2.length = ps.length) && (q.2.zip ps).all fun x => fitN K n x.1 x.2
      | none => false)
    | _ => false
theorem dget_find : ∀ (kas : List KA) (kind : Tx), kind ∈ nms kas → ∃ a ∈ kas, a.nm = kind ∧ dget ((nms kas).map .str) (kas.map kaV) (.str kind) = some (kaV a) ∧ rowsK (kas.map KA.kd) kind = a.kd.2
  | [], _, h => by cases h
  | a :: r, kind, h => by
    by_cases e : a.nm = kind
    · exact ⟨a, by simp, e, by simp [nms, dget, Val.beq, e], by simp [rowsK, KA.kd, e]⟩
    · have h2 : kind ∈ nms r := by
        rcases List.mem_cons.mp h with q | q
        · exact absurd q.symm e
        · exact q
      obtain ⟨b, hb, e1, e2, e3⟩ := dget_find r kind h2
      refine ⟨b, by simp [hb], e1, ?_, ?_⟩
      · simp [nms] at e2
        simp [nms, dget, Val.beq, e, e2]
      · rw [← e3]
        simp [rowsK, KA.kd, e]
theorem alternatives_ok (k : Nat) (kas : List KA) (h : KS kas) (ow : Val) (kind : Tx) (hk : kind ∈ nms kas) (st : Store) : callN P (k + 2) 74 [.v (pgV kas ow), .v (.str kind)] st = .ok (.v (.tup ((rowsK (kas.map KA.kd) kind).map plV))) st := by
  obtain ⟨a, ha, e1, e2, e3⟩ := dget_find kas kind hk
  rw [show [X.v (pgV kas ow), X.v (.str kind)] = [pgV kas ow, Val.str kind].map X.v from rfl, call0 (P := P) (f := 74) rfl rfl (by decide)]
  have hp := plain_ok k a (h.ko a ha).1
  have hm2 : ∀ st, methF (P.ctx (callN P (k + 1))) (.v (kaV a)) 35 st = some 35 := fun _ => rfl
  simp [f_Program_alternatives, start, pgV, flook_c, kbV, e2, hm2, hp, e3]
theorem rowsK_mem {K : Kd} {kind : Tx} {q : Row} (h : q ∈ rowsK K kind) : ∃ p ∈ K, q ∈ p.2 := by
  unfold rowsK at h
  cases e : K.find? (fun p => decide (p.1 = kind)) with
  | none => rw [e] at h; simp at h
  | some p =>
    rw [e] at h
    exact ⟨p, List.mem_of_find?_eq_some e, by simpa using h⟩
end KG.Z

set_option linter.all false
set_option maxRecDepth 100000
/-! L14: the law's own look at what fits; is_value; names of no kind. -/
namespace KG.Z
theorem rows_of_ok (k : Nat) (K : Kd) (hl : K.length ≤ 9) (kind : Tx) (hk : kind ∈ K.map (·.1)) (st : Store) : callN P (k + 1) 20 [.v (kindsV K), .v (.str kind)] st = .ok (.v (.lst ((rowsK K kind).map rowV))) st := by
  rw [show [X.v (kindsV K), X.v (.str kind)] = [kindsV K, Val.str kind].map X.v from rfl, call0 (P := P) (f := 20) rfl rfl (by decide)]
  have hlp := loop_embF (w := ⟨none, K.map kdV⟩) rfl (f := itemL (P.ctx (callN P k)) (.tp [2, 3]) (some (.cmp .eq (.var 2) (.var 1))) (.var 3) [some (.v (kindsV K)), some (.v (.str kind)), none, none]) kdV
    (fun p => if p.1 = kind then [Val.lst (p.2.map rowV)] else []) (st := []) (xs := K) (by
      intro p _
      by_cases e : p.1 = kind <;> simp [itemL, kdV, e])
  have h1 : ∀ K : Kd, (K.flatMap fun p => if p.1 = kind then [Val.lst (p.2.map rowV)] else []).length ≤ K.length := by
    intro K
    induction K with
    | nil => simp
    | cons p r ih =>
      by_cases e : p.1 = kind
      · rw [List.flatMap_cons, if_pos e]; simp only [List.length_append, List.length_cons, List.length_nil]; omega
      · rw [List.flatMap_cons, if_neg e]; simp only [List.nil_append, List.length_cons]; omega
  have h2 : ∀ K : Kd, kind ∈ K.map (·.1) → (K.flatMap fun p => if p.1 = kind then [Val.lst (p.2.map rowV)] else [])[0]? = some (.lst ((rowsK K kind).map rowV)) := by
    intro K
    induction K with
    | nil => intro h; cases h
    | cons p r ih =>
      intro h
      by_cases e : p.1 = kind
      · simp [e, rowsK]
      · have : kind ∈ r.map (·.1) := by
          rcases List.mem_cons.mp h with q | q
          · exact absurd q.symm e
          · exact q
        have := ih this
        rw [List.flatMap_cons, if_neg e, List.nil_append, this]
        simp [rowsK, e]
  have h3 := h1 K
  have h4 := h2 K hk
  generalize (K.flatMap fun p => if p.1 = kind then [Val.lst (p.2.map rowV)] else []) = L at hlp h3 h4
  have h5 : L.length ≤ LIM := LIM_le (by omega)
  simp [kindsV] at hlp
  simp [f__law_rows_of, start, kindsV, hlp, h5, h4]
end KG.Z

set_option linter.all false
set_option maxRecDepth 100000
/-! L15: drawn values, spoilt values. -/
namespace KG.Z
theorem DV.mono : ∀ (n : Nat) (v : Val), DV n v → DV (n + 1) v
  | 0, .tup xs, h => by cases h
  | n + 1, .tup xs, h => ⟨h.1, fun x hx => DV.mono n x (h.2 x hx)⟩
  | n, .lst _, h => by cases n <;> cases h
  | n, .dct _ _ _, h => by cases n <;> cases h
  | n, .obj _ _ _, h => by cases n <;> cases h
  | n, .none, _ => by cases n <;> trivial
  | n, .bool _, _ => by cases n <;> trivial
  | n, .int _, _ => by cases n <;> trivial
  | n, .str _, _ => by cases n <;> trivial
theorem DV.up {n m : Nat} {v : Val} (h : DV n v) (hm : n ≤ m) : DV m v := by
  obtain ⟨d, rfl⟩ := Nat.exists_eq_add_of_le hm
  clear hm
  induction d with
  | zero => exact h
  | succ d ih => exact DV.mono _ _ ih
theorem dv_str (n : Nat) (s : Tx) : DV n (.str s) := by cases n <;> trivial
theorem dv_int (n : Nat) (s : Int) : DV n (.int s) := by cases n <;> trivial
theorem GV.inv : ∀ {n : Nat} {v : Val}, GV n v → (∃ i, v = .int i) ∨ ∃ m s ps, n = m + 1 ∧ v = .tup (.str s :: ps) ∧ ps.length ≤ 9 ∧ ∀ x ∈ ps, GV m x
  | _, .int i, _ => .inl ⟨i, rfl⟩
  | 0, .tup (.str _ :: _), h => by simp [GV] at h
  | n + 1, .tup (.str s :: ps), h => .inr ⟨n, s, ps, rfl, rfl, h.1, h.2⟩
  | n, .none, h => by cases n <;> cases h
  | n, .bool _, h => by cases n <;> cases h
  | n, .str _, h => by cases n <;> cases h
  | n, .lst _, h => by cases n <;> cases h
  | n, .dct _ _ _, h => by cases n <;> cases h
  | n, .obj _ _ _, h => by cases n <;> cases h
  | n, .tup [], h => by cases n <;> cases h
  | n, .tup (.none :: _), h => by cases n <;> cases h
  | n, .tup (.bool _ :: _), h => by cases n <;> cases h
  | n, .tup (.int _ :: _), h => by cases n <;> cases h
  | n, .tup (.tup _ :: _), h => by cases n <;> cases h
  | n, .tup (.lst _ :: _), h => by cases n <;> cases h
  | n, .tup (.dct _ _ _ :: _), h => by cases n <;> cases h
  | n, .tup (.obj _ _ _ :: _), h => by cases n <;> cases h
theorem GV.dv : ∀ (n : Nat) (v : Val), GV n v → DV n v := by
  intro n
  induction n with
  | zero =>
    intro v h
    rcases h.inv with ⟨i, rfl⟩ | ⟨m, s, ps, e, _⟩
    · trivial
    · cases e
  | succ n ih =>
    intro v h
    rcases h.inv with ⟨i, rfl⟩ | ⟨m, s, ps, e, rfl, h1, h2⟩
    · trivial
    · cases e
      refine ⟨by simp; omega, fun x hx => ?_⟩
      rcases List.mem_cons.mp hx with e | e
      · rw [e]; exact dv_str n s
      · exact ih x (h2 x e)
/-- what is drawn for a kind -/
def QV (K : Kd) (n : Nat) (kind : Tx) (v : Val) : Prop := GV n v ∧ fitN K n kind v = true
theorem num_deep (k : Nat) (sc : List Int) (r : Rw) (K : Kd) (z : Int) (n : Nat) : ∃ (v : Val) (r' : Rw), QV K n numT v ∧ callN P (k + 2) 26 [.r 0, .v (kindsV K), .v (.str numT), .v (.int z)] [rowC sc r] = .ok (.v v) [rowC sc r'] := by
  have h0 := drw_0 sc r (m := 6) (by decide)
  have h6 := drw_m sc r (m := 6) (by decide)
  obtain ⟨i, hi, hx⟩ : ∃ i : Int, 0 ≤ i ∧ ixL [.int 0, .int 1, .int 2, .int 3, .int 7, .int 100000000000000000000] (drw sc r 6).1 = some (.int i) := by
    have : (drw sc r 6).1 = 0 ∨ (drw sc r 6).1 = 1 ∨ (drw sc r 6).1 = 2 ∨ (drw sc r 6).1 = 3 ∨ (drw sc r 6).1 = 4 ∨ (drw sc r 6).1 = 5 := by omega
    rcases this with h | h | h | h | h | h <;> rw [h] <;> exact ⟨_, by decide, rfl⟩
  refine ⟨.int i, (drw sc r 6).2, ⟨by cases n <;> trivial, by cases n <;> simp [fitN, isW, hi]⟩, ?_⟩
  rw [call1 (P := P) (f := 26) rfl rfl (by decide)]
  have l6 : 6 ≤ LIM := by decide
  simp [f__law_deep, start, l6, taken_eq, hx]
theorem deep_fields (C : Ctx) (sc : List Int) (K : Kd) (n : Nat) (kind nm : Tx) (rows fls : Val) (d d' : Int) (hd : d - 1 = d') (ws : List Val) : ∀ (fs : List Tx) (r : Rw), (∀ f ∈ fs, ∀ r, ∃ (v : Val) (r' : Rw), QV K n f v ∧ C.call 26 [.r 0, .v (kindsV K), .v (.str f), .v (.int d')] [rowC sc r] = .ok (.v v) [rowC sc r']) →
    ∃ (vs : List Val) (r' : Rw), vs.length = fs.length ∧ (∀ v ∈ vs, GV n v) ∧ (fs.zip vs).all (fun x => fitN K n x.1 x.2) = true ∧
      loopL ⟨none, ws⟩ (itemL C (.nm 7) none (.call 26 [(.var 0), (.var 1), (.var 7), (.bin false .sub (.var 3) (.cst (.int 1)))]) [some (.r 0), some (.v (kindsV K)), some (.v (.str kind)), some (.v (.int d)), some (.v rows), some (.v (.str nm)), some (.v fls), none]) (fs.map .str) [rowC sc r] = .ok vs [rowC sc r']
  | [], r, _ => ⟨[], r, rfl, by simp, by simp, by simp⟩
  | f :: fs, r, h => by
    obtain ⟨v, r1, h1, h2⟩ := h f (by simp) r
    obtain ⟨vs, r2, g1, g2, g3, g4⟩ := deep_fields C sc K n kind nm rows fls d d' hd ws fs r1 (fun g hg => h g (by simp [hg]))
    refine ⟨v :: vs, r2, by simp [g1], ?_, ?_, ?_⟩
    · intro x hx
      rcases List.mem_cons.mp hx with e | e
      · rw [e]; exact h1.1
      · exact g2 x e
    · simp only [List.zip_cons_cons, List.all_cons, h1.2, g3]; rfl
    · rw [List.map_cons, loop_cons, show itemL C (.nm 7) none (.call 26 [(.var 0), (.var 1), (.var 7), (.bin false .sub (.var 3) (.cst (.int 1)))]) [some (.r 0), some (.v (kindsV K)), some (.v (.str kind)), some (.v (.int d)), some (.v rows), some (.v (.str nm)), some (.v fls), none] (.str f) [rowC sc r] = .ok [v] [rowC sc r1] by
        simp [itemL, hd, h2], bind_ok, g4]
      rfl
theorem find_row : ∀ (rows : List Row) (q : Row), (rows.map (·.1)).Nodup → q ∈ rows → rows.find? (fun p => decide (p.1 = q.1)) = some q
  | p :: rows, q, hn, h => by
    rcases List.mem_cons.mp h with e | e
    · simp [e]
    · have hn' := List.nodup_cons.mp hn
      have : ¬ p.1 = q.1 := fun e2 => hn'.1 (List.mem_map.mpr ⟨q, e, e2.symm⟩)
      simp [this, find_row rows q hn'.2 e]
theorem rowsK_of {K : Kd} {kind : Tx} (hk : kind ∈ K.map (·.1)) : ∃ p ∈ K, p.1 = kind ∧ rowsK K kind = p.2 := by
  induction K with
  | nil => cases hk
  | cons p r ih =>
    by_cases e : p.1 = kind
    · exact ⟨p, by simp, e, by simp [rowsK, e]⟩
    · have h : kind ∈ r.map (·.1) := by
        rcases List.mem_cons.mp hk with q | q
        · exact absurd q.symm e
        · exact q
      obtain ⟨q, h1, h2, h3⟩ := ih h
      refine ⟨q, by simp [h1], h2, ?_⟩
      rw [← h3]
      simp [rowsK, e]
theorem nodup_sub {K : Kd} (h : (K.flatMap fun p => p.2.map (·.1)).Nodup) {p : Tx × List Row} (hp : p ∈ K) : (p.2.map (·.1)).Nodup := by
  induction K with
  | nil => cases hp
  | cons q r ih =>
    rw [List.flatMap_cons] at h
    have := List.nodup_append.mp h
    rcases List.mem_cons.mp hp with e | e
    · rw [e]; exact this.1
    · exact ih this.2.1 e
theorem deep_row (k : Nat) (sc : List Int) (r : Rw) (K : Kd) (hK : WK K) (kind : Tx) (hn : kind ≠ numT) (hk : kind ∈ K.map (·.1)) (d : Nat) (q : Row) (hq : q ∈ rowsK K kind) (r1 : Rw)
    (hix : evE (P.ctx (callN P (k + 2))) (.ix (.var 4) (.ite (.cmp .gt (.var 3) (.cst (.int 0))) (.call 19 [(.var 0), (.bi false .len [(.var 4)])]) (.cst (.int 0)))) [some (.r 0), some (.v (kindsV K)), some (.v (.str kind)), some (.v (.int d)), some (.v (.lst ((rowsK K kind).map rowV))), none, none, none] [rowC sc r] = .ok (.v (rowV q)) [rowC sc r1])
    (H : ∀ f ∈ q.2, ∀ r, ∃ (v : Val) (r' : Rw), QV K d f v ∧ callN P (k + 2) 26 [.r 0, .v (kindsV K), .v (.str f), .v (.int ((d : Int) - 1))] [rowC sc r] = .ok (.v v) [rowC sc r']) :
    ∃ (v : Val) (r' : Rw), QV K (d + 1) kind v ∧ callN P (k + 3) 26 [.r 0, .v (kindsV K), .v (.str kind), .v (.int d)] [rowC sc r] = .ok (.v v) [rowC sc r'] := by
  obtain ⟨p, hp, e1, e2⟩ := rowsK_of hk
  have hlen : K.length ≤ 9 := by have := hK.wn.len; omega
  have hql : q.2.length ≤ 2 := ((hK.kw p hp).fl q (by rw [← e2]; exact hq)).1
  obtain ⟨vs, r2, g1, g2, g3, g4⟩ := deep_fields (P.ctx (callN P (k + 2))) sc K d kind q.1 (.lst ((rowsK K kind).map rowV)) (.lst (q.2.map .str)) d ((d : Int) - 1) rfl (q.2.map .str) q.2 r1 H
  have hnd : ((rowsK K kind).map (·.1)).Nodup := by rw [e2]; exact nodup_sub hK.wn.nodA hp
  refine ⟨.tup (.str q.1 :: vs), r2, ⟨⟨by omega, g2⟩, ?_⟩, ?_⟩
  · simp [fitN, hn, find_row _ q hnd hq, g1]
    simpa using g3
  · rw [call1 (P := P) (f := 26) rfl rfl (by decide)]
    have l1 : 1 ≤ LIM := by decide
    have h2 : vs.length ≤ LIM := LIM_le (by omega)
    have h3 : 1 + vs.length ≤ LIM := LIM_le (by omega)
    have hro := rows_of_ok (k + 1) K hlen kind hk
    simp [-e_ix, rowV] at hix
    simp [f__law_deep, start, hn, hro, hix, rowV, g4, l1, h2, h3, -e_ix]
theorem deep_ok (k : Nat) (sc : List Int) (K : Kd) (hK : WK K) : ∀ (d : Nat) (kind : Tx) (r : Rw), (kind = numT ∨ kind ∈ K.map (·.1)) →
    ∃ (v : Val) (r' : Rw), QV K (d + 1) kind v ∧ callN P (k + d + 3) 26 [.r 0, .v (kindsV K), .v (.str kind), .v (.int d)] [rowC sc r] = .ok (.v v) [rowC sc r'] := by
  intro d
  induction d with
  | zero =>
    intro kind r hk
    by_cases hn : kind = numT
    · subst hn
      exact num_deep (k + 1) sc r K _ _
    · have hk2 : kind ∈ K.map (·.1) := by
        rcases hk with h | h
        · exact absurd h hn
        · exact h
      obtain ⟨p, hp, e1, e2⟩ := rowsK_of hk2
      obtain ⟨q, qs, e3, e4⟩ := hK.wn.fst p hp
      refine deep_row k sc r K hK kind hn hk2 0 q (by rw [e2, e3]; simp) r ?_ ?_
      · simp [e2, e3]
      · intro f hf r
        have : f = numT := by
          rcases e4 with e | e
          · rw [e] at hf; simpa using hf
          · rw [e] at hf; cases hf
        subst this
        exact num_deep k sc r K _ _
  | succ d ih =>
    intro kind r hk
    by_cases hn : kind = numT
    · subst hn
      exact num_deep (k + d + 1 + 1) sc r K _ _
    · have hk2 : kind ∈ K.map (·.1) := by
        rcases hk with h | h
        · exact absurd h hn
        · exact h
      obtain ⟨p, hp, e1, e2⟩ := rowsK_of hk2
      have hl := (hK.kw p hp).rows
      have m1 : (0 : Int) < (rowsK K kind).length := by rw [e2]; omega
      have m2 : ((rowsK K kind).length : Int) < 1073741824 := by rw [e2]; omega
      have d0 := drw_0 sc r m1
      have d1 := drw_m sc r m1
      obtain ⟨rv, hrv, hx⟩ := ixL_in (xs := (rowsK K kind).map rowV) d0 (by simpa using d1)
      obtain ⟨q, hmem, rfl⟩ := List.mem_map.mp hrv
      have ht := taken_eq (k + d + 2) sc r (rowsK K kind).length [] m1 m2 okR_nil
      have := deep_row (k + d + 1) sc r K hK kind hn hk2 (d + 1) q hmem (drw sc r (rowsK K kind).length).2 ?_ ?_
      · exact this
      · have hp0 : (0 : Int) < (d : Int) + 1 := by omega
        simp [hp0]
        simp [ht, hx]
      · intro f hf r
        have hfk : f = numT ∨ f ∈ K.map (·.1) := hK.wn.fld p hp _ (by rw [← e2]; exact hmem) f hf
        have := ih f r hfk
        rw [show (((d + 1 : Nat) : Int) - 1) = (d : Int) by omega]
        exact this
theorem cut_to {α : Type} (xs : List α) (p : Nat) {i : Int} (hi : i = p) : cut xs none (some i) = xs.take p := by
  subst hi
  have h1 : slAt xs.length 0 none = 0 := rfl
  have h2 : slAt xs.length xs.length (some (p : Int)) = min p xs.length := by
    simp only [slAt]
    rw [if_neg (by omega)]
    omega
  unfold cut
  rw [h1, h2]
  rcases Nat.le_total p xs.length with h | h
  · rw [Nat.min_eq_left h]; simp
  · rw [Nat.min_eq_right h, List.take_of_length_le h]; simp
theorem cut_from {α : Type} (xs : List α) (p : Nat) {i : Int} (hi : i = p) (hp : p ≤ xs.length) : cut xs (some i) none = xs.drop p := by
  subst hi
  have h1 : slAt xs.length 0 (some (p : Int)) = p := by
    simp only [slAt]
    rw [if_neg (by omega)]
    omega
  have h2 : slAt xs.length xs.length none = xs.length := rfl
  unfold cut
  rw [h1, h2]
  rw [List.take_of_length_le (by simp)]
end KG.Z

set_option linter.all false
set_option maxRecDepth 100000
/-! L16: what a value is compared by. -/
namespace KG.Z
/-- a value of a kind, of some levels -/
def TV (K : Kd) (n : Nat) (kind : Tx) (v : Val) : Prop := (kind = numT ∨ kind ∈ K.map (·.1)) ∧ GV n v ∧ fitN K n kind v = true
theorem tv_inv {K : Kd} (hK : WK K) {n : Nat} {kind : Tx} {v : Val} (h : TV K n kind v) : (kind = numT ∧ ∃ i, v = .int i) ∨
    (kind ≠ numT ∧ kind ∈ K.map (·.1) ∧ ∃ m s ps q, n = m + 1 ∧ v = .tup (.str s :: ps) ∧ q ∈ rowsK K kind ∧ (rowsK K kind).find? (fun p => decide (p.1 = s)) = some q ∧ q.1 = s ∧ q.2.length = ps.length ∧ q.2.length ≤ 2 ∧ ∀ x ∈ q.2.zip ps, TV K m x.1 x.2) := by
  obtain ⟨h1, h2, h3⟩ := h
  by_cases e : kind = numT
  · refine .inl ⟨e, ?_⟩
    subst e
    rcases h2.inv with ⟨i, rfl⟩ | ⟨m, s, ps, rfl, rfl, _⟩
    · exact ⟨i, rfl⟩
    · simp [fitN, isW] at h3
  · have hk : kind ∈ K.map (·.1) := by
      rcases h1 with h | h
      · exact absurd h e
      · exact h
    refine .inr ⟨e, hk, ?_⟩
    rcases h2.inv with ⟨i, rfl⟩ | ⟨m, s, ps, rfl, rfl, g1, g2⟩
    · cases n <;> simp [fitN, e] at h3
    · cases hf : (rowsK K kind).find? (fun p => decide (p.1 = s)) with
      | none => simp [fitN, e, hf] at h3
      | some q =>
        simp [fitN, e, hf] at h3
        have hq := List.mem_of_find?_eq_some hf
        obtain ⟨p, hp, hqp⟩ := rowsK_mem hq
        refine ⟨m, s, ps, q, rfl, rfl, hq, hf, by simpa using List.find?_some hf, h3.1, ((hK.kw p hp).fl q hqp).1, ?_⟩
        intro x hx
        have hx2 := List.of_mem_zip (a := x.1) (b := x.2) hx
        exact ⟨hK.wn.fld p hp q hqp x.1 hx2.1, g2 _ hx2.2, h3.2 x.1 x.2 hx⟩
def posN (rows : List Row) (s : Tx) : Nat := (posT s (rows.map (·.1)) 0).getD 0
def fldN (rows : List Row) (s : Tx) : List Tx := ((rows.find? fun p => decide (p.1 = s)).map (·.2)).getD []
def mkN (K : Kd) : Nat → Tx → Val → List Int
  | _, _, .int i => [i]
  | n + 1, kind, .tup (.str s :: ps) => (posN (rowsK K kind) s : Int) :: ((fldN (rowsK K kind) s).zip ps).flatMap fun x => mkN K n x.1 x.2
  | _, _, _ => []
theorem mk_len {K : Kd} (hK : WK K) : ∀ (n : Nat) (kind : Tx) (v : Val), TV K n kind v → (mkN K n kind v).length + 1 ≤ 2 ^ (n + 1) := by
  intro n
  induction n with
  | zero =>
    intro kind v h
    rcases tv_inv hK h with ⟨_, i, rfl⟩ | ⟨_, _, m, s, ps, q, e, _⟩
    · simp [mkN]
    · cases e
  | succ n ih =>
    intro kind v h
    rcases tv_inv hK h with ⟨_, i, rfl⟩ | ⟨_, _, m, s, ps, q, e, rfl, hq, hf, _, hl, hl2, hx⟩
    · have : 2 ^ (n + 1) ≥ 1 := Nat.one_le_two_pow
      simp [mkN, Nat.pow_succ]
      omega
    · cases e
      have hfl : fldN (rowsK K kind) s = q.2 := by simp [fldN, hf]
      have hp : 2 ^ (n + 1 + 1) = 2 ^ (n + 1) + 2 ^ (n + 1) := by rw [Nat.pow_succ]; omega
      have h1 : 2 ^ (n + 1) ≥ 1 := Nat.one_le_two_pow
      simp only [mkN, hfl]
      obtain ⟨nm, fs⟩ := q
      simp only at hl hl2 hx
      match fs, ps with
      | [], [] => simp; omega
      | [f], [p] =>
        have := ih f p (hx (f, p) (by simp))
        simp
        omega
      | [f, g], [p, r] =>
        have a1 := ih f p (hx (f, p) (by simp))
        have a2 := ih g r (hx (g, r) (by simp))
        simp
        omega
      | _ :: _ :: _ :: _, _ => simp at hl2
      | [], _ :: _ => simp at hl
      | [_], [] => simp at hl
      | [_], _ :: _ :: _ => simp at hl
      | [_, _], [] => simp at hl
      | [_, _], [_] => simp at hl
      | [_, _], _ :: _ :: _ :: _ => simp at hl
theorem own_get : ∀ (ps : List (Tx × Val)) (p : Tx × Val), (ps.map (·.1)).Nodup → p ∈ ps → dget ((ps.map (·.1)).map .str) (ps.map (·.2)) (.str p.1) = some p.2
  | [], _, _, h => by cases h
  | a :: r, p, hn, h => by
    have hn' := List.nodup_cons.mp hn
    rcases List.mem_cons.mp h with e | e
    · subst e
      simp [dget, Val.beq]
    · have : ¬ a.1 = p.1 := fun e2 => hn'.1 (List.mem_map.mpr ⟨p, e, e2.symm⟩)
      have ih := own_get r p hn'.2 e
      simp at ih
      simp [dget, Val.beq, this, ih]
theorem find_0 (alt : Tx) : ∀ (rows : List Row) (q : Row), rows.find? (fun p => decide (p.1 = alt)) = some q → (rows.flatMap fun p => if p.1 = alt then [Val.tup (p.2.map .str)] else [])[0]? = some (.tup (q.2.map .str))
  | [], q, h => by cases h
  | p :: r, q, h => by
    by_cases e : p.1 = alt
    · simp [e] at h
      subst h
      simp [e]
    · simp [e] at h
      have := find_0 alt r q h
      rw [List.flatMap_cons, if_neg e, List.nil_append, this]
theorem fields_ok (k : Nat) (kas : List KA) (hs : KS kas) (a : KA) (ha : a ∈ kas) (q : Row) (hq : a.kd.2.find? (fun p => decide (p.1 = q.1)) = some q) (st : Store) : callN P (k + 2) 80 [.v (pgV kas (ownV kas)), .v (.str q.1)] st = .ok (.v (.tup (q.2.map .str))) st := by
  have hqm := List.mem_of_find?_eq_some hq
  have h1 := own_get (ownPs kas) (q.1, .str a.nm) (by rw [ownPs_keys]; exact hs.nodA) (by
    simp only [ownPs, List.mem_flatMap, List.mem_map]
    exact ⟨a, ha, q, hqm, rfl⟩)
  rw [ownPs_keys] at h1
  have hnm : a.nm ∈ nms kas := List.mem_map.mpr ⟨a, ha, rfl⟩
  obtain ⟨b, hb, e1, e2, e3⟩ := dget_find kas a.nm hnm
  have hba : b = a := by
    have hnd := (List.nodup_cons.mp hs.nod).2
    have : ∀ l : List KA, (l.map (·.nm)).Nodup → a ∈ l → b ∈ l → b = a := by
      intro l
      induction l with
      | nil => intro _ h; cases h
      | cons c r ih =>
        intro hn h1 h2
        have hn' := List.nodup_cons.mp hn
        rcases List.mem_cons.mp h1 with x | x <;> rcases List.mem_cons.mp h2 with y | y
        · rw [x, y]
        · exact absurd (List.mem_map.mpr ⟨b, y, by rw [e1, x]⟩) hn'.1
        · exact absurd (List.mem_map.mpr ⟨a, x, by rw [← e1, y]⟩) hn'.1
        · exact ih hn'.2 x y
    exact this kas hnd ha hb
  subst hba
  have hp := plain_ok k b (hs.ko b ha).1
  have hm2 : ∀ st, methF (P.ctx (callN P (k + 1))) (.v (kaV b)) 35 st = some 35 := fun _ => rfl
  have hlp := loop_embF (w := ⟨none, b.kd.2.map plV⟩) rfl (f := itemL (P.ctx (callN P (k + 1))) (.tp [3, 4]) (some (.cmp .eq (.var 3) (.var 1))) (.var 4) [some (.v (pgV kas (ownV kas))), some (.v (.str q.1)), some (.v (.tup (b.kd.2.map plV))), none, none]) plV
    (fun p => if p.1 = q.1 then [Val.tup (p.2.map .str)] else []) (st := []) (xs := b.kd.2) (by
      intro p _
      by_cases e : p.1 = q.1 <;> simp [itemL, plV, e])
  have h4 := find_0 q.1 b.kd.2 q hq
  have h5 : (b.kd.2.flatMap fun p => if p.1 = q.1 then [Val.tup (p.2.map .str)] else []).length ≤ b.kd.2.length := by
    generalize b.kd.2 = L
    induction L with
    | nil => simp
    | cons p r ih =>
      by_cases e : p.1 = q.1
      · rw [List.flatMap_cons, if_pos e]; simp only [List.length_append, List.length_cons, List.length_nil]; omega
      · rw [List.flatMap_cons, if_neg e]; simp only [List.nil_append, List.length_cons]; omega
  have h6 := hs.rowsL ha
  generalize (b.kd.2.flatMap fun p => if p.1 = q.1 then [Val.tup (p.2.map .str)] else []) = L at hlp h4 h5
  have h7 : L.length ≤ LIM := LIM_le (by omega)
  rw [show [X.v (pgV kas (ownV kas)), X.v (.str q.1)] = [pgV kas (ownV kas), Val.str q.1].map X.v from rfl, call0 (P := P) (f := 80) rfl rfl (by decide)]
  simp [pgV] at hlp
  simp only at h1
  simp [f_fields_of, start, pgV, flook_c, kbV, ownV, h1, e2, hm2, hp]
  simp [ownV, kbV] at hlp
  simp [hlp, h7, h4]
@[simp] theorem ty_index' (xs st) : bmTy .index (.v (.lst xs)) st = true := rfl
def ixR (s : Tx) (o : Option (List Tx)) (st : Store) : R X := match o with
    | some xs => (match posT s xs 0 with
      | some j => .ok (.v (.int j)) st
      | none => .bad)
    | none => .bad
@[simp] theorem bm_index' (xs s st) : bmV .index (.v (.lst xs)) [.v (.str s)] st = ixR s (isStrs xs) st := rfl
theorem posT_some (s : Tx) : ∀ (l : List Tx) (k : Nat), s ∈ l → ∃ j, posT s l k = some j
  | [], _, h => by cases h
  | a :: r, k, h => by
    by_cases e : a = s
    · exact ⟨k, by simp [posT, e]⟩
    · obtain ⟨j, hj⟩ := posT_some s r (k + 1) (by
        rcases List.mem_cons.mp h with x | x
        · exact absurd x.symm e
        · exact x)
      exact ⟨j, by simp [posT, e, hj]⟩
theorem LIM_2 {n m : Nat} (h : n + 1 ≤ 2 ^ (m + 1)) (hm : m ≤ 9) : n ≤ 1023 := by
  have : 2 ^ (m + 1) ≤ 2 ^ 10 := Nat.pow_le_pow_right (by omega) (by omega)
  omega
theorem LIM_k {n : Nat} (h : n ≤ 100000) : n ≤ LIM := by unfold LIM; omega
theorem len2 {α β : Type} {fs : List α} {ps : List β} (h : fs.length = ps.length) (h2 : fs.length ≤ 2) : (fs = [] ∧ ps = []) ∨ (∃ f p, fs = [f] ∧ ps = [p]) ∨ ∃ f g p r, fs = [f, g] ∧ ps = [p, r] := by
  match fs, ps with
  | [], [] => exact .inl ⟨rfl, rfl⟩
  | [f], [p] => exact .inr (.inl ⟨f, p, rfl, rfl⟩)
  | [f, g], [p, r] => exact .inr (.inr ⟨f, g, p, r, rfl, rfl⟩)
  | _ :: _ :: _ :: _, _ => simp at h2
  | [], _ :: _ => simp at h
  | [_], [] => simp at h
  | [_], _ :: _ :: _ => simp at h
  | [_, _], [] => simp at h
  | [_, _], [_] => simp at h
  | [_, _], _ :: _ :: _ :: _ => simp at h
theorem marks_ok (k : Nat) (kas : List KA) (hs : KS kas) (K : Kd) (hK : WK K) (hkd : kas.map KA.kd = K) : ∀ (n : Nat), n ≤ 9 → ∀ (kind : Tx) (v : Val), TV K n kind v → ∀ st, callN P (k + n + 4) 81 [.v (pgV kas (ownV kas)), .v (.str kind), .v v] st = .ok (.v (.lst ((mkN K n kind v).map .int))) st := by
  intro n
  induction n with
  | zero =>
    intro _ kind v h st
    have l1 : 1 ≤ LIM := by decide
    rcases tv_inv hK h with ⟨rfl, i, rfl⟩ | ⟨_, _, m, s, ps, q, e, _⟩
    · rw [show k + 0 + 4 = k + 3 + 1 from rfl, show [X.v (pgV kas (ownV kas)), X.v (.str numT), X.v (.int i)] = [pgV kas (ownV kas), Val.str numT, .int i].map X.v from rfl, call0 (P := P) (f := 81) rfl rfl (by decide)]
      simp [f_marks_of, start, g_num, mkN, l1]
    · cases e
  | succ n ih =>
    intro hn kind v h st
    have l1 : 1 ≤ LIM := by decide
    rcases tv_inv hK h with ⟨rfl, i, rfl⟩ | ⟨hne, hk, m, s, ps, q, e, rfl, hq, hf, hqs, hl, hl2, hx⟩
    · rw [show k + (n + 1) + 4 = k + n + 4 + 1 from rfl, show [X.v (pgV kas (ownV kas)), X.v (.str numT), X.v (.int i)] = [pgV kas (ownV kas), Val.str numT, .int i].map X.v from rfl, call0 (P := P) (f := 81) rfl rfl (by decide)]
      simp [f_marks_of, start, g_num, mkN, l1]
    · cases e
      have hkn : kind ∈ nms kas := by rw [nms_kd, hkd]; exact hk
      obtain ⟨a, ha, e1, e2, e3⟩ := dget_find kas kind hkn
      rw [hkd] at e3
      have hf' : a.kd.2.find? (fun p => decide (p.1 = q.1)) = some q := by rw [← e3, hqs]; exact hf
      have h80 : ∀ st, callN P (k + n + 4) 80 [.v (pgV kas (ownV kas)), .v (.str s)] st = .ok (.v (.tup (q.2.map .str))) st := by
        have := fields_ok (k + n + 2) kas hs a ha q hf'
        rw [hqs] at this
        exact this
      have h74 : ∀ st, callN P (k + n + 4) 74 [.v (pgV kas (ownV kas)), .v (.str kind)] st = .ok (.v (.tup ((rowsK K kind).map plV))) st := by
        have := alternatives_ok (k + n + 2) kas hs (ownV kas) kind hkn
        rw [hkd] at this
        exact this
      have hm : ∀ st, methF (P.ctx (callN P (k + n + 4))) (.v (pgV kas (ownV kas))) 51 st = some 74 := fun _ => rfl
      have hlp := loop_emb (w := ⟨none, (rowsK K kind).map plV⟩) rfl (f := itemL (P.ctx (callN P (k + n + 4))) (.tp [7, 8]) none (.var 7) [some (.v (pgV kas (ownV kas))), some (.v (.str kind)), some (.v (.tup (.str s :: ps))), none, none, none, none, none, none]) plV
        (fun p => Val.str p.1) (st := []) (xs := rowsK K kind) (by intro p _; simp [itemL, plV])
      obtain ⟨j, hj⟩ := posT_some s ((rowsK K kind).map (·.1)) 0 (List.mem_map.mpr ⟨q, hq, hqs⟩)
      have hp : posN (rowsK K kind) s = j := by simp [posN, hj]
      have hfl : fldN (rowsK K kind) s = q.2 := by simp [fldN, hf]
      have hrl : (rowsK K kind).length ≤ LIM := by
        obtain ⟨p, hp, _, e4⟩ := rowsK_of hk
        have := (hK.kw p hp).rows.2
        rw [e4]
        exact LIM_le (by omega)
      rw [show k + (n + 1) + 4 = k + n + 4 + 1 from rfl, show [X.v (pgV kas (ownV kas)), X.v (.str kind), X.v (.tup (.str s :: ps))] = [pgV kas (ownV kas), Val.str kind, .tup (.str s :: ps)].map X.v from rfl, call0 (P := P) (f := 81) rfl rfl (by decide)]
      generalize pgV kas (ownV kas) = pg at *
      have hz : zipV (q.2.map .str) ps = (q.2.zip ps).map fun p => .tup [.str p.1, p.2] := by
        simp [zipV, List.zip_map_left, Function.comp_def]
      have hj' : ixR s (some ((rowsK K kind).map (·.1))) [] = .ok (.v (.int j)) [] := by simp [ixR, hj]
      obtain ⟨nm, fs⟩ := q
      simp only at hl hl2 hx hqs hz h80 hfl
      simp only [mkN, hfl, hp]
      rcases len2 hl hl2 with ⟨rfl, rfl⟩ | ⟨f, p, rfl, rfl⟩ | ⟨f, g, p, r, rfl, rfl⟩
      · simp [f_marks_of, start, g_num, hne, hm, h74, hlp, hrl, Function.comp_def, hj', l1, h80, zipV, cut_1]
      · have t1 := hx (f, p) (by simp)
        have c1 := ih (by omega) f p t1
        have b1 := LIM_2 (mk_len hK n f p t1) (by omega)
        have b2 : (mkN K n f p).length + 1 ≤ LIM := LIM_k (by omega)
        simp [f_marks_of, start, g_num, hne, hm, h74, hlp, hrl, Function.comp_def, hj', l1, h80, zipV, cut_1, for_cons, turn, f_marks_of_b1, c1, b2]
      · have t1 := hx (f, p) (by simp)
        have c1 := ih (by omega) f p t1
        have b1 := LIM_2 (mk_len hK n f p t1) (by omega)
        have b2 : (mkN K n f p).length + 1 ≤ LIM := LIM_k (by omega)
        have t2 := hx (g, r) (by simp)
        have c2 := ih (by omega) g r t2
        have b3 := LIM_2 (mk_len hK n g r t2) (by omega)
        have b4 : (mkN K n f p).length + (mkN K n g r).length + 1 ≤ LIM := LIM_k (by omega)
        simp [f_marks_of, start, g_num, hne, hm, h74, hlp, hrl, Function.comp_def, hj', l1, h80, zipV, cut_1, for_cons, turn, f_marks_of_b1, c1, b2, c2, b4]
end KG.Z

set_option linter.all false
set_option maxRecDepth 100000
/-! L17: the law's own marks; keys. -/
namespace KG.Z
theorem pos_find (s : Tx) : ∀ (rows : List Row) (k j : Nat), posT s (rows.map (·.1)) k = some j → ∃ i, j = k + i ∧ rows[i]? = rows.find? (fun p => decide (p.1 = s))
  | [], _, _, h => by cases h
  | a :: r, k, j, h => by
    by_cases e : a.1 = s
    · simp [posT, e] at h
      exact ⟨0, by omega, by simp [e]⟩
    · simp [posT, e] at h
      obtain ⟨i, h1, h2⟩ := pos_find s r (k + 1) j h
      exact ⟨i + 1, by omega, by simp [e, h2]⟩
theorem place_ok (C : Ctx) (rows : List Row) (h1 : 1 ≤ rows.length) (h3 : rows.length ≤ 3) (s : Tx) (ps : List Val) (j : Nat) (hj : posT s (rows.map (·.1)) 0 = some j) (e0 e1 e4 e5 e6 : Option X) :
    evE C (.ix (.lc false (.nm 6) (.rng1 (.bi false .len [(.var 3)])) (some (.cmp .eq (.ix (.ix (.var 3) (.var 6)) (.cst (.int 0))) (.ix (.var 2) (.cst (.int 0))))) (.var 6)) (.cst (.int 0)))
      [e0, e1, some (.v (.tup (.str s :: ps))), some (.v (.lst (rows.map rowV))), e4, e5, e6] [] = .ok (.v (.int j)) [] := by
  have l0 : 0 ≤ LIM := by decide
  have l1 : 1 ≤ LIM := by decide
  have l2 : 2 ≤ LIM := by decide
  have l3 : 3 ≤ LIM := by decide
  match rows with
  | [] => simp at h1
  | [a] =>
    by_cases e : a.1 = s
    · simp [posT, e] at hj
      simp [loop_cons, itemL, rowV, e, l1, ← hj]
    · simp [posT, e] at hj
  | [a, b] =>
    by_cases e : a.1 = s
    · simp [posT, e] at hj
      by_cases e2 : b.1 = s <;> simp [loop_cons, itemL, rowV, e, e2, l1, l2, ← hj]
    · by_cases e2 : b.1 = s
      · simp [posT, e, e2] at hj
        simp [loop_cons, itemL, rowV, e, e2, l1, l2, ← hj]
      · simp [posT, e, e2] at hj
  | [a, b, c] =>
    by_cases e : a.1 = s
    · simp [posT, e] at hj
      by_cases e2 : b.1 = s <;> by_cases e3 : c.1 = s <;> simp [loop_cons, itemL, rowV, e, e2, e3, l1, l2, l3, ← hj]
    · by_cases e2 : b.1 = s
      · simp [posT, e, e2] at hj
        by_cases e3 : c.1 = s <;> simp [loop_cons, itemL, rowV, e, e2, e3, l1, l2, ← hj]
      · by_cases e3 : c.1 = s
        · simp [posT, e, e2, e3] at hj
          simp [loop_cons, itemL, rowV, e, e2, e3, l1, l2, ← hj]
        · simp [posT, e, e2, e3] at hj
  | _ :: _ :: _ :: _ :: _ => simp at h3
theorem lmarks_ok (k : Nat) (K : Kd) (hK : WK K) : ∀ (n : Nat), n ≤ 9 → ∀ (kind : Tx) (v : Val), TV K n kind v → ∀ st, callN P (k + n + 2) 23 [.v (kindsV K), .v (.str kind), .v v] st = .ok (.v (.lst ((mkN K n kind v).map .int))) st := by
  have l1 : 1 ≤ LIM := by decide
  intro n
  induction n with
  | zero =>
    intro _ kind v h st
    rcases tv_inv hK h with ⟨rfl, i, rfl⟩ | ⟨_, _, m, s, ps, q, e, _⟩
    · rw [show k + 0 + 2 = k + 1 + 1 from rfl, show [X.v (kindsV K), X.v (.str numT), X.v (.int i)] = [kindsV K, Val.str numT, .int i].map X.v from rfl, call0 (P := P) (f := 23) rfl rfl (by decide)]
      simp [f__law_marks, start, mkN, l1]
    · cases e
  | succ n ih =>
    intro hn kind v h st
    rcases tv_inv hK h with ⟨rfl, i, rfl⟩ | ⟨hne, hk, m, s, ps, q, e, rfl, hq, hf, hqs, hl, hl2, hx⟩
    · rw [show k + (n + 1) + 2 = k + n + 2 + 1 from rfl, show [X.v (kindsV K), X.v (.str numT), X.v (.int i)] = [kindsV K, Val.str numT, .int i].map X.v from rfl, call0 (P := P) (f := 23) rfl rfl (by decide)]
      simp [f__law_marks, start, mkN, l1]
    · cases e
      have hlen : K.length ≤ 9 := by have := hK.wn.len; omega
      have h20 : ∀ st, callN P (k + n + 2) 20 [.v (kindsV K), .v (.str kind)] st = .ok (.v (.lst ((rowsK K kind).map rowV))) st := rows_of_ok (k + n + 1) K hlen kind hk
      obtain ⟨pk, hpk, _, e4⟩ := rowsK_of hk
      have hrl := (hK.kw pk hpk).rows
      rw [← e4] at hrl
      obtain ⟨j, hj⟩ := posT_some s ((rowsK K kind).map (·.1)) 0 (List.mem_map.mpr ⟨q, hq, hqs⟩)
      have hp : posN (rowsK K kind) s = j := by simp [posN, hj]
      have hfl : fldN (rowsK K kind) s = q.2 := by simp [fldN, hf]
      obtain ⟨i, hi, hri⟩ := pos_find s (rowsK K kind) 0 j hj
      have hij : i = j := by omega
      rw [hij, hf] at hri
      have hix : ixL ((rowsK K kind).map rowV) (j : Int) = some (rowV q) := by rw [ixL_nat]; simp [hri]
      have hpl := place_ok (P.ctx (callN P (k + n + 2))) (rowsK K kind) hrl.1 hrl.2 s ps j hj (some (.v (kindsV K))) (some (.v (.str kind))) none none none
      rw [show k + (n + 1) + 2 = k + n + 2 + 1 from rfl, show [X.v (kindsV K), X.v (.str kind), X.v (.tup (.str s :: ps))] = [kindsV K, Val.str kind, .tup (.str s :: ps)].map X.v from rfl, call0 (P := P) (f := 23) rfl rfl (by decide)]
      obtain ⟨nm, fs⟩ := q
      simp only at hl hl2 hx hqs hfl
      simp only [mkN, hfl, hp]
      simp only [rowV] at hix
      rcases len2 hl hl2 with ⟨rfl, rfl⟩ | ⟨f, p, rfl, rfl⟩ | ⟨f, g, p, r, rfl, rfl⟩
      · simp [f__law_marks, start, hne, h20, ↓hpl, l1, hix]
      · have t1 := hx (f, p) (by simp)
        have c1 := ih (by omega) f p t1
        have b1 := LIM_2 (mk_len hK n f p t1) (by omega)
        have b2 : (mkN K n f p).length + 1 ≤ LIM := LIM_k (by omega)
        simp [f__law_marks, start, hne, h20, ↓hpl, l1, hix, for_cons, turn, f__law_marks_b1, c1, b2]
      · have t1 := hx (f, p) (by simp)
        have c1 := ih (by omega) f p t1
        have b1 := LIM_2 (mk_len hK n f p t1) (by omega)
        have b2 : (mkN K n f p).length + 1 ≤ LIM := LIM_k (by omega)
        have t2 := hx (g, r) (by simp)
        have c2 := ih (by omega) g r t2
        have b3 := LIM_2 (mk_len hK n g r t2) (by omega)
        have b4 : (mkN K n f p).length + (mkN K n g r).length + 1 ≤ LIM := LIM_k (by omega)
        simp [f__law_marks, start, hne, h20, ↓hpl, l1, hix, for_cons, turn, f__law_marks_b1, c1, b2, c2, b4]
/-- what orders values of some kinds -/
def keyN (K : Kd) (n : Nat) (fs : List Tx) (vs : List Val) : List Int := (vs.map (szN n)).sum :: (fs.zip vs).flatMap fun x => mkN K n x.1 x.2
/-- one to three values of kinds -/
structure TVs (K : Kd) (n : Nat) (fs : List Tx) (vs : List Val) : Prop where
  len : fs.length = vs.length
  n1 : 1 ≤ fs.length
  n3 : fs.length ≤ 3
  tv : ∀ x ∈ fs.zip vs, TV K n x.1 x.2
theorem len3 {α β : Type} {fs : List α} {ps : List β} (h : fs.length = ps.length) (h1 : 1 ≤ fs.length) (h2 : fs.length ≤ 3) : (∃ f p, fs = [f] ∧ ps = [p]) ∨ (∃ f g p r, fs = [f, g] ∧ ps = [p, r]) ∨ ∃ f g e p r q, fs = [f, g, e] ∧ ps = [p, r, q] := by
  match fs, ps with
  | [], _ => simp at h1
  | [f], [p] => exact .inl ⟨f, p, rfl, rfl⟩
  | [f, g], [p, r] => exact .inr (.inl ⟨f, g, p, r, rfl, rfl⟩)
  | [f, g, e], [p, r, q] => exact .inr (.inr ⟨f, g, e, p, r, q, rfl, rfl⟩)
  | _ :: _ :: _ :: _ :: _, _ => simp at h2
  | [_], [] => simp at h
  | [_], _ :: _ :: _ => simp at h
  | [_, _], [] => simp at h
  | [_, _], [_] => simp at h
  | [_, _], _ :: _ :: _ :: _ => simp at h
  | [_, _, _], [] => simp at h
  | [_, _, _], [_] => simp at h
  | [_, _, _], [_, _] => simp at h
  | [_, _, _], _ :: _ :: _ :: _ :: _ => simp at h
theorem okey_ok (k n : Nat) (hn : n ≤ 9) (kas : List KA) (hs : KS kas) (K : Kd) (hK : WK K) (hkd : kas.map KA.kd = K) (fs : List Tx) (vs : List Val) (h : TVs K n fs vs) (st : Store) :
    callN P (k + n + 5) 82 [.v (pgV kas (ownV kas)), .v (.tup (fs.map .str)), .v (.tup vs)] st = .ok (.v (.lst ((keyN K n fs vs).map .int))) st := by
  have l1 : 1 ≤ LIM := by decide
  have l2 : 2 ≤ LIM := by decide
  have l3 : 3 ≤ LIM := by decide
  rw [show [X.v (pgV kas (ownV kas)), X.v (.tup (fs.map .str)), X.v (.tup vs)] = [pgV kas (ownV kas), .tup (fs.map .str), .tup vs].map X.v from rfl, call0 (P := P) (f := 82) rfl rfl (by decide)]
  have M : ∀ f v, TV K n f v → (∀ st, callN P (k + n + 4) 81 [.v (pgV kas (ownV kas)), .v (.str f), .v v] st = .ok (.v (.lst ((mkN K n f v).map .int))) st) ∧ (mkN K n f v).length ≤ 1023 ∧ ∀ st, callN P (k + n + 4) 18 [.v v] st = .ok (.v (.int (szN n v))) st :=
    fun f v t => ⟨marks_ok k kas hs K hK hkd n hn f v t, LIM_2 (mk_len hK n f v t) hn, fun st => by
      have := size_ok (k + 3) n v t.2.1 st
      rw [show k + 3 + n + 1 = k + n + 4 by omega] at this
      exact this⟩
  generalize pgV kas (ownV kas) = pg at *
  obtain ⟨hl, hl1, hl3, ht⟩ := h
  rcases len3 hl hl1 hl3 with ⟨f, p, rfl, rfl⟩ | ⟨f, g, p, r, rfl, rfl⟩ | ⟨f, g, e, p, r, q, rfl, rfl⟩
  · obtain ⟨m1, b1, s1⟩ := M f p (ht (f, p) (by simp))
    have c1 : (mkN K n f p).length + 1 ≤ LIM := LIM_k (by omega)
    simp [f_order_key, start, loop_cons, itemL, s1, l1, zipV, for_cons, turn, f_order_key_b1, m1, c1, keyN]
  · obtain ⟨m1, b1, s1⟩ := M f p (ht (f, p) (by simp))
    obtain ⟨m2, b2, s2⟩ := M g r (ht (g, r) (by simp))
    have c1 : (mkN K n f p).length + 1 ≤ LIM := LIM_k (by omega)
    have c2 : (mkN K n f p).length + (mkN K n g r).length + 1 ≤ LIM := LIM_k (by omega)
    simp [f_order_key, start, loop_cons, itemL, s1, s2, l1, l2, zipV, for_cons, turn, f_order_key_b1, m1, m2, c1, c2, keyN]
  · obtain ⟨m1, b1, s1⟩ := M f p (ht (f, p) (by simp))
    obtain ⟨m2, b2, s2⟩ := M g r (ht (g, r) (by simp))
    obtain ⟨m3, b3, s3⟩ := M e q (ht (e, q) (by simp))
    have c1 : (mkN K n f p).length + 1 ≤ LIM := LIM_k (by omega)
    have c2 : (mkN K n f p).length + (mkN K n g r).length + 1 ≤ LIM := LIM_k (by omega)
    have c3 : (mkN K n f p).length + ((mkN K n g r).length + (mkN K n e q).length) + 1 ≤ LIM := LIM_k (by omega)
    have c3' : (mkN K n f p).length + (mkN K n g r).length + (mkN K n e q).length + 1 ≤ LIM := LIM_k (by omega)
    simp [f_order_key, start, loop_cons, itemL, s1, s2, s3, l1, l2, l3, zipV, for_cons, turn, f_order_key_b1, m1, m2, m3, c1, c2, c3, c3', keyN]
theorem lkey_ok (k n : Nat) (hn : n ≤ 9) (K : Kd) (hK : WK K) (fs : List Tx) (vs : List Val) (h : TVs K n fs vs) (st : Store) :
    callN P (k + n + 3) 24 [.v (kindsV K), .v (.lst (fs.map .str)), .v (.tup vs)] st = .ok (.v (.lst (((fs.zip vs).flatMap fun x => mkN K n x.1 x.2).map .int))) st := by
  have l0 : 0 ≤ LIM := by decide
  rw [show [X.v (kindsV K), X.v (.lst (fs.map .str)), X.v (.tup vs)] = [kindsV K, .lst (fs.map .str), .tup vs].map X.v from rfl, call0 (P := P) (f := 24) rfl rfl (by decide)]
  have M : ∀ f v, TV K n f v → (∀ st, callN P (k + n + 2) 23 [.v (kindsV K), .v (.str f), .v v] st = .ok (.v (.lst ((mkN K n f v).map .int))) st) ∧ (mkN K n f v).length ≤ 1023 :=
    fun f v t => ⟨lmarks_ok k K hK n hn f v t, LIM_2 (mk_len hK n f v t) hn⟩
  generalize kindsV K = kv at *
  obtain ⟨hl, hl1, hl3, ht⟩ := h
  rcases len3 hl hl1 hl3 with ⟨f, p, rfl, rfl⟩ | ⟨f, g, p, r, rfl, rfl⟩ | ⟨f, g, e, p, r, q, rfl, rfl⟩
  · obtain ⟨m1, b1⟩ := M f p (ht (f, p) (by simp))
    have c1 : (mkN K n f p).length ≤ LIM := LIM_k (by omega)
    simp [f__law_key, start, l0, for_cons, turn, f__law_key_b1, m1, c1]
  · obtain ⟨m1, b1⟩ := M f p (ht (f, p) (by simp))
    obtain ⟨m2, b2⟩ := M g r (ht (g, r) (by simp))
    have c1 : (mkN K n f p).length ≤ LIM := LIM_k (by omega)
    have c2 : (mkN K n f p).length + (mkN K n g r).length ≤ LIM := LIM_k (by omega)
    simp [f__law_key, start, l0, for_cons, turn, f__law_key_b1, m1, m2, c1, c2]
  · obtain ⟨m1, b1⟩ := M f p (ht (f, p) (by simp))
    obtain ⟨m2, b2⟩ := M g r (ht (g, r) (by simp))
    obtain ⟨m3, b3⟩ := M e q (ht (e, q) (by simp))
    have c1 : (mkN K n f p).length ≤ LIM := LIM_k (by omega)
    have c2 : (mkN K n f p).length + (mkN K n g r).length ≤ LIM := LIM_k (by omega)
    have c3 : (mkN K n f p).length + ((mkN K n g r).length + (mkN K n e q).length) ≤ LIM := LIM_k (by omega)
    simp [f__law_key, start, l0, for_cons, turn, f__law_key_b1, m1, m2, m3, c1, c2, c3]
def lstR (o p : Option (List Int)) : Option Bool := match o, p with
      | some a, some b => some (lexLt a b)
      | _, _ => none
@[simp] theorem lt_l (xs ys : List Val) (st) : cmpV .lt (.v (.lst xs)) (.v (.lst ys)) st = lstR (isInts xs) (isInts ys) := rfl
@[simp] theorem lstR_s (a b) : lstR (some a) (some b) = some (lexLt a b) := rfl
theorem first_ok (k n : Nat) (hn : n ≤ 9) (kas : List KA) (hs : KS kas) (K : Kd) (hK : WK K) (hkd : kas.map KA.kd = K) (fs : List Tx) (vs ws : List Val) (h : TVs K n fs vs) (h2 : TVs K n fs ws) (st : Store) :
    callN P (k + n + 6) 83 [.v (pgV kas (ownV kas)), .v (.tup (fs.map .str)), .v (.tup vs), .v (.tup ws)] st = .ok (.v (.bool (lexLt (keyN K n fs vs) (keyN K n fs ws)))) st := by
  rw [show [X.v (pgV kas (ownV kas)), X.v (.tup (fs.map .str)), X.v (.tup vs), X.v (.tup ws)] = [pgV kas (ownV kas), .tup (fs.map .str), .tup vs, .tup ws].map X.v from rfl, call0 (P := P) (f := 83) rfl rfl (by decide)]
  have a := okey_ok k n hn kas hs K hK hkd fs vs h
  have b := okey_ok k n hn kas hs K hK hkd fs ws h2
  simp [f_is_first, start, a, b, isInts_map]
end KG.Z

set_option linter.all false
set_option maxRecDepth 100000
/-! L18: keys tell values apart. -/
namespace KG.Z
theorem lex_irr : ∀ x : List Int, lexLt x x = false
  | [] => rfl
  | a :: r => by simp [lexLt, lex_irr r]
theorem lex_tot : ∀ x y : List Int, lexLt x y = false → lexLt y x = false → x = y
  | [], [], _, _ => rfl
  | [], _ :: _, h, _ => by simp [lexLt] at h
  | _ :: _, [], _, h => by simp [lexLt] at h
  | a :: x, b :: y, h1, h2 => by
    by_cases e : a = b
    · subst e
      simp [lexLt] at h1 h2
      rw [lex_tot x y h1 h2]
    · have e' : ¬ b = a := fun h => e h.symm
      simp [lexLt, e, e'] at h1 h2
      omega
theorem posT_val (s : Tx) : ∀ (l : List Tx) (k j : Nat), posT s l k = some j → ∃ i, j = k + i ∧ l[i]? = some s
  | [], _, _, h => by cases h
  | a :: r, k, j, h => by
    by_cases e : a = s
    · simp [posT, e] at h
      exact ⟨0, by omega, by simp [e]⟩
    · simp [posT, e] at h
      obtain ⟨i, h1, h2⟩ := posT_val s r (k + 1) j h
      exact ⟨i + 1, by omega, by simp [h2]⟩
theorem posN_inj {rows : List Row} {s t : Tx} (hs : s ∈ rows.map (·.1)) (ht : t ∈ rows.map (·.1)) (h : posN rows s = posN rows t) : s = t := by
  obtain ⟨j, hj⟩ := posT_some s (rows.map (·.1)) 0 hs
  obtain ⟨i, hi⟩ := posT_some t (rows.map (·.1)) 0 ht
  simp [posN, hj, hi] at h
  subst h
  obtain ⟨a, a1, a2⟩ := posT_val s _ 0 j hj
  obtain ⟨b, b1, b2⟩ := posT_val t _ 0 j hi
  have : a = b := by omega
  subst this
  rw [a2] at b2
  exact Option.some.inj b2
theorem zips_inj {K : Kd} {n : Nat} : ∀ (fs : List Tx) (ps qs : List Val) (r1 r2 : List Int), fs.length = ps.length → fs.length = qs.length →
    (∀ f ∈ fs, ∀ v w r1 r2, TV K n f v → TV K n f w → mkN K n f v ++ r1 = mkN K n f w ++ r2 → v = w ∧ r1 = r2) → (∀ x ∈ fs.zip ps, TV K n x.1 x.2) → (∀ x ∈ fs.zip qs, TV K n x.1 x.2) →
    ((fs.zip ps).flatMap fun x => mkN K n x.1 x.2) ++ r1 = ((fs.zip qs).flatMap fun x => mkN K n x.1 x.2) ++ r2 → ps = qs ∧ r1 = r2
  | [], [], [], r1, r2, _, _, _, _, _, h => ⟨rfl, by simpa using h⟩
  | [], _ :: _, _, _, _, h, _, _, _, _, _ => by simp at h
  | [], [], _ :: _, _, _, _, h, _, _, _, _ => by simp at h
  | _ :: _, [], _, _, _, h, _, _, _, _, _ => by simp at h
  | _ :: _, _ :: _, [], _, _, _, h, _, _, _, _ => by simp at h
  | f :: fs, p :: ps, q :: qs, r1, r2, h1, h2, ih, hp, hq, h => by
    simp only [List.zip_cons_cons, List.flatMap_cons, List.append_assoc] at h
    obtain ⟨rfl, e⟩ := ih f (by simp) p q _ _ (hp (f, p) (by simp)) (hq (f, q) (by simp)) h
    obtain ⟨rfl, e2⟩ := zips_inj fs ps qs r1 r2 (by simpa using h1) (by simpa using h2) (fun g hg => ih g (by simp [hg])) (fun x hx => hp x (by simp [hx])) (fun x hx => hq x (by simp [hx])) e
    exact ⟨rfl, e2⟩
theorem mk_inj {K : Kd} (hK : WK K) : ∀ (n : Nat) (kind : Tx) (v w : Val) (r1 r2 : List Int), TV K n kind v → TV K n kind w → mkN K n kind v ++ r1 = mkN K n kind w ++ r2 → v = w ∧ r1 = r2 := by
  have M : ∀ (n : Nat) (kind : Tx) (i : Int), mkN K n kind (.int i) = [i] := fun n kind i => by cases n <;> rfl
  intro n
  induction n with
  | zero =>
    intro kind v w r1 r2 hv hw h
    rcases tv_inv hK hv with ⟨_, i, rfl⟩ | ⟨_, _, m, s, ps, q, e, _⟩
    · rcases tv_inv hK hw with ⟨_, j, rfl⟩ | ⟨_, _, m, s, ps, q, e, _⟩
      · rw [M, M] at h
        simp at h
        exact ⟨by rw [h.1], h.2⟩
      · cases e
    · cases e
  | succ n ih =>
    intro kind v w r1 r2 hv hw h
    rcases tv_inv hK hv with ⟨e1, i, rfl⟩ | ⟨hne, _, m, s, ps, q, e, rfl, hq, hf, hqs, hl, _, hx⟩
    · rcases tv_inv hK hw with ⟨_, j, rfl⟩ | ⟨hne, _⟩
      · rw [M, M] at h
        simp at h
        exact ⟨by rw [h.1], h.2⟩
      · exact absurd e1 hne
    · rcases tv_inv hK hw with ⟨e1, _⟩ | ⟨_, _, m', s', ps', q', e', rfl, hq', hf', hqs', hl', _, hx'⟩
      · exact absurd e1 hne
      · cases e
        cases e'
        simp only [mkN, List.cons_append, List.cons.injEq, Int.natCast_inj] at h
        have hss := posN_inj (List.mem_map.mpr ⟨q, hq, hqs⟩) (List.mem_map.mpr ⟨q', hq', hqs'⟩) h.1
        subst hss
        rw [hf] at hf'
        cases hf'
        have hfl : fldN (rowsK K kind) s = q.2 := by simp [fldN, hf]
        rw [hfl] at h
        obtain ⟨e1, e2⟩ := zips_inj q.2 ps ps' r1 r2 hl hl' (fun f _ v w r1 r2 => ih f v w r1 r2) hx hx' h.2
        rw [e1]
        exact ⟨rfl, e2⟩
theorem key_inj {K : Kd} (hK : WK K) {n : Nat} {fs : List Tx} {vs ws : List Val} (h : TVs K n fs vs) (h2 : TVs K n fs ws) (e : keyN K n fs vs = keyN K n fs ws) : vs = ws := by
  simp only [keyN, List.cons.injEq] at e
  exact (zips_inj fs vs ws [] [] h.len h2.len (fun f _ v w r1 r2 => mk_inj hK n f v w r1 r2) h.tv h2.tv (by simpa using e.2)).1
theorem eqvL_iff {n : Nat} (ih : ∀ v w, GV n v → GV n w → (v.eqv w = true ↔ v = w)) : ∀ (xs ys : List Val), (∀ x ∈ xs, GV n x) → (∀ x ∈ ys, GV n x) → (eqvL xs ys = true ↔ xs = ys)
  | [], [], _, _ => by simp [eqvL]
  | [], _ :: _, _, _ => by simp [eqvL]
  | _ :: _, [], _, _ => by simp [eqvL]
  | x :: xs, y :: ys, h1, h2 => by
    have a := ih x y (h1 x (by simp)) (h2 y (by simp))
    have b := eqvL_iff ih xs ys (fun z hz => h1 z (by simp [hz])) (fun z hz => h2 z (by simp [hz]))
    simp [eqvL, a, b]
theorem gv_eqv : ∀ (n : Nat) (v w : Val), GV n v → GV n w → (v.eqv w = true ↔ v = w) := by
  intro n
  induction n with
  | zero =>
    intro v w hv hw
    rcases hv.inv with ⟨i, rfl⟩ | ⟨m, s, ps, e, _⟩
    · rcases hw.inv with ⟨j, rfl⟩ | ⟨m, s, ps, e, _⟩
      · simp [Val.eqv]
      · cases e
    · cases e
  | succ n ih =>
    intro v w hv hw
    rcases hv.inv with ⟨i, rfl⟩ | ⟨m, s, ps, e, rfl, _, h1⟩
    · rcases hw.inv with ⟨j, rfl⟩ | ⟨m, s, ps, e, rfl, _⟩
      · simp [Val.eqv]
      · simp [Val.eqv]
    · rcases hw.inv with ⟨j, rfl⟩ | ⟨m', s', ps', e', rfl, _, h2⟩
      · simp [Val.eqv]
      · cases e
        cases e'
        have := eqvL_iff ih ps ps' h1 h2
        simp [Val.eqv, eqvL, this]
theorem depL_le {n : Nat} (ih : ∀ v, GV n v → v.isD = true ∧ v.dep ≤ n) : ∀ xs : List Val, (∀ x ∈ xs, GV n x) → isDL xs = true ∧ depL xs ≤ n
  | [], _ => ⟨rfl, Nat.zero_le _⟩
  | x :: xs, h => by
    have a := ih x (h x (by simp))
    have b := depL_le ih xs (fun z hz => h z (by simp [hz]))
    simp [isDL, depL, a.1, b.1]
    omega
theorem gv_dep : ∀ (n : Nat) (v : Val), GV n v → v.isD = true ∧ v.dep ≤ n := by
  intro n
  induction n with
  | zero =>
    intro v hv
    rcases hv.inv with ⟨i, rfl⟩ | ⟨m, s, ps, e, _⟩
    · simp [Val.isD, Val.dep]
    · cases e
  | succ n ih =>
    intro v hv
    rcases hv.inv with ⟨i, rfl⟩ | ⟨m, s, ps, e, rfl, _, h1⟩
    · simp [Val.isD, Val.dep]
    · cases e
      have := depL_le ih ps h1
      simp [Val.isD, isDL, Val.dep, depL, this.1]
      exact this.2
theorem TVs.gv {K : Kd} {n : Nat} {fs : List Tx} {vs : List Val} (h : TVs K n fs vs) : ∀ v ∈ vs, GV n v := by
  intro v hv
  obtain ⟨i, hi, e⟩ := List.getElem_of_mem hv
  have hi' : i < fs.length := by rw [h.len]; exact hi
  have : (fs[i], vs[i]) ∈ fs.zip vs := by
    rw [List.mem_iff_getElem]
    exact ⟨i, by simp; omega, by simp⟩
  have := (h.tv _ this).2.1
  rw [← e]; exact this
theorem tup_eq {K : Kd} {n : Nat} (hn : n ≤ 9) {fs : List Tx} {vs ws : List Val} (h : TVs K n fs vs) (h2 : TVs K n fs ws) (st : Store) : ∃ b, cmpV .eq (.v (.tup vs)) (.v (.tup ws)) st = some b ∧ (b = true ↔ vs = ws) := by
  have a := depL_le (gv_dep n) vs h.gv
  have b := depL_le (gv_dep n) ws h2.gv
  have o1 : (Val.tup vs).okD = true := by simp [Val.okD, Val.isD, Val.dep, a.1]; omega
  have o2 : (Val.tup ws).okD = true := by simp [Val.okD, Val.isD, Val.dep, b.1]; omega
  refine ⟨eqvL vs ws, ?_, eqvL_iff (gv_eqv n) vs ws h.gv h2.gv⟩
  simp [cmpV, o1, o2, Val.eqv]
theorem GV.mono : ∀ (n : Nat) (v : Val), GV n v → GV (n + 1) v := by
  intro n
  induction n with
  | zero =>
    intro v h
    rcases h.inv with ⟨i, rfl⟩ | ⟨m, s, ps, e, _⟩
    · trivial
    · cases e
  | succ n ih =>
    intro v h
    rcases h.inv with ⟨i, rfl⟩ | ⟨m, s, ps, e, rfl, h1, h2⟩
    · trivial
    · cases e
      exact ⟨h1, fun x hx => ih x (h2 x hx)⟩
theorem fitN_mono (K : Kd) : ∀ (n : Nat) (kind : Tx) (v : Val), fitN K n kind v = true → fitN K (n + 1) kind v = true := by
  intro n
  induction n with
  | zero =>
    intro kind v h
    by_cases e : kind = numT
    · simp [fitN, e] at h ⊢; exact h
    · simp [fitN, e] at h
  | succ n ih =>
    intro kind v h
    by_cases e : kind = numT
    · simp [fitN, e] at h ⊢; exact h
    · unfold fitN at h ⊢
      rw [if_neg e] at h ⊢
      split at h
      · rename_i s ps
        split at h
        · rename_i q hq
          simp only [Bool.and_eq_true, decide_eq_true_eq, List.all_eq_true] at h ⊢
          exact ⟨h.1, fun x hx => ih x.1 x.2 (h.2 x hx)⟩
        · cases h
      · cases h
theorem TV.up {K : Kd} {n m : Nat} {kind : Tx} {v : Val} (h : TV K n kind v) (hm : n ≤ m) : TV K m kind v := by
  obtain ⟨d, rfl⟩ := Nat.exists_eq_add_of_le hm
  clear hm
  induction d with
  | zero => exact h
  | succ d ih => exact ⟨ih.1, GV.mono _ _ ih.2.1, fitN_mono K _ _ _ ih.2.2⟩
end KG.Z

set_option linter.all false
set_option maxRecDepth 100000
/-! L19: the law k02. -/
namespace KG.Z
theorem names_items (k : Nat) (sc : List Int) (K : Kd) (hK : WK K) (e0 e2 e3 e5 e6 e7 e8 e9 e10 e11 e12 e13 e14 e15 : Option X) (ws : List Val) : ∀ (xs : List Val) (r : Rw),
    ∃ (fs : List Tx) (r' : Rw), fs.length = xs.length ∧ (∀ f ∈ fs, f = numT ∨ f ∈ K.map (·.1)) ∧ loopL ⟨none, ws⟩ (itemL (P.ctx (callN P (k + 11))) (.nm 13) none (.ix (.var 4) (.call 19 [(.var 1), (.bi false .len [(.var 4)])]))
      [e0, some (.r 0), e2, e3, some (.v (.lst (Val.str numT :: K.map fun p => Val.str p.1))), e5, e6, e7, e8, e9, e10, e11, e12, e13, e14, e15]) xs [rowC sc r] = .ok (fs.map .str) [rowC sc r']
  | [], r => ⟨[], r, rfl, by simp, rfl⟩
  | x :: xs, r => by
    have hlen := hK.wn.len
    have m1 : (0 : Int) < ((K.length : Int) + 1) := by omega
    have m2 : ((K.length : Int) + 1) < 1073741824 := by omega
    obtain ⟨v, hv, hx⟩ := ixL_in (xs := (numT :: K.map (·.1)).map .str) (drw_0 sc r m1) (by have := drw_m sc r m1; simpa using this)
    obtain ⟨f, hf, rfl⟩ := List.mem_map.mp hv
    have t1 : callN P (k + 11) 19 [.r 0, .v (.int ((K.length : Int) + 1))] [rowC sc r] = _ := taken_eq (k + 10) sc r ((K.length : Int) + 1) [] m1 m2 okR_nil
    obtain ⟨fs, r2, h3, h4, h5⟩ := names_items k sc K hK e0 e2 e3 e5 e6 e7 e8 e9 e10 e11 e12 e13 e14 e15 ws xs (drw sc r ((K.length : Int) + 1)).2
    refine ⟨f :: fs, r2, by simp [h3], ?_, ?_⟩
    · intro g hg
      rcases List.mem_cons.mp hg with h | h
      · rw [h]; simpa using hf
      · exact h4 g h
    · simp [Function.comp_def] at hx
      rw [loop_cons, show itemL (P.ctx (callN P (k + 11))) (.nm 13) none (.ix (.var 4) (.call 19 [(.var 1), (.bi false .len [(.var 4)])]))
        [e0, some (.r 0), e2, e3, some (.v (.lst (Val.str numT :: K.map fun p => Val.str p.1))), e5, e6, e7, e8, e9, e10, e11, e12, e13, e14, e15] x [rowC sc r] = .ok [.str f] [rowC sc (drw sc r ((K.length : Int) + 1)).2] by
        simp [itemL, t1, hx], bind_ok, h5]
      rfl
theorem vals_items (k : Nat) (sc : List Int) (K : Kd) (hK : WK K) (e0 e3 e4 e5 e6 e7 e8 e9 e10 e11 e12 e13 e14 e15 : Option X) (ws : List Val) : ∀ (fs : List Tx) (r : Rw), (∀ f ∈ fs, f = numT ∨ f ∈ K.map (·.1)) →
    ∃ (vs : List Val) (r' : Rw), fs.length = vs.length ∧ (∀ x ∈ fs.zip vs, TV K 4 x.1 x.2) ∧ loopL ⟨none, ws⟩ (itemL (P.ctx (callN P (k + 11))) (.nm 14) none (.call 26 [(.var 1), (.var 2), (.var 14), (.bin false .add (.cst (.int 1)) (.call 19 [(.var 1), (.cst (.int 3))]))])
      [e0, some (.r 0), some (.v (kindsV K)), e3, e4, e5, e6, e7, e8, e9, e10, e11, e12, e13, e14, e15]) (fs.map .str) [rowC sc r] = .ok vs [rowC sc r']
  | [], r, _ => ⟨[], r, rfl, by simp, rfl⟩
  | f :: fs, r, h => by
    have hf := h f (by simp)
    have t1 : callN P (k + 11) 19 [.r 0, .v (.int 3)] [rowC sc r] = _ := taken_eq (k + 10) sc r 3 [] (by omega) (by omega) okR_nil
    obtain ⟨v, r1, hv, hc⟩ : ∃ (v : Val) (r1 : Rw), TV K 4 f v ∧ callN P (k + 11) 26 [.r 0, .v (kindsV K), .v (.str f), .v (.int (1 + (drw sc r 3).1))] [rowC sc (drw sc r 3).2] = .ok (.v v) [rowC sc r1] := by
      rcases d3 (drw_0 sc r (m := 3) (by decide)) (drw_m sc r (by decide)) with e | e | e <;> rw [e]
      · obtain ⟨v, r1, hq, hc⟩ := deep_ok (k + 7) sc K hK 1 f (drw sc r 3).2 hf
        exact ⟨v, r1, TV.up ⟨hf, hq.1, hq.2⟩ (by omega), hc⟩
      · obtain ⟨v, r1, hq, hc⟩ := deep_ok (k + 6) sc K hK 2 f (drw sc r 3).2 hf
        exact ⟨v, r1, TV.up ⟨hf, hq.1, hq.2⟩ (by omega), hc⟩
      · obtain ⟨v, r1, hq, hc⟩ := deep_ok (k + 5) sc K hK 3 f (drw sc r 3).2 hf
        exact ⟨v, r1, TV.up ⟨hf, hq.1, hq.2⟩ (by omega), hc⟩
    obtain ⟨vs, r2, h3, h4, h5⟩ := vals_items k sc K hK e0 e3 e4 e5 e6 e7 e8 e9 e10 e11 e12 e13 e14 e15 ws fs r1 (fun g hg => h g (by simp [hg]))
    refine ⟨v :: vs, r2, by simp [h3], ?_, ?_⟩
    · intro x hx
      rcases List.mem_cons.mp hx with e | e
      · rw [e]; exact hv
      · exact h4 x e
    · rw [List.map_cons, loop_cons, show itemL (P.ctx (callN P (k + 11))) (.nm 14) none (.call 26 [(.var 1), (.var 2), (.var 14), (.bin false .add (.cst (.int 1)) (.call 19 [(.var 1), (.cst (.int 3))]))])
        [e0, some (.r 0), some (.v (kindsV K)), e3, e4, e5, e6, e7, e8, e9, e10, e11, e12, e13, e14, e15] (.str f) [rowC sc r] = .ok [v] [rowC sc r1] by
        simp [itemL, t1, hc], bind_ok, h5]
      rfl
theorem key_len {K : Kd} (hK : WK K) {n : Nat} (hn : n ≤ 9) {fs : List Tx} {vs : List Val} (h : TVs K n fs vs) : ((fs.zip vs).flatMap fun x => mkN K n x.1 x.2).length ≤ 5000 := by
  have M : ∀ f v, TV K n f v → (mkN K n f v).length ≤ 1023 := fun f v t => LIM_2 (mk_len hK n f v t) hn
  obtain ⟨hl, hl1, hl3, ht⟩ := h
  rcases len3 hl hl1 hl3 with ⟨f, p, rfl, rfl⟩ | ⟨f, g, p, r, rfl, rfl⟩ | ⟨f, g, e, p, r, q, rfl, rfl⟩
  · have := M f p (ht (f, p) (by simp))
    simp; omega
  · have := M f p (ht (f, p) (by simp))
    have := M g r (ht (g, r) (by simp))
    simp; omega
  · have := M f p (ht (f, p) (by simp))
    have := M g r (ht (g, r) (by simp))
    have := M e q (ht (e, q) (by simp))
    simp; omega
@[simp] theorem ne_bb (a b st) : cmpV .ne (.v (.lst [.bool a, .bool b])) (.v (.lst [.bool a, .bool b])) st = some false := by cases a <;> cases b <;> rfl
@[simp] theorem eq_ff (a b st) : cmpV .eq (.v (.lst [.bool a, .bool b])) (.v (.lst [.bool false, .bool false])) st = some (!a && !b) := by cases a <;> cases b <;> rfl
/-- the comparisons of a turn -/
theorem law_rest (k : Nat) (kas : List KA) (hs : KS kas) (K : Kd) (hK : WK K) (hkd : kas.map KA.kd = K) (fs : List Tx) (vs ws : List Val) (h : TVs K 4 fs vs) (h2 : TVs K 4 fs ws) (e0 e4 e5 e9 e10 e11 e12 e13 e14 e15 : Option X) (st : Store) :
    ∃ (e9' e10' e11' : Option X), evSs (P.ctx (callN P (k + 11))) (f_law_k02_b1.drop 4) [e0, some (.r 0), some (.v (kindsV K)), some (.v (pgV kas (ownV kas))), e4, e5, some (.v (.lst (fs.map .str))), some (.v (.tup vs)), some (.v (.tup ws)), e9, e10, e11, e12, e13, e14, e15] st
      = .nx [e0, some (.r 0), some (.v (kindsV K)), some (.v (pgV kas (ownV kas))), e4, e5, some (.v (.lst (fs.map .str))), some (.v (.tup vs)), some (.v (.tup ws)), e9', e10', e11', e12, e13, e14, e15] st := by
  have l1 : 1 ≤ LIM := by decide
  have l2 : 2 ≤ LIM := by decide
  have s1 := fun (w : List Val) (x7 x8 x9 x10 x11 : Option X) => loop_emb (w := ⟨none, w⟩) rfl (f := itemL (P.ctx (callN P (k + 11))) (.nm 15) none (.call 25 [(.var 15)]) [e0, some (.r 0), some (.v (kindsV K)), some (.v (pgV kas (ownV kas))), e4, e5, some (.v (.lst (fs.map .str))), x7, x8, x9, x10, x11, e12, e13, e14, e15]) id (fun v => Val.int (szN 4 v)) (st := st) (xs := vs) (by
    intro v hv
    have : ∀ st, callN P (k + 11) 25 [.v v] st = .ok (.v (.int (szN 4 v))) st := lsize_ok (k + 6) 4 v (h.gv v hv)
    simp [itemL, this])
  have s2 := fun (w : List Val) (x7 x8 x9 x10 x11 : Option X) => loop_emb (w := ⟨none, w⟩) rfl (f := itemL (P.ctx (callN P (k + 11))) (.nm 15) none (.call 25 [(.var 15)]) [e0, some (.r 0), some (.v (kindsV K)), some (.v (pgV kas (ownV kas))), e4, e5, some (.v (.lst (fs.map .str))), x7, x8, x9, x10, x11, e12, e13, e14, e15]) id (fun v => Val.int (szN 4 v)) (st := st) (xs := ws) (by
    intro v hv
    have : ∀ st, callN P (k + 11) 25 [.v v] st = .ok (.v (.int (szN 4 v))) st := lsize_ok (k + 6) 4 v (h2.gv v hv)
    simp [itemL, this])
  simp at s1 s2
  have c1 : vs.length ≤ LIM := LIM_le (by have := h.len; have := h.n3; omega)
  have c2 : ws.length ≤ LIM := LIM_le (by have := h2.len; have := h2.n3; omega)
  have k1 : ∀ st, callN P (k + 11) 24 [.v (kindsV K), .v (.lst (fs.map .str)), .v (.tup vs)] st = .ok (.v (.lst (((fs.zip vs).flatMap fun x => mkN K 4 x.1 x.2).map .int))) st := lkey_ok (k + 4) 4 (by omega) K hK fs vs h
  have k2 : ∀ st, callN P (k + 11) 24 [.v (kindsV K), .v (.lst (fs.map .str)), .v (.tup ws)] st = .ok (.v (.lst (((fs.zip ws).flatMap fun x => mkN K 4 x.1 x.2).map .int))) st := lkey_ok (k + 4) 4 (by omega) K hK fs ws h2
  have b1 := key_len hK (by omega) h
  have b2 := key_len hK (by omega) h2
  have f12 : ∀ st, callN P (k + 11) 83 [.v (pgV kas (ownV kas)), .v (.tup (fs.map .str)), .v (.tup vs), .v (.tup ws)] st = .ok (.v (.bool (lexLt (keyN K 4 fs vs) (keyN K 4 fs ws)))) st := first_ok (k + 1) 4 (by omega) kas hs K hK hkd fs vs ws h h2
  have f21 : ∀ st, callN P (k + 11) 83 [.v (pgV kas (ownV kas)), .v (.tup (fs.map .str)), .v (.tup ws), .v (.tup vs)] st = .ok (.v (.bool (lexLt (keyN K 4 fs ws) (keyN K 4 fs vs)))) st := first_ok (k + 1) 4 (by omega) kas hs K hK hkd fs ws vs h2 h
  have f11 : ∀ st, callN P (k + 11) 83 [.v (pgV kas (ownV kas)), .v (.tup (fs.map .str)), .v (.tup vs), .v (.tup vs)] st = .ok (.v (.bool false)) st := by
    have := first_ok (k + 1) 4 (by omega) kas hs K hK hkd fs vs vs h h
    rw [lex_irr] at this
    exact this
  obtain ⟨b, hb, hb2⟩ := tup_eq (by omega) h h2 st
  have hfin : ((!lexLt (keyN K 4 fs vs) (keyN K 4 fs ws)) && !lexLt (keyN K 4 fs ws) (keyN K 4 fs vs)) = b := by
    cases hx : lexLt (keyN K 4 fs vs) (keyN K 4 fs ws) <;> cases hy : lexLt (keyN K 4 fs ws) (keyN K 4 fs vs)
    · have := key_inj hK h h2 (lex_tot _ _ hx hy)
      simp [hb2.mpr this]
    · have : b ≠ true := fun e => by
        rw [hb2.mp e, lex_irr] at hy; cases hy
      simpa using this.symm
    · have : b ≠ true := fun e => by
        rw [hb2.mp e, lex_irr] at hx; cases hx
      simpa using this.symm
    · have : b ≠ true := fun e => by
        rw [hb2.mp e, lex_irr] at hx; cases hx
      simpa using this.symm
  generalize hk1 : ((fs.zip vs).flatMap fun x => mkN K 4 x.1 x.2) = q1 at k1 b1
  generalize hk2 : ((fs.zip ws).flatMap fun x => mkN K 4 x.1 x.2) = q2 at k2 b2
  have g1 : keyN K 4 fs vs = (vs.map (szN 4)).sum :: q1 := by simp [keyN, hk1]
  have g2 : keyN K 4 fs ws = (ws.map (szN 4)).sum :: q2 := by simp [keyN, hk2]
  rw [g1, g2] at f12 f21 hfin
  have d1 : q1.length + 1 ≤ LIM := LIM_k (by omega)
  have d2 : q2.length + 1 ≤ LIM := LIM_k (by omega)
  refine ⟨some (.v (.lst (.int (vs.map (szN 4)).sum :: q1.map .int))), some (.v (.lst (.int (ws.map (szN 4)).sum :: q2.map .int))), some (.v (.lst [.bool (lexLt ((vs.map (szN 4)).sum :: q1) ((ws.map (szN 4)).sum :: q2)), .bool (lexLt ((ws.map (szN 4)).sum :: q2) ((vs.map (szN 4)).sum :: q1))])), ?_⟩
  simp [f_law_k02_b1, s1, s2, c1, c2, k1, k2, d1, d2, l1, l2, f12, f21, f11, isInts_map, hb, hfin]
theorem mixed {K : Kd} {n : Nat} {fs : List Tx} {vs ws : List Val} (h : TVs K n fs vs) (h2 : TVs K n fs ws) : TVs K n fs (vs.take 1 ++ ws.drop 1) := by
  have hl := h.len
  have hl2 := h2.len
  have t1 := h.tv
  have t2 := h2.tv
  rcases len3 h.len h.n1 h.n3 with ⟨f, p, rfl, rfl⟩ | ⟨f, g, p, r, rfl, rfl⟩ | ⟨f, g, e, p, r, q, rfl, rfl⟩ <;> rcases len3 h2.len h2.n1 h2.n3 with ⟨f', p', e1, rfl⟩ | ⟨f', g', p', r', e1, rfl⟩ | ⟨f', g', e', p', r', q', e1, rfl⟩ <;> simp at e1
  · exact ⟨by simp, h.n1, h.n3, by intro x hx; exact t1 x (by simpa using hx)⟩
  · refine ⟨by simp, h.n1, h.n3, ?_⟩
    intro x hx
    simp at hx
    rcases hx with e | e
    · exact t1 x (by simp [e])
    · exact t2 x (by simp [e])
  · refine ⟨by simp, h.n1, h.n3, ?_⟩
    intro x hx
    simp at hx
    rcases hx with e | e | e
    · exact t1 x (by simp [e])
    · exact t2 x (by simp [e])
    · exact t2 x (by simp [e])
theorem law_turn (k : Nat) (kas : List KA) (hs : KS kas) (K : Kd) (hK : WK K) (hkd : kas.map KA.kd = K) (sc : List Int) (r : Rw) (x : Val) (e0 e5 e6 e7 e8 e9 e10 e11 e12 e13 e14 e15 : Option X) :
    ∃ (r' : Rw) (e6' e7' e8' e9' e10' e11' : Option X), turn (P.ctx (callN P (k + 11))) (.nm 5) f_law_k02_b1 x [e0, some (.r 0), some (.v (kindsV K)), some (.v (pgV kas (ownV kas))), some (.v (.lst (Val.str numT :: K.map fun p => Val.str p.1))), e5, e6, e7, e8, e9, e10, e11, e12, e13, e14, e15] [rowC sc r]
      = .nx [e0, some (.r 0), some (.v (kindsV K)), some (.v (pgV kas (ownV kas))), some (.v (.lst (Val.str numT :: K.map fun p => Val.str p.1))), some (.v x), e6', e7', e8', e9', e10', e11', e12, e13, e14, e15] [rowC sc r'] := by
  have t1 : callN P (k + 11) 19 [.r 0, .v (.int 3)] [rowC sc r] = _ := taken_eq (k + 10) sc r 3 [] (by omega) (by omega) okR_nil
  obtain ⟨ds, hd, hd1, hd3⟩ : ∃ ds, rangeV 0 (1 + (drw sc r 3).1) 1 = some ds ∧ 1 ≤ ds.length ∧ ds.length ≤ 3 := by
    rcases d3 (drw_0 sc r (m := 3) (by decide)) (drw_m sc r (by decide)) with h | h | h <;> rw [h] <;> simp
  obtain ⟨fs, r1, f1, f2, f3⟩ := names_items k sc K hK e0 (some (.v (kindsV K))) (some (.v (pgV kas (ownV kas)))) (some (.v x)) e6 e7 e8 e9 e10 e11 e12 e13 e14 e15 ds ds (drw sc r 3).2
  obtain ⟨vs, r2, g1, g2, g3⟩ := vals_items k sc K hK e0 (some (.v (pgV kas (ownV kas)))) (some (.v (.lst (Val.str numT :: K.map fun p => Val.str p.1)))) (some (.v x)) (some (.v (.lst (fs.map .str)))) e7 e8 e9 e10 e11 e12 e13 e14 e15 (fs.map .str) fs r1 f2
  obtain ⟨ws, r3, h1, h2, h3⟩ := vals_items k sc K hK e0 (some (.v (pgV kas (ownV kas)))) (some (.v (.lst (Val.str numT :: K.map fun p => Val.str p.1)))) (some (.v x)) (some (.v (.lst (fs.map .str)))) (some (.v (.tup vs))) e8 e9 e10 e11 e12 e13 e14 e15 (fs.map .str) fs r2 f2
  have t4 : callN P (k + 11) 19 [.r 0, .v (.int 4)] [rowC sc r3] = _ := taken_eq (k + 10) sc r3 4 [] (by omega) (by omega) okR_nil
  have hv : TVs K 4 fs vs := ⟨g1, by omega, by omega, g2⟩
  have hw : TVs K 4 fs ws := ⟨h1, by omega, by omega, h2⟩
  have c0 : fs.length ≤ LIM := LIM_le (by omega)
  have c1 : vs.length ≤ LIM := LIM_le (by omega)
  have c2 : ws.length ≤ LIM := LIM_le (by omega)
  have hb : f_law_k02_b1 = f_law_k02_b1.take 4 ++ f_law_k02_b1.drop 4 := rfl
  have app : ∀ (a b : List CS) (e : Env) (s : Store), evSs (P.ctx (callN P (k + 11))) (a ++ b) e s = (evSs (P.ctx (callN P (k + 11))) a e s).next (evSs (P.ctx (callN P (k + 11))) b) := by
    intro a b
    induction a with
    | nil => intro e s; rfl
    | cons q a ih =>
      intro e s
      show (evS _ q e s).next (evSs _ (a ++ b)) = ((evS _ q e s).next (evSs _ a)).next (evSs _ b)
      cases evS (P.ctx (callN P (k + 11))) q e s with
      | nx e s => exact ih e s
      | _ => rfl
  show ∃ _, _
  by_cases hz : (drw sc r3 4).1 = 0
  · have hm := mixed hv hw
    have u1 : cut vs none (some 1) = vs.take 1 := cut_to vs 1 rfl
    have u2 : cut ws (some 1) none = ws.drop 1 := cut_from ws 1 rfl (by omega)
    have u3 : (vs.take 1).length + (ws.drop 1).length ≤ LIM := LIM_le (by simp; omega)
    obtain ⟨y9, y10, y11, hr⟩ := law_rest k kas hs K hK hkd fs vs _ hv hm e0 (some (.v (.lst (Val.str numT :: K.map fun p => Val.str p.1)))) (some (.v x)) e9 e10 e11 e12 e13 e14 e15 [rowC sc (drw sc r3 4).2]
    refine ⟨(drw sc r3 4).2, some (.v (.lst (fs.map .str))), some (.v (.tup vs)), some (.v (.tup (vs.take 1 ++ ws.drop 1))), y9, y10, y11, ?_⟩
    show evSs (P.ctx (callN P (k + 11))) f_law_k02_b1 [e0, some (.r 0), some (.v (kindsV K)), some (.v (pgV kas (ownV kas))), some (.v (.lst (Val.str numT :: K.map fun p => Val.str p.1))), some (.v x), e6, e7, e8, e9, e10, e11, e12, e13, e14, e15] [rowC sc r] = _
    rw [hb, app, show evSs (P.ctx (callN P (k + 11))) (f_law_k02_b1.take 4) [e0, some (.r 0), some (.v (kindsV K)), some (.v (pgV kas (ownV kas))), some (.v (.lst (Val.str numT :: K.map fun p => Val.str p.1))), some (.v x), e6, e7, e8, e9, e10, e11, e12, e13, e14, e15] [rowC sc r]
      = .nx [e0, some (.r 0), some (.v (kindsV K)), some (.v (pgV kas (ownV kas))), some (.v (.lst (Val.str numT :: K.map fun p => Val.str p.1))), some (.v x), some (.v (.lst (fs.map .str))), some (.v (.tup vs)), some (.v (.tup (vs.take 1 ++ ws.drop 1))), e9, e10, e11, e12, e13, e14, e15] [rowC sc (drw sc r3 4).2] by
        generalize vs.take 1 = A at *
        generalize ws.drop 1 = B at *
        simp [f_law_k02_b1, t1, hd, f3, c0, g3, c1, h3, c2, t4, hz, u1, u2, u3]]
    exact hr
  · obtain ⟨y9, y10, y11, hr⟩ := law_rest k kas hs K hK hkd fs vs ws hv hw e0 (some (.v (.lst (Val.str numT :: K.map fun p => Val.str p.1)))) (some (.v x)) e9 e10 e11 e12 e13 e14 e15 [rowC sc (drw sc r3 4).2]
    refine ⟨(drw sc r3 4).2, some (.v (.lst (fs.map .str))), some (.v (.tup vs)), some (.v (.tup ws)), y9, y10, y11, ?_⟩
    show evSs (P.ctx (callN P (k + 11))) f_law_k02_b1 [e0, some (.r 0), some (.v (kindsV K)), some (.v (pgV kas (ownV kas))), some (.v (.lst (Val.str numT :: K.map fun p => Val.str p.1))), some (.v x), e6, e7, e8, e9, e10, e11, e12, e13, e14, e15] [rowC sc r] = _
    rw [hb, app, show evSs (P.ctx (callN P (k + 11))) (f_law_k02_b1.take 4) [e0, some (.r 0), some (.v (kindsV K)), some (.v (pgV kas (ownV kas))), some (.v (.lst (Val.str numT :: K.map fun p => Val.str p.1))), some (.v x), e6, e7, e8, e9, e10, e11, e12, e13, e14, e15] [rowC sc r]
      = .nx [e0, some (.r 0), some (.v (kindsV K)), some (.v (pgV kas (ownV kas))), some (.v (.lst (Val.str numT :: K.map fun p => Val.str p.1))), some (.v x), some (.v (.lst (fs.map .str))), some (.v (.tup vs)), some (.v (.tup ws)), e9, e10, e11, e12, e13, e14, e15] [rowC sc (drw sc r3 4).2] by
        simp [f_law_k02_b1, t1, hd, f3, c0, g3, c1, h3, c2, t4, hz]]
    exact hr
theorem law_turns (k : Nat) (kas : List KA) (hs : KS kas) (K : Kd) (hK : WK K) (hkd : kas.map KA.kd = K) (sc : List Int) (ws : List Val) (e0 e12 e13 e14 e15 : Option X) : ∀ (xs : List Val) (r : Rw) (e5 e6 e7 e8 e9 e10 e11 : Option X),
    ∃ (r' : Rw) (e5' e6' e7' e8' e9' e10' e11' : Option X), forL ⟨none, ws⟩ (turn (P.ctx (callN P (k + 11))) (.nm 5) f_law_k02_b1) (evSs (P.ctx (callN P (k + 11))) []) xs [e0, some (.r 0), some (.v (kindsV K)), some (.v (pgV kas (ownV kas))), some (.v (.lst (Val.str numT :: K.map fun p => Val.str p.1))), e5, e6, e7, e8, e9, e10, e11, e12, e13, e14, e15] [rowC sc r]
      = .nx [e0, some (.r 0), some (.v (kindsV K)), some (.v (pgV kas (ownV kas))), some (.v (.lst (Val.str numT :: K.map fun p => Val.str p.1))), e5', e6', e7', e8', e9', e10', e11', e12, e13, e14, e15] [rowC sc r']
  | [], r, e5, e6, e7, e8, e9, e10, e11 => ⟨r, e5, e6, e7, e8, e9, e10, e11, by simp⟩
  | x :: xs, r, e5, e6, e7, e8, e9, e10, e11 => by
    obtain ⟨r1, a6, a7, a8, a9, a10, a11, h1⟩ := law_turn k kas hs K hK hkd sc r x e0 e5 e6 e7 e8 e9 e10 e11 e12 e13 e14 e15
    obtain ⟨r2, b5, b6, b7, b8, b9, b10, b11, h2⟩ := law_turns k kas hs K hK hkd sc ws e0 e12 e13 e14 e15 xs r1 (some (.v x)) a6 a7 a8 a9 a10 a11
    exact ⟨r2, b5, b6, b7, b8, b9, b10, b11, by rw [for_cons, h1, goFor_nx, h2]⟩
@[simp] theorem range_12 : rangeV 0 12 1 = some [.int 0, .int 1, .int 2, .int 3, .int 4, .int 5, .int 6, .int 7, .int 8, .int 9, .int 10, .int 11] := by rfl
theorem law_true (k : Nat) (sc : List Int) (st : Store) : callN P (k + 12) 84 [.v (.lst (sc.map .int))] st = .ok (.v (.bool true)) st := by
  obtain ⟨K, r1, hK, h1⟩ := kinds_ok (k + 9) sc ⟨0, 0, 0, Int.le_refl 0⟩
  have hlen := hK.wn.len
  have h2 : ∀ st, callN P (k + 11) 31 [.v (kindsV K)] st = .ok (.v (.str (ptext K))) st := text_ok (k + 10) K hK.kw (by omega)
  obtain ⟨kas, hkd, hs, h3⟩ := program_ok (k + 1) K hK.kw (by omega) (fun kas e => wk_ks hK kas e)
  have h3' := h3 [rowC sc r1] (by simp)
  have hlp := loop_emb (w := ⟨none, K.map kdV⟩) rfl (f := itemL (P.ctx (callN P (k + 11))) (.nm 12) none (.ix (.var 12) (.cst (.int 0))) [some (.v (.lst (sc.map .int))), some (.r 0), some (.v (kindsV K)), some (.v (pgV kas (ownV kas))), none, none, none, none, none, none, none, none, none, none, none, none]) kdV
    (fun p => Val.str p.1) (st := [rowC sc r1]) (xs := K) (by
      intro p _
      simp [itemL, kdV])
  obtain ⟨r2, a5, a6, a7, a8, a9, a10, a11, h4⟩ := law_turns k kas hs K hK hkd sc [.int 0, .int 1, .int 2, .int 3, .int 4, .int 5, .int 6, .int 7, .int 8, .int 9, .int 10, .int 11] (some (.v (.lst (sc.map .int)))) none none none none [.int 0, .int 1, .int 2, .int 3, .int 4, .int 5, .int 6, .int 7, .int 8, .int 9, .int 10, .int 11] r1 none none none none none none none
  rw [show [X.v (.lst (sc.map .int))] = [Val.lst (sc.map .int)].map X.v from rfl, call0 (P := P) (f := 84) rfl rfl (by decide)]
  have l1 : 1 ≤ LIM := by decide
  have l4 : 4 ≤ LIM := by decide
  have c1 : K.length ≤ LIM := LIM_le (by omega)
  have c2 : K.length + 1 ≤ LIM := LIM_le (by omega)
  have h1' : callN P (k + 11) 30 [.r 0] [.lst [.lst (sc.map .int), .int 0, .int 0, .int 0]] = .ok (.v (kindsV K)) [rowC sc r1] := h1
  have h3'' : makeV (P.ctx (callN P (k + 11))) false 7 [.v (.str (ptext K))] [rowC sc r1] = .ok (.v (pgV kas (ownV kas))) [rowC sc r1] := h3'
  simp [kindsV, Function.comp_def] at h1' h2 h4
  simp [kindsV] at hlp
  simp [f_law_k02, start, l1, l4, h1', h2, h3'', hlp, c1, c2, h4, kindsV]
end KG.Z

set_option linter.all false
set_option maxRecDepth 100000
set_option maxHeartbeats 0
/-! H: the head of the law. -/
namespace KG
open PySem PySem.Spec PyProof.Rows L2
def nm0 : List PySem.Str := ["_wall", "GrowthError", "InvalidText", "InvalidProgram", "UnknownKind", "UnknownFunction", "LETTERS", "CAPITALS", "DIGITS", "SIGNS", "WORDS", "LONGEST_NAME", "Token", "is_name", "is_alternative", "is_number", "group_of", "is_row_sign", "tokens_of", "KindLine", "FunctionLine", "matches_in", "LineReader", "read_line", "REASONS", "NUM", "calls_in", "Checker", "check_program", "pattern_text"]
def nm1 : List PySem.Str := ["expression_text", "kind_text", "function_text", "Program", "fields_of", "size", "marks_of", "order_key", "is_first", "_law_taken", "_law_kinds", "_law_rows_of", "_law_sized", "_law_sized_rows", "_law_marks", "_law_key", "_law_first", "_law_size", "_law_deep", "_law_program_text"]
abbrev Rw_ : PySem.W.OpenRow := PySem.W.OpenLaw.row PySem.Challenge.rw_kindgrows_k02_order_of_values
abbrev hk : PySem.W.Hook := hookK 1000 txt_k02
def fr (s : PySem.W.SharedT) : PySem.W.Frag := fragL 1000 (HandSHeadRun.getT s)
def ob (s : PySem.W.SharedT) : Bool := chk (fr s) txt_k02
theorem ob_eq (s : PySem.W.SharedT) : ob s = hk.obs s.abs := hookK_eq (HandSHeadRun.getT_eq s)
noncomputable abbrev stEnd (w : World) (os : OsState) := HandSHeadRun.endF (HandSHeadRun.stepQ (HandSHeadRun.denQ HandSHeadRun.tabQ) Rw_.prog w) 8000 Rw_.prog w os
theorem run0 (w : World) : HandSHeadRun.RunEq Rw_ (PySem.W.view Rw_.prog [58]) hook0 (fun _ => true) 8000 (nm0 ++ nm1) w := by
  intro os
  kernel_rfl
theorem run1 (w : World) (os : OsState) : (stEnd w os).map (fun s => (txt_k02.fns.take 40).all (rowB (fr s) txt_k02)) = some true := by
  kernel_rfl
theorem run2 (w : World) (os : OsState) : (stEnd w os).map (fun s => (txt_k02.fns.drop 40).all (rowB (fr s) txt_k02)) = some true := by
  kernel_rfl
theorem run3 (w : World) (os : OsState) : (stEnd w os).map (fun s => chkR (fr s) txt_k02) = some true := by
  kernel_rfl
theorem run (w : World) : HandSHeadRun.RunEq Rw_ (PySem.W.view Rw_.prog [58]) hk ob 8000 (nm0 ++ nm1) w :=
  run_join (run0 w) fun os => chk_join (run1 w os) (run2 w os) (run3 w os)
end KG

set_option linter.all false
set_option maxRecDepth 100000
set_option maxHeartbeats 0
open PySem PySem.W PySem.Calls PyProof.Rows
theorem PySem.Challenge.cw_kindgrows_k02_order_of_values_holds : PySem.Challenge.rw_kindgrows_k02_order_of_values.Holds := by
  w_on; o_law
  refine HandSHeadRun.head_any (r := OpenLaw.row PySem.Challenge.rw_kindgrows_k02_order_of_values) (q := view (OpenLaw.row PySem.Challenge.rw_kindgrows_k02_order_of_values).prog [58]) (H := KG.hk) (ob := KG.ob) (M := 8000) (loose := KG.nm0 ++ KG.nm1) (d := HandSHeadRun.topDef (OpenLaw.row PySem.Challenge.rw_kindgrows_k02_order_of_values).prog 58) (kwd := []) KG.ob_eq
    (by kernel_rfl) (fun s => by kernel_rfl) KG.run (by kernel_rfl) (by kernel_rfl) (by kernel_rfl) (by rfl) (by first | assumption | decide +kernel) (by decide +kernel) ⟨rfl, rfl, rfl, rfl, rfl, by decide +kernel⟩ ?hw ?hc
  case hw => w_witness2
  case hc =>
    refine KG.walk_ofW (l := PySem.Challenge.rw_kindgrows_k02_order_of_values) (n := 63) (k := 25) rfl (by decide) (by kernel_rfl) ⟨rfl, by decide, by decide⟩ ?F
    intro w mg fa h Y G hmg0
    have hmg : mg ("law" : PySem.Str) = some (.ref fa) := by
      have e : (HandSHeadRun.topDef (OpenLaw.row PySem.Challenge.rw_kindgrows_k02_order_of_values).prog 58).name = ("law" : PySem.Str) := by kernel_rfl
      rw [← e]
      exact hmg0
    exact KG.law_end (t := KG.txt_k02) (n := 11) (f := 84) (lw := "law") (x := "_law_script") rfl rfl rfl (fun ns => KG.Z.law_true 0 ns []) _ w mg fa h Y G hmg
