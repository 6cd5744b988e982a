import PyProof.Rows.All
import Wide.All
import OpenK.AllK
import Wide.FinOn
import HandS.ForMost
import HandS.Flow
import HandS.Wide
import HandS.TupAny
import HandS.TupMul
import HandS.SortKw
import HandS.IsInst
import HandS.Zip
import HandS.Style
import HandS.Defaults
import HandS.Gcd
import HandS.SortInts
import HandS.Deep
import HandS.Star
import HandS.RaiseMore
import PyProof.ReprRoads
import PyProof.ReprLen
import KE.SortData
import KE.DataMinMax
import KE.DataAny
import HandS.Exc
import HandS.WordsExc
import KE.GoesMore
import KE.KItemsList
import HandS.Conv
import HandS.HeadHook2
import HandS.Ends
import HandS.HeadEnd
import HandS.Head0
import HandS.Head1
import HandS.Head2
import KE.KStateDown
import KE.KEqDeep
import HandS.Head3
import PySem.Challenge.RW_evenpurses_k71_whole_webs_counted
set_option Elab.async false
set_option linter.all false
set_option maxRecDepth 100000
set_option maxHeartbeats 0
/-! Ev: a small evaluator of Python's defs over data and a memory of lists. -/
namespace Ev
open PySem

/-- data: tuples by value, lists by their place in the memory -/
inductive D where
  | non | bl (b : Bool) | int (i : Int) | str (x : Str) | tup (xs : List D) | loc (l : Nat) | ty (n : String) | fn (i : Nat)
/-- a list; a list that is only read -/
inductive Cell where
  | lst (xs : List D) | rol (xs : List D)
abbrev Mem := List Cell
abbrev Sl := List (Option D)
/-- what comes of a piece -/
inductive R (α : Type) where
  | ok (a : α) (M : Mem) | exc (c : Nat) (p : Option D) (M : Mem) | bad
def R.bind {α β : Type} : R α → (α → Mem → R β) → R β
  | .ok a M, f => f a M
  | .exc c p M, _ => .exc c p M
  | .bad, _ => .bad
def line : Nat := 16777216

inductive Op2 where
  | add | sub | mul | fdiv | mod | pow | eq | ne | lt | le | gt | ge | is | isn | isin | notin
  deriving DecidableEq
inductive B where
  | len | sum | all | any | abs | min | max | sorted | sortedR | tuple | list | int | divmod | repr | gcd | isi | minD | maxD
  deriving DecidableEq
inductive Mt where
  | append | extend | index | count | pop | insert | remove
  deriving DecidableEq
/-- where a parameter's value comes from: a written argument, or a default -/
inductive Arr where
  | a (i : Nat) | d (j : Nat)
  deriving DecidableEq

mutual
inductive E where
  | var (i : Nat) | con (d : D) | glo (i : Nat)
  | tup (es : Es) | lst (es : Es) | disp (b : Bool) (ds : Ds)
  | op (o : Op2) (a b : E) | neg (a : E) | not (a : E)
  | chain (o p : Op2) (a b c : E)
  | and (a b : E) | or (a b : E) | ite (c : Cd) (a b : E)
  | call (f : Nat) (es : Es) | callk (f : Nat) (es ks : Es) (arr : List Arr)
  | blt (b : B) (es : Es) | meth (m : Mt) (o : E) (es : Es)
  | sub (a i : E) | slice (a : E) (lo hi st : Po)
  | comp (e : E) (t : T) (it : I) (c : Cd) (own : List Nat)
  | comp2 (e : E) (t : T) (it : I) (c : Cd) (t1 : T) (it1 : I) (c1 : Cd) (own own1 : List Nat)
inductive Es where
  | nil | cons (a : E) (r : Es)
/-- the parts of a display, starred (true) or not -/
inductive Ds where
  | nil | cons (s : Bool) (a : E) (r : Ds)
inductive T where
  | nm (i : Nat) | tup (ts : Ts) | sub (o i : E)
inductive Ts where
  | nil | cons (t : T) (r : Ts)
inductive I where
  | seq (a : E) | rng (es : Es) | zip (a b : I) | enum (a : I) | comb (a : E)
/-- a test -/
inductive Cd where
  | tt | and (a b : Cd) | or (a b : Cd) | not (a : Cd) | val (a : E)
/-- a part of a slice -/
inductive Po where
  | no | yes (a : E)
end
mutual
inductive S where
  | asg (t : T) (e : E) | par (is : List Nat) (es : Es)
  | ex (e : E) | ret (e : E) | retN | ite (c : Cd) (a b : Ss) | for_ (t : T) (it : I) (b : Ss) | while_ (c : Cd) (b : Ss)
  | pass | brk | cnt | aug (i : Nat) (o : Op2) (e : E) | never
inductive Ss where
  | nil | cons (s : S) (r : Ss)
end

/-! ### what memory holds -/
def lstAt (M : Mem) (l : Nat) : Option (List D) := match M[l]? with
  | some (.lst xs) => some xs
  | some (.rol xs) => some xs
  | none => none
def mutAt (M : Mem) (l : Nat) : Option (List D) := match M[l]? with
  | some (.lst xs) => some xs
  | _ => none
def seqOf (M : Mem) : D → Option (List D)
  | .tup xs => some xs
  | .loc l => lstAt M l
  | _ => none
def optAll {α : Type} : List (Option α) → Option (List α)
  | [] => some []
  | none :: _ => none
  | some a :: r => (optAll r).map (a :: ·)
def intOf : D → Option Int
  | .int i => some i
  | _ => none
def blOf : D → Option Bool
  | .bl b => some b
  | _ => none
def intsOf (xs : List D) : Option (List Int) := optAll (xs.map intOf)
def blsOf (xs : List D) : Option (List Bool) := optAll (xs.map blOf)
def toPy : Nat → Mem → D → Option PyData
  | 0, _, _ => none
  | n + 1, M, d => match d with
    | .non => some .none
    | .bl b => some (.bool b)
    | .int i => some (.int i)
    | .str x => if (PyData.str x).canLay0 = true then some (.str x) else none
    | .tup xs => (optAll (xs.map (toPy n M))).map .tuple
    | .loc l => match lstAt M l with
      | some xs => (optAll (xs.map (toPy n M))).map .list
      | none => none
    | _ => none
def pyEqD (M : Mem) (x y : D) : Option Bool := match toPy 30 M x, toPy 30 M y with
  | some a, some b => some (PyData.eqv a b)
  | _, _ => none
def pyEq (M : Mem) (x y : D) : Option Bool := match x, y with
  | .int i, .int j => some (decide (i = j))
  | .str a, .str b => some (decide (a = b))
  | x, y => pyEqD M x y
def new (c : List D) (M : Mem) : R D := .ok (.loc M.length) (M ++ [.lst c])
def newS (c : List D) (M : Mem) : R D := if c.length ≤ line then new c M else .bad
def truth (M : Mem) : D → Option Bool
  | .non => some false
  | .bl b => some b
  | .int i => some (i != 0)
  | .str x => if x.length ≤ line then some (x.length != 0) else none
  | .tup xs => some (!xs.isEmpty)
  | .loc l => (lstAt M l).map fun xs => !xs.isEmpty
  | _ => none

/-! ### operators -/
def mulOk (i j : Int) : Bool := decide (-18446744073709551616 < i ∧ i < 18446744073709551616) || (decide (-18446744073709551616 < j ∧ j < 18446744073709551616) || decide (i.natAbs.log2 + j.natAbs.log2 < 1000000))
def isNon : D → Bool
  | .non => true
  | _ => false
def isB : D → D → Option Bool
  | x, .non => some (isNon x)
  | .bl a, .bl b => some (a == b)
  | _, _ => none
def R.ofO {α : Type} (o : Option α) (M : Mem) : R α := match o with
  | some a => .ok a M
  | none => .bad
def cmpI (f : Int → Int → Bool) (M : Mem) : D → D → R D
  | .int i, .int j => .ok (.bl (f i j)) M
  | _, _ => .bad
def inB (M : Mem) (x y : D) : Option Bool := match toPy 30 M x, seqOf M y with
  | some a, some ys => (optAll (ys.map (toPy 30 M))).map fun bs => bs.any fun b => PyData.eqv b a
  | _, _ => none
def addD (M : Mem) : D → D → R D
  | .int i, .int j => .ok (.int (i + j)) M
  | .str a, .str b => if a.length + b.length ≤ line then .ok (.str (a ++ b)) M else .bad
  | .tup a, .tup b => if a.length + b.length ≤ line then .ok (.tup (a ++ b)) M else .bad
  | .loc l, .loc k => match mutAt M l, mutAt M k with
    | some a, some b => newS (a ++ b) M
    | _, _ => .bad
  | _, _ => .bad
def mulD (M : Mem) : D → D → R D
  | .int i, .int j => if mulOk i j = true then .ok (.int (i * j)) M else .bad
  | .loc l, .int k => match mutAt M l with
    | some a => if -(2 ^ 63) ≤ k ∧ k < 2 ^ 63 ∧ a.length * k.toNat ≤ line then new (List.replicate k.toNat a).flatten M else .bad
    | none => .bad
  | .tup xs, .int k => if xs.isEmpty = false ∧ 1 ≤ k ∧ k ≤ 1000 ∧ xs.length ≤ 1000 then .ok (.tup (List.replicate k.toNat xs).flatten) M else .bad
  | _, _ => .bad
def op2 (o : Op2) (x y : D) (M : Mem) : R D := match o with
  | .add => addD M x y
  | .sub => (match x, y with | .int i, .int j => .ok (.int (i - j)) M | _, _ => .bad)
  | .mul => mulD M x y
  | .fdiv => (match x, y with | .int i, .int j => if 0 < j ∧ j.natAbs.log2 < 9000 then .ok (.int (i / j)) M else .bad | _, _ => .bad)
  | .mod => (match x, y with | .int i, .int j => if 0 < j then .ok (.int (i % j)) M else .bad | _, _ => .bad)
  | .pow => (match x, y with | .int i, .int j => if 0 ≤ j ∧ j ≤ 1000000 ∧ i.natAbs < 18446744073709551616 then .ok (.int (i ^ j.toNat)) M else .bad | _, _ => .bad)
  | .eq => .ofO ((pyEq M x y).map .bl) M
  | .ne => .ofO ((pyEq M x y).map fun b => .bl (!b)) M
  | .lt => cmpI (fun i j => decide (i < j)) M x y
  | .le => cmpI (fun i j => decide (i ≤ j)) M x y
  | .gt => cmpI (fun i j => decide (j < i)) M x y
  | .ge => cmpI (fun i j => decide (j ≤ i)) M x y
  | .is => .ofO ((isB x y).map .bl) M
  | .isn => .ofO ((isB x y).map fun b => .bl (!b)) M
  | .isin => .ofO ((inB M x y).map .bl) M
  | .notin => .ofO ((inB M x y).map fun b => .bl (!b)) M

/-! ### texts of data -/
mutual
/-- whether a text is given, and a bound of its length -/
def rsz : PyData → Option Nat
  | .none => some 4
  | .bool _ => some 5
  | .int i => if i.natAbs.log2 < 1920 then some 1921 else none
  | .str x => if (reprText x).length ≤ 1000 then some 1000 else none
  | .list xs => rszs xs
  | .tuple xs => rszs xs
  | .dict _ => none
def rszs : List PyData → Option Nat
  | [] => some 3
  | x :: r => match rsz x, rszs r with
    | some a, some b => some (a + b + 2)
    | _, _ => none
end
def reprD (M : Mem) (x : D) : Option D := match toPy 30 M x with
  | some a => (match rsz a with | some n => if n ≤ line then some (.str a.shown) else none | none => none)
  | none => none

/-! ### built-ins -/
def leastOf : List Int → Option Int
  | [] => none
  | x :: r => some (r.foldl (fun a b => if b < a then b else a) x)
def greatestOf : List Int → Option Int
  | [] => none
  | x :: r => some (r.foldl (fun a b => if b > a then b else a) x)
def insI (x : Int) : List Int → List Int
  | [] => [x]
  | y :: r => if x ≤ y then x :: y :: r else y :: insI x r
def sortI : List Int → List Int
  | [] => []
  | x :: r => insI x (sortI r)
/-- the built-in classes that isinstance is asked for -/
def tyOf (M : Mem) : D → Option String
  | .non => some "NoneType"
  | .bl _ => some "bool"
  | .int _ => some "int"
  | .str _ => some "str"
  | .tup _ => some "tuple"
  | .loc l => (lstAt M l).map fun _ => "list"
  | _ => none
def isiD (M : Mem) (x c : D) : Option Bool := match tyOf M x, c with
  | some t, .ty n => L2.kitB t n
  | _, _ => none
def seqInts (M : Mem) (x : D) : Option (List Int) := (seqOf M x).bind intsOf
/-- data in Python's order: all alike; tuples that have an item, or no tuple and no None -/
def isTupP : PyData → Bool
  | .tuple (_ :: _) => true
  | _ => false
def noTupP : PyData → Bool
  | .none => false
  | .tuple _ => false
  | _ => true
def dLe (a b : D × PyData) : Bool := PySem.W.dataLe false (fun x : D × PyData => x.2) a b
def sortD (M : Mem) (xs : List D) : Option (List D) := if xs.length ≤ 1 then some xs else match optAll (xs.map (toPy 30 M)) with
  | some ps => if ((ps.all fun a => ps.all fun b => PySem.W.alike a b) && (ps.all isTupP || ps.all noTupP)) = true then some (((xs.zip ps).mergeSort dLe).map (·.1)) else none
  | none => none
def sortL (M : Mem) : D → R D
  | .loc l => (match (lstAt M l).bind (sortD M) with | some ys => new ys M | none => .bad)
  | _ => .bad
mutual
/-- data without lists -/
def noList : PyData → Bool
  | .list _ => false
  | .dict _ => false
  | .tuple xs => noListAll xs
  | _ => true
def noListAll : List PyData → Bool
  | [] => true
  | x :: r => noList x && noListAll r
end
mutual
def ofPy : PyData → D
  | .none => .non
  | .bool b => .bl b
  | .int i => .int i
  | .str x => .str x
  | .tuple xs => .tup (ofPyAll xs)
  | _ => .ty ""
def ofPyAll : List PyData → List D
  | [] => []
  | x :: r => ofPy x :: ofPyAll r
end
def isNoneP : PyData → Bool
  | .none => true
  | _ => false
def minL (M : Mem) : D → R D
  | .loc l => (match (lstAt M l).bind fun xs => optAll (xs.map (toPy 30 M)) with
    | some (p :: ps) => if (((p :: ps).all fun a => (p :: ps).all fun b => PySem.W.alike a b) && (((p :: ps).all fun a => !isNoneP a) && noListAll (p :: ps))) = true then .ok (ofPy (PySem.W.minD p ps)) M else .bad
    | _ => .bad)
  | _ => .bad
def blt (b : B) (ds : List D) (M : Mem) : R D := match b, ds with
  | .len, [.str x] => if x.length ≤ line then .ok (.int x.length) M else .bad
  | .len, [x] => .ofO ((seqOf M x).map fun xs => .int xs.length) M
  | .sum, [x] => .ofO ((seqInts M x).map fun ns => .int ns.sum) M
  | .all, [.loc l] => .ofO (((lstAt M l).bind blsOf).map fun bs => .bl (bs.all id)) M
  | .any, [.tup xs] => .ofO ((intsOf xs).map fun ns => .bl (ns.any fun i => i != 0)) M
  | .any, [.loc l] => .ofO (((lstAt M l).bind blsOf).map fun bs => .bl (bs.any id)) M
  | .abs, [.int i] => .ok (.int (if i < 0 then -i else i)) M
  | .min, [.int i, .int j] => .ok (.int (if j < i then j else i)) M
  | .max, [.int i, .int j] => .ok (.int (if j > i then j else i)) M
  | .min, [x] => .ofO (((seqInts M x).bind leastOf).map .int) M
  | .max, [x] => .ofO (((seqInts M x).bind greatestOf).map .int) M
  | .minD, [x] => (match seqInts M x with | some ns => .ok (match leastOf ns with | some i => .int i | none => .non) M | none => minL M x)
  | .sorted, [x] => (match seqInts M x with | some ns => new ((sortI ns).map .int) M | none => sortL M x)
  | .sortedR, [x] => (match seqInts M x with | some ns => new ((sortI ns).reverse.map .int) M | none => .bad)
  | .tuple, [x] => .ofO ((seqOf M x).map .tup) M
  | .list, [x] => (match seqOf M x with | some xs => new xs M | none => .bad)
  | .int, [.int i] => .ok (.int i) M
  | .int, [.bl b] => .ok (.int (if b then 1 else 0)) M
  | .divmod, [.int i, .int j] => if 0 < j ∧ j < 1073741824 then .ok (.tup [.int (i / j), .int (i % j)]) M else .bad
  | .repr, [.tup xs] => .ofO (reprD M (.tup xs)) M
  | .repr, [.loc l] => .ofO (reprD M (.loc l)) M
  | .repr, [.int i] => if i.natAbs.log2 < 1920 then .ok (.str (toString i)) M else .bad
  | .gcd, [.int a, .int b] => .ok (.int ((Nat.gcd a.natAbs b.natAbs : Nat) : Int)) M
  | .isi, [x, c] => .ofO ((isiD M x c).map .bl) M
  | _, _ => .bad
def mtd (m : Mt) (o : D) (ds : List D) (M : Mem) : R D := match m, o, ds with
  | .append, .loc l, [x] => (match mutAt M l with | some xs => if xs.length < line then .ok .non (M.set l (.lst (xs ++ [x]))) else .bad | none => .bad)
  | .extend, .loc l, [.loc k] => (match mutAt M l, mutAt M k with | some xs, some ys => if xs.length + ys.length ≤ line then .ok .non (M.set l (.lst (xs ++ ys))) else .bad | _, _ => .bad)
  | .pop, .loc l, [] => (match mutAt M l with | some xs => (match xs[xs.length - 1]? with | some y => .ok y (M.set l (.lst xs.dropLast)) | none => .bad) | none => .bad)
  | _, _, _ => .bad
/-- an item -/
def itemAt (M : Mem) (x i : D) : R D := match x, i with
  | .str z, .int i => if z.length ≤ line then .ofO ((L2.atI z.cps.toList i).map fun c => .str ⟨#[c]⟩) M else .bad
  | x, .int i => .ofO ((seqOf M x).bind fun xs => L2.atI xs i) M
  | _, _ => .bad
def setAt (M : Mem) (x i v : D) : Option Mem := match x, i with
  | .loc l, .int i => (match mutAt M l with
    | some xs => (L2.ixN xs.length i).map fun j => M.set l (.lst (xs.set j v))
    | none => none)
  | _, _ => none
def cutD (xs : List D) (lo hi : Option Int) : List D := (xs.drop (HT.sIx xs.length 0 lo)).take (HT.sIx xs.length xs.length hi - HT.sIx xs.length 0 lo)
def sliceD (M : Mem) (x : D) (lo hi st : Option Int) : R D := match x, st with
  | .tup xs, none => .ok (.tup (cutD xs lo hi)) M
  | .loc l, none => (match lstAt M l with | some xs => new (cutD xs lo hi) M | none => .bad)
  | .tup xs, some t => if lo = none ∧ hi = none ∧ t = -1 then .ok (.tup xs.reverse) M else .bad
  | .loc l, some t => if lo = none ∧ hi = none ∧ t = -1 then (match lstAt M l with | some xs => new xs.reverse M | none => .bad) else .bad
  | _, _ => .bad

/-! ### what is walked -/
inductive Src where
  | tup (xs : List D) | lst (l n : Nat) | rng (lo : Int) (n : Nat) | zip (a b : Src) | enum (a : Src) | comb (n : Nat)
/-- the pairs of 0 .. n - 1, ascending -/
def pairsN (n : Nat) : List (Nat × Nat) := (List.range n).flatMap fun a => (List.range (n - 1 - a)).map fun j => (a, a + 1 + j)
def Src.len : Src → Nat
  | .tup xs => xs.length
  | .lst _ n => n
  | .rng _ n => n
  | .zip a b => min a.len b.len
  | .enum a => a.len
  | .comb n => (pairsN n).length
def Src.get : Src → Nat → Mem → Option D
  | .tup xs, i, _ => xs[i]?
  | .lst l _, i, M => (lstAt M l).bind fun xs => xs[i]?
  | .rng lo n, i, _ => if i < n then some (.int (lo + i)) else none
  | .zip a b, i, M => match a.get i M, b.get i M with
    | some x, some y => some (.tup [x, y])
    | _, _ => none
  | .enum a, i, M => (a.get i M).map fun x => .tup [.int i, x]
  | .comb n, i, _ => (pairsN n)[i]?.map fun q => .tup [.int (q.1 : Nat), .int (q.2 : Nat)]
/-- whether it ends there -/
def Src.done : Src → Nat → Mem → Bool
  | .tup xs, i, _ => decide (xs.length ≤ i)
  | .lst l _, i, M => match lstAt M l with
    | some xs => decide (xs.length ≤ i)
    | none => false
  | .rng _ n, i, _ => decide (n ≤ i)
  | .zip a b, i, M => a.done i M || ((a.get i M).isSome && b.done i M)
  | .enum a, i, M => a.done i M
  | .comb n, i, _ => decide ((pairsN n).length ≤ i)
def srcOf (M : Mem) : D → Option Src
  | .tup xs => some (.tup xs)
  | .loc l => (lstAt M l).map fun xs => .lst l xs.length
  | _ => none
def zipSrc : Src → Src → Option Src
  | .tup xs, .tup ys => some (.zip (.tup xs) (.tup ys))
  | .lst l n, .lst k m => some (.zip (.lst l n) (.lst k m))
  | .tup xs, .lst k m => some (.zip (.tup xs) (.lst k m))
  | .lst l n, .tup ys => some (.zip (.lst l n) (.tup ys))
  | _, _ => none
def enumSrc : Src → Option Src
  | .lst l n => some (.enum (.lst l n))
  | .tup xs => some (.enum (.tup xs))
  | .zip a b => some (.enum (.zip a b))
  | _ => none
def combOf : D → Option Src
  | .int j => if 0 ≤ j ∧ j ≤ 6 then some (.comb j.toNat) else none
  | _ => none
def rngOf : List D → Option Src
  | [.int j] => if -(2 ^ 62) ≤ j ∧ j < 2 ^ 62 then some (.rng 0 j.toNat) else none
  | [.int i, .int j] => if -(2 ^ 62) ≤ i ∧ i < 2 ^ 62 ∧ -(2 ^ 62) ≤ j ∧ j < 2 ^ 62 then some (.rng i (j - i).toNat) else none
  | _ => none

/-! ### the evaluator -/
structure Cfg where
  call : Nat → List D → Mem → R D
  gl : List D
  dfl : Nat → List D
  wf : Nat
inductive Fl where
  | nx (σ : Sl) | rt (d : D) | bk (σ : Sl) | ct (σ : Sl)
def wipeD (σ : Sl) : List Nat → Sl
  | [] => σ
  | v :: vs => (wipeD σ vs).set v none
def resA {α : Type} (as dfl : List α) : Arr → Option α
  | .a i => as[i]?
  | .d j => dfl[j]?
def arrD {α : Type} (as dfl : List α) (arr : List Arr) : Option (List α) := optAll (arr.map (resA as dfl))
def partI : D → Option Int
  | .int i => some i
  | _ => none
/-- turn by turn: acc what has come -/
def goD {α : Type} (src : Src) (f : D → α → Mem → R α) : Nat → Nat → α → Mem → R α
  | 0, i, a, M => if src.done i M = true then .ok a M else .bad
  | k + 1, i, a, M => match src.get i M with
    | some d => (f d a M).bind fun a M => goD src f k (i + 1) a M
    | none => .bad
def pushD (acc : List D) (y : D) (M : Mem) : R (List D) := if acc.length < line then .ok (acc ++ [y]) M else .bad
/-- what a loop's turn hands on: the names, or the flow with which the loop is left -/
def goF (src : Src) (f : D → Sl → Mem → R Fl) : Nat → Nat → Sl → Mem → R Fl
  | 0, i, σ, M => if src.done i M = true then .ok (.nx σ) M else .bad
  | k + 1, i, σ, M => match src.get i M with
    | some d => (f d σ M).bind fun fl M => match fl with
      | .nx σ => goF src f k (i + 1) σ M
      | .ct σ => goF src f k (i + 1) σ M
      | .bk σ => .ok (.nx σ) M
      | .rt d => .ok (.rt d) M
    | none => .bad
def goW (c : Sl → Mem → R Bool) (f : Sl → Mem → R Fl) : Nat → Sl → Mem → R Fl
  | 0, _, _ => .bad
  | k + 1, σ, M => (c σ M).bind fun b M => match b with
    | false => .ok (.nx σ) M
    | true => (f σ M).bind fun fl M => match fl with
      | .nx σ => goW c f k σ M
      | .ct σ => goW c f k σ M
      | .bk σ => .ok (.nx σ) M
      | .rt d => .ok (.rt d) M
section
variable (C : Cfg)
mutual
def ev : E → Sl → Mem → R D
  | .var i, σ, M => match σ[i]? with
    | some (some d) => .ok d M
    | _ => .bad
  | .con d, _, M => .ok d M
  | .glo i, _, M => .ofO C.gl[i]? M
  | .tup es, σ, M => (evs es σ M).bind fun ds M => .ok (.tup ds) M
  | .lst es, σ, M => (evs es σ M).bind fun ds M => new ds M
  | .disp b ds, σ, M => (evd ds σ M).bind fun xs M => if xs.length ≤ line then (if b = true then .ok (.tup xs) M else new xs M) else .bad
  | .op o a b, σ, M => (ev a σ M).bind fun x M => (ev b σ M).bind fun y M => op2 o x y M
  | .neg a, σ, M => (ev a σ M).bind fun x M => match x with
    | .int i => .ok (.int (-i)) M
    | _ => .bad
  | .not a, σ, M => (ev a σ M).bind fun x M => match truth M x with
    | some b => .ok (.bl (!b)) M
    | none => .bad
  | .chain o p a b c, σ, M => (ev a σ M).bind fun x M => (ev b σ M).bind fun y M => (op2 o x y M).bind fun z M => match z with
    | .bl true => (ev c σ M).bind fun v M => op2 p y v M
    | .bl false => .ok (.bl false) M
    | _ => .bad
  | .and a b, σ, M => (ev a σ M).bind fun x M => match truth M x with
    | some true => ev b σ M
    | some false => .ok x M
    | none => .bad
  | .or a b, σ, M => (ev a σ M).bind fun x M => match truth M x with
    | some true => .ok x M
    | some false => ev b σ M
    | none => .bad
  | .ite c a b, σ, M => (evB c σ M).bind fun k M => match k with
    | true => ev a σ M
    | false => ev b σ M
  | .call f es, σ, M => (evs es σ M).bind fun ds M => C.call f ds M
  | .callk f es ks arr, σ, M => (evs es σ M).bind fun ds M => (evs ks σ M).bind fun zs M => match arrD (ds ++ zs) (C.dfl f) arr with
    | some as => C.call f as M
    | none => .bad
  | .blt b es, σ, M => (evs es σ M).bind fun ds M => blt b ds M
  | .meth m o es, σ, M => (ev o σ M).bind fun x M => (evs es σ M).bind fun ds M => mtd m x ds M
  | .sub a i, σ, M => (ev a σ M).bind fun x M => (ev i σ M).bind fun y M => itemAt M x y
  | .slice a lo hi st, σ, M => (ev a σ M).bind fun x M => (evP lo σ M).bind fun l M => (evP hi σ M).bind fun h M => (evP st σ M).bind fun t M => sliceD M x l h t
  | .comp e t it c own, σ, M => (evI it σ M).bind fun src M =>
      (goD src (fun d acc M => (asg t d (wipeD σ own) M).bind fun σ2 M => (evB c σ2 M).bind fun k M => match k with
        | true => (ev e σ2 M).bind fun y M => pushD acc y M
        | false => .ok acc M) src.len 0 [] M).bind fun acc M => new acc M
  | .comp2 e t it c t1 it1 c1 own own1, σ, M => (evI it σ M).bind fun src M =>
      (goD src (fun d acc M => (asg t d (wipeD σ own) M).bind fun σ2 M => (evB c σ2 M).bind fun k M => match k with
        | true => (evI it1 σ2 M).bind fun src1 M => goD src1 (fun d acc M => (asg t1 d (wipeD σ2 own1) M).bind fun σ3 M => (evB c1 σ3 M).bind fun k M => match k with
          | true => (ev e σ3 M).bind fun y M => pushD acc y M
          | false => .ok acc M) src1.len 0 acc M
        | false => .ok acc M) src.len 0 [] M).bind fun acc M => new acc M
def evB : Cd → Sl → Mem → R Bool
  | .tt, _, M => .ok true M
  | .and a b, σ, M => (evB a σ M).bind fun k M => match k with
    | true => evB b σ M
    | false => .ok false M
  | .or a b, σ, M => (evB a σ M).bind fun k M => match k with
    | true => .ok true M
    | false => evB b σ M
  | .not a, σ, M => (evB a σ M).bind fun b M => .ok (!b) M
  | .val e, σ, M => (ev e σ M).bind fun x M => .ofO (truth M x) M
def evs : Es → Sl → Mem → R (List D)
  | .nil, _, M => .ok [] M
  | .cons a r, σ, M => (ev a σ M).bind fun x M => (evs r σ M).bind fun xs M => .ok (x :: xs) M
def evd : Ds → Sl → Mem → R (List D)
  | .nil, _, M => .ok [] M
  | .cons s a r, σ, M => (ev a σ M).bind fun x M => match s with
    | true => (R.ofO (seqOf M x) M).bind fun xs M => (evd r σ M).bind fun ys M => .ok (xs ++ ys) M
    | false => (evd r σ M).bind fun xs M => .ok (x :: xs) M
/-- a part of a slice -/
def evP : Po → Sl → Mem → R (Option Int)
  | .no, _, M => .ok none M
  | .yes e, σ, M => (ev e σ M).bind fun x M => match x with
    | .int i => .ok (some i) M
    | _ => .bad
def evI : I → Sl → Mem → R Src
  | .seq a, σ, M => (ev a σ M).bind fun x M => .ofO (srcOf M x) M
  | .rng es, σ, M => (evs es σ M).bind fun ds M => .ofO (rngOf ds) M
  | .zip a b, σ, M => (evI a σ M).bind fun x M => (evI b σ M).bind fun y M => .ofO (zipSrc x y) M
  | .enum a, σ, M => (evI a σ M).bind fun x M => .ofO (enumSrc x) M
  | .comb a, σ, M => (ev a σ M).bind fun x M => .ofO (combOf x) M
def asg : T → D → Sl → Mem → R Sl
  | .nm i, d, σ, M => .ok (σ.set i (some d)) M
  | .tup ts, d, σ, M => match d with
    | .tup ds => asgs ts ds σ M
    | _ => .bad
  | .sub o i, d, σ, M => (ev o σ M).bind fun x M => (ev i σ M).bind fun y M => match setAt M x y d with
    | some M => .ok σ M
    | none => .bad
def asgs : Ts → List D → Sl → Mem → R Sl
  | .nil, ds, σ, M => match ds with
    | [] => .ok σ M
    | _ => .bad
  | .cons t r, ds, σ, M => match ds with
    | d :: ds => (asg t d σ M).bind fun σ M => asgs r ds σ M
    | [] => .bad
end
def parD : List Nat → List D → Sl → Option Sl
  | [], [], σ => some σ
  | i :: is, d :: ds, σ => parD is ds (σ.set i (some d))
  | _, _, _ => none
mutual
def ex : S → Sl → Mem → R Fl
  | .asg t e, σ, M => (ev C e σ M).bind fun d M => (asg C t d σ M).bind fun σ M => .ok (.nx σ) M
  | .par is es, σ, M => (evs C es σ M).bind fun ds M => .ofO ((parD is ds σ).map .nx) M
  | .ex e, σ, M => (ev C e σ M).bind fun _ M => .ok (.nx σ) M
  | .ret e, σ, M => (ev C e σ M).bind fun d M => .ok (.rt d) M
  | .retN, _, M => .ok (.rt .non) M
  | .ite c a b, σ, M => (evB C c σ M).bind fun k M => match k with
    | true => exs a σ M
    | false => exs b σ M
  | .for_ t it b, σ, M => (evI C it σ M).bind fun src M => goF src (fun d σ M => (asg C t d σ M).bind fun σ M => exs b σ M) src.len 0 σ M
  | .while_ c b, σ, M => goW (evB C c) (exs b) C.wf σ M
  | .pass, σ, M => .ok (.nx σ) M
  | .brk, σ, M => .ok (.bk σ) M
  | .cnt, σ, M => .ok (.ct σ) M
  | .aug i o e, σ, M => match σ[i]? with
    | some (some x) => (ev C e σ M).bind fun y M => (op2 o x y M).bind fun z M => .ok (.nx (σ.set i (some z))) M
    | _ => .bad
  | .never, _, _ => .bad
def exs : Ss → Sl → Mem → R Fl
  | .nil, σ, M => .ok (.nx σ) M
  | .cons s r, σ, M => (ex s σ M).bind fun fl M => match fl with
    | .nx σ => exs r σ M
    | .rt d => .ok (.rt d) M
    | .bk σ => .ok (.bk σ) M
    | .ct σ => .ok (.ct σ) M
end
end
/-- a def of the text -/
structure Fd where
  name : Str
  ps : List Str
  N : List Str
  dfl : List D
  body : Ss
def callN (T : List Fd) (gl : List D) (wf : Nat) : Nat → Nat → List D → Mem → R D
  | 0, _, _, _ => .bad
  | n + 1, f, ds, M => match T[f]? with
    | some fd => if ds.length = fd.ps.length then
        (exs ⟨callN T gl wf n, gl, fun g => match T[g]? with | some fd => fd.dfl | none => [], wf⟩ fd.body (ds.map some ++ List.replicate (fd.N.length - ds.length) none) M).bind fun fl M => match fl with
          | .rt d => .ok d M
          | .nx _ => .ok .non M
          | _ => .bad
      else .bad
    | none => .bad
def cfg (T : List Fd) (gl : List D) (wf n : Nat) : Cfg := ⟨callN T gl wf n, gl, fun g => match T[g]? with | some fd => fd.dfl | none => [], wf⟩
end Ev
namespace Ev
open PySem L2

/-! ### data and values -/
section
variable (K : PySem.W.Frag) (FA : Nat → Addr) (ρ : List Addr) (H : Hp)
mutual
def RelD : D → V → Prop
  | .non, v => v = .non
  | .bl b, v => v = .bl b
  | .int i, v => v = .int i
  | .str x, v => v = .str x
  | .tup xs, v => ∃ a vs, v = .ref a ∧ SqT K H a vs ∧ RelDs xs vs
  | .loc l, v => ∃ a, v = .ref a ∧ ρ[l]? = some a
  | .ty n, v => v = .ty n
  | .fn i, v => v = .ref (FA i)
def RelDs : List D → List V → Prop
  | [], vs => vs = []
  | d :: ds, vs => ∃ v r, vs = v :: r ∧ RelD d v ∧ RelDs ds r
end
def CellR (a : Addr) : Cell → Prop
  | .lst xs => ∃ vs, H a = some (.lst vs) ∧ RelDs K FA ρ H xs vs
  | .rol xs => ∃ vs, Rd H a (.lst vs) ∧ RelDs K FA ρ H xs vs
def RelO' : Option D → Option V → Prop
  | some d, v => ∃ u, v = some u ∧ RelD K FA ρ H d u
  | none, _ => True
def RelS : Sl → St → Prop
  | [], vs => vs = []
  | d :: ds, vs => ∃ v r, vs = v :: r ∧ RelO' K FA ρ H d v ∧ RelS ds r
end
structure Rel (K : PySem.W.Frag) (FA : Nat → Addr) (ρ : List Addr) (M : Mem) (H : Hp) : Prop where
  len : ρ.length = M.length
  inj : ∀ (l k : Nat) (a : Addr) (c d : Cell), M[l]? = some c → M[k]? = some d → ρ[l]? = some a → ρ[k]? = some a → l = k
  cell : ∀ (l : Nat) (c : Cell) (a : Addr), M[l]? = some c → ρ[l]? = some a → CellR K FA ρ H a c
structure Ext0 (K : PySem.W.Frag) (ρ : List Addr) (H : Hp) (ρ' : List Addr) (H' : Hp) : Prop where
  pre : ∀ (l : Nat) (a : Addr), ρ[l]? = some a → ρ'[l]? = some a
  tup : ∀ b xs, SqT K H b xs → SqT K H' b xs
structure Ext (K : PySem.W.Frag) (ρ : List Addr) (H : Hp) (ρ' : List Addr) (H' : Hp) : Prop extends Ext0 K ρ H ρ' H' where
  fr : ∀ (b : Addr) (o : HO), H b = some o → (∀ l : Nat, ρ[l]? ≠ some b) → H' b = some o ∧ ∀ l : Nat, ρ'[l]? ≠ some b

section
variable {K : PySem.W.Frag} {FA : Nat → Addr} {ρ ρ' ρ2 : List Addr} {H H' H2 : Hp}
theorem Ext.refl : Ext K ρ H ρ H := ⟨⟨fun _ _ h => h, fun _ _ h => h⟩, fun _ _ h n => ⟨h, n⟩⟩
theorem Ext.trans (x : Ext K ρ H ρ' H') (y : Ext K ρ' H' ρ2 H2) : Ext K ρ H ρ2 H2 := ⟨⟨fun l a h => y.pre l a (x.pre l a h), fun b xs h => y.tup b xs (x.tup b xs h)⟩, fun b o h n => let z := x.fr b o h n; y.fr b o z.1 z.2⟩
mutual
theorem RelD.mono0 (x : Ext0 K ρ H ρ' H') : ∀ {d : D} {v : V}, RelD K FA ρ H d v → RelD K FA ρ' H' d v
  | .non, _, h => h
  | .bl _, _, h => h
  | .int _, _, h => h
  | .str _, _, h => h
  | .tup xs, _, h => by
    obtain ⟨a, vs, e, s, r⟩ := h
    exact ⟨a, vs, e, x.tup _ _ s, RelDs.mono0 x r⟩
  | .loc l, _, h => by
    obtain ⟨a, e, r⟩ := h
    exact ⟨a, e, x.pre _ _ r⟩
  | .ty _, _, h => h
  | .fn _, _, h => h
theorem RelDs.mono0 (x : Ext0 K ρ H ρ' H') : ∀ {ds : List D} {vs : List V}, RelDs K FA ρ H ds vs → RelDs K FA ρ' H' ds vs
  | [], _, h => h
  | d :: ds, _, h => by
    obtain ⟨v, r, e, h1, h2⟩ := h
    exact ⟨v, r, e, RelD.mono0 x h1, RelDs.mono0 x h2⟩
end
theorem RelS.mono0 (x : Ext0 K ρ H ρ' H') : ∀ {ds : Sl} {vs : St}, RelS K FA ρ H ds vs → RelS K FA ρ' H' ds vs
  | [], _, h => h
  | d :: ds, _, h => by
    obtain ⟨v, r, e, h1, h2⟩ := h
    refine ⟨v, r, e, ?_, RelS.mono0 x h2⟩
    cases d with
    | none => trivial
    | some d =>
      obtain ⟨u, e, r⟩ := h1
      exact ⟨u, e, r.mono0 x⟩
theorem RelD.mono (x : Ext K ρ H ρ' H') {d : D} {v : V} (h : RelD K FA ρ H d v) : RelD K FA ρ' H' d v := h.mono0 x.toExt0
theorem RelDs.mono (x : Ext K ρ H ρ' H') {ds : List D} {vs : List V} (h : RelDs K FA ρ H ds vs) : RelDs K FA ρ' H' ds vs := h.mono0 x.toExt0
theorem RelS.mono (x : Ext K ρ H ρ' H') {ds : Sl} {vs : St} (h : RelS K FA ρ H ds vs) : RelS K FA ρ' H' ds vs := h.mono0 x.toExt0
theorem RelDs.length : ∀ {ds : List D} {vs : List V}, RelDs K FA ρ H ds vs → vs.length = ds.length
  | [], _, h => by
    rw [show _ = [] from h] <;> rfl
  | d :: ds, _, h => by
    obtain ⟨v, r, rfl, _, h2⟩ := h
    rw [List.length_cons, List.length_cons, RelDs.length h2]
theorem RelDs.get : ∀ {ds : List D} {vs : List V} {i : Nat} {d : D}, RelDs K FA ρ H ds vs → ds[i]? = some d → ∃ v, vs[i]? = some v ∧ RelD K FA ρ H d v
  | [], _, i, d, h, e => by simp at e
  | x :: ds, _, 0, d, h, e => by
    obtain ⟨v, r, rfl, h1, h2⟩ := h
    simp at e
    subst e
    exact ⟨v, rfl, h1⟩
  | x :: ds, _, i + 1, d, h, e => by
    obtain ⟨v, r, rfl, h1, h2⟩ := h
    obtain ⟨u, e1, r1⟩ := RelDs.get (i := i) (d := d) h2 (by simpa using e)
    exact ⟨u, by simpa using e1, r1⟩
theorem RelDs.append : ∀ {ds es : List D} {vs us : List V}, RelDs K FA ρ H ds vs → RelDs K FA ρ H es us → RelDs K FA ρ H (ds ++ es) (vs ++ us)
  | [], _, _, _, h, h' => by
    rw [show _ = [] from h]
    exact h'
  | d :: ds, _, _, _, h, h' => by
    obtain ⟨v, r, rfl, h1, h2⟩ := h
    exact ⟨v, _, rfl, h1, RelDs.append h2 h'⟩
theorem RelDs.take : ∀ (n : Nat) {ds : List D} {vs : List V}, RelDs K FA ρ H ds vs → RelDs K FA ρ H (ds.take n) (vs.take n)
  | 0, _, _, _ => rfl
  | n + 1, [], _, h => by
    rw [show _ = [] from h] <;> exact rfl
  | n + 1, d :: ds, _, h => by
    obtain ⟨v, r, rfl, h1, h2⟩ := h
    exact ⟨v, _, rfl, h1, RelDs.take n h2⟩
theorem RelDs.drop : ∀ (n : Nat) {ds : List D} {vs : List V}, RelDs K FA ρ H ds vs → RelDs K FA ρ H (ds.drop n) (vs.drop n)
  | 0, _, _, h => h
  | n + 1, [], _, h => by
    rw [show _ = [] from h] <;> exact rfl
  | n + 1, d :: ds, _, h => by
    obtain ⟨v, r, rfl, h1, h2⟩ := h
    exact RelDs.drop n h2
theorem RelDs.set {d : D} {v : V} (hd : RelD K FA ρ H d v) : ∀ (n : Nat) {ds : List D} {vs : List V}, RelDs K FA ρ H ds vs → RelDs K FA ρ H (ds.set n d) (vs.set n v)
  | _, [], _, h => by
    rw [show _ = [] from h] <;> exact rfl
  | 0, x :: ds, _, h => by
    obtain ⟨u, r, rfl, h1, h2⟩ := h
    exact ⟨v, r, rfl, hd, h2⟩
  | n + 1, x :: ds, _, h => by
    obtain ⟨u, r, rfl, h1, h2⟩ := h
    exact ⟨u, _, rfl, h1, RelDs.set hd n h2⟩
theorem RelDs.nil_iff : ∀ {ds : List D} {vs : List V}, RelDs K FA ρ H ds vs → (vs = [] ↔ ds = [])
  | [], _, h => by
    rw [show _ = [] from h] <;> simp
  | d :: ds, _, h => by
    obtain ⟨v, r, rfl, _, _⟩ := h
    simp
theorem RelDs.replicate {ds : List D} {vs : List V} (h : RelDs K FA ρ H ds vs) : ∀ k : Nat, RelDs K FA ρ H (List.replicate k ds).flatten (List.replicate k vs).flatten
  | 0 => rfl
  | k + 1 => by
    rw [List.replicate_succ, List.replicate_succ, List.flatten_cons, List.flatten_cons]
    exact h.append (RelDs.replicate h k)
theorem RelDs.reverse : ∀ {ds : List D} {vs : List V}, RelDs K FA ρ H ds vs → RelDs K FA ρ H ds.reverse vs.reverse
  | [], _, h => by
    rw [show _ = [] from h] <;> exact rfl
  | d :: ds, _, h => by
    obtain ⟨v, r, rfl, h1, h2⟩ := h
    rw [List.reverse_cons, List.reverse_cons]
    exact (RelDs.reverse h2).append ⟨v, [], rfl, h1, rfl⟩
theorem RelDs.ints : ∀ {ds : List D} {vs : List V} {ns : List Int}, RelDs K FA ρ H ds vs → intsOf ds = some ns → vs = ns.map V.int
  | [], vs, ns, h, e => by
    have e1 : ns = [] := (Option.some.inj e).symm
    rw [e1, show vs = [] from h]
    rfl
  | d :: ds, vs, ns, h, e => by
    obtain ⟨v, r, rfl, h1, h2⟩ := h
    have e' : optAll (intOf d :: ds.map intOf) = some ns := e
    cases d with
    | int i =>
      have e2 : (optAll (ds.map intOf)).map (i :: ·) = some ns := e'
      cases q : optAll (ds.map intOf) with
      | none =>
        rw [q] at e2
        cases e2
      | some ms =>
        rw [q] at e2
        have e3 : ns = i :: ms := (Option.some.inj e2).symm
        rw [e3, show v = .int i from h1, RelDs.ints h2 q]
        rfl
    | _ => cases e'
theorem RelDs.bls : ∀ {ds : List D} {vs : List V} {bs : List Bool}, RelDs K FA ρ H ds vs → blsOf ds = some bs → vs = bs.map V.bl
  | [], vs, ns, h, e => by
    have e1 : ns = [] := (Option.some.inj e).symm
    rw [e1, show vs = [] from h]
    rfl
  | d :: ds, vs, ns, h, e => by
    obtain ⟨v, r, rfl, h1, h2⟩ := h
    have e' : optAll (blOf d :: ds.map blOf) = some ns := e
    cases d with
    | bl i =>
      have e2 : (optAll (ds.map blOf)).map (i :: ·) = some ns := e'
      cases q : optAll (ds.map blOf) with
      | none =>
        rw [q] at e2
        cases e2
      | some ms =>
        rw [q] at e2
        have e3 : ns = i :: ms := (Option.some.inj e2).symm
        rw [e3, show v = .bl i from h1, RelDs.bls h2 q]
        rfl
    | _ => cases e'
theorem RelDs.of_ints (ns : List Int) : RelDs K FA ρ H (ns.map D.int) (ns.map V.int) := by
  induction ns with
  | nil => exact rfl
  | cons n ns ih => exact ⟨_, _, rfl, rfl, ih⟩
theorem RelS.length : ∀ {ds : Sl} {vs : St}, RelS K FA ρ H ds vs → vs.length = ds.length
  | [], _, h => by
    rw [show _ = [] from h] <;> rfl
  | d :: ds, _, h => by
    obtain ⟨v, r, rfl, _, h2⟩ := h
    rw [List.length_cons, List.length_cons, RelS.length h2]
theorem RelS.get : ∀ {ds : Sl} {vs : St} {i : Nat} {d : D}, RelS K FA ρ H ds vs → ds[i]? = some (some d) → ∃ v, vs[i]? = some (some v) ∧ RelD K FA ρ H d v
  | [], _, i, d, h, e => by simp at e
  | x :: ds, _, 0, d, h, e => by
    obtain ⟨v, r, rfl, h1, h2⟩ := h
    simp at e
    subst e
    obtain ⟨u, rfl, r1⟩ := h1
    exact ⟨u, rfl, r1⟩
  | x :: ds, _, i + 1, d, h, e => by
    obtain ⟨v, r, rfl, h1, h2⟩ := h
    obtain ⟨u, e1, r1⟩ := RelS.get (i := i) (d := d) h2 (by simpa using e)
    exact ⟨u, by simpa using e1, r1⟩
theorem RelS.set {d : D} {v : V} (hd : RelD K FA ρ H d v) : ∀ (n : Nat) {ds : Sl} {vs : St}, RelS K FA ρ H ds vs → RelS K FA ρ H (ds.set n (some d)) (vs.set n (some v))
  | _, [], _, h => by
    rw [show _ = [] from h] <;> exact rfl
  | 0, x :: ds, _, h => by
    obtain ⟨u, r, rfl, h1, h2⟩ := h
    exact ⟨_, r, rfl, ⟨v, rfl, hd⟩, h2⟩
  | n + 1, x :: ds, _, h => by
    obtain ⟨u, r, rfl, h1, h2⟩ := h
    exact ⟨u, _, rfl, h1, RelS.set hd n h2⟩
theorem RelS.unset : ∀ (n : Nat) {ds : Sl} {vs : St}, RelS K FA ρ H ds vs → RelS K FA ρ H (ds.set n none) (vs.set n none)
  | _, [], _, h => by
    rw [show _ = [] from h] <;> exact rfl
  | 0, x :: ds, _, h => by
    obtain ⟨u, r, rfl, h1, h2⟩ := h
    exact ⟨_, r, rfl, trivial, h2⟩
  | n + 1, x :: ds, _, h => by
    obtain ⟨u, r, rfl, h1, h2⟩ := h
    exact ⟨u, _, rfl, h1, RelS.unset n h2⟩
theorem RelS.wipe {ds : Sl} {vs : St} (h : RelS K FA ρ H ds vs) : ∀ own : List Nat, RelS K FA ρ H (wipeD ds own) (L2.wipe vs own)
  | [] => h
  | v :: own => RelS.unset v (RelS.wipe h own)
end

/-! ### memory and heap -/
section
variable {K : PySem.W.Frag} {FA : Nat → Addr} {ρ ρ' ρ2 : List Addr} {H H' H2 : Hp} {M : Mem}
theorem CellR.mono0 (x : Ext0 K ρ H ρ' H') {a : Addr} : ∀ {c : Cell}, (∀ o, H a = some o → H' a = some o) → CellR K FA ρ H a c → CellR K FA ρ' H' a c
  | .lst xs, hs, ⟨vs, e, r⟩ => ⟨vs, hs _ e, r.mono0 x⟩
  | .rol xs, hs, ⟨vs, e, r⟩ => ⟨vs, e.elim (fun e => .inl (hs _ e)) (fun ⟨o, e⟩ => .inr ⟨o, hs _ e⟩), r.mono0 x⟩
theorem CellR.mono (x : Ext K ρ H ρ' H') {a : Addr} {c : Cell} (hs : ∀ o, H a = some o → H' a = some o) (h : CellR K FA ρ H a c) : CellR K FA ρ' H' a c := h.mono0 x.toExt0 hs
theorem CellR.there {a : Addr} : ∀ {c : Cell}, CellR K FA ρ H a c → ∃ o, H a = some o
  | .lst xs, ⟨vs, e, r⟩ => ⟨_, e⟩
  | .rol xs, ⟨vs, e, r⟩ => e.elim (fun e => ⟨_, e⟩) (fun ⟨o, e⟩ => ⟨_, e⟩)
/-- all stands as it stood -/
theorem sqT_same {b : Addr} {xs : List V} (s : Same H H') (h : SqT K H b xs) : SqT K H' b xs := by
  rcases h with (h | ⟨o, h⟩) | h
  · exact .inl (.inl (s _ _ h))
  · exact .inl (.inr ⟨o, s _ _ h⟩)
  · exact .inr h
theorem Ext.same (s : Same H H') : Ext K ρ H ρ H' := ⟨⟨fun _ _ h => h, fun _ _ h => sqT_same s h⟩, fun b o h n => ⟨s _ _ h, n⟩⟩
theorem Rel.same (s : Same H H') (r : Rel K FA ρ M H) : Rel K FA ρ M H' :=
  ⟨r.len, r.inj, fun l c a h1 h2 => (r.cell l c a h1 h2).mono (Ext.same s) fun o h => s _ _ h⟩
theorem same_new {p : Addr} {o : HO} (n : H p = none) : Same H (upd H p o) := fun b u e => by
  rw [upd_ne (ne_of_none e n)]
  exact e
theorem getElem?_len {α : Type} {l : List α} {i : Nat} {x : α} (h : l[i]? = some x) : i < l.length := (List.getElem?_eq_some_iff.mp h).1
/-- a new list -/
theorem Rel.push {p : Addr} {xs : List D} {vs : List V} (r : Rel K FA ρ M H) (n : H p = none) (rv : RelDs K FA ρ H xs vs) :
    Ext K ρ H (ρ ++ [p]) (upd H p (.lst vs)) ∧ Rel K FA (ρ ++ [p]) (M ++ [.lst xs]) (upd H p (.lst vs)) ∧ (ρ ++ [p])[M.length]? = some p := by
  have sm : Same H (upd H p (.lst vs)) := same_new n
  have pre : ∀ (l : Nat) (a : Addr), ρ[l]? = some a → (ρ ++ [p])[l]? = some a := fun l a h => by
    rw [List.getElem?_append_left (getElem?_len h)]
    exact h
  have ex : Ext K ρ H (ρ ++ [p]) (upd H p (.lst vs)) := ⟨⟨pre, fun b xs h => sqT_same sm h⟩, fun b o h hn => ⟨sm _ _ h, fun l e => by
    by_cases hl : l < ρ.length
    · rw [List.getElem?_append_left hl] at e
      exact hn l e
    · rw [List.getElem?_append_right (by omega)] at e
      have e2 : b ∈ [p] := List.mem_of_getElem? e
      rw [List.mem_singleton.mp e2, n] at h
      cases h⟩⟩
  have at_ : (ρ ++ [p])[M.length]? = some p := by
    rw [← r.len, List.getElem?_append_right (Nat.le_refl _), Nat.sub_self]
    rfl
  have old : ∀ (l : Nat) (c : Cell), (M ++ [Cell.lst xs])[l]? = some c → (M[l]? = some c ∧ l < M.length) ∨ (l = M.length ∧ c = .lst xs) := fun l c h => by
    by_cases hl : l < M.length
    · rw [List.getElem?_append_left hl] at h
      exact .inl ⟨h, hl⟩
    · have h2 := getElem?_len h
      rw [List.length_append] at h2
      have e : l = M.length := by
        have : [Cell.lst xs].length = 1 := rfl
        omega
      rw [e, List.getElem?_append_right (Nat.le_refl _), Nat.sub_self] at h
      exact .inr ⟨e, (Option.some.inj h).symm⟩
  have oldA : ∀ (l : Nat) (a : Addr), l < M.length → (ρ ++ [p])[l]? = some a → ρ[l]? = some a := fun l a hl h => by
    rw [List.getElem?_append_left (by rw [r.len]; exact hl)] at h
    exact h
  have far : ∀ (l : Nat) (c : Cell), M[l]? = some c → l < M.length → ρ[l]? = some p → False := fun l c h1 hl h2 => by
    obtain ⟨o, e⟩ := (r.cell l c p h1 h2).there
    rw [n] at e
    cases e
  refine ⟨ex, ⟨by rw [List.length_append, List.length_append, r.len] <;> rfl, fun l k a c d h1 h2 h3 h4 => ?_, fun l c a h1 h2 => ?_⟩, at_⟩
  · rcases old l c h1 with ⟨h1, hl⟩ | ⟨e1, e2⟩
    · have h3 := oldA l a hl h3
      rcases old k d h2 with ⟨h2, hk⟩ | ⟨e3, e4⟩
      · exact r.inj l k a c d h1 h2 h3 (oldA k a hk h4)
      · subst e3
        rw [at_] at h4
        cases h4
        exact (far l c h1 hl h3).elim
    · subst e1
      rw [at_] at h3
      cases h3
      rcases old k d h2 with ⟨h2, hk⟩ | ⟨e3, e4⟩
      · exact (far k d h2 hk (oldA k p hk h4)).elim
      · exact e3.symm
  · rcases old l c h1 with ⟨h1, hl⟩ | ⟨e1, e2⟩
    · exact (r.cell l c a h1 (oldA l a hl h2)).mono ex fun o h => sm _ _ h
    · subst e1 e2
      rw [at_] at h2
      cases h2
      exact ⟨vs, upd_same, rv.mono ex⟩
/-- a list is changed -/
theorem Rel.write {l : Nat} {a : Addr} {xs xs' : List D} {vs' : List V} (r : Rel K FA ρ M H) (hm : M[l]? = some (.lst xs)) (ha : ρ[l]? = some a) (rv : RelDs K FA ρ H xs' vs') :
    Ext K ρ H ρ (upd H a (.lst vs')) ∧ Rel K FA ρ (M.set l (.lst xs')) (upd H a (.lst vs')) := by
  obtain ⟨vs, ea, _⟩ := r.cell l _ a hm ha
  have ex : Ext K ρ H ρ (upd H a (.lst vs')) := by
    refine ⟨⟨fun _ _ h => h, fun b ys h => ?_⟩, fun b o h hn => ⟨?_, hn⟩⟩
    case refine_2 =>
      rw [upd_ne (fun e => hn l (by rw [e]; exact ha))]
      exact h
    rcases h with (h | ⟨o, h⟩) | h
    · refine .inl (.inl ?_)
      rw [upd_ne (fun e => by rw [e, ea] at h; cases h)]
      exact h
    · refine .inl (.inr ⟨o, ?_⟩)
      rw [upd_ne (fun e => by rw [e, ea] at h; cases h)]
      exact h
    · exact .inr h
  have hl := getElem?_len hm
  have look : ∀ (k : Nat) (c : Cell), (M.set l (.lst xs'))[k]? = some c → (k = l ∧ c = .lst xs') ∨ (k ≠ l ∧ M[k]? = some c) := fun k c h => by
    by_cases e : k = l
    · subst e
      rw [List.getElem?_set_self hl] at h
      exact .inl ⟨rfl, (Option.some.inj h).symm⟩
    · rw [List.getElem?_set_ne (fun z => e z.symm)] at h
      exact .inr ⟨e, h⟩
  have kind : ∀ (k : Nat) (c : Cell), (M.set l (.lst xs'))[k]? = some c → ∃ c', M[k]? = some c' := fun k c h => by
    rcases look k c h with ⟨e1, e2⟩ | ⟨_, h⟩
    · subst e1 e2
      exact ⟨_, hm⟩
    · exact ⟨c, h⟩
  refine ⟨ex, by rw [List.length_set]; exact r.len, fun i k b c d h1 h2 h3 h4 => ?_, fun k c b h1 h2 => ?_⟩
  · obtain ⟨c', q1⟩ := kind i c h1
    obtain ⟨d', q3⟩ := kind k d h2
    exact r.inj i k b c' d' q1 q3 h3 h4
  · rcases look k c h1 with ⟨e1, e2⟩ | ⟨ne, h⟩
    · subst e1 e2
      rw [ha] at h2
      cases h2
      exact ⟨vs', upd_same, rv.mono ex⟩
    · refine (r.cell k c b h h2).mono ex fun o ho => ?_
      rw [upd_ne (fun e => ne (r.inj k l b c _ h hm h2 (by rw [e]; exact ha)))]
      exact ho
end

/-! ### what comes behind a piece -/
section
variable {K : PySem.W.Frag} {FA : Nat → Addr} {ρ ρ' ρ2 : List Addr} {H H' H2 : Hp} {M M' : Mem} {α β : Type}
/-- r's end, from ρ and H on: whatever stands for it, Q holds -/
def Post (K : PySem.W.Frag) (FA : Nat → Addr) (RA : List Addr → Hp → α → β → Prop) (r : R α) (ρ : List Addr) (H : Hp) (Q : β → Hp → Prop) : Prop := match r with
  | .ok a M' => ∀ ρ' H' b, Ext K ρ H ρ' H' → Rel K FA ρ' M' H' → RA ρ' H' a b → Q b H'
  | _ => False
abbrev PostD (K : PySem.W.Frag) (FA : Nat → Addr) (r : R D) (ρ : List Addr) (H : Hp) (Q : VK) : Prop := Post K FA (RelD K FA) r ρ H Q
theorem Post.ext {RA : List Addr → Hp → α → β → Prop} {r : R α} {Q : β → Hp → Prop} (x : Ext K ρ H ρ' H') (h : Post K FA RA r ρ H Q) : Post K FA RA r ρ' H' Q := by
  cases r with
  | bad => exact h
  | exc c p N => exact h
  | ok a M' => exact fun ρ2 H2 b e r q => h ρ2 H2 b (x.trans e) r q
theorem Post.mono {RA : List Addr → Hp → α → β → Prop} {r : R α} {Q Q' : β → Hp → Prop} (hq : ∀ b H', Q b H' → Q' b H') (h : Post K FA RA r ρ H Q) : Post K FA RA r ρ H Q' := by
  cases r with
  | bad => exact h
  | exc c p N => exact h
  | ok a M' => exact fun ρ2 H2 b e r q => hq _ _ (h ρ2 H2 b e r q)
theorem Post.at {RA : List Addr → Hp → α → β → Prop} {a : α} {b : β} {Q : β → Hp → Prop} (h : Post K FA RA (.ok a M) ρ H Q) (r : Rel K FA ρ M H) (q : RA ρ H a b) : Q b H := h ρ H b .refl r q
/-- in a row -/
theorem Post.bind {γ δ : Type} {RA : List Addr → Hp → α → β → Prop} {RC : List Addr → Hp → γ → δ → Prop} {r : R α} {f : α → Mem → R γ} {Q : δ → Hp → Prop} {S : β → Hp → Prop} (h : Post K FA RC (r.bind f) ρ H Q)
    (hs : ∀ a M' ρ' H' b, r = .ok a M' → Ext K ρ H ρ' H' → Rel K FA ρ' M' H' → RA ρ' H' a b → Post K FA RC (f a M') ρ' H' Q → S b H') : Post K FA RA r ρ H S := by
  cases r with
  | bad => exact h
  | exc c p N => exact h
  | ok a M' =>
    intro ρ' H' b e rl q
    exact hs a M' ρ' H' b rfl e rl q (Post.ext e h)
end
end Ev
namespace Ev
open PySem L2

theorem line_eq : line = sizeLine := by rw [sizeLine_eq] <;> rfl

/-! ### data as a whole -/
section
variable {K : PySem.W.Frag} {FA : Nat → Addr} {ρ : List Addr} {H : Hp} {M : Mem}
theorem Rel.lstAt {l : Nat} {xs : List D} {a : Addr} (r : Rel K FA ρ M H) (h : lstAt M l = some xs) (ha : ρ[l]? = some a) : ∃ vs, SqL K H a vs ∧ RelDs K FA ρ H xs vs := by
  unfold Ev.lstAt at h
  cases q : M[l]? with
  | none =>
    rw [q] at h
    cases h
  | some c =>
    rw [q] at h
    have hc := r.cell l c a q ha
    cases c with
    | lst ys =>
      cases h
      obtain ⟨vs, e, rv⟩ := hc
      exact ⟨vs, SqL.of e, rv⟩
    | rol ys =>
      cases h
      obtain ⟨vs, e, rv⟩ := hc
      exact ⟨vs, .inl e, rv⟩
theorem mutAt_eq {l : Nat} {xs : List D} (h : mutAt M l = some xs) : M[l]? = some (.lst xs) := by
  unfold mutAt at h
  cases q : M[l]? with
  | none =>
    rw [q] at h
    cases h
  | some c =>
    rw [q] at h
    cases c with
    | lst ys =>
      cases h
      rfl
    | rol ys => cases h
theorem Rel.mutAt {l : Nat} {xs : List D} {a : Addr} (r : Rel K FA ρ M H) (h : mutAt M l = some xs) (ha : ρ[l]? = some a) : ∃ vs, H a = some (.lst vs) ∧ RelDs K FA ρ H xs vs :=
  r.cell l _ a (mutAt_eq h) ha
/-- a list or a tuple -/
theorem Rel.seq {d : D} {xs : List D} {v : V} (r : Rel K FA ρ M H) (h : seqOf M d = some xs) (hd : RelD K FA ρ H d v) : ∃ a vs, v = .ref a ∧ (SqL K H a vs ∨ SqT K H a vs) ∧ RelDs K FA ρ H xs vs := by
  cases d with
  | tup ys =>
    cases h
    obtain ⟨a, vs, e, s, rv⟩ := hd
    exact ⟨a, vs, e, .inr s, rv⟩
  | loc l =>
    obtain ⟨a, e, ha⟩ := hd
    obtain ⟨vs, s, rv⟩ := r.lstAt h ha
    exact ⟨a, vs, e, .inl s, rv⟩
  | _ => cases h
theorem optAll_cons {α : Type} {o : Option α} {r : List (Option α)} {xs : List α} (h : optAll (o :: r) = some xs) : ∃ x ys, o = some x ∧ optAll r = some ys ∧ xs = x :: ys := by
  cases o with
  | none => cases h
  | some x =>
    have h2 : (optAll r).map (x :: ·) = some xs := h
    cases q : optAll r with
    | none =>
      rw [q] at h2
      cases h2
    | some ys =>
      rw [q] at h2
      exact ⟨x, ys, rfl, rfl, (Option.some.inj h2).symm⟩
theorem toPy_all {n : Nat} (r : Rel K FA ρ M H) (ih : ∀ {d : D} {v : V} {p : PyData}, toPy n M d = some p → RelD K FA ρ H d v → Dp K H v p ∧ p.canLay0 = true ∧ p.depth ≤ n) :
    ∀ {xs : List D} {vs : List V} {ps : List PyData}, optAll (xs.map (toPy n M)) = some ps → RelDs K FA ρ H xs vs → DpAll K H vs ps ∧ PyData.canLayAll0 ps = true ∧ PyData.depthAll ps ≤ n
  | [], vs, ps, h, rv => by
    rw [show vs = [] from rv, show ps = [] from (Option.some.inj h).symm]
    exact ⟨.nil, rfl, Nat.zero_le _⟩
  | x :: xs, vs, ps, h, rv => by
    obtain ⟨v, us, rfl, r1, r2⟩ := rv
    obtain ⟨p, qs, e1, e2, rfl⟩ := optAll_cons h
    obtain ⟨a1, a2, a3⟩ := ih e1 r1
    obtain ⟨b1, b2, b3⟩ := toPy_all r ih e2 r2
    refine ⟨.cons a1 b1, ?_, ?_⟩
    · show (p.canLay0 && PyData.canLayAll0 qs) = true
      rw [a2, b2] <;> rfl
    · show max p.depth (PyData.depthAll qs) ≤ n
      omega
theorem toPy_dp (r : Rel K FA ρ M H) : ∀ (n : Nat) {d : D} {v : V} {p : PyData}, toPy n M d = some p → RelD K FA ρ H d v → Dp K H v p ∧ p.canLay0 = true ∧ p.depth ≤ n
  | 0, d, v, p, h, _ => by cases h
  | n + 1, d, v, p, h, rv => by
    cases d with
    | non =>
      cases h
      rw [show v = _ from rv]
      exact ⟨.non, rfl, Nat.zero_le _⟩
    | bl b =>
      cases h
      rw [show v = _ from rv]
      exact ⟨.bl b, rfl, Nat.zero_le _⟩
    | int i =>
      cases h
      rw [show v = _ from rv]
      exact ⟨.int i, rfl, Nat.zero_le _⟩
    | str x =>
      have h2 : (if (PyData.str x).canLay0 = true then some (PyData.str x) else none) = some p := h
      by_cases q : (PyData.str x).canLay0 = true
      · rw [if_pos q] at h2
        cases h2
        rw [show v = _ from rv]
        exact ⟨.str x, q, Nat.zero_le _⟩
      · rw [if_neg q] at h2
        cases h2
    | tup xs =>
      have h2 : (optAll (xs.map (toPy n M))).map PyData.tuple = some p := h
      cases q : optAll (xs.map (toPy n M)) with
      | none =>
        rw [q] at h2
        cases h2
      | some ps =>
        rw [q] at h2
        cases h2
        obtain ⟨a, vs, rfl, s, rs⟩ := rv
        obtain ⟨a1, a2, a3⟩ := toPy_all r (fun h rv => toPy_dp r n h rv) q rs
        exact ⟨.tup s a1, a2, Nat.succ_le_succ a3⟩
    | loc l =>
      have h2 : (match Ev.lstAt M l with | some xs => (optAll (xs.map (toPy n M))).map PyData.list | none => none) = some p := h
      cases qa : Ev.lstAt M l with
      | none =>
        rw [qa] at h2
        cases h2
      | some xs =>
        rw [qa] at h2
        have h3 : (optAll (xs.map (toPy n M))).map PyData.list = some p := h2
        cases q : optAll (xs.map (toPy n M)) with
        | none =>
          rw [q] at h3
          cases h3
        | some ps =>
          rw [q] at h3
          cases h3
          obtain ⟨a, rfl, ha⟩ := rv
          obtain ⟨vs, s, rs⟩ := r.lstAt qa ha
          obtain ⟨a1, a2, a3⟩ := toPy_all r (fun h rv => toPy_dp r n h rv) q rs
          exact ⟨.lst s a1, a2, Nat.succ_le_succ a3⟩
    | ty n => cases h
    | fn i => cases h
theorem toPy_shaped (r : Rel K FA ρ M H) {d : D} {v : V} {p : PyData} (h : toPy 30 M d = some p) (rv : RelD K FA ρ H d v) : Dp K H v p ∧ SeqAt.shaped p = true := by
  obtain ⟨a, b, c⟩ := toPy_dp r 30 h rv
  refine ⟨a, ?_⟩
  unfold SeqAt.shaped
  rw [b, decide_eq_true (by omega)] <;> rfl
end

/-! ### operators -/
section
variable {X : Cx} {FA : Nat → Addr}
theorem OpR.imp {f : Value → Value → Sem Value} {r r' : R2} (h : OpR X f r) (i : ∀ x y H Q, r' x y H Q → r x y H Q) : OpR X f r' := fun pins s σ H x y v u Q I rx ry q => h pins s σ H x y v u Q I rx ry (i x y H Q q)
/-- by data -/
def rD2 (X : Cx) (FA : Nat → Addr) (g : D → D → Mem → R D) : R2 := fun x y H Q => ∃ ρ M d e, Rel X.K FA ρ M H ∧ RelD X.K FA ρ H d x ∧ RelD X.K FA ρ H e y ∧ PostD X.K FA (g d e M) ρ H Q
theorem post_new {K : PySem.W.Frag} {ρ : List Addr} {M : Mem} {H : Hp} {Q : VK} {xs : List D} {vs : List V} {p : Addr} (r : Rel K FA ρ M H) (rv : RelDs K FA ρ H xs vs) (n : H p = none) (h : PostD K FA (new xs M) ρ H Q) : Q (.ref p) (upd H p (.lst vs)) := by
  obtain ⟨a, b, c⟩ := r.push n rv
  exact h _ _ _ a b ⟨p, rfl, c⟩
theorem post_newS {K : PySem.W.Frag} {ρ : List Addr} {M : Mem} {H : Hp} {Q : VK} {xs : List D} {vs : List V} (r : Rel K FA ρ M H) (rv : RelDs K FA ρ H xs vs) (h : PostD K FA (newS xs M) ρ H Q) : vs.length ≤ sizeLine ∧ ∀ p, H p = none → Q (.ref p) (upd H p (.lst vs)) := by
  unfold newS at h
  by_cases hl : xs.length ≤ line
  · rw [if_pos hl] at h
    exact ⟨by rw [rv.length, ← line_eq]; exact hl, fun p n => post_new r rv n h⟩
  · rw [if_neg hl] at h
    exact h.elim
theorem post_tup {K : PySem.W.Frag} {ρ : List Addr} {M : Mem} {H : Hp} {Q : VK} {xs : List D} {vs : List V} {p : Addr} (r : Rel K FA ρ M H) (rv : RelDs K FA ρ H xs vs) (n : H p = none) (h : PostD K FA (.ok (.tup xs) M) ρ H Q) : Q (.ref p) (upd H p (.tup vs)) := by
  have sm : Same H (upd H p (.tup vs)) := same_new n
  exact h ρ _ _ (Ext.same sm) (r.same sm) ⟨p, vs, rfl, .inl (.inl upd_same), rv.mono (Ext.same sm)⟩
/-- Op2 in the machine's words -/
def opF : Op2 → Value → Value → Sem Value
  | .add => binaryOp .Add
  | .sub => binaryOp .Sub
  | .mul => binaryOp .Mult
  | .fdiv => binaryOp .FloorDiv
  | .mod => binaryOp .Mod
  | .pow => binaryOp .Pow
  | .eq => compareOp .Eq
  | .ne => compareOp .NotEq
  | .lt => compareOp .Lt
  | .le => compareOp .LtE
  | .gt => compareOp .Gt
  | .ge => compareOp .GtE
  | .is => compareOp .Is
  | .isn => compareOp .IsNot
  | .isin => compareOp .In
  | .notin => compareOp .NotIn
theorem add_ok : OpR X (binaryOp .Add) (rD2 X FA fun d e M => addD M d e) := by
  intro pins s σ H x y v u Q I rx ry h
  obtain ⟨ρ, M, d, e, r, rd, re, h⟩ := h
  cases d with
  | int i => cases e with
    | int j => exact op_add pins s σ H x y v u Q I rx ry ⟨i, j, rd, re, h.at r rfl⟩
    | _ => exact h.elim
  | str a => cases e with
    | str b =>
      have h2 : PostD X.K FA (if a.length + b.length ≤ line then .ok (.str (a ++ b)) M else .bad) ρ H Q := h
      by_cases hl : a.length + b.length ≤ line
      · rw [if_pos hl] at h2
        exact op_add_str pins s σ H x y v u Q I rx ry ⟨a, b, rd, re, by rw [← line_eq]; exact hl, h2.at r rfl⟩
      · rw [if_neg hl] at h2
        exact h2.elim
    | _ => exact h.elim
  | tup xs => cases e with
    | tup ys =>
      have h2 : PostD X.K FA (if xs.length + ys.length ≤ line then .ok (.tup (xs ++ ys)) M else .bad) ρ H Q := h
      by_cases hl : xs.length + ys.length ≤ line
      · rw [if_pos hl] at h2
        obtain ⟨a, vs, e1, s1, r1⟩ := id rd
        obtain ⟨b, us, e2, s2, r2⟩ := id re
        refine op_catA pins s σ H x y v u Q I rx ry ⟨a, b, vs, us, e1, e2, s1, s2, by rw [r1.length, r2.length, ← line_eq]; exact hl, fun z => ?_, fun z1 z2 => ?_, fun z1 z2 p n => post_tup r (r1.append r2) n h2⟩
        · have z' := r1.nil_iff.mp z
          subst z'
          rw [← e2]
          exact h2.at r re
        · have z' := r2.nil_iff.mp z2
          subst z'
          rw [List.append_nil] at h2
          rw [← e1]
          exact h2.at r rd
      · rw [if_neg hl] at h2
        exact h2.elim
    | _ => exact h.elim
  | loc l => cases e with
    | loc k =>
      have h2 : PostD X.K FA (match mutAt M l, mutAt M k with | some a, some b => newS (a ++ b) M | _, _ => .bad) ρ H Q := h
      cases q1 : mutAt M l with
      | none =>
        rw [q1] at h2
        exact h2.elim
      | some a =>
        cases q2 : mutAt M k with
        | none =>
          rw [q1, q2] at h2
          exact h2.elim
        | some b =>
          rw [q1, q2] at h2
          obtain ⟨p, e1, ha⟩ := id rd
          obtain ⟨q, e2, hb⟩ := id re
          obtain ⟨vs, s1, r1⟩ := r.mutAt q1 ha
          obtain ⟨us, s2, r2⟩ := r.mutAt q2 hb
          obtain ⟨z1, z2⟩ := post_newS r (r1.append r2) h2
          rw [List.length_append] at z1
          exact op_cat pins s σ H x y v u Q I rx ry ⟨p, q, vs, us, e1, e2, s1, s2, z1, z2⟩
    | _ => exact h.elim
  | _ => cases e <;> exact h.elim
theorem tuple_mul1 (l : Addr) (items : Array Value) (n : Nat) (dd : Option Addr) (sl : Array (Option Value)) (u : Tok) :
    Meets (Builtin.«tuple.__mul__» ⟨[.ref l, .int 1 u], []⟩) (fun _ R s => s.heap.get? l = some { cls := .type "tuple", dict := dd, data := .seq items n, slots := sl } ∧
      R (.ok (.ret (Value.ref l))) s) :=
  .of_wp fun prog w A R s h => by
    obtain ⟨hp, g, d, tk, os⟩ := s
    obtain ⟨hl, h⟩ := h
    have f1 := AutoSeq1.idx_int
    wp_walk using wpAny_loadPart' hl
    exact ⟨_, rfl, h⟩
def rRep1 (K : PySem.W.Frag) : R2 := fun x y H Q => ∃ l xs, x = .ref l ∧ y = .int 1 ∧ SqT K H l xs ∧ Q (.ref l) H
theorem op_rep1 : OpR X (binaryOp .Mult) (rRep1 X.K) := by
  intro pins s σ H x y v u Q I rx ry h
  obtain ⟨l, xs, rfl, rfl, hT, q⟩ := h
  cases rx
  obtain ⟨t, rfl⟩ := ry
  obtain ⟨its, r, ⟨⟨cls, dd, data, sl⟩, ho, hc, n, hd⟩, hs⟩ := I.tuple hT
  simp only at hc hd
  subst hc hd
  refine wpAny_binaryOp_repeat_ref (T := "tuple") (U := "int") (by decide) ⟨_, ho, rfl⟩ (fun s' => typeIs_int s' 1 t) noFill_tuple_mul PySem.F.fills_int_mul PySem.F.slot_int_rmul repeat_tuple PySem.F.slot_int_index.lookup
    (call_meets PySem.F.slot_int_rmul (typeIs_int s 1 t) PySem.F.entry_int_rmul (PySem.F.args_int_rmul_2 _ _) (int_rmul_tuple 1 t l its.toArray n dd sl)
      ⟨ho, rfl, ⟨_, ho, rfl⟩, call_meets PySem.F.slot_tuple_mul ⟨_, ho, rfl⟩ PySem.F.entry_tuple_mul (PySem.F.args_tuple_mul_2 _ _) (tuple_mul1 l its.toArray n dd sl t) ⟨ho, ?_⟩⟩)
  exact ⟨.ref l, H, I, rfl, q⟩
theorem mul_ok : OpR X (binaryOp .Mult) (rD2 X FA fun d e M => mulD M d e) := by
  intro pins s σ H x y v u Q I rx ry h
  obtain ⟨ρ, M, d, e, r, rd, re, h⟩ := h
  cases d with
  | int i => cases e with
    | int j =>
      have h2 : PostD X.K FA (if mulOk i j = true then .ok (.int (i * j)) M else .bad) ρ H Q := h
      by_cases hl : mulOk i j = true
      · rw [if_pos hl] at h2
        have q : Q (.int (i * j)) H := h2.at r rfl
        unfold mulOk at hl
        rw [Bool.or_eq_true, Bool.or_eq_true, decide_eq_true_eq, decide_eq_true_eq, decide_eq_true_eq] at hl
        rcases hl with hl | hl | hl
        · exact op_mul pins s σ H x y v u Q I rx ry ⟨i, j, rd, re, .inl (by omega), q⟩
        · exact op_mul pins s σ H x y v u Q I rx ry ⟨i, j, rd, re, .inr (by omega), q⟩
        · exact op_mulW pins s σ H x y v u Q I rx ry ⟨i, j, rd, re, hl, q⟩
      · rw [if_neg hl] at h2
        exact h2.elim
    | _ => exact h.elim
  | loc l => cases e with
    | int k =>
      have h2 : PostD X.K FA (match mutAt M l with | some a => if -(2 ^ 63) ≤ k ∧ k < 2 ^ 63 ∧ a.length * k.toNat ≤ line then new (List.replicate k.toNat a).flatten M else .bad | none => .bad) ρ H Q := h
      cases q1 : mutAt M l with
      | none =>
        rw [q1] at h2
        exact h2.elim
      | some a =>
        rw [q1] at h2
        have h3 : PostD X.K FA (if -(2 ^ 63) ≤ k ∧ k < 2 ^ 63 ∧ a.length * k.toNat ≤ line then new (List.replicate k.toNat a).flatten M else .bad) ρ H Q := h2
        by_cases hl : -(2 ^ 63) ≤ k ∧ k < 2 ^ 63 ∧ a.length * k.toNat ≤ line
        · rw [if_pos hl] at h3
          obtain ⟨p, e1, ha⟩ := id rd
          obtain ⟨vs, s1, r1⟩ := r.mutAt q1 ha
          exact op_rep pins s σ H x y v u Q I rx ry ⟨p, k, vs, e1, re, s1, hl.1, hl.2.1, by rw [r1.length, ← line_eq]; exact hl.2.2, fun p n => post_new r (r1.replicate _) n h3⟩
        · rw [if_neg hl] at h3
          exact h3.elim
    | _ => exact h.elim
  | tup xs => cases e with
    | int k =>
      have h2 : PostD X.K FA (if xs.isEmpty = false ∧ 1 ≤ k ∧ k ≤ 1000 ∧ xs.length ≤ 1000 then .ok (.tup (List.replicate k.toNat xs).flatten) M else .bad) ρ H Q := h
      by_cases hl : xs.isEmpty = false ∧ 1 ≤ k ∧ k ≤ 1000 ∧ xs.length ≤ 1000
      · rw [if_pos hl] at h2
        obtain ⟨c1, c2, c3, c4⟩ := hl
        obtain ⟨p, vs, e1, s1, r1⟩ := id rd
        by_cases hk : k = 1
        · subst hk
          have e2 : (List.replicate (1 : Int).toNat xs).flatten = xs := by simp
          rw [e2] at h2
          refine op_rep1 pins s σ H x y v u Q I rx ry ⟨p, vs, e1, re, s1, ?_⟩
          rw [← e1]
          exact h2.at r rd
        · refine op_repT pins s σ H x y v u Q I rx ry ⟨p, k, vs, e1, re, s1, fun z => ?_, by omega, c3, by rw [r1.length]; exact c4, fun q n => post_tup r (r1.replicate _) n h2⟩
          have := r1.nil_iff.mp z
          subst this
          cases c1
      · rw [if_neg hl] at h2
        exact h2.elim
    | _ => exact h.elim
  | _ => cases e <;> exact h.elim
theorem int2_ok {f : Value → Value → Sem Value} {C : Int → Int → Prop} {g : Int → Int → V} {gd : D → D → Mem → R D} (hf : OpR X f (rI C g))
    (hg : ∀ ρ M H d e Q, Rel X.K FA ρ M H → PostD X.K FA (gd d e M) ρ H Q → ∃ i j, d = .int i ∧ e = .int j ∧ C i j ∧ Q (g i j) H) : OpR X f (rD2 X FA gd) := by
  refine OpR.imp hf fun x y H Q ⟨ρ, M, d, e, r, rd, re, h⟩ => ?_
  obtain ⟨i, j, rfl, rfl, c, q⟩ := hg ρ M H d e Q r h
  exact ⟨i, j, rd, re, c, q⟩
theorem int2_ok0 {f : Value → Value → Sem Value} {g : Int → Int → V} {gd : D → D → Mem → R D} (hf : OpR X f (rI0 g))
    (hg : ∀ ρ M H d e Q, Rel X.K FA ρ M H → PostD X.K FA (gd d e M) ρ H Q → ∃ i j, d = .int i ∧ e = .int j ∧ Q (g i j) H) : OpR X f (rD2 X FA gd) := by
  refine OpR.imp hf fun x y H Q ⟨ρ, M, d, e, r, rd, re, h⟩ => ?_
  obtain ⟨i, j, rfl, rfl, q⟩ := hg ρ M H d e Q r h
  exact ⟨i, j, rd, re, q⟩
theorem cmp_ok {f : Value → Value → Sem Value} {p : Int → Int → Bool} (hf : OpR X f (rI0 fun i j => .bl (p i j))) : OpR X f (rD2 X FA fun d e M => cmpI p M d e) := by
  refine int2_ok0 hf fun ρ M H d e Q r h => ?_
  cases d with
  | int i => cases e with
    | int j => exact ⟨i, j, rfl, rfl, h.at r rfl⟩
    | _ => exact h.elim
  | _ => cases e <;> exact h.elim
theorem post_if {K : PySem.W.Frag} {c : Prop} [Decidable c] {r : R D} {ρ : List Addr} {H : Hp} {Q : VK} (h : PostD K FA (if c then r else .bad) ρ H Q) : c ∧ PostD K FA r ρ H Q := by
  by_cases hc : c
  · rw [if_pos hc] at h
    exact ⟨hc, h⟩
  · rw [if_neg hc] at h
    exact h.elim
theorem post_ofO {K : PySem.W.Frag} {α β : Type} {RA : List Addr → Hp → α → β → Prop} {o : Option α} {M : Mem} {ρ : List Addr} {H : Hp} {Q : β → Hp → Prop} (h : Post K FA RA (.ofO o M) ρ H Q) : ∃ a, o = some a ∧ Post K FA RA (.ok a M) ρ H Q := by
  cases o with
  | none => exact h.elim
  | some a => exact ⟨a, rfl, h⟩
theorem map_some {α β : Type} {o : Option α} {f : α → β} {b : β} (h : o.map f = some b) : ∃ a, o = some a ∧ b = f a := by
  cases o with
  | none => cases h
  | some a => exact ⟨a, rfl, (Option.some.inj h).symm⟩
theorem pyEqD_some {M : Mem} {d e : D} {b : Bool} (h : pyEqD M d e = some b) : ∃ p q, toPy 30 M d = some p ∧ toPy 30 M e = some q ∧ b = PyData.eqv p q := by
  unfold pyEqD at h
  cases q1 : toPy 30 M d with
  | none =>
    rw [q1] at h
    cases h
  | some p =>
    cases q2 : toPy 30 M e with
    | none =>
      rw [q1, q2] at h
      cases h
    | some q =>
      rw [q1, q2] at h
      exact ⟨p, q, rfl, rfl, (Option.some.inj h).symm⟩
theorem pyEq_some {K : PySem.W.Frag} {ρ : List Addr} {H : Hp} {M : Mem} {d e : D} {b : Bool} {x y : V} (r : Rel K FA ρ M H) (h : pyEq M d e = some b) (rd : RelD K FA ρ H d x) (re : RelD K FA ρ H e y) :
    (L2.scal x y = true ∧ decide (x = y) = b) ∨ ∃ p q, Dp K H x p ∧ Dp K H y q ∧ SeqAt.shaped p = true ∧ SeqAt.shaped q = true ∧ b = PyData.eqv p q := by
  have gen : pyEqD M d e = some b → ∃ p q, Dp K H x p ∧ Dp K H y q ∧ SeqAt.shaped p = true ∧ SeqAt.shaped q = true ∧ b = PyData.eqv p q := fun h => by
    obtain ⟨p, q, e1, e2, rfl⟩ := pyEqD_some h
    obtain ⟨a1, a2⟩ := toPy_shaped r e1 rd
    obtain ⟨b1, b2⟩ := toPy_shaped r e2 re
    exact ⟨p, q, a1, b1, a2, b2, rfl⟩
  unfold pyEq at h
  split at h
  · rename_i i j
    obtain rfl : x = .int i := rd
    obtain rfl : y = .int j := re
    refine .inl ⟨rfl, ?_⟩
    rw [← Option.some.inj h]
    exact decide_eq_decide.mpr ⟨fun z => by cases z; rfl, fun z => by rw [z]⟩
  · rename_i i j
    obtain rfl : x = .str i := rd
    obtain rfl : y = .str j := re
    refine .inl ⟨rfl, ?_⟩
    rw [← Option.some.inj h]
    exact decide_eq_decide.mpr ⟨fun z => by cases z; rfl, fun z => by rw [z]⟩
  · exact .inr (gen h)
theorem eq_ok (hu : X.A.units + 64 < cLine) : OpR X (compareOp .Eq) (rD2 X FA fun d e M => .ofO ((pyEq M d e).map .bl) M) := by
  refine OpR.imp (OpR.or op_eq (op_eqD hu)) fun x y H Q ⟨ρ, M, d, e, r, rd, re, h⟩ => ?_
  obtain ⟨z, h1, h2⟩ := post_ofO h
  obtain ⟨b, h3, rfl⟩ := map_some h1
  rcases pyEq_some r h3 rd re with ⟨s1, s2⟩ | ⟨p, q, a1, b1, a2, b2, rfl⟩
  · exact .inl ⟨s1, by rw [s2]; exact h2.at r rfl⟩
  · exact .inr ⟨p, q, a1, b1, a2, b2, h2.at r rfl⟩
theorem ne_ok (hu : X.A.units + 64 < cLine) : OpR X (compareOp .NotEq) (rD2 X FA fun d e M => .ofO ((pyEq M d e).map fun b => .bl (!b)) M) := by
  refine OpR.imp (OpR.or op_ne (op_neD hu)) fun x y H Q ⟨ρ, M, d, e, r, rd, re, h⟩ => ?_
  obtain ⟨z, h1, h2⟩ := post_ofO h
  obtain ⟨b, h3, rfl⟩ := map_some h1
  rcases pyEq_some r h3 rd re with ⟨s1, s2⟩ | ⟨p, q, a1, b1, a2, b2, rfl⟩
  · exact .inl ⟨s1, by rw [s2]; exact h2.at r rfl⟩
  · exact .inr ⟨p, q, a1, b1, a2, b2, h2.at r rfl⟩
theorem relD_non {K : PySem.W.Frag} {ρ : List Addr} {H : Hp} {d : D} {v : V} (h : RelD K FA ρ H d v) : decide (v = .non) = isNon d := by
  cases d with
  | non => exact decide_eq_true h
  | bl b => exact decide_eq_false (by rw [show v = _ from h]; intro z; cases z)
  | int b => exact decide_eq_false (by rw [show v = _ from h]; intro z; cases z)
  | str b => exact decide_eq_false (by rw [show v = _ from h]; intro z; cases z)
  | tup b =>
    obtain ⟨a, vs, rfl, _⟩ := h
    exact decide_eq_false (by intro z; cases z)
  | loc b =>
    obtain ⟨a, rfl, _⟩ := h
    exact decide_eq_false (by intro z; cases z)
  | ty b => exact decide_eq_false (by rw [show v = _ from h]; intro z; cases z)
  | fn b => exact decide_eq_false (by rw [show v = _ from h]; intro z; cases z)
theorem isB_cases {d e : D} {b : Bool} (h : isB d e = some b) : (e = .non ∧ b = isNon d) ∨ ∃ p q, d = .bl p ∧ e = .bl q ∧ b = (p == q) := by
  cases e with
  | non => cases d <;> exact .inl ⟨rfl, (Option.some.inj h).symm⟩
  | bl q => cases d with
    | bl p => exact .inr ⟨p, q, rfl, rfl, (Option.some.inj h).symm⟩
    | _ => cases h
  | _ => cases d <;> cases h
theorem dec_beq (p q : Bool) : decide (p = q) = (p == q) := by cases p <;> cases q <;> rfl
theorem is_ok : OpR X (compareOp .Is) (rD2 X FA fun d e M => .ofO ((isB d e).map .bl) M) := by
  refine OpR.imp (OpR.or op_isN op_isBl) fun x y H Q ⟨ρ, M, d, e, r, rd, re, h⟩ => ?_
  obtain ⟨z, h1, h2⟩ := post_ofO h
  obtain ⟨b, h3, rfl⟩ := map_some h1
  have q : Q (.bl b) H := h2.at r rfl
  rcases isB_cases h3 with ⟨rfl, rfl⟩ | ⟨p, q', rfl, rfl, rfl⟩
  · refine .inl ⟨re, ?_⟩
    rw [relD_non rd]
    exact q
  · refine .inr ⟨p, q', rd, re, ?_⟩
    rw [dec_beq]
    exact q
theorem isn_ok : OpR X (compareOp .IsNot) (rD2 X FA fun d e M => .ofO ((isB d e).map fun b => .bl (!b)) M) := by
  refine OpR.imp (OpR.or op_notN op_notBl) fun x y H Q ⟨ρ, M, d, e, r, rd, re, h⟩ => ?_
  obtain ⟨z, h1, h2⟩ := post_ofO h
  obtain ⟨b, h3, rfl⟩ := map_some h1
  have q : Q (.bl (!b)) H := h2.at r rfl
  rcases isB_cases h3 with ⟨rfl, rfl⟩ | ⟨p, q', rfl, rfl, rfl⟩
  · refine .inl ⟨re, ?_⟩
    rw [relD_non rd]
    exact q
  · refine .inr ⟨p, q', rd, re, ?_⟩
    rw [dec_beq]
    exact q
end
end Ev
namespace Ev
open PySem PySem.Spec PyProof.Rows L2

/-! ### built-ins over tuples of ints -/
section
variable {prog : Program} {w : World} {A : Around} {E : Value → Shared → Prop} {s : Shared} {l : Addr}
theorem iter_intTup {xs : Array (Int × Tok)} {Q : Value → Shared → Prop} (hl : s.heap.IsTuple l (intItems xs))
    (h : ∀ s2 : Shared, s2 = { s with heap := s.heap.push { cls := .type "tuple_iterator", data := .fields #[.ref l, .int 0 0] } } →
      (s2.heap.IsTupleIter s.heap.objs.size l 0 ∧ s2.heap.IsTuple l (intItems xs)) → (∀ b ∈ [s.heap.objs.size, l], b < s2.heap.objs.size) → l ≠ s.heap.objs.size → Q (.ref s.heap.objs.size) s2) :
    wpAny (model prog w) A (pyIter (.ref l)) Q E s := by
  have lt : l < s.heap.objs.size := by
    obtain ⟨_, e, _⟩ := hl
    exact Heap.lt_size e
  refine wpAny_pyIter_tuple hl (h _ rfl ⟨⟨_, Heap.get?_push_size _ rfl, rfl, rfl⟩, hl.push _⟩ (fun b hb => ?_) (Nat.ne_of_lt lt))
  show b < (s.heap.push _).objs.size
  rw [Heap.size_push]
  rcases List.mem_cons.mp hb with e | hb
  · rw [e]
    exact Nat.lt_succ_self _
  · rw [List.mem_singleton.mp hb]
    exact Nat.lt_succ_of_lt lt
variable {its : List Value} {ns : List Int}
theorem kept_of {I : Addr} {h1 h2 : Heap} {o : Obj} (hI : I = h1.objs.size) (k : ∀ b u, b ∉ [I] → (h1.push o).get? b = some u → h2.get? b = some u) : ∀ b u, h1.get? b = some u → h2.get? b = some u := fun b u e =>
  k b u (fun hm => Nat.ne_of_lt (Heap.lt_size e) ((List.mem_singleton.mp hm).trans hI)) (Heap.get?_push_of_some _ e)
theorem sum_tup {Q : Value → Shared → Prop} (hh : A.handled = none) (hl : s.heap.IsTuple l its.toArray) (hi : IntsAre its ns)
    (h : ∀ h' tk t', (∀ b o, s.heap.get? b = some o → h'.get? b = some o) → Q (.int ns.sum t') { s with heap := h', toks := tk }) : wpAny (model prog w) A (call (.builtin "sum") [.ref l]) Q E s := by
  obtain ⟨xs, e⟩ := hi.allInts.items
  have hn : numsOf (intItems xs).toList = ns := by
    rw [← e]
    exact hi.numsOf
  rw [nums_intItems] at hn
  rw [e] at hl
  refine call_sum_walkG (iter_intTup hl fun s2 e2 st hfp hlI => ?_)
  subst e2
  refine ⟨_, _, _, _, _, _, numAt xs, rfl, Walks.tuple (A := A.in1) hh _ l hlI (intItems xs), st, hfp, (fun _ _ => intItems_at), fun h' tk t' hk => ?_⟩
  have q := h h' tk t' (kept_of rfl hk)
  have en : (intItems xs).size = xs.size := by simp [intItems]
  rw [en, preSum_eq, List.take_of_length_le (by simp), hn]
  exact q
theorem max_tup {Q : Value → Shared → Prop} (hh : A.handled = none) (hl : s.heap.IsTuple l its.toArray) (hi : IntsAre its ns) (hne : 0 < ns.length)
    (h : ∀ h' tk M t', (∀ b o, s.heap.get? b = some o → h'.get? b = some o) → M ∈ ns → (∀ a, a ∈ ns → a ≤ M) → Q (.int M t') { s with heap := h', toks := tk }) : wpAny (model prog w) A (call (.builtin "max") [.ref l]) Q E s := by
  obtain ⟨xs, e⟩ := hi.allInts.items
  have hn : numsOf (intItems xs).toList = ns := by
    rw [← e]
    exact hi.numsOf
  rw [nums_intItems] at hn
  subst hn
  rw [e] at hl
  have hsz : 0 < xs.size := by simpa using hne
  refine call_max_walk (iter_intTup hl fun s2 e2 st hfp hlI => ?_)
  subst e2
  refine ⟨_, _, _, _, _, _, _, rfl, Walks.tuple (A := A.in1) hh _ l hlI (intItems xs), st, hfp, by simpa [intItems] using hsz, CmpOf.ints_gt (numAt xs) (fun _ _ => intItems_at), fun v h' tk hP hk => ?_⟩
  obtain ⟨t, rfl⟩ := intItems_at hP
  have en : (intItems xs).size = xs.size := by simp [intItems]
  rw [en]
  obtain ⟨h1, h2⟩ := argBest_gt (numAt xs) (xs.size - 1)
  refine h h' tk _ t (kept_of rfl hk) ?_ fun a ha => ?_
  · rw [numAt_eq]
    exact PySem.getD_mem (by rw [List.length_map, Array.length_toList] <;> omega)
  · obtain ⟨j, hj, rfl⟩ := mem_getD ha
    rw [List.length_map, Array.length_toList] at hj
    rw [← numAt_eq]
    exact h2 j (by omega)
theorem min_tup {Q : Value → Shared → Prop} (hh : A.handled = none) (hl : s.heap.IsTuple l its.toArray) (hi : IntsAre its ns) (hne : 0 < ns.length)
    (h : ∀ h' tk M t', (∀ b o, s.heap.get? b = some o → h'.get? b = some o) → M ∈ ns → (∀ a, a ∈ ns → M ≤ a) → Q (.int M t') { s with heap := h', toks := tk }) : wpAny (model prog w) A (call (.builtin "min") [.ref l]) Q E s := by
  obtain ⟨xs, e⟩ := hi.allInts.items
  have hn : numsOf (intItems xs).toList = ns := by
    rw [← e]
    exact hi.numsOf
  rw [nums_intItems] at hn
  subst hn
  rw [e] at hl
  have hsz : 0 < xs.size := by simpa using hne
  refine call_min_walk (iter_intTup hl fun s2 e2 st hfp hlI => ?_)
  subst e2
  refine ⟨_, _, _, _, _, _, _, rfl, Walks.tuple (A := A.in1) hh _ l hlI (intItems xs), st, hfp, by simpa [intItems] using hsz, CmpOf.ints_lt (numAt xs) (fun _ _ => intItems_at), fun v h' tk hP hk => ?_⟩
  obtain ⟨t, rfl⟩ := intItems_at hP
  have en : (intItems xs).size = xs.size := by simp [intItems]
  rw [en]
  obtain ⟨h1, h2⟩ := argBest_lt (numAt xs) (xs.size - 1)
  refine h h' tk _ t (kept_of rfl hk) ?_ fun a ha => ?_
  · rw [numAt_eq]
    exact PySem.getD_mem (by rw [List.length_map, Array.length_toList] <;> omega)
  · obtain ⟨j, hj, rfl⟩ := mem_getD ha
    rw [List.length_map, Array.length_toList] at hj
    rw [← numAt_eq]
    exact h2 j (by omega)
/-- an old object behind a sort of a new list -/
theorem sorted_keep {h1 h2 : Heap} {vs : List Value} {out : Array Value} (k : ∀ b o, h1.get? b = some o → h2.get? b = some o) {b : Addr} {o : Obj} (e : h1.get? b = some o) : (sortedHeap (h2.push (seqObj "list" vs.toArray 0)) h2.objs.size vs out).get? b = some o := by
  have q := k b o e
  have lt : b < h2.objs.size := Heap.lt_size q
  rw [sortedHeap_old (Nat.ne_of_lt lt) (by rw [size_push'] <;> exact Nat.lt_succ_of_lt lt)]
  exact Heap.get?_push_of_some _ q
theorem sorted_seq {T : String} {o : Obj} {n : Nat} {vs : List Value} {Q : Value → Shared → Prop} (hT : T = "list" ∨ T = "tuple") (ho : s.heap.get? l = some o) (hc : o.cls = .type T) (hd : o.data = .seq vs.toArray n) (hi : IntsAre vs ns) (hz : vs.length ≤ sizeLine)
    (h : ∀ (out : List Value) (ns' : List Int) (h2 h3 : Heap) (m : Nat), IntsAre out ns' → ns'.Perm ns → ns'.Pairwise (· ≤ ·) → (∀ b o, s.heap.get? b = some o → h2.get? b = some o) → (∀ b o, h2.get? b = some o → h3.get? b = some o) → h3.get? h2.objs.size = some (seqObj "list" out.toArray m) → Q (.ref h2.objs.size) { s with heap := h3 }) :
    wpAny (model prog w) A (call (.builtin "sorted") [.ref l]) Q E s := by
  refine Calls.call_function_entry kind_sorted plain_sorted entry_sorted (args_sorted1 _) ?_
  unfold Builtin.«sorted»
  refine wpAny_bind (m := checkCount "sorted" 1 1 _) (wpAny_pure ?_)
  refine wpAny_bind (wpAny_collect_seq l hT ho hc hd (fun h2 k2 => ?_) (by rw [List.size_toArray] <;> exact hz))
  refine wpAny_bind (wpAny_newList ?_ (by simpa using hz))
  have hoL : (h2.push (seqObj "list" vs.toArray.toList.toArray 0)).get? h2.objs.size = some (seqObj "list" vs.toArray 0) := by
    rw [Array.toArray_toList]
    exact Heap.get?_push_size _ rfl
  refine wpAny_bind (wpAny_holding (wpAny_call_entry slot_list_sort ⟨_, hoL, rfl⟩ entry_list_sort (SrtO.list_sort_ord SrtO.swo_int hoL hz (fun h2 => SrtO.ints_sortable hi h2) fun out hs hb => ⟨_, rfl, ?_⟩) (args_list_sort _)))
  obtain ⟨k1, k2', k3⟩ := SrtO.ints_out hi hs hb
  obtain ⟨m, hat⟩ := sortedHeap_at (out := out.toArray) hoL
  rw [Array.toArray_toList] at hat
  show wpAny _ _ _ _ _ { s with heap := sortedHeap (h2.push (seqObj "list" vs.toArray.toList.toArray 0)) h2.objs.size vs out.toArray }
  rw [Array.toArray_toList]
  exact wpAny_pure ⟨_, rfl, h out _ h2 _ m k1 k2' k3 k2 (fun b u e => sorted_keep (fun _ _ z => z) e) hat⟩
theorem sortedR_seq {T : String} {o : Obj} {n : Nat} {vs : List Value} {Q : Value → Shared → Prop} (hT : T = "list" ∨ T = "tuple") (ho : s.heap.get? l = some o) (hc : o.cls = .type T) (hd : o.data = .seq vs.toArray n) (hi : IntsAre vs ns) (hz : vs.length ≤ sizeLine)
    (h : ∀ (out : List Value) (ns' : List Int) (h2 h3 : Heap) (m : Nat), IntsAre out ns' → ns'.Perm ns → ns'.Pairwise (· ≥ ·) → (∀ b o, s.heap.get? b = some o → h2.get? b = some o) → (∀ b o, h2.get? b = some o → h3.get? b = some o) → h3.get? h2.objs.size = some (seqObj "list" out.toArray m) → Q (.ref h2.objs.size) { s with heap := h3 }) :
    wpAny (model prog w) A (call (.builtin "sorted") [.ref l] [(Str.ofString "reverse", .bool true)]) Q E s := by
  refine call_function_entry_kw kind_sorted plain_sorted entry_sorted (args_sorted_rev _ _) ?_
  unfold Builtin.«sorted»
  refine wpAny_bind (m := checkCount "sorted" 1 1 _) (wpAny_pure ?_)
  refine wpAny_bind (wpAny_collect_seq l hT ho hc hd (fun h2 k2 => ?_) (by rw [List.size_toArray] <;> exact hz))
  refine wpAny_bind (wpAny_newList ?_ (by simpa using hz))
  have hoL : (h2.push (seqObj "list" vs.toArray.toList.toArray 0)).get? h2.objs.size = some (seqObj "list" vs.toArray 0) := by
    rw [Array.toArray_toList]
    exact Heap.get?_push_size _ rfl
  refine wpAny_bind (wpAny_holding (wpAny_call_entry_kw slot_list_sort ⟨_, hoL, rfl⟩ entry_list_sort ?_ (args_list_sort_rev _ _)))
  refine SrtR.list_sort_ordR SrtO.swo_int hoL hz (fun h2 => SrtO.ints_sortable hi h2) fun out hs hb => ⟨_, rfl, ?_⟩
  obtain ⟨ns', k1, k2', k3⟩ := SrtR.ints_outR (b := true) hi hs hb
  rw [if_pos rfl] at k1
  have eo : out.toArray.reverse = out.reverse.toArray := by simp
  rw [eo] at k1
  obtain ⟨m, hat⟩ := sortedHeap_at (out := out.reverse.toArray) hoL
  rw [Array.toArray_toList] at hat
  show wpAny _ _ _ _ _ { s with heap := sortedHeap (h2.push (seqObj "list" vs.toArray.toList.toArray 0)) h2.objs.size vs (if true = true then out.toArray.reverse else out.toArray) }
  rw [if_pos rfl, eo, Array.toArray_toList]
  exact wpAny_pure ⟨_, rfl, h out.reverse _ h2 _ m k1 k2' k3 k2 (fun b u e => sorted_keep (fun _ _ z => z) e) hat⟩
end

/-! ### the mathematics of sorting, least and greatest -/
theorem insI_perm (x : Int) : ∀ l : List Int, (insI x l).Perm (x :: l)
  | [] => List.Perm.refl _
  | y :: r => by
    unfold insI
    by_cases h : x ≤ y
    · rw [if_pos h]
    · rw [if_neg h]
      exact ((insI_perm x r).cons y).trans (List.Perm.swap x y r)
theorem sortI_perm : ∀ l : List Int, (sortI l).Perm l
  | [] => List.Perm.refl _
  | x :: r => (insI_perm x _).trans ((sortI_perm r).cons x)
theorem insI_sorted (x : Int) : ∀ l : List Int, l.Pairwise (· ≤ ·) → (insI x l).Pairwise (· ≤ ·)
  | [], _ => List.pairwise_singleton _ _
  | y :: r, h => by
    unfold insI
    have h1 := List.pairwise_cons.mp h
    by_cases c : x ≤ y
    · rw [if_pos c]
      refine List.pairwise_cons.mpr ⟨fun z hz => ?_, h⟩
      rcases List.mem_cons.mp hz with e | hz
      · rw [e]
        exact c
      · exact Int.le_trans c (h1.1 z hz)
    · rw [if_neg c]
      refine List.pairwise_cons.mpr ⟨fun z hz => ?_, insI_sorted x r h1.2⟩
      rcases List.mem_cons.mp ((insI_perm x r).mem_iff.mp hz) with e | hz
      · rw [e]
        omega
      · exact h1.1 z hz
theorem sortI_sorted : ∀ l : List Int, (sortI l).Pairwise (· ≤ ·)
  | [] => List.Pairwise.nil
  | x :: r => insI_sorted x _ (sortI_sorted r)
theorem sorted_unique : ∀ {a b : List Int}, a.Perm b → a.Pairwise (· ≤ ·) → b.Pairwise (· ≤ ·) → a = b
  | [], b, h, _, _ => (List.Perm.eq_nil h.symm).symm
  | x :: a, [], h, _, _ => (List.Perm.eq_nil h)
  | x :: a, y :: b, h, h1, h2 => by
    have p1 := List.pairwise_cons.mp h1
    have p2 := List.pairwise_cons.mp h2
    have e : x = y := by
      have m1 : y ∈ x :: a := h.mem_iff.mpr (List.mem_cons_self ..)
      have m2 : x ∈ y :: b := h.mem_iff.mp (List.mem_cons_self ..)
      rcases List.mem_cons.mp m1 with e | m1
      · exact e.symm
      · rcases List.mem_cons.mp m2 with e | m2
        · exact e
        · exact Int.le_antisymm (p1.1 y m1) (p2.1 x m2)
    subst e
    rw [sorted_unique ((List.perm_cons x).mp h) p1.2 p2.2]
theorem sort_is {a l : List Int} (h : a.Perm l) (s : a.Pairwise (· ≤ ·)) : a = sortI l := sorted_unique (h.trans (sortI_perm l).symm) s (sortI_sorted l)
theorem sortR_is {a l : List Int} (h : a.Perm l) (s : a.Pairwise (· ≥ ·)) : a = (sortI l).reverse := by
  have e : a.reverse = sortI l := sort_is ((List.reverse_perm a).trans h) (List.pairwise_reverse.mpr s)
  rw [← e, List.reverse_reverse]
theorem fold_great : ∀ (r : List Int) (x : Int), r.foldl (fun a b => if b > a then b else a) x ∈ x :: r ∧ ∀ y ∈ x :: r, y ≤ r.foldl (fun a b => if b > a then b else a) x
  | [], x => ⟨List.mem_cons_self .., fun y hy => by rw [List.mem_singleton.mp hy] <;> exact Int.le_refl _⟩
  | z :: r, x => by
    rw [List.foldl_cons]
    obtain ⟨h1, h2⟩ := fold_great r (if z > x then z else x)
    refine ⟨?_, fun y hy => ?_⟩
    · rcases List.mem_cons.mp h1 with e | h1
      · rw [e]
        by_cases c : z > x
        · rw [if_pos c]
          exact List.mem_cons_of_mem _ (List.mem_cons_self ..)
        · rw [if_neg c]
          exact List.mem_cons_self ..
      · exact List.mem_cons_of_mem _ (List.mem_cons_of_mem _ h1)
    · have h3 := h2 _ (List.mem_cons_self ..)
      have hx : x ≤ (if z > x then z else x) ∧ z ≤ (if z > x then z else x) := by
        by_cases c : z > x
        · rw [if_pos c]
          omega
        · rw [if_neg c]
          omega
      rcases List.mem_cons.mp hy with e | hy
      · rw [e]
        exact Int.le_trans hx.1 h3
      · rcases List.mem_cons.mp hy with e | hy
        · rw [e]
          exact Int.le_trans hx.2 h3
        · exact h2 y (List.mem_cons_of_mem _ hy)
theorem fold_least : ∀ (r : List Int) (x : Int), r.foldl (fun a b => if b < a then b else a) x ∈ x :: r ∧ ∀ y ∈ x :: r, r.foldl (fun a b => if b < a then b else a) x ≤ y
  | [], x => ⟨List.mem_cons_self .., fun y hy => by rw [List.mem_singleton.mp hy] <;> exact Int.le_refl _⟩
  | z :: r, x => by
    rw [List.foldl_cons]
    obtain ⟨h1, h2⟩ := fold_least r (if z < x then z else x)
    refine ⟨?_, fun y hy => ?_⟩
    · rcases List.mem_cons.mp h1 with e | h1
      · rw [e]
        by_cases c : z < x
        · rw [if_pos c]
          exact List.mem_cons_of_mem _ (List.mem_cons_self ..)
        · rw [if_neg c]
          exact List.mem_cons_self ..
      · exact List.mem_cons_of_mem _ (List.mem_cons_of_mem _ h1)
    · have h3 := h2 _ (List.mem_cons_self ..)
      have hx : (if z < x then z else x) ≤ x ∧ (if z < x then z else x) ≤ z := by
        by_cases c : z < x
        · rw [if_pos c]
          omega
        · rw [if_neg c]
          omega
      rcases List.mem_cons.mp hy with e | hy
      · rw [e]
        exact Int.le_trans h3 hx.1
      · rcases List.mem_cons.mp hy with e | hy
        · rw [e]
          exact Int.le_trans h3 hx.2
        · exact h2 y (List.mem_cons_of_mem _ hy)
theorem greatest_is {ns : List Int} {m : Int} (h1 : m ∈ ns) (h2 : ∀ y ∈ ns, y ≤ m) : greatestOf ns = some m := by
  cases ns with
  | nil => cases h1
  | cons x r =>
    obtain ⟨a, b⟩ := fold_great r x
    exact congrArg some (Int.le_antisymm (h2 _ a) (b _ h1))
theorem least_is {ns : List Int} {m : Int} (h1 : m ∈ ns) (h2 : ∀ y ∈ ns, m ≤ y) : leastOf ns = some m := by
  cases ns with
  | nil => cases h1
  | cons x r =>
    obtain ⟨a, b⟩ := fold_least r x
    exact congrArg some (Int.le_antisymm (b _ h1) (h2 _ a))
end Ev
namespace Ev
open PySem PySem.Spec PyProof.Rows L2

/-! ### built-ins by data -/
section
variable {X : Cx} {FA : Nat → Addr}
def rC (X : Cx) (FA : Nat → Addr) (b : B) : List V → Hp → VK → Prop := fun xs H Q => ∃ ρ M ds, Rel X.K FA ρ M H ∧ RelDs X.K FA ρ H ds xs ∧ PostD X.K FA (blt b ds M) ρ H Q
/-- a built-in of one argument -/
theorem call1 {f : Value} {b : B} (h0 : ∀ ds M, (∀ d, ds ≠ [d]) → blt b ds M = .bad)
    (h1 : ∀ (pins : List (Addr × Obj)) (s : Shared) (σ : L2.St) (H : Hp) (x : V) (u : Value) (Q : VK) (ρ : List Addr) (M : Mem) (d : D), Inv X pins σ H s → RelV x u → Rel X.K FA ρ M H → RelD X.K FA ρ H d x → PostD X.K FA (blt b [d] M) ρ H Q →
      wpAny (model X.prog X.w) X.A (call f [u]) (EP X pins σ Q) X.xe s) : CallR X f (rC X FA b) := by
  intro pins s σ H xs us Q I r h
  obtain ⟨ρ, M, ds, rl, rd, h⟩ := h
  match ds, rd, h with
  | [d], rd, h =>
    obtain ⟨v, r', rfl, r1, r2⟩ := rd
    obtain rfl : r' = [] := r2
    obtain ⟨u, rfl, ru⟩ := vals1 r
    exact h1 pins s σ H v u Q ρ M d I ru rl r1 h
  | [], rd, h =>
    rw [h0 [] M (fun d z => by cases z)] at h
    exact h.elim
  | a :: b :: r, rd, h =>
    rw [h0 (a :: b :: r) M (fun d z => by cases z)] at h
    exact h.elim
theorem int_vals {K : PySem.W.Frag} {ρ : List Addr} {H : Hp} {M : Mem} {d : D} {ns : List Int} {v : V} (r : Rel K FA ρ M H) (h : seqInts M d = some ns) (rd : RelD K FA ρ H d v) : ∃ a, v = .ref a ∧ (SqL K H a (ns.map V.int) ∨ SqT K H a (ns.map V.int)) := by
  unfold seqInts at h
  cases q : seqOf M d with
  | none =>
    rw [q] at h
    cases h
  | some xs =>
    rw [q] at h
    obtain ⟨a, vs, e, s, rv⟩ := r.seq q rd
    have ev := rv.ints h
    subst ev
    exact ⟨a, e, s⟩
theorem call_len' : CallR X (.builtin "len") (rC X FA .len) := by
  refine call1 (fun ds M h => ?_) fun pins s σ H x u Q ρ M d I ru rl rd h => ?_
  · match ds, h with
    | [], _ => rfl
    | [d], h => exact absurd rfl (h d)
    | a :: _ :: _, _ => cases a <;> rfl
  · have core : ∀ xs, seqOf M d = some xs → Q (.int xs.length) H → wpAny (model X.prog X.w) X.A (call (.builtin "len") [u]) (EP X pins σ Q) X.xe s := fun xs q hq => by
      obtain ⟨a, vs, e, sq, rv⟩ := rl.seq q rd
      exact call_len_seq pins s σ H [x] [u] Q I (.cons ru .nil) ⟨a, vs, by rw [e], sq, by rw [rv.length]; exact hq⟩
    cases d with
    | str z =>
      obtain ⟨c, h2⟩ := post_if h
      exact call_len_str pins s σ H [x] [u] Q I (.cons ru .nil) ⟨z, by rw [show x = _ from rd], by rw [← line_eq]; exact c, h2.at rl rfl⟩
    | tup xs => exact core xs rfl (h.at rl rfl)
    | loc l =>
      obtain ⟨z, h1, h2⟩ := post_ofO h
      obtain ⟨xs, h3, rfl⟩ := map_some h1
      exact core xs h3 (h2.at rl rfl)
    | _ => exact h.elim
theorem sum_ok (hc : X.calm = true) : CallR X (.builtin "sum") (rC X FA .sum) := by
  refine call1 (fun ds M h => ?_) fun pins s σ H x u Q ρ M d I ru rl rd h => ?_
  · match ds, h with
    | [], _ => rfl
    | [d], h => exact absurd rfl (h d)
    | a :: _ :: _, _ => cases a <;> rfl
  · obtain ⟨z, h1, h2⟩ := post_ofO h
    obtain ⟨ns, h3, rfl⟩ := map_some h1
    obtain ⟨a, rfl, sq | sq⟩ := int_vals rl h3 rd
    · exact cr_sum hc pins s σ H [.ref a] [u] Q I (.cons ru .nil) ⟨a, ns, rfl, sq, h2.at rl rfl⟩
    · obtain ⟨its, rv, ht, hz⟩ := I.tuple sq
      cases ru
      refine sum_tup (I.ok.hd hc) (show s.heap.IsTuple a its.toArray from ht) rv.ints fun h' tk t' k => ?_
      exact ⟨.int ns.sum, H, I.kept k, ⟨_, rfl⟩, h2.at rl rfl⟩
theorem max1 (hc : X.calm = true) {pins : List (Addr × Obj)} {s : Shared} {σ : L2.St} {H : Hp} {a : Addr} {ns : List Int} {Q : VK} (I : Inv X pins σ H s) (sq : SqL X.K H a (ns.map V.int) ∨ SqT X.K H a (ns.map V.int)) (hne : ns ≠ []) (q : ∀ m, greatestOf ns = some m → Q (.int m) H) :
    wpAny (model X.prog X.w) X.A (call (.builtin "max") [.ref a]) (EP X pins σ Q) X.xe s := by
  have h0 : 0 < ns.length := List.length_pos_iff.mpr hne
  rcases sq with sq | sq
  · exact cr_max hc pins s σ H [.ref a] [.ref a] Q I (.cons rfl .nil) ⟨a, ns, rfl, sq, h0, fun m h1 h2 => q m (greatest_is h1 h2)⟩
  · obtain ⟨its, rv, ht, hz⟩ := I.tuple sq
    refine max_tup (I.ok.hd hc) (show s.heap.IsTuple a its.toArray from ht) rv.ints h0 fun h' tk m t' k h1 h2 => ?_
    exact ⟨.int m, H, I.kept k, ⟨_, rfl⟩, q m (greatest_is h1 h2)⟩
theorem min1 (hc : X.calm = true) {pins : List (Addr × Obj)} {s : Shared} {σ : L2.St} {H : Hp} {a : Addr} {ns : List Int} {Q : VK} (I : Inv X pins σ H s) (sq : SqL X.K H a (ns.map V.int) ∨ SqT X.K H a (ns.map V.int)) (hne : ns ≠ []) (q : ∀ m, leastOf ns = some m → Q (.int m) H) :
    wpAny (model X.prog X.w) X.A (call (.builtin "min") [.ref a]) (EP X pins σ Q) X.xe s := by
  have h0 : 0 < ns.length := List.length_pos_iff.mpr hne
  rcases sq with sq | sq
  · exact cr_min hc pins s σ H [.ref a] [.ref a] Q I (.cons rfl .nil) ⟨a, ns, rfl, sq, h0, fun m h1 h2 => q m (least_is h1 h2)⟩
  · obtain ⟨its, rv, ht, hz⟩ := I.tuple sq
    refine min_tup (I.ok.hd hc) (show s.heap.IsTuple a its.toArray from ht) rv.ints h0 fun h' tk m t' k h1 h2 => ?_
    exact ⟨.int m, H, I.kept k, ⟨_, rfl⟩, q m (least_is h1 h2)⟩
theorem max_ok (hc : X.calm = true) : CallR X (.builtin "max") (rC X FA .max) := by
  intro pins s σ H xs us Q I r h
  obtain ⟨ρ, M, ds, rl, rd, h⟩ := h
  match ds, rd, h with
  | [], rd, h => exact h.elim
  | [d], rd, h =>
    obtain ⟨v, r', rfl, r1, r2⟩ := rd
    obtain rfl : r' = [] := r2
    obtain ⟨u, rfl, ru⟩ := vals1 r
    have h' : PostD X.K FA (.ofO (((seqInts M d).bind greatestOf).map .int) M) ρ H Q := by
      cases d <;> exact h
    obtain ⟨z, h1, h2⟩ := post_ofO h'
    obtain ⟨m, h3, rfl⟩ := map_some h1
    cases e : seqInts M d with
    | none =>
      rw [e] at h3
      cases h3
    | some ns =>
      rw [e] at h3
      have h4 : greatestOf ns = some m := h3
      obtain ⟨a, rfl, sq⟩ := int_vals rl e r1
      cases ru
      refine max1 hc I sq (fun z => by rw [z] at h4; cases h4) fun m' e' => ?_
      rw [h4] at e'
      cases e'
      exact h2.at rl rfl
  | [d, e], rd, h =>
    obtain ⟨v, r', rfl, r1, v2, r2, rfl, r3, r4⟩ := rd
    obtain rfl : r2 = [] := r4
    cases d with
    | int i => cases e with
      | int j => exact call_max2 hc pins s σ H [v, v2] us Q I r ⟨i, j, by rw [show v = _ from r1, show v2 = _ from r3], h.at rl rfl⟩
      | _ => exact h.elim
    | _ => cases e <;> exact h.elim
  | a :: b :: c :: r0, rd, h => cases a <;> cases b <;> exact h.elim
theorem min_ok (hc : X.calm = true) : CallR X (.builtin "min") (rC X FA .min) := by
  intro pins s σ H xs us Q I r h
  obtain ⟨ρ, M, ds, rl, rd, h⟩ := h
  match ds, rd, h with
  | [], rd, h => exact h.elim
  | [d], rd, h =>
    obtain ⟨v, r', rfl, r1, r2⟩ := rd
    obtain rfl : r' = [] := r2
    obtain ⟨u, rfl, ru⟩ := vals1 r
    have h' : PostD X.K FA (.ofO (((seqInts M d).bind leastOf).map .int) M) ρ H Q := by
      cases d <;> exact h
    obtain ⟨z, h1, h2⟩ := post_ofO h'
    obtain ⟨m, h3, rfl⟩ := map_some h1
    cases e : seqInts M d with
    | none =>
      rw [e] at h3
      cases h3
    | some ns =>
      rw [e] at h3
      have h4 : leastOf ns = some m := h3
      obtain ⟨a, rfl, sq⟩ := int_vals rl e r1
      cases ru
      refine min1 hc I sq (fun z => by rw [z] at h4; cases h4) fun m' e' => ?_
      rw [h4] at e'
      cases e'
      exact h2.at rl rfl
  | [d, e], rd, h =>
    obtain ⟨v, r', rfl, r1, v2, r2, rfl, r3, r4⟩ := rd
    obtain rfl : r2 = [] := r4
    cases d with
    | int i => cases e with
      | int j => exact call_min2 hc pins s σ H [v, v2] us Q I r ⟨i, j, by rw [show v = _ from r1, show v2 = _ from r3], h.at rl rfl⟩
      | _ => exact h.elim
    | _ => cases e <;> exact h.elim
  | a :: b :: c :: r0, rd, h => cases a <;> cases b <;> exact h.elim
theorem all_ok (hc : X.calm = true) : CallR X (.builtin "all") (rC X FA .all) := by
  refine call1 (fun ds M h => ?_) fun pins s σ H x u Q ρ M d I ru rl rd h => ?_
  · match ds, h with
    | [], _ => rfl
    | [d], h => exact absurd rfl (h d)
    | a :: _ :: _, _ => cases a <;> rfl
  · cases d with
    | loc l =>
      obtain ⟨z, h1, h2⟩ := post_ofO h
      obtain ⟨bs, h3, rfl⟩ := map_some h1
      obtain ⟨a, rfl, ha⟩ := rd
      cases e : lstAt M l with
      | none =>
        rw [e] at h3
        cases h3
      | some xs =>
        rw [e] at h3
        obtain ⟨vs, sq, rv⟩ := rl.lstAt e ha
        have e2 := rv.bls h3
        subst e2
        exact cr_all hc pins s σ H [.ref a] [u] Q I (.cons ru .nil) ⟨a, bs, rfl, sq, h2.at rl rfl⟩
    | _ => exact h.elim
theorem ints_reads0 {h : Heap} : ∀ {us : List Value} {ns : List Int}, IntsAre us ns → ∃ as, ReadsAll h us (ns.map .int) as
  | _, _, .nil => ⟨[], .nil⟩
  | _, _, .cons n t r => by
    obtain ⟨as, h⟩ := ints_reads0 r
    exact ⟨_, .cons (.int n t) h⟩
theorem plain_ints : ∀ ns : List Int, PyData.plainAll (ns.map PyData.int) = true
  | [] => rfl
  | n :: r => by
    show (PyData.plain (.int n) && PyData.plainAll (r.map PyData.int)) = true
    rw [plain_ints r]
    rfl
theorem any_ok (hc : X.calm = true) : CallR X (.builtin "any") (rC X FA .any) := by
  refine call1 (fun ds M h => ?_) fun pins s σ H x u Q ρ M d I ru rl rd h => ?_
  · match ds, h with
    | [], _ => rfl
    | [d], h => exact absurd rfl (h d)
    | a :: _ :: _, _ => cases a <;> rfl
  · cases d with
    | loc l =>
      obtain ⟨z, h1, h2⟩ := post_ofO h
      obtain ⟨bs, h3, rfl⟩ := map_some h1
      obtain ⟨a, rfl, ha⟩ := rd
      cases e : lstAt M l with
      | none =>
        rw [e] at h3
        cases h3
      | some xs =>
        rw [e] at h3
        obtain ⟨vs, sq, rv⟩ := rl.lstAt e ha
        have e2 := rv.bls h3
        subst e2
        exact cr_any hc pins s σ H [.ref a] [u] Q I (.cons ru .nil) ⟨a, bs, rfl, sq, h2.at rl rfl⟩
    | tup xs =>
      obtain ⟨z, h1, h2⟩ := post_ofO h
      obtain ⟨ns, h3, rfl⟩ := map_some h1
      obtain ⟨a, vs, rfl, sq, rv⟩ := rd
      cases ru
      have rvi := rv.ints h3
      subst rvi
      obtain ⟨its, rvs, pl, hz⟩ := I.tuple sq
      obtain ⟨as, ra⟩ := ints_reads0 (h := s.heap) rvs.ints
      refine PySem.W.any_tuple_data (vs := its.toArray) (I.ok.hd hc) (show s.heap.IsTuple a its.toArray from pl) ra (plain_ints ns) (fun x hx => by obtain ⟨i, _, rfl⟩ := List.mem_map.mp hx; exact trivial) fun h' tk k => ?_
      have e : (ns.map PyData.int).any PyData.truthy = ns.any fun i => i != 0 := by
        rw [List.any_map]
        rfl
      rw [e]
      exact ⟨.bl _, H, I.kept k, rfl, h2.at rl rfl⟩
    | _ => exact h.elim
theorem tuple_ok : CallR X (.type "tuple") (rC X FA .tuple) := by
  refine call1 (fun ds M h => ?_) fun pins s σ H x u Q ρ M d I ru rl rd h => ?_
  · match ds, h with
    | [], _ => rfl
    | [d], h => exact absurd rfl (h d)
    | a :: _ :: _, _ => cases a <;> rfl
  · obtain ⟨z, h1, h2⟩ := post_ofO h
    obtain ⟨xs, h3, rfl⟩ := map_some h1
    cases d with
    | tup ys =>
      cases h3
      obtain ⟨a, vs, e, sq, rv⟩ := id rd
      exact call_tuple_of pins s σ H [x] [u] Q I (.cons ru .nil) ⟨a, vs, by rw [e], .inr ⟨sq, by rw [← e]; exact h2.at rl rd⟩⟩
    | loc l =>
      obtain ⟨a, rfl, ha⟩ := rd
      obtain ⟨vs, sq, rv⟩ := rl.lstAt h3 ha
      exact call_tuple_of pins s σ H [.ref a] [u] Q I (.cons ru .nil) ⟨a, vs, rfl, .inl ⟨sq, fun p n => post_tup rl rv n h2⟩⟩
    | _ => cases h3
theorem list_ok : CallR X (.type "list") (rC X FA .list) := by
  refine call1 (fun ds M h => ?_) fun pins s σ H x u Q ρ M d I ru rl rd h => ?_
  · match ds, h with
    | [], _ => rfl
    | [d], h => exact absurd rfl (h d)
    | a :: _ :: _, _ => cases a <;> rfl
  · have h' : PostD X.K FA (match seqOf M d with | some xs => new xs M | none => .bad) ρ H Q := by cases d <;> exact h
    cases q : seqOf M d with
    | none =>
      rw [q] at h'
      exact h'.elim
    | some xs =>
      rw [q] at h'
      obtain ⟨a, vs, rfl, sq, rv⟩ := rl.seq q rd
      exact call_list_of pins s σ H [.ref a] [u] Q I (.cons ru .nil) ⟨a, vs, rfl, sq, fun p n => post_new rl rv n h'⟩
theorem int_ok : CallR X (.type "int") (rC X FA .int) := by
  refine call1 (fun ds M h => ?_) fun pins s σ H x u Q ρ M d I ru rl rd h => ?_
  · match ds, h with
    | [], _ => rfl
    | [d], h => exact absurd rfl (h d)
    | a :: _ :: _, _ => cases a <;> rfl
  · cases d with
    | int i => exact call_int1 pins s σ H [x] [u] Q I (.cons ru .nil) (.inl ⟨i, by rw [show x = _ from rd], h.at rl rfl⟩)
    | bl b => exact call_int1 pins s σ H [x] [u] Q I (.cons ru .nil) (.inr ⟨b, by rw [show x = _ from rd], h.at rl rfl⟩)
    | _ => exact h.elim
theorem abs_ok : CallR X (.builtin "abs") (rC X FA .abs) := by
  refine call1 (fun ds M h => ?_) fun pins s σ H x u Q ρ M d I ru rl rd h => ?_
  · match ds, h with
    | [], _ => rfl
    | [d], h => exact absurd rfl (h d)
    | a :: _ :: _, _ => cases a <;> rfl
  · cases d with
    | int i => exact call_abs pins s σ H [x] [u] Q I (.cons ru .nil) ⟨i, by rw [show x = _ from rd], h.at rl rfl⟩
    | _ => exact h.elim
/-- a built-in of two arguments -/
theorem call2 {f : Value} {b : B} (h0 : ∀ ds M, (∀ d e, ds ≠ [d, e]) → blt b ds M = .bad)
    (h1 : ∀ (pins : List (Addr × Obj)) (s : Shared) (σ : L2.St) (H : Hp) (x y : V) (us : List Value) (Q : VK) (ρ : List Addr) (M : Mem) (d e : D), Inv X pins σ H s → Vals [x, y] us → Rel X.K FA ρ M H → RelD X.K FA ρ H d x → RelD X.K FA ρ H e y → PostD X.K FA (blt b [d, e] M) ρ H Q →
      wpAny (model X.prog X.w) X.A (call f us) (EP X pins σ Q) X.xe s) : CallR X f (rC X FA b) := by
  intro pins s σ H xs us Q I r h
  obtain ⟨ρ, M, ds, rl, rd, h⟩ := h
  match ds, rd, h with
  | [d, e], rd, h =>
    obtain ⟨v, r', rfl, r1, v2, r2, rfl, r3, r4⟩ := rd
    obtain rfl : r2 = [] := r4
    exact h1 pins s σ H v v2 us Q ρ M d e I r rl r1 r3 h
  | [], rd, h =>
    rw [h0 [] M (fun d e z => by cases z)] at h
    exact h.elim
  | [a], rd, h =>
    rw [h0 [a] M (fun d e z => by cases z)] at h
    exact h.elim
  | a :: b :: c :: r, rd, h =>
    rw [h0 (a :: b :: c :: r) M (fun d e z => by cases z)] at h
    exact h.elim
theorem divmod_ok : CallR X (.builtin "divmod") (rC X FA .divmod) := by
  refine call2 (fun ds M h => ?_) fun pins s σ H x y us Q ρ M d e I ru rl rd re h => ?_
  · match ds, h with
    | [], _ => rfl
    | [a], _ => cases a <;> rfl
    | [a, b], h => exact absurd rfl (h a b)
    | a :: b :: _ :: _, _ => cases a <;> cases b <;> rfl
  · cases d with
    | int i => cases e with
      | int j =>
        obtain ⟨c, h2⟩ := post_if h
        exact call_divmod pins s σ H [x, y] us Q I ru ⟨i, j, by rw [show x = _ from rd, show y = _ from re], c, fun p n => post_tup rl (show RelDs X.K FA ρ H [.int (i / j), .int (i % j)] [.int (i / j), .int (i % j)] from ⟨_, _, rfl, rfl, _, _, rfl, rfl, rfl⟩) n h2⟩
      | _ => exact h.elim
    | _ => cases e <;> exact h.elim
theorem gcd_ok : CallR X (.builtin "math.gcd") (rC X FA .gcd) := by
  refine call2 (fun ds M h => ?_) fun pins s σ H x y us Q ρ M d e I ru rl rd re h => ?_
  · match ds, h with
    | [], _ => rfl
    | [a], _ => cases a <;> rfl
    | [a, b], h => exact absurd rfl (h a b)
    | a :: b :: _ :: _, _ => cases a <;> cases b <;> rfl
  · cases d with
    | int i => cases e with
      | int j => exact cr_gcd pins s σ H [x, y] us Q I ru ⟨i, j, by rw [show x = _ from rd, show y = _ from re], h.at rl rfl⟩
      | _ => exact h.elim
    | _ => cases e <;> exact h.elim
/-- the class of data -/
theorem ty_ok {K : PySem.W.Frag} {ρ : List Addr} {H : Hp} {M : Mem} {d : D} {v : V} {t : String} (r : Rel K FA ρ M H) (h : tyOf M d = some t) (rd : RelD K FA ρ H d v) : TyX K H v (.type t) := by
  cases d with
  | non =>
    cases h
    rw [show v = _ from rd]
    exact .base .non
  | bl b =>
    cases h
    rw [show v = _ from rd]
    exact .base (.bl b)
  | int b =>
    cases h
    rw [show v = _ from rd]
    exact .base (.int b)
  | str b =>
    cases h
    rw [show v = _ from rd]
    exact .base (.str b)
  | tup xs =>
    cases h
    obtain ⟨a, vs, rfl, sq, rv⟩ := rd
    rcases sq with (e | ⟨o, e⟩) | ⟨o, its, n, e, c, _⟩
    · exact .base (.tup e)
    · exact .fTuple e
    · exact .kTuple e c
  | loc l =>
    obtain ⟨xs, h1, rfl⟩ := map_some h
    obtain ⟨a, rfl, ha⟩ := rd
    obtain ⟨vs, sq, rv⟩ := r.lstAt h1 ha
    rcases sq with (e | ⟨o, e⟩) | ⟨o, its, n, e, c, _⟩
    · exact .base (.lst e)
    · exact .base (.frz e)
    · exact .kList e c
  | ty n => cases h
  | fn i => cases h
theorem isi_ok : CallR X (.builtin "isinstance") (rC X FA .isi) := by
  refine call2 (fun ds M h => ?_) fun pins s σ H x y us Q ρ M d e I ru rl rd re h => ?_
  · match ds, h with
    | [], _ => rfl
    | [a], _ => rfl
    | [a, b], h => exact absurd rfl (h a b)
    | a :: b :: _ :: _, _ => rfl
  · obtain ⟨z, h1, h2⟩ := post_ofO h
    obtain ⟨b, h3, rfl⟩ := map_some h1
    unfold isiD at h3
    cases q : tyOf M d with
    | none =>
      rw [q] at h3
      cases e <;> cases h3
    | some t =>
      rw [q] at h3
      cases e with
      | ty n => exact call_isi pins s σ H [x, y] us Q I ru ⟨x, y, .type t, .type n, b, rfl, by rw [show y = _ from re] <;> exact .ty n, ty_ok rl q rd, kit_ty h3, h2.at rl rfl⟩
      | _ => cases h3
theorem optAll_at {α β : Type} {f : α → Option β} : ∀ {xs : List α} {ps : List β}, optAll (xs.map f) = some ps → xs.length = ps.length ∧ ∀ (i : Nat) (x : α) (p : β), xs[i]? = some x → ps[i]? = some p → f x = some p
  | [], ps, h => by
    rw [show ps = [] from (Option.some.inj h).symm]
    exact ⟨rfl, fun i x p h => by cases h⟩
  | a :: r, ps, h => by
    obtain ⟨p, qs, e1, e2, rfl⟩ := optAll_cons h
    obtain ⟨l, g⟩ := optAll_at e2
    refine ⟨by rw [List.length_cons, List.length_cons, l], fun i x q h1 h2 => ?_⟩
    cases i with
    | zero =>
      cases h1
      cases h2
      exact e1
    | succ i => exact g i x q h1 h2
theorem each_split {K : PySem.W.Frag} {ρ : List Addr} {H : Hp} : ∀ {out : List Value} {bs : List (D × PyData)}, PySem.W.EachIs (fun v (b : D × PyData) => ∃ x : V, RelV x v ∧ RelD K FA ρ H b.1 x) out bs → ∃ zs, Vals zs out ∧ RelDs K FA ρ H (bs.map (·.1)) zs
  | _, _, .nil => ⟨[], .nil, rfl⟩
  | _, _, .cons ⟨x, r, d⟩ t => by
    obtain ⟨zs, h1, h2⟩ := each_split t
    exact ⟨x :: zs, .cons r h1, x, zs, rfl, d, h2⟩
theorem perm_short {α : Type} {l m : List α} (h : l.Perm m) (hm : m.length ≤ 1) : l = m := by
  match m, hm with
  | [], _ => exact h.eq_nil
  | [x], _ => exact List.perm_singleton.mp h
/-- sorted of data that are alike -/
theorem sorted_data' {pins : List (Addr × Obj)} {s : Shared} {σ : L2.St} {H : Hp} {Q : VK} {ρ : List Addr} {M : Mem} {d : D} {x : V} {u : Value} (hu : X.A.units + 100 < cLine) (I : Inv X pins σ H s) (ru : RelV x u) (rl : Rel X.K FA ρ M H) (rd : RelD X.K FA ρ H d x) (h : PostD X.K FA (sortL M d) ρ H Q) :
    wpAny (model X.prog X.w) X.A (call (.builtin "sorted") [u]) (EP X pins σ Q) X.xe s := by
  cases d with
  | loc l =>
    have h' : PostD X.K FA (match (lstAt M l).bind (sortD M) with | some ys => new ys M | none => .bad) ρ H Q := h
    obtain ⟨a, rfl, ha⟩ := rd
    cases ru
    cases q : lstAt M l with
    | none =>
      rw [q] at h'
      exact h'.elim
    | some xs =>
      rw [q] at h'
      have h2 : PostD X.K FA (match sortD M xs with | some ys => new ys M | none => .bad) ρ H Q := h'
      obtain ⟨vs, sq, rv⟩ := rl.lstAt q ha
      obtain ⟨its, rvs, pl, hz⟩ := I.list sq
      have hlen : its.length = xs.length := by rw [← rvs.length, rv.length]
      have fin : ∀ (out : List Value) (zs : List V) (ds : List D), Vals zs out → RelDs X.K FA ρ H ds zs → out.length = its.length → PostD X.K FA (new ds M) ρ H Q → EP X pins σ Q (.ref (s.heap.objs.size + 1)) { s with heap := PyProof.Rows.sortedAll s.heap its out.toArray } := fun out zs ds h1 h2 h3 h4 => by
        obtain ⟨ep, he'⟩ := PyProof.Rows.sortedAll_at s.heap its out.toArray
        have hl : zs.length ≤ sizeLine := by rw [h1.length, h3, ← rvs.length]; exact hz
        exact ⟨.ref _, upd H (s.heap.objs.size + 1) (.lst zs), I.laid (t' := s.toks) (fun _ _ => PyProof.Rows.sortedAll_old) (Nat.le_succ _) ⟨hl, out, ep, h1, he'⟩, rfl, post_new rl h2 (I.hok.fresh (Nat.le_succ _)) h4⟩
      by_cases c : xs.length ≤ 1
      · have e : sortD M xs = some xs := if_pos c
        rw [e] at h2
        refine SrtO.sorted_ord (ltv := fun _ _ => false) ⟨fun _ _ h => (by cases h), fun _ _ _ _ _ => rfl⟩ pl.isList (by rw [← rvs.length]; exact hz) (fun h => absurd h (by omega)) fun out _ hb => ?_
        have eo : out = its := perm_short hb.perm (by omega)
        rw [eo]
        exact fin its vs xs rvs rv rfl h2
      · have e : sortD M xs = (match optAll (xs.map (toPy 30 M)) with | some ps => if ((ps.all fun a => ps.all fun b => PySem.W.alike a b) && (ps.all isTupP || ps.all noTupP)) = true then some (((xs.zip ps).mergeSort dLe).map (·.1)) else none | none => none) := if_neg c
        rw [e] at h2
        cases q2 : optAll (xs.map (toPy 30 M)) with
        | none =>
          rw [q2] at h2
          exact h2.elim
        | some ps =>
          rw [q2] at h2
          dsimp only at h2
          by_cases cc : ((ps.all fun a => ps.all fun b => PySem.W.alike a b) && (ps.all isTupP || ps.all noTupP)) = true
          · rw [if_pos cc] at h2
            dsimp only at h2
            obtain ⟨c1, c2⟩ := Bool.and_eq_true_iff.mp cc
            obtain ⟨lp, at_⟩ := optAll_at q2
            have hsnd : (xs.zip ps).map (fun x : D × PyData => x.2) = ps := List.map_snd_zip (by omega)
            have three : ∀ p ∈ its.zip (xs.zip ps), ∃ x : V, RelV x p.1 ∧ RelD X.K FA ρ H p.2.1 x ∧ toPy 30 M p.2.1 = some p.2.2 := fun p hp => by
              obtain ⟨i, hi⟩ := List.mem_iff_getElem?.mp hp
              obtain ⟨e1, e2⟩ := List.getElem?_zip_eq_some.mp hi
              obtain ⟨e3, e4⟩ := List.getElem?_zip_eq_some.mp e2
              obtain ⟨v, hv, r1⟩ := rv.get e3
              obtain ⟨w, hw, r2⟩ := rvs.get hv
              rw [e1] at hw
              cases hw
              exact ⟨v, r2, r1, at_ i _ _ e3 e4⟩
            have hl2 : its.length = (xs.zip ps).length := by rw [List.length_zip]; omega
            refine PySem.W.sorted_data (R := fun v (b : D × PyData) => ∃ x : V, RelV x v ∧ RelD X.K FA ρ H b.1 x) (enc := fun b : D × PyData => b.2) (bs := xs.zip ps) pl.isList
              (PySem.W.EachIs.of_zip hl2 fun p hp => by
                obtain ⟨x, r1, r2, _⟩ := three p hp
                exact ⟨x, r1, r2⟩)
              (PySem.W.EachIs.of_zip hl2 fun p hp => by
                obtain ⟨x, r1, r2, r3⟩ := three p hp
                obtain ⟨a1, a2, a3⟩ := toPy_dp rl 30 r3 r2
                exact Dp.reads I p.2.2 _ _ a1 r1)
              (by
                rw [hsnd]
                exact fun d hd d' hd' => List.all_eq_true.mp (List.all_eq_true.mp c1 d hd) d' hd')
              (by
                rw [hsnd]
                rcases Bool.or_eq_true_iff.mp c2 with z | z
                · refine .inl fun d hd => ?_
                  have := List.all_eq_true.mp z d hd
                  match d, this with
                  | .tuple (x :: r), _ => exact ⟨x, r, rfl⟩
                · refine .inr fun d hd => ?_
                  have := List.all_eq_true.mp z d hd
                  refine ⟨fun e => ?_, fun xs e => ?_⟩
                  · subst e; cases this
                  · subst e; cases this)
              (by rw [← hl2, ← rvs.length]; exact hz)
              (fun b hb => by
                obtain ⟨i, hi⟩ := List.mem_iff_getElem?.mp hb
                have hlt := getElem?_len hi
                have : (its.zip (xs.zip ps))[i]? = some (its[i]'(by omega), b) := List.getElem?_zip_eq_some.mpr ⟨List.getElem?_eq_getElem (by omega), hi⟩
                obtain ⟨x, r1, r2, r3⟩ := three _ (List.mem_of_getElem? this)
                obtain ⟨a1, a2, a3⟩ := toPy_dp rl 30 r3 r2
                show X.A.units + 2 + b.2.depth < cLine
                have a3' : b.2.depth ≤ 30 := a3
                omega)
              fun out hlo ho => ?_
            obtain ⟨zs, h3, h4⟩ := each_split ho
            exact fin out zs _ h3 h4 (by rw [hlo, ← hl2]) h2
          · rw [if_neg cc] at h2
            exact h2.elim
  | _ => exact h.elim
/-- a new list behind a sort -/
theorem sorted_ok (hu : X.A.units + 100 < cLine) : CallR X (.builtin "sorted") (rC X FA .sorted) := by
  refine call1 (fun ds M h => ?_) fun pins s σ H x u Q ρ M d I ru rl rd h => ?_
  · match ds, h with
    | [], _ => rfl
    | [d], h => exact absurd rfl (h d)
    | a :: _ :: _, _ => rfl
  · have h' : PostD X.K FA (match seqInts M d with | some ns => new ((sortI ns).map .int) M | none => sortL M d) ρ H Q := h
    cases q : seqInts M d with
    | none =>
      rw [q] at h'
      exact sorted_data' hu I ru rl rd h'
    | some ns =>
      rw [q] at h'
      obtain ⟨a, rfl, sq⟩ := int_vals rl q rd
      have src : ∃ (T : String) (o : Obj) (its : List Value) (n : Nat), (T = "list" ∨ T = "tuple") ∧ s.heap.get? a = some o ∧ o.cls = .type T ∧ o.data = .seq its.toArray n ∧ IntsAre its ns ∧ its.length ≤ sizeLine := by
        rcases sq with sq | sq
        · obtain ⟨its, rv, ⟨o, n, e, c, _, dd⟩, hz⟩ := I.list sq
          exact ⟨"list", o, its, n, .inl rfl, e, c, dd, rv.ints, by rw [← rv.length]; exact hz⟩
        · obtain ⟨its, rv, ⟨o, e, c, n, dd⟩, hz⟩ := I.tuple sq
          exact ⟨"tuple", o, its, n, .inr rfl, e, c, dd, rv.ints, by rw [← rv.length]; exact hz⟩
      obtain ⟨T, o, its, n, hT, e, c, dd, hi, hz⟩ := src
      cases ru
      refine sorted_seq hT e c dd hi hz fun out ns' h2 h3 m k1 k2 k3 k4 k5 k6 => ?_
      have e1 := sort_is k2 k3
      subst e1
      have I2 : Inv X pins σ H { s with heap := h2 } := I.kept (t' := s.toks) k4
      have f := I2.hok.fresh (Nat.le_refl _)
      have r1 : RelDs X.K FA ρ H ((sortI ns).map D.int) ((sortI ns).map V.int) := RelDs.of_ints _
      refine ⟨.ref h2.objs.size, upd H h2.objs.size (.lst ((sortI ns).map V.int)), I2.laid (t' := s.toks) k5 (Nat.le_refl _) ?_, rfl, post_new rl r1 f h'⟩
      refine ⟨?_, out, m, vals_of_ints k1, k6⟩
      have e2 := hi.length
      have e3 := k2.length_eq
      rw [List.length_map]
      omega
theorem ints_reads {h : Heap} : ∀ {us : List Value} {ns : List Int}, IntsAre us ns → ∃ as, ReadsAll h us (ns.map .int) as
  | _, _, .nil => ⟨[], .nil⟩
  | _, _, .cons n t r => by
    obtain ⟨as, h⟩ := ints_reads r
    exact ⟨_, .cons (.int n t) h⟩
theorem alike_is (ns : List Int) : PySem.W.AlikeAll (ns.map PyData.int) := by
  refine ⟨fun x hx y hy => ?_, fun x hx => ?_⟩
  · obtain ⟨a, _, rfl⟩ := List.mem_map.mp hx
    obtain ⟨b, _, rfl⟩ := List.mem_map.mp hy
    simp [PySem.W.alike]
  · obtain ⟨a, _, rfl⟩ := List.mem_map.mp hx
    intro e
    cases e
theorem least_fold (y : Int) (ys : List Int) : leastOf (y :: ys) = some (ys.foldl min y) := by
  show some (ys.foldl (fun a b => if b < a then b else a) y) = _
  have e : (fun a b : Int => if b < a then b else a) = min := by
    funext a b
    rw [Int.min_def]
    split <;> split <;> omega
  rw [e]
/-- min(x, default=None) -/
theorem minD_mem (x : PyData) : ∀ xs : List PyData, PySem.W.minD x xs ∈ x :: xs := fun xs => by
  unfold PySem.W.minD
  induction xs generalizing x with
  | nil => exact List.mem_cons_self
  | cons y ys ih =>
    rw [List.foldl_cons]
    rcases List.mem_cons.mp (ih (if PySem.W.dataLt y x then y else x)) with e | e
    · rw [e]
      split
      · exact List.mem_cons_of_mem _ List.mem_cons_self
      · exact List.mem_cons_self
    · exact List.mem_cons_of_mem _ (List.mem_cons_of_mem _ e)
theorem ofPyAll_map : ∀ ps : List PyData, ofPyAll ps = ps.map ofPy
  | [] => rfl
  | p :: r => by
    show ofPy p :: ofPyAll r = _
    rw [ofPyAll_map r] <;> rfl
theorem noListAll_mem : ∀ {ps : List PyData}, noListAll ps = true → ∀ p ∈ ps, noList p = true
  | [], _, p, h => by cases h
  | q :: r, h, p, hp => by
    have h' : (noList q && noListAll r) = true := h
    obtain ⟨h1, h2⟩ := Bool.and_eq_true_iff.mp h'
    rcases List.mem_cons.mp hp with e | hp
    · rw [e]; exact h1
    · exact noListAll_mem h2 p hp
theorem ofPy_toPy : ∀ (n : Nat) (M : Mem) (d : D) (p : PyData), toPy n M d = some p → noList p = true → ofPy p = d
  | 0, M, d, p, h, _ => by cases h
  | n + 1, M, d, p, h, hn => by
    cases d with
    | non => cases h; rfl
    | bl b => cases h; rfl
    | int i => cases h; rfl
    | str x =>
      have h' : (if (PyData.str x).canLay0 = true then some (PyData.str x) else none) = some p := h
      split at h'
      · cases h'; rfl
      · cases h'
    | tup xs =>
      obtain ⟨ps, h1, rfl⟩ := map_some (show (optAll (xs.map (toPy n M))).map PyData.tuple = some p from h)
      obtain ⟨lp, at_⟩ := optAll_at h1
      show D.tup (ofPyAll ps) = _
      rw [ofPyAll_map]
      congr 1
      refine List.ext_getElem? fun i => ?_
      rw [List.getElem?_map]
      cases e1 : xs[i]? with
      | none =>
        have : xs.length ≤ i := List.getElem?_eq_none_iff.mp e1
        rw [List.getElem?_eq_none (by omega)]
        rfl
      | some x =>
        have hlt := getElem?_len e1
        have e2 : ps[i]? = some (ps[i]'(by omega)) := List.getElem?_eq_getElem (by omega)
        rw [e2, Option.map_some]
        congr 1
        exact ofPy_toPy n M x _ (at_ i _ _ e1 e2) (noListAll_mem (show noListAll ps = true from hn) _ (List.mem_of_getElem? e2))
    | loc l =>
      have h' : (match lstAt M l with | some xs => (optAll (xs.map (toPy n M))).map PyData.list | none => none) = some p := h
      cases q : lstAt M l with
      | none => rw [q] at h'; cases h'
      | some xs =>
        rw [q] at h'
        obtain ⟨ps, _, rfl⟩ := map_some h'
        cases hn
    | ty b => cases h
    | fn b => cases h
/-- min(l, default=None) of data that are alike -/
theorem minD_data {pins : List (Addr × Obj)} {s : Shared} {σ : L2.St} {H : Hp} {Q : VK} {ρ : List Addr} {M : Mem} {d : D} {x : V} {u : Value} (hc : X.calm = true) (hu : X.A.units + 100 < cLine) (I : Inv X pins σ H s) (ru : RelV x u) (rl : Rel X.K FA ρ M H) (rd : RelD X.K FA ρ H d x) (h : PostD X.K FA (minL M d) ρ H Q) :
    wpAny (model X.prog X.w) X.A (call (.builtin "min") [u] [(Str.ofString "default", Value.none)]) (EP X pins σ Q) X.xe s := by
  cases d with
  | loc l =>
    have h' : PostD X.K FA (match (lstAt M l).bind fun xs => optAll (xs.map (toPy 30 M)) with
      | some (p :: ps) => if (((p :: ps).all fun a => (p :: ps).all fun b => PySem.W.alike a b) && (((p :: ps).all fun a => !isNoneP a) && noListAll (p :: ps))) = true then .ok (ofPy (PySem.W.minD p ps)) M else .bad
      | _ => .bad) ρ H Q := h
    obtain ⟨a, rfl, ha⟩ := rd
    cases ru
    cases q : lstAt M l with
    | none =>
      rw [q] at h'
      exact h'.elim
    | some xs =>
      rw [q, Option.bind_some] at h'
      cases q2 : optAll (xs.map (toPy 30 M)) with
      | none =>
        rw [q2] at h'
        exact h'.elim
      | some pps =>
        rw [q2] at h'
        cases pps with
        | nil => exact h'.elim
        | cons p ps =>
          obtain ⟨cc, h3⟩ := post_if h'
          obtain ⟨c1, c2⟩ := Bool.and_eq_true_iff.mp cc
          obtain ⟨c2, c3⟩ := Bool.and_eq_true_iff.mp c2
          obtain ⟨vs, sq, rv⟩ := rl.lstAt q ha
          obtain ⟨its, rvs, pl, hz⟩ := I.list sq
          obtain ⟨lp, at_⟩ := optAll_at q2
          obtain ⟨a1, a2, a3⟩ := toPy_all rl (fun h rv => toPy_dp rl 30 h rv) q2 rv
          obtain ⟨as, ra⟩ := Dp.readsAll I (p :: ps) _ its a1 rvs
          have al : PySem.W.AlikeAll (p :: ps) := ⟨fun x hx y hy => List.all_eq_true.mp (List.all_eq_true.mp c1 x hx) y hy, fun x hx e => by
            have := List.all_eq_true.mp c2 x hx
            rw [e] at this
            cases this⟩
          refine PySem.W.min_list_default (vs := its.toArray) (I.ok.hd hc) pl.isList ra al (by omega) (fun e => by cases e) fun y ys i v h2 tk bs e hv rr k => ?_
          injection e with e1 e2
          subst e1 e2
          have hv' : its[i]? = some v := by simpa using hv
          have hil : i < xs.length := by
            have := getElem?_len hv'
            rw [← rvs.length, rv.length] at this
            exact this
          have hx : xs[i]? = some xs[i] := List.getElem?_eq_getElem hil
          obtain ⟨w, hw, r1⟩ := rv.get hx
          obtain ⟨v', hv2, r2⟩ := rvs.get hw
          rw [hv'] at hv2
          cases hv2
          have hp : (p :: ps)[i]? = some ((p :: ps)[i]'(by omega)) := List.getElem?_eq_getElem (by omega)
          have tp := at_ i _ _ hx hp
          obtain ⟨b1, b2, b3⟩ := toPy_dp rl 30 tp r1
          obtain ⟨bs', rr'⟩ := Dp.reads I _ _ _ b1 r2
          have mm := minD_mem p ps
          have eq : (p :: ps)[i]'(by omega) = PySem.W.minD p ps := PySem.W.alike_unique _ _ v bs' bs (al.1 _ (List.mem_of_getElem? hp) _ mm) (PySem.W.reads_keeps k rr') rr
          rw [eq] at tp
          have eo := ofPy_toPy 30 M _ _ tp (noListAll_mem c3 _ mm)
          rw [eo] at h3
          exact ⟨w, H, I.kept k, r2, h3.at rl r1⟩
  | _ => exact h.elim
theorem minD_ok (hc : X.calm = true) (hu : X.A.units + 100 < cLine) : CallRK X (.builtin "min") [Str.ofString "default"] (fun xs zs H Q => zs = [.non] ∧ rC X FA .minD xs H Q) := by
  intro pins s σ H xs zs us ws Q I r rz h
  obtain ⟨rfl, ρ, M, ds, rl, rd, h⟩ := h
  obtain ⟨w1, rfl, e1⟩ := vals1 rz
  obtain rfl : w1 = Value.none := e1
  match ds, rd, h with
  | [], rd, h => exact h.elim
  | a :: b :: c, rd, h => exact h.elim
  | [d], rd, h =>
    obtain ⟨v, r', rfl, r1, r2⟩ := rd
    obtain rfl : r' = [] := r2
    obtain ⟨u, rfl, ru⟩ := vals1 r
    have h' : PostD X.K FA (match seqInts M d with | some ns => .ok (match leastOf ns with | some i => .int i | none => .non) M | none => minL M d) ρ H Q := h
    cases q : seqInts M d with
    | none =>
      rw [q] at h'
      exact minD_data hc hu I ru rl r1 h'
    | some ns =>
      rw [q] at h'
      obtain ⟨a, rfl, sq⟩ := int_vals rl q r1
      cases ru
      have h0 : ∀ (xs : List PyData), xs = ns.map PyData.int → xs = [] → ∀ (h2 : Heap) (tk : Nat), (∀ b o, s.heap.get? b = some o → h2.get? b = some o) → EP X pins σ Q Value.none { s with heap := h2, toks := tk } := fun xs e e2 h2 tk k => by
        have : ns = [] := List.map_eq_nil_iff.mp (e.symm.trans e2)
        subst this
        exact ⟨.non, H, I.kept k, rfl, h'.at rl rfl⟩
      have h1 : ∀ (y : PyData) (ys : List PyData) (v : Value) (h2 : Heap) (tk : Nat) (bs : List Addr), ns.map PyData.int = y :: ys → Reads h2 v (PySem.W.minD y ys) bs → (∀ b o, s.heap.get? b = some o → h2.get? b = some o) → EP X pins σ Q v { s with heap := h2, toks := tk } := fun y ys v h2 tk bs e rr k => by
        cases ns with
        | nil => cases e
        | cons n r =>
          rw [List.map_cons] at e
          injection e with e1 e2
          subst e1 e2
          rw [PySem.W.minD_ints] at rr
          cases rr with
          | int _ t =>
            have h2' : PostD X.K FA (.ok (match leastOf (n :: r) with | some i => .int i | none => .non) M) ρ H Q := h'
            rw [least_fold] at h2'
            exact ⟨.int (r.foldl min n), H, I.kept k, ⟨t, rfl⟩, h2'.at rl rfl⟩
      rcases sq with sq | sq
      · obtain ⟨its, rvs, pl, hz⟩ := I.list sq
        obtain ⟨as, ra⟩ := ints_reads (h := s.heap) rvs.ints
        exact PySem.W.min_list_default (vs := its.toArray) (I.ok.hd hc) pl.isList ra (alike_is ns) (by rw [PySem.W.depth_ints]; omega) (h0 _ rfl) fun y ys i v h2 tk bs e _ rr k => h1 y ys v h2 tk bs e rr k
      · obtain ⟨its, rvs, pl, hz⟩ := I.tuple sq
        obtain ⟨as, ra⟩ := ints_reads (h := s.heap) rvs.ints
        exact PySem.W.min_tuple_default (vs := its.toArray) (I.ok.hd hc) (show s.heap.IsTuple a its.toArray from pl) ra (alike_is ns) (by rw [PySem.W.depth_ints]; omega) (h0 _ rfl) fun y ys i v h2 tk bs e _ rr k => h1 y ys v h2 tk bs e rr k
/-- sorted(x, reverse=True) -/
theorem sortedR_ok : CallRK X (.builtin "sorted") [Str.ofString "reverse"] (fun xs zs H Q => zs = [.bl true] ∧ rC X FA .sortedR xs H Q) := by
  intro pins s σ H xs zs us ws Q I r rz h
  obtain ⟨rfl, ρ, M, ds, rl, rd, h⟩ := h
  obtain ⟨w1, rfl, e1⟩ := vals1 rz
  obtain rfl : w1 = Value.bool true := e1
  match ds, rd, h with
  | [], rd, h => exact h.elim
  | a :: b :: c, rd, h => exact h.elim
  | [d], rd, h =>
    obtain ⟨v, r', rfl, r1, r2⟩ := rd
    obtain rfl : r' = [] := r2
    obtain ⟨u, rfl, ru⟩ := vals1 r
    have h' : PostD X.K FA (match seqInts M d with | some ns => new ((sortI ns).reverse.map .int) M | none => .bad) ρ H Q := h
    cases q : seqInts M d with
    | none =>
      rw [q] at h'
      exact h'.elim
    | some ns =>
      rw [q] at h'
      obtain ⟨a, rfl, sq⟩ := int_vals rl q r1
      have src : ∃ (T : String) (o : Obj) (its : List Value) (n : Nat), (T = "list" ∨ T = "tuple") ∧ s.heap.get? a = some o ∧ o.cls = .type T ∧ o.data = .seq its.toArray n ∧ IntsAre its ns ∧ its.length ≤ sizeLine := by
        rcases sq with sq | sq
        · obtain ⟨its, rv, ⟨o, n, e, c, _, dd⟩, hz⟩ := I.list sq
          exact ⟨"list", o, its, n, .inl rfl, e, c, dd, rv.ints, by rw [← rv.length]; exact hz⟩
        · obtain ⟨its, rv, ⟨o, e, c, n, dd⟩, hz⟩ := I.tuple sq
          exact ⟨"tuple", o, its, n, .inr rfl, e, c, dd, rv.ints, by rw [← rv.length]; exact hz⟩
      obtain ⟨T, o, its, n, hT, e, c, dd, hi, hz⟩ := src
      cases ru
      refine sortedR_seq hT e c dd hi hz fun out ns' h2 h3 m k1 k2 k3 k4 k5 k6 => ?_
      have e1 := sortR_is k2 k3
      subst e1
      have I2 : Inv X pins σ H { s with heap := h2 } := I.kept (t' := s.toks) k4
      have f := I2.hok.fresh (Nat.le_refl _)
      have r1 : RelDs X.K FA ρ H ((sortI ns).reverse.map D.int) ((sortI ns).reverse.map V.int) := RelDs.of_ints _
      refine ⟨.ref h2.objs.size, upd H h2.objs.size (.lst ((sortI ns).reverse.map V.int)), I2.laid (t' := s.toks) k5 (Nat.le_refl _) ?_, rfl, post_new rl r1 f h'⟩
      refine ⟨?_, out, m, vals_of_ints k1, k6⟩
      have e2 := hi.length
      have e3 := k2.length_eq
      rw [List.length_map]
      omega
/-! ### repr -/
mutual
theorem rsz_ok : ∀ (d : PyData) (n : Nat), rsz d = some n → d.showable = true ∧ d.shown.length ≤ n
  | .none, n, h => by
    cases h
    exact ⟨rfl, by decide⟩
  | .bool b, n, h => by
    cases h
    cases b
    · exact ⟨rfl, by decide⟩
    · exact ⟨rfl, by decide⟩
  | .int i, n, h => by
    unfold rsz at h
    by_cases c : i.natAbs.log2 < 1920
    · rw [if_pos c] at h
      cases h
      exact ⟨decide_eq_true c, int_text_len_1921 c⟩
    · rw [if_neg c] at h
      cases h
  | .str x, n, h => by
    unfold rsz at h
    by_cases c : (reprText x).length ≤ 1000
    · rw [if_pos c] at h
      cases h
      exact ⟨rfl, c⟩
    · rw [if_neg c] at h
      cases h
  | .list xs, n, h => by
    obtain ⟨a, b⟩ := rszs_ok' xs n h
    exact ⟨a, Nat.le_trans (listText_len_le _) b⟩
  | .tuple xs, n, h => by
    obtain ⟨a, b⟩ := rszs_ok' xs n h
    exact ⟨a, Nat.le_trans (tupleText_len_le _) b⟩
  | .dict _, n, h => by cases h
theorem rszs_ok' : ∀ (ds : List PyData) (n : Nat), rszs ds = some n → PyData.showableAll ds = true ∧ ((PyData.shownAll ds).map (·.length)).sum + 2 * (PyData.shownAll ds).length + 3 ≤ n
  | [], n, h => by
    cases h
    exact ⟨rfl, Nat.le_refl _⟩
  | d :: ds, n, h => by
    unfold rszs at h
    cases e1 : rsz d with
    | none =>
      rw [e1] at h
      cases h
    | some a =>
      cases e2 : rszs ds with
      | none =>
        rw [e1, e2] at h
        cases h
      | some b =>
        rw [e1, e2] at h
        cases h
        obtain ⟨a1, a2⟩ := rsz_ok d a e1
        obtain ⟨b1, b2⟩ := rszs_ok' ds b e2
        refine ⟨by show (d.showable && PyData.showableAll ds) = true; rw [a1, b1] <;> rfl, ?_⟩
        show (((d.shown :: PyData.shownAll ds).map (·.length)).sum + 2 * (d.shown :: PyData.shownAll ds).length + 3) ≤ _
        simp only [List.map_cons, List.sum_cons, List.length_cons]
        omega
end
theorem repr_ok (hg : X.A.guards = some []) (hu : X.A.units + 100 < cLine) : CallR X (.builtin "repr") (rC X FA .repr) := by
  refine call1 (fun ds M h => ?_) fun pins s σ H x u Q ρ M d I ru rl rd h => ?_
  · match ds, h with
    | [], _ => rfl
    | [d], h => exact absurd rfl (h d)
    | a :: _ :: _, _ => cases a <;> rfl
  · have core : ∀ a, x = .ref a → PostD X.K FA (.ofO (reprD M d) M) ρ H Q → wpAny (model X.prog X.w) X.A (call (.builtin "repr") [u]) (EP X pins σ Q) X.xe s := fun a ea h => by
      subst ea
      cases ru
      obtain ⟨z, h1, h2⟩ := post_ofO h
      unfold reprD at h1
      cases e1 : toPy 30 M d with
      | none =>
        rw [e1] at h1
        cases h1
      | some p =>
        rw [e1] at h1
        have h3 : (match rsz p with | some n => if n ≤ line then some (D.str p.shown) else none | none => none) = some z := h1
        cases e2 : rsz p with
        | none =>
          rw [e2] at h3
          cases h3
        | some n =>
          rw [e2] at h3
          have h4 : (if n ≤ line then some (D.str p.shown) else none) = some z := h3
          by_cases c : n ≤ line
          · rw [if_pos c] at h4
            cases h4
            obtain ⟨a1, a2, a3⟩ := toPy_dp rl 30 e1 rd
            obtain ⟨b1, b2⟩ := rsz_ok p n e2
            obtain ⟨as, rr⟩ := Dp.reads I p _ _ a1 rfl
            refine repr_of_reads' rr b1 (PyData.noDict_hsm (PyData.hasDict_of_canLay p a2)) hg (by omega) (fun _ _ e => e) (fun h' u tk k => ?_) (by rw [← line_eq] <;> omega)
            exact ⟨.str p.shown, H, I.kept k, ⟨_, rfl⟩, h2.at rl rfl⟩
          · rw [if_neg c] at h4
            cases h4
    cases d with
    | tup xs =>
      obtain ⟨a, vs, e, _⟩ := id rd
      exact core a e h
    | loc l =>
      obtain ⟨a, e, _⟩ := id rd
      exact core a e h
    | int i =>
      obtain ⟨c, h2⟩ := post_if h
      exact SkE.call_repr_int pins s σ H [x] [u] Q I (.cons ru .nil) ⟨i, by rw [show x = _ from rd], c, h2.at rl rfl⟩
    | _ => exact h.elim
end
end Ev
namespace Ev
open PySem PySem.Spec PyProof.Rows L2

/-! ### how arguments bind -/
section
variable {α β σ : Type}
def foldO (g : σ → β → Option σ) : σ → List β → Option σ
  | s, [] => some s
  | s, x :: r => match g s x with
    | some s' => foldO g s' r
    | none => none
theorem forIn_pure {f : β → σ → Sem (ForInStep σ)} (g : σ → β → Option σ) (h : ∀ x s s', g s x = some s' → f x s = pure (.yield s')) : ∀ (l : List β) (s s' : σ), foldO g s l = some s' → (forIn l s f : Sem σ) = pure s'
  | [], s, s', e => by
    cases e
    rfl
  | x :: r, s, s', e => by
    unfold foldO at e
    cases q : g s x with
    | none =>
      rw [q] at e
      cases e
    | some s1 =>
      rw [q] at e
      rw [List.forIn_cons, h x s s1 q, pure_bind]
      exact forIn_pure g h r s1 s' e
def kwG (ps : List Str) : List (Str × α) → Str × α → Option (List (Str × α)) := fun sl kv => if (ps.contains kv.1 && (sl.lookup kv.1).isNone) = true then some (sl ++ [kv]) else none
def dfG : List (Str × α) → Str × α → Option (List (Str × α)) := fun sl kv => some (if (sl.lookup kv.1).isNone = true then sl ++ [kv] else sl)
/-- the parameters' values, in their order -/
def bindP (ps : List Str) (us : List α) (ks : List Str) (ws its : List α) : Option (List α) :=
  if us.length ≤ ps.length ∧ its.length ≤ ps.length then
    match foldO (kwG ps) (ps.zip us) (ks.zip ws) with
    | some sl => if ((ps.take (ps.length - its.length)).filter fun n => (sl.lookup n).isNone).isEmpty = true then
        (match foldO dfG sl ((ps.drop (ps.length - its.length)).zip its) with
        | some sl => optAll (ps.map fun n => sl.lookup n)
        | none => none) else none
    | none => none
  else none
end
theorem filterMap_all {α : Type} (f : Str → Option α) : ∀ (ps : List Str) (as : List α), optAll (ps.map f) = some as → (ps.filterMap fun n => (f n).map fun v => (n, v)) = ps.zip as
  | [], as, h => by
    cases h
    rfl
  | p :: ps, as, h => by
    obtain ⟨x, ys, e1, e2, rfl⟩ := optAll_cons h
    rw [List.filterMap_cons, e1]
    show (p, x) :: ps.filterMap _ = (p, x) :: ps.zip ys
    rw [filterMap_all f ps ys e2]
theorem bind_gen {s : Shared} {fd : FuncData} {args : List Arg} {dx : List Expr} {us ws its as : List Value} {ks ps : List Str} (hp : fd.params = ⟨[], args, none, [], [], none, dx⟩) (hps : args.map (·.arg) = ps)
    (hd : (fd.defaults = .none ∧ its = []) ∨ ∃ T o n, fd.defaults = .ref T ∧ s.heap.get? T = some o ∧ o.data = .seq its.toArray n) (hb : bindP ps us ks ws its = some as) : BindsTo s fd ⟨us, ks.zip ws⟩ (ps.zip as) := by
  intro M A E Q q
  unfold bindP at hb
  split at hb
  case isFalse => cases hb
  case isTrue hl =>
  split at hb
  case h_2 => cases hb
  case h_1 sl h1 =>
  split at hb
  case isFalse => cases hb
  case isTrue h2 =>
  split at hb
  case h_2 => cases hb
  case h_1 sl2 h3 =>
  have fin := filterMap_all (fun n => sl2.lookup n) ps as hb
  unfold bindArgs
  rw [hp]
  simp only [List.map_nil, List.nil_append, List.append_nil, hps]
  refine wpAny_bind ?_
  rw [forIn_pure (g := fun (st : List (Str × Value) × List (Str × Value)) kv => (kwG ps st.1 kv).map fun sl => (sl, st.2)) (fun kv st st' e => ?_) (ks.zip ws) (ps.zip us, []) (sl, []) ?_]
  · refine wpAny_pure ?_
    have items : wpAny M A (seqItems? fd.defaults) (fun r s' => (r.getD #[]).toList = its ∧ s' = s) E s := by
      rcases hd with ⟨e, rfl⟩ | ⟨T, o, n, e, ho, hd⟩
      · rw [e]
        exact wpAny_of_eq (show seqItems? .none = pure none from rfl) ⟨rfl, rfl⟩
      · rw [e]
        exact wpAny_seqItems ho hd ⟨rfl, rfl⟩
    refine wpAny_bind (wpAny_mono items (fun r s' ⟨e1, e2⟩ => ?_) fun _ _ z => z)
    subst e2
    rw [e1]
    have c1 : (decide (us.length > ps.length) && (none : Option Arg).isNone) = false := by
      rw [decide_eq_false (by omega)] <;> rfl
    rw [if_neg (by rw [c1]; exact Bool.false_ne_true)]
    have e3 : its.length - ps.length = 0 := by omega
    rw [e3, List.drop_zero]
    have c2 : (!(List.filter (fun n => (sl.lookup n).isNone) (ps.take (ps.length - its.length))).isEmpty) = false := by
      rw [h2] <;> rfl
    rw [if_neg (by rw [c2]; exact Bool.false_ne_true)]
    refine wpAny_bind ?_
    rw [forIn_pure (g := dfG) (fun kv st st' e => ?_) _ sl sl2 h3]
    · refine wpAny_pure ?_
      simp only [List.forIn_nil, pure_bind]
      simpa [fin] using wpAny_pure q
    · have e' : (if (st.lookup kv.1).isNone = true then st ++ [kv] else st) = st' := Option.some.inj e
      by_cases c : (st.lookup kv.1).isNone = true
      · rw [if_pos c] at e' ⊢
        rw [← e']
      · rw [if_neg c] at e' ⊢
        rw [← e']
  · have gen : ∀ (l : List (Str × Value)) (a b : List (Str × Value)), foldO (kwG ps) a l = some b → foldO (fun (st : List (Str × Value) × List (Str × Value)) kv => (kwG ps st.1 kv).map fun sl => (sl, st.2)) (a, []) l = some (b, []) := by
      intro l
      induction l with
      | nil =>
        intro a b e
        cases e
        rfl
      | cons x r ih =>
        intro a b e
        unfold foldO at e ⊢
        cases q : kwG ps a x with
        | none =>
          rw [q] at e
          cases e
        | some a' =>
          rw [q] at e
          simp only [Option.map_some]
          exact ih a' b e
    exact gen _ _ _ h1
  · unfold kwG at e
    by_cases c : (ps.contains kv.1 && (st.1.lookup kv.1).isNone) = true
    · rw [if_pos c] at e
      cases e
      obtain ⟨c1, c2⟩ := Bool.and_eq_true_iff.mp c
      rw [c1]
      have c3 : (st.1.lookup kv.1).isSome = false := by
        cases h : st.1.lookup kv.1 with
        | none => rfl
        | some v =>
          rw [h] at c2
          cases c2
      simp [c3]
    · rw [if_neg c] at e
      cases e

/-! ### whatever the values are -/
section
variable {α β : Type} (f : α → β)
def mapS (sl : List (Str × α)) : List (Str × β) := sl.map fun p => (p.1, f p.2)
theorem lookup_mapS (n : Str) : ∀ sl : List (Str × α), (mapS f sl).lookup n = (sl.lookup n).map f
  | [] => rfl
  | (k, v) :: r => by
    show List.lookup n ((k, f v) :: mapS f r) = (List.lookup n ((k, v) :: r)).map f
    rw [List.lookup_cons, List.lookup_cons]
    cases n == k with
    | true => rfl
    | false => exact lookup_mapS n r
theorem isNone_mapS (n : Str) (sl : List (Str × α)) : ((mapS f sl).lookup n).isNone = (sl.lookup n).isNone := by
  rw [lookup_mapS]
  cases sl.lookup n <;> rfl
theorem foldO_map {γ δ : Type} (g : List (Str × α) → Str × α → Option (List (Str × α))) (g' : List (Str × β) → Str × β → Option (List (Str × β))) (h : ∀ sl kv, g' (mapS f sl) (kv.1, f kv.2) = (g sl kv).map (mapS f)) :
    ∀ (l : List (Str × α)) (sl : List (Str × α)), foldO g' (mapS f sl) (mapS f l) = (foldO g sl l).map (mapS f)
  | [], sl => rfl
  | x :: r, sl => by
    show foldO g' (mapS f sl) ((x.1, f x.2) :: mapS f r) = (foldO g sl (x :: r)).map (mapS f)
    unfold foldO
    rw [h]
    cases q : g sl x with
    | none => rfl
    | some s1 => exact foldO_map (γ := γ) (δ := δ) g g' h r s1
theorem zip_mapS : ∀ (ps : List Str) (us : List α), ps.zip (us.map f) = mapS f (ps.zip us)
  | [], us => by simp [mapS]
  | p :: ps, [] => by simp [mapS]
  | p :: ps, u :: us => by
    show (p, f u) :: ps.zip (us.map f) = (p, f u) :: mapS f (ps.zip us)
    rw [zip_mapS ps us]
theorem kwG_map (ps : List Str) (sl : List (Str × α)) (kv : Str × α) : kwG ps (mapS f sl) (kv.1, f kv.2) = (kwG ps sl kv).map (mapS f) := by
  unfold kwG
  rw [isNone_mapS]
  by_cases c : (ps.contains kv.1 && (sl.lookup kv.1).isNone) = true
  · rw [if_pos c, if_pos c]
    simp [mapS]
  · rw [if_neg c, if_neg c] <;> rfl
theorem dfG_map (sl : List (Str × α)) (kv : Str × α) : dfG (mapS f sl) (kv.1, f kv.2) = (dfG sl kv).map (mapS f) := by
  unfold dfG
  rw [isNone_mapS]
  by_cases c : (sl.lookup kv.1).isNone = true
  · rw [if_pos c, if_pos c]
    simp [mapS]
  · rw [if_neg c, if_neg c] <;> rfl
theorem optAll_map : ∀ l : List (Option α), optAll (l.map (Option.map f)) = (optAll l).map (List.map f)
  | [] => rfl
  | none :: r => rfl
  | some a :: r => by
    show (optAll (r.map (Option.map f))).map (f a :: ·) = ((optAll r).map (a :: ·)).map (List.map f)
    rw [optAll_map r]
    cases optAll r <;> rfl
theorem bindP_map (ps : List Str) (us : List α) (ks : List Str) (ws its : List α) : bindP ps (us.map f) ks (ws.map f) (its.map f) = (bindP ps us ks ws its).map (List.map f) := by
  unfold bindP
  rw [List.length_map, List.length_map, zip_mapS, zip_mapS, zip_mapS, foldO_map (γ := Unit) (δ := Unit) f (kwG ps) (kwG ps) (kwG_map f ps)]
  by_cases h : us.length ≤ ps.length ∧ its.length ≤ ps.length
  · rw [if_pos h, if_pos h]
    cases foldO (kwG ps) (ps.zip us) (ks.zip ws) with
    | none => rfl
    | some sl =>
      simp only [Option.map_some, isNone_mapS]
      by_cases h2 : ((ps.take (ps.length - its.length)).filter fun n => (sl.lookup n).isNone).isEmpty = true
      · rw [if_pos h2, if_pos h2, foldO_map (γ := Unit) (δ := Unit) f dfG dfG (dfG_map f)]
        cases foldO dfG sl ((ps.drop (ps.length - its.length)).zip its) with
        | none => rfl
        | some sl2 =>
          simp only [Option.map_some]
          rw [← optAll_map, List.map_map]
          congr 1
          exact List.map_congr_left fun n _ => lookup_mapS f n sl2
      · rw [if_neg h2, if_neg h2] <;> rfl
  · rw [if_neg h, if_neg h] <;> rfl
end
theorem range_get {α : Type} (l : List α) (k : Nat) : ∀ (n : Nat) (m : List α), l = m ++ l.drop n → m.length = n → n ≤ l.length → (List.range n).map (fun i => l[i]?) = m.map some := fun n m e h1 h2 => by
  apply List.ext_getElem?
  intro i
  rw [List.getElem?_map, List.getElem?_map]
  by_cases hi : i < n
  · rw [List.getElem?_range hi, Option.map_some]
    have hm : i < m.length := by omega
    rw [List.getElem?_eq_getElem hm, Option.map_some]
    congr 1
    rw [e, List.getElem?_append_left hm, List.getElem?_eq_getElem hm]
  · rw [List.getElem?_eq_none (by simp; omega), List.getElem?_eq_none (by omega)] <;> rfl
theorem optAll_some {α : Type} : ∀ as : List α, optAll (as.map some) = some as
  | [] => rfl
  | a :: r => by
    show (optAll (r.map some)).map (a :: ·) = _
    rw [optAll_some r] <;> rfl
/-- the parameters' values by where they come from -/
theorem bind_arr {α : Type} {ps ks : List Str} {us ws its : List α} {arr : List Arr} (h : bindP ps ((List.range us.length).map Arr.a) ks ((List.range ws.length).map fun i => Arr.a (us.length + i)) ((List.range its.length).map Arr.d) = some arr) :
    ∃ as, bindP ps us ks ws its = some as ∧ arrD (us ++ ws) its arr = some as := by
  have h2 := bindP_map (resA (us ++ ws) its) ps ((List.range us.length).map Arr.a) ks ((List.range ws.length).map fun i => Arr.a (us.length + i)) ((List.range its.length).map Arr.d)
  rw [h] at h2
  have e1 : ((List.range us.length).map Arr.a).map (resA (us ++ ws) its) = us.map some := by
    rw [List.map_map]
    exact range_get (us ++ ws) 0 us.length us (by simp) rfl (by simp)
  have e2 : ((List.range ws.length).map fun i => Arr.a (us.length + i)).map (resA (us ++ ws) its) = ws.map some := by
    rw [List.map_map]
    have q := range_get ws 0 ws.length ws (by simp) rfl (Nat.le_refl _)
    rw [← q]
    refine List.map_congr_left fun i hi => ?_
    show (us ++ ws)[us.length + i]? = ws[i]?
    rw [List.getElem?_append_right (by omega)]
    congr 1
    omega
  have e3 : ((List.range its.length).map Arr.d).map (resA (us ++ ws) its) = its.map some := by
    rw [List.map_map]
    exact range_get its 0 its.length its (by simp) rfl (Nat.le_refl _)
  rw [e1, e2, e3, bindP_map some] at h2
  cases q : bindP ps us ks ws its with
  | none =>
    rw [q] at h2
    cases h2
  | some as =>
    rw [q] at h2
    have h3 : as.map some = arr.map (resA (us ++ ws) its) := Option.some.inj h2
    refine ⟨as, rfl, ?_⟩
    unfold arrD
    rw [← h3, optAll_some]
end Ev
namespace Ev
open PySem PySem.Spec PyProof.Rows L2

/-! ### a def's promise where no repr is under way -/
structure FnK (P : Program) (w : World) (K : PySem.W.Frag) (mg : Str → Option Value) (base : Heap) (k : Nat) (f : Addr) (fd : FuncData) (ps : List Str) (sp : Sp) : Prop where
  len : ∀ vs H Q E, sp vs H Q E → vs.length = ps.length
  run : ∀ (A : Around) (outer : List Env) (s : Shared) (H : Hp) (args : Args) (us : List Value) (vs : List V) (Q : VK) (E : XK), Room k A → A.guards = some [] → Env0 P w K mg base A outer s H →
    BindsTo s fd args (ps.zip us) → Vals vs us → sp vs H Q E → codeAny (model P w) A (.call (.ref f) args) (CR (L2.CX P w) outer P w H s Q E) s
section
variable {P : Program} {w : World} {K : PySem.W.Frag} {mg : Str → Option Value} {base : Heap} {k : Nat} {f : Addr} {fd : FuncData} {x qual : Str} {params : Arguments} {body : List Stmt} {scope : Scope} {dvs : List V} {kws : List (Str × V)} {N ps : List Str} {sp : Sp}
/-- the rule for a def, by its body -/
theorem fnK_of (F : FunD K x qual params body scope dvs kws f fd) (S : FnScope N ps scope) (hlen : ∀ vs H Q E, sp vs H Q E → vs.length = ps.length)
    (hbody : ∀ (cdv : Value) (A : Around) (outer : List Env) (s : Shared) (H : Hp) (vs : List V) (Q : VK) (E : XK), Room k (A.deeper (envOfC qual scope s.heap.objs.size f cdv)) → A.guards = some [] → sp vs H Q E →
      ∃ t, PSs (cxOf (L2.CX P w) P w K mg base N qual scope f cdv A outer s H E) body t ∧ t { nx := fun _ H' => Q .non H', rt := Q } (start N vs) H) : FnK P w K mg base (k + 1) f fd ps sp := by
  obtain ⟨oc, od, dV, kV, doc, pm, an, cdv, ct, osl, rfl, lk, hcd, _, _⟩ := F.ex
  refine ⟨hlen, fun A outer s H args us vs Q E room gd e0 bd rv hp => ?_⟩
  have hl := hlen vs H Q E hp
  have KX : K.In s.heap := e0.mod.kin.keeps fun b o e => (e0.bs b o e).1
  have lim : s.heap.NoLimit := e0.mod.nolimit.keeps fun b o e => (e0.bs b o e).1
  have kinds : ∀ y ∈ ps.zip us, scope.names.lookup y.1 = some .local ∨ (scope.names.lookup y.1 = some .cell ∧ ((cellsFrom (s.heap.objs.size + 1) scope.names []).lookup y.1).isSome = true) := by
    intro ⟨n, v⟩ hy
    rcases S.par n (List.of_mem_zip hy).1 with q | q
    · exact .inl q
    · exact .inr ⟨q, PySem.W.cellsFrom_some _ _ _ (.inl q)⟩
  refine codeAny_call_function room.depth (KX _ _ lk) rfl S.co S.gen rfl (PySem.W.codeRec_of KX hcd) (bd _ _ _ _ ?_)
  refine wpAny_newFunctionEnv_cells S.kind kinds fun env he s1 ic => ?_
  subst he
  refine ⟨lim.keeps ic.toInCall.keep, codeAny_func ?_⟩
  obtain ⟨t, ht, hq⟩ := hbody cdv A outer s H vs Q E (room.deeper _) gd hp
  have I := inv_start (CX := L2.CX P w) (E := E) S room.hd e0 hl rv ic
  refine wpAny_mono (ht.run [] s1 (start N vs) H _ I hq) (fun fl s' hs => ?_) fun e s' hs => hs
  cases fl with
  | ret u =>
    obtain ⟨v, σ', H', J, r, q⟩ := hs
    exact ⟨v, H', J.os, J.bare, J.base, J.hok, r, q⟩
  | next =>
    obtain ⟨σ', H', J, q⟩ := hs
    exact ⟨.non, H', J.os, J.bare, J.base, J.hok, rfl, q⟩
  | brk => exact hs.elim fun _ h => h.elim fun _ h => h.2.elim
  | cont => exact hs.elim fun _ h => h.elim fun _ h => h.2.elim
end
section
variable {X : Cx} {k : Nat} {f : Addr} {fd : FuncData} {ps : List Str} {sp : Sp} {E : XK} {x : Str} {p pos : Pos} {es : List Expr} {kws : List Keyword} {t tk : TA}
/-- the callee runs -/
theorem runK {pins : List (Addr × Obj)} {σ : L2.St} {H : Hp} {s : Shared} {Q : VK} {args : Args} {us : List Value} {vs : List V} (F : FnK X.prog X.w X.K X.mg X.base k f fd ps sp) (hr : Room k X.A) (hg : X.A.guards = some []) (hx : Passes (L2.CX X.prog X.w) X E)
    (I : Inv X pins σ H s) (hb : BindsTo s fd args (ps.zip us)) (r : Vals vs us) (h : sp vs H Q E) : codeAny (model X.prog X.w) X.A (.call (.ref f) args) (callEnd (EP X pins σ Q) X.xe) s := by
  refine codeAny_mono (F.run X.A X.stack s H args us vs Q E hr hg I.env0 hb r h) fun res s' hq => ?_
  cases res with
  | error e => exact hx pins σ H s e s' I hq
  | ok fl =>
    cases fl with
    | ret u => exact I.after hq
    | next => exact False.elim hq
    | brk => exact False.elim hq
    | cont => exact False.elim hq
end
end Ev
namespace Ev
open PySem PySem.Spec PyProof.Rows L2

/-- an imported built-in: a function, or a type -/
def bfV (id : String) : Value := if id = "itertools.combinations" then .type "itertools.combinations" else .builtin id
/-- what is fixed: the program, what its top has written, the defs' table -/
structure Sta where
  P : Program
  w : World
  K : PySem.W.Frag
  mg : Str → Option Value
  base : Heap
  FA : Nat → Addr
  T : List Fd
  gl : List (Str × D)
  free : List Str
  bfn : List (Str × String)
  wf : Nat
def Sta.gD (S : Sta) : List D := S.gl.map (·.2)
def Sta.cfg (S : Sta) (n : Nat) : Cfg := Ev.cfg S.T S.gD S.wf n
def spF (S : Sta) (n f : Nat) : Sp := fun vs H Q _ => ∃ ρ M ds, Rel S.K S.FA ρ M H ∧ RelDs S.K S.FA ρ H ds vs ∧ PostD S.K S.FA (callN S.T S.gD S.wf n f ds M) ρ H Q
/-- what the top has written of the table -/
structure Top (S : Sta) : Prop where
  fn : ∀ (f : Nat) (fd : Fd), S.T[f]? = some fd → S.mg fd.name = some (.ref (S.FA f)) ∧ PySem.W.keepIn S.K (.ref (S.FA f)) = true
  gl : ∀ (i : Nat) (x : Str) (d : D), S.gl[i]? = some (x, d) → ∃ u v, S.mg x = some u ∧ RelV v u ∧ ∀ ρ H, RelD S.K S.FA ρ H d v
  free : ∀ x ∈ S.free, S.mg x = none
  bfn : ∀ p ∈ S.bfn, S.mg p.1 = some (bfV p.2)
structure FnIs (S : Sta) (n f : Nat) (fd : Fd) : Prop where
  ex : ∃ fdata args dx dvs, FnK S.P S.w S.K S.mg S.base n (S.FA f) fdata fd.ps (spF S n f) ∧ fdata.params = ⟨[], args, none, [], [], none, dx⟩ ∧ args.map (·.arg) = fd.ps ∧ DflV S.K fdata.defaults dvs ∧ (∀ ρ H, RelDs S.K S.FA ρ H fd.dfl dvs) ∧ ∃ oc od osl, S.K.lookup (S.FA f) = some ⟨oc, od, .func fdata, osl⟩
structure Fns (S : Sta) (n : Nat) : Prop where
  top : Top S
  is : ∀ (f : Nat) (fd : Fd), S.T[f]? = some fd → FnIs S n f fd
/-- where a piece stands: the slots' names, the scope; cs: the cells that may be stored -/
structure Cm where
  N : List Str
  sc : Scope
  cs : Str → Bool
structure Good (S : Sta) (C : Cm) (n : Nat) (X : Cx) : Prop where
  P : X.prog = S.P
  w : X.w = S.w
  K : X.K = S.K
  mg : X.mg = S.mg
  base : X.base = S.base
  nn : X.N = C.N
  sc : X.env.scope = C.sc
  calm : X.calm = true
  nd : C.N.Nodup
  room : Room n X.A
  gd : X.A.guards = some []
  po : PassesOwn (model X.prog X.w) X.A X.env X.xe
  cs : ∀ x, C.cs x = true → X.fn x = true
  kind : C.sc.kind = .function

/-! ### readings -/
section
variable (S : Sta) (n : Nat)
def RelB : List Addr → Hp → Bool → Bool → Prop := fun _ _ a b => a = b
def SrcOk (S : Sta) (ρ : List Addr) (H : Hp) (src : Src) (J : It) : Prop := ∀ ρ' H' M', Ext0 S.K ρ H ρ' H' → Rel S.K S.FA ρ' M' H' →
  (∀ i d, src.get i M' = some d → J.go i H' ∧ ∀ x H2, J.yld i H' x H2 → Same H' H2 ∧ RelD S.K S.FA ρ' H2 d x) ∧ ∀ i, src.done i M' = true → J.stop i H'
def tE (e : E) : TE := fun σ H Q => ∃ ρ M τ, Rel S.K S.FA ρ M H ∧ RelS S.K S.FA ρ H τ σ ∧ PostD S.K S.FA (ev (S.cfg n) e τ M) ρ H Q
def tCd (c : Cd) : TT := fun σ H Q => ∃ ρ M τ, Rel S.K S.FA ρ M H ∧ RelS S.K S.FA ρ H τ σ ∧ Post S.K S.FA RelB (evB (S.cfg n) c τ M) ρ H Q
def tEs (es : Es) : TA := fun σ H Q => ∃ ρ M τ, Rel S.K S.FA ρ M H ∧ RelS S.K S.FA ρ H τ σ ∧ Post S.K S.FA (RelDs S.K S.FA) (evs (S.cfg n) es τ M) ρ H Q
def tDs (ds : Ds) : TA := fun σ H Q => ∃ ρ M τ, Rel S.K S.FA ρ M H ∧ RelS S.K S.FA ρ H τ σ ∧ Post S.K S.FA (RelDs S.K S.FA) (evd (S.cfg n) ds τ M) ρ H Q
def tP (p : Po) : TO := fun σ H Q => ∃ ρ M τ, Rel S.K S.FA ρ M H ∧ RelS S.K S.FA ρ H τ σ ∧ Post S.K S.FA (fun _ _ (a b : Option Int) => a = b) (evP (S.cfg n) p τ M) ρ H Q
def tI (i : I) : TI := fun σ H R => ∃ ρ M τ, Rel S.K S.FA ρ M H ∧ RelS S.K S.FA ρ H τ σ ∧ Post S.K S.FA (SrcOk S) (evI (S.cfg n) i τ M) ρ H R
def tG (t : T) : TG := fun v σ H Q => ∃ ρ M τ d, Rel S.K S.FA ρ M H ∧ RelS S.K S.FA ρ H τ σ ∧ RelD S.K S.FA ρ H d v ∧ Post S.K S.FA (RelS S.K S.FA) (asg (S.cfg n) t d τ M) ρ H Q
def tGs (ts : Ts) : TGs := fun vs σ H Q => ∃ ρ M τ ds, Rel S.K S.FA ρ M H ∧ RelS S.K S.FA ρ H τ σ ∧ RelDs S.K S.FA ρ H ds vs ∧ Post S.K S.FA (RelS S.K S.FA) (asgs (S.cfg n) ts ds τ M) ρ H Q
def PostF (S : Sta) (r : R Fl) (ρ : List Addr) (H : Hp) (D : Ends) : Prop := match r with
  | .ok (.nx τ) M' => ∀ ρ' H' σ, Ext S.K ρ H ρ' H' → Rel S.K S.FA ρ' M' H' → RelS S.K S.FA ρ' H' τ σ → D.nx σ H'
  | .ok (.bk τ) M' => ∀ ρ' H' σ, Ext S.K ρ H ρ' H' → Rel S.K S.FA ρ' M' H' → RelS S.K S.FA ρ' H' τ σ → D.bk σ H'
  | .ok (.ct τ) M' => ∀ ρ' H' σ, Ext S.K ρ H ρ' H' → Rel S.K S.FA ρ' M' H' → RelS S.K S.FA ρ' H' τ σ → D.ct σ H'
  | .ok (.rt d) M' => ∀ ρ' H' v, Ext S.K ρ H ρ' H' → Rel S.K S.FA ρ' M' H' → RelD S.K S.FA ρ' H' d v → D.rt v H'
  | _ => False
def tS (s : Ev.S) : TS := fun D σ H => ∃ ρ M τ, Rel S.K S.FA ρ M H ∧ RelS S.K S.FA ρ H τ σ ∧ PostF S (ex (S.cfg n) s τ M) ρ H D
def tSs (s : Ev.Ss) : TS := fun D σ H => ∃ ρ M τ, Rel S.K S.FA ρ M H ∧ RelS S.K S.FA ρ H τ σ ∧ PostF S (exs (S.cfg n) s τ M) ρ H D
end
theorem PostF.ext {S : Sta} {r : R Fl} {ρ ρ' : List Addr} {H H' : Hp} {D : Ends} (x : Ext S.K ρ H ρ' H') (h : PostF S r ρ H D) : PostF S r ρ' H' D := by
  cases r with
  | bad => exact h
  | exc c p M => exact h
  | ok f M => cases f <;> exact fun ρ2 H2 b e r q => h ρ2 H2 b (x.trans e) r q
/-- in a row -/
theorem PostF.bind {S : Sta} {α β : Type} {RA : List Addr → Hp → α → β → Prop} {r : R α} {f : α → Mem → R Fl} {ρ : List Addr} {H : Hp} {D : Ends} {Q : β → Hp → Prop} (h : PostF S (r.bind f) ρ H D)
    (hs : ∀ a M' ρ' H' b, r = .ok a M' → Ext S.K ρ H ρ' H' → Rel S.K S.FA ρ' M' H' → RA ρ' H' a b → PostF S (f a M') ρ' H' D → Q b H') : Post S.K S.FA RA r ρ H Q := by
  cases r with
  | bad => exact h
  | exc c p M => exact h
  | ok a M' =>
    intro ρ' H' b e rl q
    exact hs a M' ρ' H' b rfl e rl q (PostF.ext e h)

/-! ### weaker readings -/
section
variable {X : Cx}
theorem _root_.L2.PE.imp {e : Expr} {t t' : TE} (h : PE X e t) (i : ∀ σ H Q, t' σ H Q → t σ H Q) : PE X e t' := ⟨fun pins s σ H Q I q => h.run pins s σ H Q I (i σ H Q q)⟩
theorem _root_.L2.PT.imp {e : Expr} {t t' : TT} (h : PT X e t) (i : ∀ σ H Q, t' σ H Q → t σ H Q) : PT X e t' := ⟨fun pins s σ H Q I q => h.run pins s σ H Q I (i σ H Q q)⟩
theorem _root_.L2.PW.imp {e : Expr} {t t' : TT} (h : PW X e t) (i : ∀ σ H Q, t' σ H Q → t σ H Q) : PW X e t' := ⟨fun wh pins s σ H Q I q => h.run wh pins s σ H Q I (i σ H Q q)⟩
theorem _root_.L2.PA.imp {e : List Expr} {t t' : TA} (h : PA X e t) (i : ∀ σ H Q, t' σ H Q → t σ H Q) : PA X e t' := ⟨fun pos pins s σ H Q I q => h.run pos pins s σ H Q I (i σ H Q q)⟩
theorem _root_.L2.PK.imp {e : List Keyword} {t t' : TA} (h : PK X e t) (i : ∀ σ H Q, t' σ H Q → t σ H Q) : PK X e t' := ⟨fun pos pins s σ H Q I q => h.run pos pins s σ H Q I (i σ H Q q)⟩
theorem _root_.L2.PO.imp {e : Option Expr} {t t' : TO} (h : PO X e t) (i : ∀ σ H Q, t' σ H Q → t σ H Q) : PO X e t' := ⟨fun pins s σ H Q I q => h.run pins s σ H Q I (i σ H Q q)⟩
theorem _root_.L2.PS.imp {e : Stmt} {t t' : TS} (h : PS X e t) (i : ∀ D σ H, t' D σ H → t D σ H) : PS X e t' := ⟨fun pins s σ H Q I q => h.run pins s σ H Q I (i Q σ H q)⟩
theorem _root_.L2.PSs.imp {e : List Stmt} {t t' : TS} (h : PSs X e t) (i : ∀ D σ H, t' D σ H → t D σ H) : PSs X e t' := ⟨fun pins s σ H Q I q => h.run pins s σ H Q I (i Q σ H q)⟩
theorem _root_.L2.PI.imp {tg e : Expr} {t t' : TI} (h : PI X tg e t) (i : ∀ σ H R, t' σ H R → t σ H R) : PI X tg e t' := ⟨fun pins s σ H Q I q => h.run pins s σ H Q I (i σ H Q q)⟩
theorem _root_.L2.PG.imp {e : Expr} {t t' : TG} (h : PG X e t) (i : ∀ v σ H Q, t' v σ H Q → t v σ H Q) : PG X e t' := ⟨fun pins s σ H v u Q I r q => h.run pins s σ H v u Q I r (i v σ H Q q)⟩
theorem _root_.L2.PGs.imp {e : List Expr} {t t' : TGs} (h : PGs X e t) (i : ∀ v σ H Q, t' v σ H Q → t v σ H Q) : PGs X e t' := ⟨fun pins s σ H v u Q I r q => h.run pins s σ H v u Q I r (i v σ H Q q)⟩
theorem _root_.L2.PTs.imp {e : List Expr} {t t' : TT} (h : PTs X e t) (i : ∀ σ H Q, t' σ H Q → t σ H Q) : PTs X e t' := ⟨fun pins s σ H Q I q => h.run pins s σ H Q I (i σ H Q q)⟩
end
end Ev
namespace Ev
open PySem PySem.Spec PyProof.Rows L2

/-! ### what a written piece is not -/
def isStar : Expr → Bool
  | .Starred _ _ => true
  | _ => false
def isComp : Expr → Bool
  | .ListComp .. => true
  | .SetComp .. => true
  | .DictComp .. => true
  | _ => false
def isSetE : Expr → Bool
  | .Set .. => true
  | _ => false
def isSliceE : Expr → Bool
  | .Slice .. => true
  | _ => false
/-- a test that is asked by its value's truth -/
def plainT : Expr → Bool
  | .BoolOp .. => false
  | .IfExp .. => false
  | .Compare .. => false
  | .UnaryOp .Not _ _ => false
  | _ => true
theorem starEach_of {e : Expr} {r : List Expr} {env : Env} (h : isStar e = false) : starEach (e :: r) env = (false, eval e env) :: starEach r env := by
  cases e <;> first | rfl | cases h
theorem swaps_of {e : Expr} {t : Option Expr} {l : Nat} {env : Env} (h : isComp e = false) : swapsWith e t l env = pure false := by
  cases e <;> first | rfl | cases h
theorem folded_of {e : Expr} {env : Env} {x : Value} (h : isSetE e = false) : foldedSetIterable e env x = pure x := by
  cases e <;> first | rfl | cases h
theorem marks_of {op : CmpOp} {e : Expr} (h : isSetE e = false) : behindInMarks op e = false := by
  cases e <;> first | rfl | cases h
theorem plainIx_of {e : Expr} (h : isSliceE e = false) : PlainIx e := by
  intro o i
  cases e <;> first | rfl | cases h
theorem plainT_of {e : Expr} {env : Env} (h : plainT e = true) (whole : Sem Value) : isTrue e env whole = (do let v ← whole; standAt e.pos; holding [v] (truthy v)) := by
  cases e with
  | BoolOp => cases h
  | IfExp => cases h
  | Compare => cases h
  | UnaryOp op x p => cases op <;> first | rfl | cases h
  | _ => rfl
def noStars : List Expr → Bool
  | [] => true
  | e :: r => !isStar e && noStars r
theorem noStars_any {env : Env} : ∀ {es : List Expr} {pos : Pos}, noStars es = true → (backTo pos (starEach es env)).any (·.1) = false
  | [], _, _ => rfl
  | e :: r, pos, h => by
    obtain ⟨h1, h2⟩ := Bool.and_eq_true_iff.mp h
    have h3 : isStar e = false := by
      cases q : isStar e with
      | false => rfl
      | true =>
        rw [q] at h1
        cases h1
    rw [starEach_of h3]
    have ih := noStars_any (env := env) (es := r) (pos := pos) h2
    have gen : ∀ (l : List (Bool × Sem Value)), (backTo pos l).any (·.1) = l.any (·.1) := by
      intro l
      unfold backTo
      rw [List.any_map]
      rfl
    rw [gen] at ih ⊢
    rw [List.any_cons, ih] <;> rfl

section
variable {S : Sta} {C : Cm} {n : Nat} {X : Cx}
theorem Good.u (G : Good S C n X) : X.A.units + 200 < cLine := by
  have := G.room.un
  omega
/-- Op2, by data -/
def rS2 (S : Sta) (g : D → D → Mem → R D) : R2 := fun x y H Q => ∃ ρ M d e, Rel S.K S.FA ρ M H ∧ RelD S.K S.FA ρ H d x ∧ RelD S.K S.FA ρ H e y ∧ PostD S.K S.FA (g d e M) ρ H Q
theorem rS2_of (G : Good S C n X) {f : Value → Value → Sem Value} {g : D → D → Mem → R D} (h : OpR X f (rD2 X S.FA g)) : OpR X f (rS2 S g) := by
  unfold rD2 at h
  rw [G.K] at h
  exact h
theorem sub_ok {FA : Nat → Addr} : OpR X (binaryOp .Sub) (rD2 X FA (op2 .sub)) := by
  refine int2_ok0 op_sub fun ρ M H d e Q r h => ?_
  cases d with
  | int i => cases e with
    | int j => exact ⟨i, j, rfl, rfl, h.at r rfl⟩
    | _ => exact h.elim
  | _ => cases e <;> exact h.elim
theorem fdiv_ok {FA : Nat → Addr} : OpR X (binaryOp .FloorDiv) (rD2 X FA (op2 .fdiv)) := by
  refine int2_ok op_fdivW fun ρ M H d e Q r h => ?_
  cases d with
  | int i => cases e with
    | int j =>
      obtain ⟨c, h2⟩ := post_if h
      exact ⟨i, j, rfl, rfl, c, h2.at r rfl⟩
    | _ => exact h.elim
  | _ => cases e <;> exact h.elim
theorem mod_ok {FA : Nat → Addr} : OpR X (binaryOp .Mod) (rD2 X FA (op2 .mod)) := by
  refine int2_ok op_mod fun ρ M H d e Q r h => ?_
  cases d with
  | int i => cases e with
    | int j =>
      obtain ⟨c, h2⟩ := post_if h
      exact ⟨i, j, rfl, rfl, c, h2.at r rfl⟩
    | _ => exact h.elim
  | _ => cases e <;> exact h.elim
theorem pow_ok {FA : Nat → Addr} : OpR X (binaryOp .Pow) (rD2 X FA (op2 .pow)) := by
  refine int2_ok op_pow fun ρ M H d e Q r h => ?_
  cases d with
  | int i => cases e with
    | int j =>
      obtain ⟨c, h2⟩ := post_if h
      exact ⟨i, j, rfl, rfl, ⟨c.1, c.2.1, by have := c.2.2; omega⟩, h2.at r rfl⟩
    | _ => exact h.elim
  | _ => cases e <;> exact h.elim
theorem inB_some {M : Mem} {d e : D} {b : Bool} (h : inB M d e = some b) : ∃ p ys bs, toPy 30 M d = some p ∧ seqOf M e = some ys ∧ optAll (ys.map (toPy 30 M)) = some bs ∧ b = bs.any fun z => PyData.eqv z p := by
  unfold inB at h
  cases q1 : toPy 30 M d with
  | none =>
    rw [q1] at h
    cases h
  | some p =>
    cases q2 : seqOf M e with
    | none =>
      rw [q1, q2] at h
      cases h
    | some ys =>
      rw [q1, q2] at h
      obtain ⟨bs, h2, rfl⟩ := map_some h
      exact ⟨p, ys, bs, rfl, rfl, h2, rfl⟩
/-- the data that are walked by in -/
theorem in_data {K : PySem.W.Frag} {FA : Nat → Addr} {ρ : List Addr} {H : Hp} {M : Mem} {e : D} {y : V} {ys : List D} {bs : List PyData} (r : Rel K FA ρ M H) (h1 : seqOf M e = some ys) (h2 : optAll (ys.map (toPy 30 M)) = some bs) (re : RelD K FA ρ H e y) :
    (Dp K H y (.list bs) ∧ SeqAt.shaped (.list bs) = true) ∨ (Dp K H y (.tuple bs) ∧ SeqAt.shaped (.tuple bs) = true) := by
  have sh : PyData.canLayAll0 bs = true → PyData.depthAll bs ≤ 30 → SeqAt.shaped (.list bs) = true ∧ SeqAt.shaped (.tuple bs) = true := fun a b => by
    have a1 : (PyData.list bs).canLay0 = true := a
    have a2 : (PyData.tuple bs).canLay0 = true := a
    have b1 : (PyData.list bs).depth ≤ 64 := by
      show PyData.depthAll bs + 1 ≤ 64
      omega
    have b2 : (PyData.tuple bs).depth ≤ 64 := by
      show PyData.depthAll bs + 1 ≤ 64
      omega
    unfold SeqAt.shaped
    rw [a1, a2, decide_eq_true b1, decide_eq_true b2] <;> exact ⟨rfl, rfl⟩
  cases e with
  | tup xs =>
    cases h1
    obtain ⟨a, vs, rfl, s, rv⟩ := re
    obtain ⟨a1, a2, a3⟩ := toPy_all r (fun h rv => toPy_dp r 30 h rv) h2 rv
    exact .inr ⟨.tup s a1, (sh a2 a3).2⟩
  | loc l =>
    obtain ⟨a, rfl, ha⟩ := re
    obtain ⟨vs, s, rv⟩ := r.lstAt h1 ha
    obtain ⟨a1, a2, a3⟩ := toPy_all r (fun h rv => toPy_dp r 30 h rv) h2 rv
    exact .inl ⟨.lst s a1, (sh a2 a3).1⟩
  | _ => cases h1
theorem in_ok {FA : Nat → Addr} (hu : X.A.units + 65 < cLine) : OpR X (compareOp .In) (rD2 X FA (op2 .isin)) := by
  intro pins s σ H x y v u Q I rx ry h
  obtain ⟨ρ, M, d, e, r, rd, re, h⟩ := h
  obtain ⟨z, h1, h2⟩ := post_ofO h
  obtain ⟨b, h3, rfl⟩ := map_some h1
  obtain ⟨p, ys, bs, e1, e2, e3, rfl⟩ := inB_some h3
  have q := h2.at r rfl
  obtain ⟨a1, a2⟩ := toPy_shaped r e1 rd
  rcases in_data r e2 e3 re with ⟨b1, b2⟩ | ⟨b1, b2⟩
  · exact op_inD hu pins s σ H x y v u Q I rx ry ⟨p, bs, a1, b1, a2, b2, q⟩
  · obtain ⟨as, r1⟩ := Dp.reads I p x v a1 rx
    obtain ⟨cs, r2⟩ := Dp.reads I (.tuple bs) y u b1 ry
    exact SeqAt.in_tuple_reads r2 r1 (SeqAt.canLay_of_shaped b2) (SeqAt.canLay_of_shaped a2) (room_in_shaped a2 hu) ⟨.bl _, H, I, rfl, q⟩
theorem notin_ok {FA : Nat → Addr} (hu : X.A.units + 65 < cLine) : OpR X (compareOp .NotIn) (rD2 X FA (op2 .notin)) := by
  intro pins s σ H x y v u Q I rx ry h
  obtain ⟨ρ, M, d, e, r, rd, re, h⟩ := h
  obtain ⟨z, h1, h2⟩ := post_ofO h
  obtain ⟨b, h3, rfl⟩ := map_some h1
  obtain ⟨p, ys, bs, e1, e2, e3, rfl⟩ := inB_some h3
  have q := h2.at r rfl
  obtain ⟨a1, a2⟩ := toPy_shaped r e1 rd
  rcases in_data r e2 e3 re with ⟨b1, b2⟩ | ⟨b1, b2⟩
  · exact op_notInD hu pins s σ H x y v u Q I rx ry ⟨p, bs, a1, b1, a2, b2, q⟩
  · obtain ⟨as, r1⟩ := Dp.reads I p x v a1 rx
    obtain ⟨cs, r2⟩ := Dp.reads I (.tuple bs) y u b1 ry
    exact SeqAt.notIn_tuple_reads r2 r1 (SeqAt.canLay_of_shaped b2) (SeqAt.canLay_of_shaped a2) (room_in_shaped a2 hu) ⟨.bl _, H, I, rfl, q⟩
theorem op_all (G : Good S C n X) (o : Op2) : OpR X (opF o) (rS2 S (op2 o)) := by
  have u := G.u
  cases o with
  | add => exact rS2_of G add_ok
  | sub => exact rS2_of G sub_ok
  | mul => exact rS2_of G mul_ok
  | fdiv => exact rS2_of G fdiv_ok
  | mod => exact rS2_of G mod_ok
  | pow => exact rS2_of G pow_ok
  | eq => exact rS2_of G (eq_ok (by omega))
  | ne => exact rS2_of G (ne_ok (by omega))
  | lt => exact rS2_of G (cmp_ok op_lt)
  | le => exact rS2_of G (cmp_ok op_le)
  | gt => exact rS2_of G (cmp_ok op_gt)
  | ge => exact rS2_of G (cmp_ok op_ge)
  | is => exact rS2_of G is_ok
  | isn => exact rS2_of G isn_ok
  | isin => exact rS2_of G (in_ok (by omega))
  | notin => exact rS2_of G (notin_ok (by omega))
end
end Ev
namespace Ev
open PySem PySem.Spec PyProof.Rows L2

/-! ### expressions -/
section
variable {S : Sta} {C : Cm} {n : Nat} {X : Cx} {a b c : E} {x y z : Expr} {pos : Pos}
theorem truth_rel {K : PySem.W.Frag} {FA : Nat → Addr} {ρ : List Addr} {H : Hp} {M : Mem} {d : D} {v : V} {k : Bool} (r : Rel K FA ρ M H) (h : truth M d = some k) (rd : RelD K FA ρ H d v) : TruV K v H k := by
  cases d with
  | non =>
    rw [show v = _ from rd]
    exact (Option.some.inj h).symm
  | bl b =>
    rw [show v = _ from rd]
    exact (Option.some.inj h).symm
  | int i =>
    rw [show v = _ from rd]
    exact (Option.some.inj h).symm
  | str s =>
    rw [show v = _ from rd]
    have h2 : (if s.length ≤ line then some (s.length != 0) else none) = some k := h
    by_cases q : s.length ≤ line
    · rw [if_pos q] at h2
      refine ⟨by rw [← line_eq]; exact q, ?_⟩
      rw [← Option.some.inj h2]
      cases e : s.length with
      | zero => rfl
      | succ m =>
        have e1 : (m + 1 != 0) = true := by simp
        rw [e1]
        symm
        simp
        omega
    · rw [if_neg q] at h2
      cases h2
  | tup xs =>
    obtain ⟨p, vs, rfl, s, rv⟩ := rd
    refine .inr (.inl ⟨vs, s, ?_⟩)
    rw [← Option.some.inj h]
    cases xs with
    | nil =>
      rw [show vs = [] from rv]
      rfl
    | cons d ds =>
      obtain ⟨u, us, rfl, _⟩ := rv
      rfl
  | loc l =>
    obtain ⟨xs, h1, rfl⟩ := map_some h
    obtain ⟨p, rfl, hp⟩ := rd
    obtain ⟨vs, s, rv⟩ := r.lstAt h1 hp
    refine .inl ⟨vs, s, ?_⟩
    cases xs with
    | nil =>
      rw [show vs = [] from rv]
      rfl
    | cons d ds =>
      obtain ⟨u, us, rfl, _⟩ := rv
      rfl
  | ty t => cases h
  | fn i => cases h
theorem seq2 {k : D → D → Mem → R D} {σ : L2.St} {H : Hp} {Q : VK}
    (h : ∃ ρ M τ, Rel S.K S.FA ρ M H ∧ RelS S.K S.FA ρ H τ σ ∧ PostD S.K S.FA ((ev (S.cfg n) a τ M).bind fun x M => (ev (S.cfg n) b τ M).bind fun y M => k x y M) ρ H Q) : tOp (rS2 S k) (tE S n a) (tE S n b) σ H Q := by
  obtain ⟨ρ, M, τ, r, rs, h⟩ := h
  refine ⟨ρ, M, τ, r, rs, Post.bind h fun d M1 ρ1 H1 v e1 x1 r1 d1 h1 => ?_⟩
  refine ⟨ρ1, M1, τ, r1, rs.mono x1, Post.bind h1 fun e M2 ρ2 H2 u e2 x2 r2 d2 h2 => ?_⟩
  exact ⟨ρ2, M2, d, e, r2, d1.mono x2, d2, h2⟩
theorem e_var {i : Nat} {nm : Str} (G : Good S C n X) (h1 : C.N[i]? = some nm) (h2 : Vis C.sc nm) (h3 : (nm == ("__debug__" : Str)) = false) (h4 : (nm == ("__classdict__" : Str)) = false) : PE X (.Name nm pos) (tE S n (.var i)) := by
  refine (pe_var (i := i) (by rw [G.nn]; exact h1) (by rw [G.sc]; exact h2) h3 h4).imp fun σ H Q h => ?_
  obtain ⟨ρ, M, τ, r, rs, h⟩ := h
  have h' : PostD S.K S.FA (match τ[i]? with | some (some d) => .ok d M | _ => .bad) ρ H Q := h
  cases q : τ[i]? with
  | none =>
    rw [q] at h'
    exact h'.elim
  | some o =>
    cases o with
    | none =>
      rw [q] at h'
      exact h'.elim
    | some d =>
      rw [q] at h'
      obtain ⟨v, e, rv⟩ := rs.get q
      exact ⟨v, e, h'.at r rv⟩
theorem e_con {d : D} {v : V} (hp : PE X x (L2.tC v)) (hv : ∀ ρ H, RelD S.K S.FA ρ H d v) : PE X x (tE S n (.con d)) := by
  refine hp.imp fun σ H Q h => ?_
  obtain ⟨ρ, M, τ, r, rs, h⟩ := h
  exact Post.at (RA := RelD S.K S.FA) (a := d) h r (hv ρ H)
theorem Good.gl (G : Good S C n X) {nm : Str} (h : C.sc.names.lookup nm = some .globalImplicit) : Gl X nm := by
  show X.env.scope.names.lookup nm = some .globalImplicit
  rw [G.sc]
  exact h
theorem e_glo {i : Nat} {nm : Str} {d : D} (G : Good S C n X) (F : Fns S n) (h1 : S.gl[i]? = some (nm, d)) (h2 : C.sc.names.lookup nm = some .globalImplicit) (h3 : (nm == ("__debug__" : Str)) = false) : PE X (.Name nm pos) (tE S n (.glo i)) := by
  obtain ⟨u, v, e1, e2, e3⟩ := F.top.gl i nm d h1
  refine (pe_glob (G.gl h2) (by rw [G.mg]; exact e1) e2 h3).imp fun σ H Q h => ?_
  obtain ⟨ρ, M, τ, r, rs, h⟩ := h
  have e4 : (S.cfg n).gl[i]? = some d := by
    show (S.gl.map (·.2))[i]? = some d
    rw [List.getElem?_map, h1] <;> rfl
  have h' : PostD S.K S.FA (.ofO (S.cfg n).gl[i]? M) ρ H Q := h
  rw [e4] at h'
  exact Post.at (RA := RelD S.K S.FA) (a := d) h' r (e3 ρ H)
theorem e_tup {es : Es} {xs : List Expr} {k : Nat} (ha : PA X xs (tEs S n es)) (hl : ∀ τ M ds M', evs (S.cfg n) es τ M = .ok ds M' → ds.length ≤ line) : PE X (.Tuple xs k pos) (tE S n (.tup es)) := by
  refine (pe_tup ha).imp fun σ H Q h => ?_
  obtain ⟨ρ, M, τ, r, rs, h⟩ := h
  refine ⟨ρ, M, τ, r, rs, Post.bind h fun ds M1 ρ1 H1 vs e1 x1 r1 d1 h1 => ?_⟩
  exact ⟨by rw [d1.length, ← line_eq]; exact hl τ M ds M1 e1, fun p hp => post_tup r1 d1 hp h1⟩
theorem e_lst {es : Es} {xs : List Expr} (ha : PA X xs (tEs S n es)) (hl : ∀ τ M ds M', evs (S.cfg n) es τ M = .ok ds M' → ds.length ≤ line) : PE X (.List xs pos) (tE S n (.lst es)) := by
  refine (pe_lst ha).imp fun σ H Q h => ?_
  obtain ⟨ρ, M, τ, r, rs, h⟩ := h
  refine ⟨ρ, M, τ, r, rs, Post.bind h fun ds M1 ρ1 H1 vs e1 x1 r1 d1 h1 => ?_⟩
  exact ⟨by rw [d1.length, ← line_eq]; exact hl τ M ds M1 e1, fun p hp => post_new r1 d1 hp h1⟩
theorem e_op {o : Op2} {p : Operator} (G : Good S C n X) (ha : PE X x (tE S n a)) (hb : PE X y (tE S n b)) (ho : opF o = binaryOp p) : PE X (.BinOp x p y pos) (tE S n (.op o a b)) :=
  (pe_op (by rw [← ho]; exact op_all G o) ha hb).imp fun σ H Q h => seq2 h
theorem e_cmp {o : Op2} {p : CmpOp} (G : Good S C n X) (ha : PE X x (tE S n a)) (hb : PE X y (tE S n b)) (ho : opF o = compareOp p) (hs : isSetE y = false) : PE X (.Compare x [p] [y] pos) (tE S n (.op o a b)) :=
  (pe_cmpR (by rw [← ho]; exact op_all G o) ha hb (marks_of hs)).imp fun σ H Q h => seq2 h
theorem e_neg (ha : PE X x (tE S n a)) : PE X (.UnaryOp .USub x pos) (tE S n (.neg a)) := by
  refine (pe_un un_neg ha).imp fun σ H Q h => ?_
  obtain ⟨ρ, M, τ, r, rs, h⟩ := h
  refine ⟨ρ, M, τ, r, rs, Post.bind h fun d M1 ρ1 H1 v e1 x1 r1 d1 h1 => ?_⟩
  cases d with
  | int i => exact ⟨i, d1, Post.at (RA := RelD S.K S.FA) (a := D.int (-i)) h1 r1 rfl⟩
  | _ => exact h1.elim
theorem e_not (G : Good S C n X) (ha : PE X x (tE S n a)) : PE X (.UnaryOp .Not x pos) (tE S n (.not a)) := by
  have ht := pe_notT (pos := pos) ha
  rw [G.K] at ht
  refine ht.imp fun σ H Q h => ?_
  obtain ⟨ρ, M, τ, r, rs, h⟩ := h
  refine ⟨ρ, M, τ, r, rs, Post.bind h fun d M1 ρ1 H1 v e1 x1 r1 d1 h1 => ?_⟩
  have h2 : PostD S.K S.FA (match truth M1 d with | some b => .ok (.bl (!b)) M1 | none => .bad) ρ1 H1 Q := h1
  cases q : truth M1 d with
  | none =>
    rw [q] at h2
    exact h2.elim
  | some k =>
    rw [q] at h2
    exact ⟨k, truth_rel r1 q d1, Post.at (RA := RelD S.K S.FA) (a := D.bl (!k)) h2 r1 rfl⟩
theorem e_and (G : Good S C n X) {rest : List Expr} (ha : PE X x (tE S n a)) (hb : PE X (.BoolOp .And (y :: rest) pos) (tE S n b)) : PE X (.BoolOp .And (x :: y :: rest) pos) (tE S n (.and a b)) := by
  have ht := pe_andT ha hb
  rw [G.K] at ht
  refine ht.imp fun σ H Q h => ?_
  obtain ⟨ρ, M, τ, r, rs, h⟩ := h
  refine ⟨ρ, M, τ, r, rs, Post.bind h fun d M1 ρ1 H1 v e1 x1 r1 d1 h1 => ?_⟩
  have h2 : PostD S.K S.FA (match truth M1 d with | some true => ev (S.cfg n) b τ M1 | some false => .ok d M1 | none => .bad) ρ1 H1 Q := h1
  cases q : truth M1 d with
  | none =>
    rw [q] at h2
    exact h2.elim
  | some k =>
    rw [q] at h2
    refine ⟨k, truth_rel r1 q d1, ?_⟩
    cases k with
    | true => exact iteT ⟨ρ1, M1, τ, r1, rs.mono x1, h2⟩
    | false => exact iteF (Post.at (RA := RelD S.K S.FA) (a := d) h2 r1 d1)
theorem e_or (G : Good S C n X) {rest : List Expr} (ha : PE X x (tE S n a)) (hb : PE X (.BoolOp .Or (y :: rest) pos) (tE S n b)) : PE X (.BoolOp .Or (x :: y :: rest) pos) (tE S n (.or a b)) := by
  have ht := pe_orT ha hb
  rw [G.K] at ht
  refine ht.imp fun σ H Q h => ?_
  obtain ⟨ρ, M, τ, r, rs, h⟩ := h
  refine ⟨ρ, M, τ, r, rs, Post.bind h fun d M1 ρ1 H1 v e1 x1 r1 d1 h1 => ?_⟩
  have h2 : PostD S.K S.FA (match truth M1 d with | some true => .ok d M1 | some false => ev (S.cfg n) b τ M1 | none => .bad) ρ1 H1 Q := h1
  cases q : truth M1 d with
  | none =>
    rw [q] at h2
    exact h2.elim
  | some k =>
    rw [q] at h2
    refine ⟨k, truth_rel r1 q d1, ?_⟩
    cases k with
    | true => exact iteT (Post.at (RA := RelD S.K S.FA) (a := d) h2 r1 d1)
    | false => exact iteF ⟨ρ1, M1, τ, r1, rs.mono x1, h2⟩
theorem e_ite {cd : Cd} (hc : PT X z (tCd S n cd)) (ha : PE X x (tE S n a)) (hb : PE X y (tE S n b)) : PE X (.IfExp z x y pos) (tE S n (.ite cd a b)) := by
  refine (pe_ifExp hc ha hb).imp fun σ H Q h => ?_
  obtain ⟨ρ, M, τ, r, rs, h⟩ := h
  refine ⟨ρ, M, τ, r, rs, Post.bind h fun k M1 ρ1 H1 k' e1 x1 r1 d1 h1 => ?_⟩
  cases (show k = k' from d1)
  cases k with
  | true => exact iteT ⟨ρ1, M1, τ, r1, rs.mono x1, h1⟩
  | false => exact iteF ⟨ρ1, M1, τ, r1, rs.mono x1, h1⟩
theorem chain_read {o o' : Op2} {σ : L2.St} {H : Hp} {Q : VK} (h : tE S n (.chain o o' a b c) σ H Q) : tChain (rS2 S (op2 o)) (rS2 S (op2 o')) (tE S n a) (tE S n b) (tE S n c) σ H Q := by
  obtain ⟨ρ, M, τ, r, rs, h⟩ := h
  refine ⟨ρ, M, τ, r, rs, Post.bind h fun d M1 ρ1 H1 v e1 x1 r1 d1 h1 => ?_⟩
  refine ⟨ρ1, M1, τ, r1, rs.mono x1, Post.bind h1 fun e M2 ρ2 H2 u e2 x2 r2 d2 h2 => ?_⟩
  refine ⟨ρ2, M2, d, e, r2, d1.mono x2, d2, Post.bind h2 fun g M3 ρ3 H3 w e3 x3 r3 d3 h3 => ?_⟩
  cases g with
  | bl k =>
    refine ⟨k, d3, ?_⟩
    cases k with
    | true =>
      refine iteT ⟨ρ3, M3, τ, r3, ((rs.mono x1).mono x2).mono x3, Post.bind h3 fun e' M4 ρ4 H4 u' e4 x4 r4 d4 h4 => ?_⟩
      exact ⟨ρ4, M4, e, e', r4, (d2.mono x3).mono x4, d4, h4⟩
    | false => exact iteF (Post.at (RA := RelD S.K S.FA) (a := D.bl false) h3 r3 rfl)
  | _ => exact h3.elim
theorem e_chain {o o' : Op2} {p p' : CmpOp} (G : Good S C n X) (ha : PE X x (tE S n a)) (hb : PE X y (tE S n b)) (hc : PE X z (tE S n c)) (ho : opF o = compareOp p) (ho' : opF o' = compareOp p') (hs : isSetE z = false) : PE X (.Compare x [p, p'] [y, z] pos) (tE S n (.chain o o' a b c)) :=
  (pe_chain (r := rS2 S (op2 o)) (r' := rS2 S (op2 o')) (by rw [← ho]; exact op_all G o) (by rw [← ho']; exact op_all G o') ha hb hc (show behindInMarks p' z = false from marks_of hs)).imp fun σ H Q h => chain_read h
theorem e_sub (G : Good S C n X) (ha : PE X x (tE S n a)) (hb : PE X y (tE S n b)) (hs : isSliceE y = false) : PE X (.Subscript x y pos) (tE S n (.sub a b)) := by
  have ht := pe_ix (pos := pos) ix_seq ha hb (plainIx_of hs)
  rw [G.K] at ht
  refine ht.imp fun σ H Q h => ?_
  obtain ⟨ρ, M, τ, r, rs, h⟩ := h
  refine ⟨ρ, M, τ, r, rs, Post.bind h fun d M1 ρ1 H1 v e1 x1 r1 d1 h1 => ?_⟩
  refine ⟨ρ1, M1, τ, r1, rs.mono x1, Post.bind h1 fun e M2 ρ2 H2 u e2 x2 r2 d2 h2 => ?_⟩
  have d1' := d1.mono x2
  have core : ∀ i, e = .int i → PostD S.K S.FA (.ofO ((seqOf M2 d).bind fun xs => atI xs i) M2) ρ2 H2 Q → rIx S.K v u H2 Q := fun i ei h3 => by
    subst ei
    obtain ⟨w, h4, h5⟩ := post_ofO h3
    cases q : seqOf M2 d with
    | none =>
      rw [q] at h4
      cases h4
    | some xs =>
      rw [q] at h4
      obtain ⟨p, vs, rfl, sq, rv⟩ := r2.seq q d1'
      have h6 : atI xs i = some w := h4
      unfold atI at h6
      cases q2 : ixN xs.length i with
      | none =>
        rw [q2] at h6
        cases h6
      | some j =>
        rw [q2] at h6
        obtain ⟨v', e5, rv'⟩ := rv.get (show xs[j]? = some w from h6)
        have h7 : atI vs i = some v' := by
          unfold atI
          rw [rv.length, q2]
          exact e5
        rcases sq with sq | sq
        · exact .inl ⟨p, vs, i, v', rfl, d2, sq, h7, h5.at r2 rv'⟩
        · exact .inr (.inl ⟨p, vs, i, v', rfl, d2, sq, h7, h5.at r2 rv'⟩)
  cases e with
  | int i =>
    cases d with
    | str s =>
      obtain ⟨c, h3⟩ := post_if h2
      obtain ⟨w, h4, h5⟩ := post_ofO h3
      obtain ⟨ch, h6, rfl⟩ := map_some h4
      exact .inr (.inr ⟨s, i, ch, d1', d2, by rw [← line_eq]; exact c, h6, h5.at r2 rfl⟩)
    | tup xs => exact core i rfl h2
    | loc l => exact core i rfl h2
    | _ => exact core i rfl h2
  | _ => cases d <;> exact h2.elim
end
end Ev
namespace Ev
open PySem PySem.Spec PyProof.Rows L2

section
variable {S : Sta} {C : Cm} {n : Nat} {X : Cx} {a b c : E} {x y z : Expr} {pos : Pos}
/-! ### tests -/
theorem c_and {ca cb : Cd} {rest : List Expr} (ha : PT X x (tCd S n ca)) (hb : PW X (.BoolOp .And (y :: rest) pos) (tCd S n cb)) : PW X (.BoolOp .And (x :: y :: rest) pos) (tCd S n (.and ca cb)) := by
  refine (pw_and ha hb).imp fun σ H Q h => ?_
  obtain ⟨ρ, M, τ, r, rs, h⟩ := h
  refine ⟨ρ, M, τ, r, rs, Post.bind h fun k M1 ρ1 H1 k' e1 x1 r1 d1 h1 => ?_⟩
  cases (show k = k' from d1)
  cases k with
  | true => exact iteT ⟨ρ1, M1, τ, r1, rs.mono x1, h1⟩
  | false => exact iteF (Post.at (RA := RelB) (a := false) h1 r1 rfl)
theorem c_or {ca cb : Cd} {rest : List Expr} (ha : PT X x (tCd S n ca)) (hb : PW X (.BoolOp .Or (y :: rest) pos) (tCd S n cb)) : PW X (.BoolOp .Or (x :: y :: rest) pos) (tCd S n (.or ca cb)) := by
  refine (pw_or ha hb).imp fun σ H Q h => ?_
  obtain ⟨ρ, M, τ, r, rs, h⟩ := h
  refine ⟨ρ, M, τ, r, rs, Post.bind h fun k M1 ρ1 H1 k' e1 x1 r1 d1 h1 => ?_⟩
  cases (show k = k' from d1)
  cases k with
  | true => exact iteT (Post.at (RA := RelB) (a := true) h1 r1 rfl)
  | false => exact iteF ⟨ρ1, M1, τ, r1, rs.mono x1, h1⟩
theorem c_not {ca : Cd} (ha : PT X x (tCd S n ca)) : PT X (.UnaryOp .Not x pos) (tCd S n (.not ca)) := by
  refine (pt_not ha).imp fun σ H Q h => ?_
  obtain ⟨ρ, M, τ, r, rs, h⟩ := h
  refine ⟨ρ, M, τ, r, rs, Post.bind h fun k M1 ρ1 H1 k' e1 x1 r1 d1 h1 => ?_⟩
  cases (show k = k' from d1)
  exact Post.at (RA := RelB) (a := !k) h1 r1 rfl
theorem c_val (G : Good S C n X) (ha : PE X x (tE S n a)) (hp : plainT x = true) : PT X x (tCd S n (.val a)) := by
  have ht := pt_truth ha (plainT_of hp)
  rw [G.K] at ht
  refine ht.imp fun σ H Q h => ?_
  obtain ⟨ρ, M, τ, r, rs, h⟩ := h
  refine ⟨ρ, M, τ, r, rs, Post.bind h fun d M1 ρ1 H1 v e1 x1 r1 d1 h1 => ?_⟩
  obtain ⟨k, h2, h3⟩ := post_ofO h1
  exact ⟨k, truth_rel r1 h2 d1, Post.at (RA := RelB) (a := k) h3 r1 rfl⟩
/-- a comparison's answer -/
def cmpOf : Op2 → Option CmpOp
  | .eq => some .Eq
  | .ne => some .NotEq
  | .lt => some .Lt
  | .le => some .LtE
  | .gt => some .Gt
  | .ge => some .GtE
  | .is => some .Is
  | .isn => some .IsNot
  | .isin => some .In
  | .notin => some .NotIn
  | _ => none
def opOf : Op2 → Option Operator
  | .add => some .Add
  | .sub => some .Sub
  | .mul => some .Mult
  | .fdiv => some .FloorDiv
  | .mod => some .Mod
  | .pow => some .Pow
  | _ => none
theorem cmpOf_f {o : Op2} {p : CmpOp} (h : cmpOf o = some p) : opF o = compareOp p := by
  cases o <;> cases h <;> rfl
theorem opOf_f {o : Op2} {p : Operator} (h : opOf o = some p) : opF o = binaryOp p := by
  cases o <;> cases h <;> rfl
theorem cmp_bl {o : Op2} {p : CmpOp} (ho : cmpOf o = some p) {d e v : D} {M M' : Mem} (h : op2 o d e M = .ok v M') : (∃ k, v = .bl k) ∧ M' = M := by
  have key : ∀ (q : Option Bool) (f : Bool → Bool), R.ofO (q.map fun b => D.bl (f b)) M = .ok v M' → (∃ k, v = .bl k) ∧ M' = M := fun q f e => by
    cases q with
    | none => cases e
    | some b =>
      cases e
      exact ⟨⟨_, rfl⟩, rfl⟩
  have key2 : ∀ (f : Int → Int → Bool), cmpI f M d e = .ok v M' → (∃ k, v = .bl k) ∧ M' = M := fun f q => by
    cases d with
    | int i => cases e with
      | int j =>
        cases q
        exact ⟨⟨_, rfl⟩, rfl⟩
      | _ => cases q
    | _ => cases e <;> cases q
  cases o with
  | eq => exact key _ id h
  | ne => exact key _ _ h
  | lt => exact key2 _ h
  | le => exact key2 _ h
  | gt => exact key2 _ h
  | ge => exact key2 _ h
  | is => exact key _ id h
  | isn => exact key _ _ h
  | isin => exact key _ id h
  | notin => exact key _ _ h
  | _ => cases ho
theorem bind_ok {α β : Type} {r : R α} {f : α → Mem → R β} {v : β} {M' : Mem} (h : r.bind f = .ok v M') : ∃ a M1, r = .ok a M1 ∧ f a M1 = .ok v M' := by
  cases r with
  | ok a M1 => exact ⟨a, M1, rfl, h⟩
  | exc c p M => cases h
  | bad => cases h
theorem truth_bl {r : R D} {ρ : List Addr} {H : Hp} {Q : Bool → Hp → Prop} (hb : ∀ v M', r = .ok v M' → ∃ k, v = .bl k) (h : Post S.K S.FA RelB (r.bind fun x M => .ofO (truth M x) M) ρ H Q) :
    PostD S.K S.FA r ρ H fun x H' => ∃ k, x = .bl k ∧ Q k H' := by
  refine Post.bind h fun d M1 ρ1 H1 v e1 x1 r1 d1 h1 => ?_
  obtain ⟨k, rfl⟩ := hb d M1 e1
  exact ⟨k, d1, Post.at (RA := RelB) (a := k) h1 r1 rfl⟩
theorem c_cmp {o : Op2} {p : CmpOp} (G : Good S C n X) (ha : PE X x (tE S n a)) (hb : PE X y (tE S n b)) (ho : cmpOf o = some p) (hs : isSetE y = false) : PT X (.Compare x [p] [y] pos) (tCd S n (.val (.op o a b))) := by
  refine (pt_cmpR (r := rS2 S (op2 o)) (by rw [← cmpOf_f ho]; exact op_all G o) ha hb (marks_of hs)).imp fun σ H Q h => ?_
  obtain ⟨ρ, M, τ, r, rs, h⟩ := h
  exact seq2 ⟨ρ, M, τ, r, rs, truth_bl (fun v M' e => by
    obtain ⟨_, _, _, e2⟩ := bind_ok e
    obtain ⟨_, _, _, e3⟩ := bind_ok e2
    exact (cmp_bl ho e3).1) h⟩
theorem c_chain {o o' : Op2} {p p' : CmpOp} (G : Good S C n X) (ha : PE X x (tE S n a)) (hb : PE X y (tE S n b)) (hc : PE X z (tE S n c)) (ho : cmpOf o = some p) (ho' : cmpOf o' = some p') (hs : isSetE z = false) : PT X (.Compare x [p, p'] [y, z] pos) (tCd S n (.val (.chain o o' a b c))) := by
  refine (pt_chain (r := rS2 S (op2 o)) (r' := rS2 S (op2 o')) (by rw [← cmpOf_f ho]; exact op_all G o) (by rw [← cmpOf_f ho']; exact op_all G o') ha hb hc (show behindInMarks p' z = false from marks_of hs)).imp fun σ H Q h => ?_
  obtain ⟨ρ, M, τ, r, rs, h⟩ := h
  refine chain_read ⟨ρ, M, τ, r, rs, truth_bl (fun v M' e => ?_) h⟩
  obtain ⟨_, _, _, e2⟩ := bind_ok e
  obtain ⟨_, _, _, e3⟩ := bind_ok e2
  obtain ⟨w, M3, _, e4⟩ := bind_ok e3
  cases w with
  | bl k =>
    cases k with
    | true =>
      obtain ⟨_, _, _, e5⟩ := bind_ok e4
      exact (cmp_bl ho' e5).1
    | false =>
      cases e4
      exact ⟨_, rfl⟩
  | _ => cases e4
theorem c_and1 {ca : Cd} (ha : PT X x (tCd S n ca)) : PW X (.BoolOp .And [x] pos) (tCd S n ca) := pw_and1 ha
theorem c_or1 {ca : Cd} (ha : PT X x (tCd S n ca)) : PW X (.BoolOp .Or [x] pos) (tCd S n ca) := pw_or1 ha
/-! ### lists of expressions -/
theorem a_nil : PA X [] (tEs S n .nil) := by
  refine pa_nil.imp fun σ H Q h => ?_
  obtain ⟨ρ, M, τ, r, rs, h⟩ := h
  exact Post.at (RA := RelDs S.K S.FA) (a := []) h r rfl
theorem cons_read {es : Es} {σ : L2.St} {H : Hp} {Q : List V → Hp → Prop} (h : tEs S n (.cons a es) σ H Q) : tCons (tE S n a) (tEs S n es) σ H Q := by
  obtain ⟨ρ, M, τ, r, rs, h⟩ := h
  refine ⟨ρ, M, τ, r, rs, Post.bind h fun d M1 ρ1 H1 v e1 x1 r1 d1 h1 => ?_⟩
  refine ⟨ρ1, M1, τ, r1, rs.mono x1, Post.bind h1 fun ds M2 ρ2 H2 vs e2 x2 r2 d2 h2 => ?_⟩
  exact Post.at (RA := RelDs S.K S.FA) (a := d :: ds) h2 r2 ⟨v, vs, rfl, d1.mono x2, d2⟩
theorem a_cons {es : Es} {xs : List Expr} (ha : PE X x (tE S n a)) (hr : PA X xs (tEs S n es)) (hs : isStar x = false) : PA X (x :: xs) (tEs S n (.cons a es)) :=
  (pa_cons ha hr (starEach_of hs)).imp fun σ H Q h => cons_read h
theorem k_nil : PK X [] (tEs S n .nil) := by
  refine pk_nil.imp fun σ H Q h => ?_
  obtain ⟨ρ, M, τ, r, rs, h⟩ := h
  exact Post.at (RA := RelDs S.K S.FA) (a := []) h r rfl
theorem k_cons {es : Es} {nm : Option Str} {kpos : Pos} {kws : List Keyword} (ha : PE X x (tE S n a)) (hr : PK X kws (tEs S n es)) : PK X (⟨nm, x, kpos⟩ :: kws) (tEs S n (.cons a es)) :=
  (pk_cons ha hr).imp fun σ H Q h => cons_read h
/-! ### displays with stars -/
theorem d_nil : PA X [] (tDs S n .nil) := by
  refine pa_nil.imp fun σ H Q h => ?_
  obtain ⟨ρ, M, τ, r, rs, h⟩ := h
  exact Post.at (RA := RelDs S.K S.FA) (a := []) h r rfl
theorem d_cons {ds : Ds} {xs : List Expr} (ha : PE X x (tE S n a)) (hr : PA X xs (tDs S n ds)) (hs : isStar x = false) : PA X (x :: xs) (tDs S n (.cons false a ds)) :=
  (pa_cons ha hr (starEach_of hs)).imp fun σ H Q h => by
    obtain ⟨ρ, M, τ, r, rs, h⟩ := h
    refine ⟨ρ, M, τ, r, rs, Post.bind h fun d M1 ρ1 H1 v e1 x1 r1 d1 h1 => ?_⟩
    refine ⟨ρ1, M1, τ, r1, rs.mono x1, Post.bind h1 fun ds M2 ρ2 H2 vs e2 x2 r2 d2 h2 => ?_⟩
    exact Post.at (RA := RelDs S.K S.FA) (a := d :: ds) h2 r2 ⟨v, vs, rfl, d1.mono x2, d2⟩
theorem d_star {ds : Ds} {xs : List Expr} {p : Pos} (G : Good S C n X) (ha : PE X x (tE S n a)) (hr : PA X xs (tDs S n ds)) : PA X (.Starred x p :: xs) (tDs S n (.cons true a ds)) :=
  (StX.pa_star ha hr).imp fun σ H Q h => by
    obtain ⟨ρ, M, τ, r, rs, h⟩ := h
    refine ⟨ρ, M, τ, r, rs, Post.bind h fun d M1 ρ1 H1 v e1 x1 r1 d1 h1 => ?_⟩
    have h1' : Post S.K S.FA (RelDs S.K S.FA) ((R.ofO (seqOf M1 d) M1).bind fun xs M => (evd (S.cfg n) ds τ M).bind fun ys M => .ok (xs ++ ys) M) ρ1 H1 Q := h1
    cases q : seqOf M1 d with
    | none =>
      rw [q] at h1'
      exact h1'.elim
    | some ys =>
      rw [q] at h1'
      have h2 : Post S.K S.FA (RelDs S.K S.FA) ((evd (S.cfg n) ds τ M1).bind fun zs M => .ok (ys ++ zs) M) ρ1 H1 Q := h1'
      have sq : ∃ b vs, v = .ref b ∧ (SqT S.K H1 b vs ∨ SqL S.K H1 b vs) ∧ RelDs S.K S.FA ρ1 H1 ys vs := by
        cases d with
        | tup zs =>
          cases q
          obtain ⟨b, vs, rfl, s, rv⟩ := d1
          exact ⟨b, vs, rfl, .inl s, rv⟩
        | loc l =>
          obtain ⟨b, rfl, hb⟩ := d1
          obtain ⟨vs, s, rv⟩ := r1.lstAt q hb
          exact ⟨b, vs, rfl, .inr s, rv⟩
        | _ => cases q
      obtain ⟨b, vs, rfl, sq, rv⟩ := sq
      refine ⟨b, vs, rfl, by rw [G.K]; exact sq, ρ1, M1, τ, r1, rs.mono x1, Post.bind h2 fun zs M2 ρ2 H2 ws e2 x2 r2 d2 h3 => ?_⟩
      exact Post.at (RA := RelDs S.K S.FA) (a := ys ++ zs) h3 r2 ((rv.mono x2).append d2)
theorem e_dispT {ds : Ds} {xs : List Expr} {k : Nat} (ha : PA X xs (tDs S n ds)) : PE X (.Tuple xs k pos) (tE S n (.disp true ds)) := by
  refine (pe_tup ha).imp fun σ H Q h => ?_
  obtain ⟨ρ, M, τ, r, rs, h⟩ := h
  refine ⟨ρ, M, τ, r, rs, Post.bind h fun ds M1 ρ1 H1 vs e1 x1 r1 d1 h1 => ?_⟩
  obtain ⟨hl, h2⟩ := post_if h1
  exact ⟨by rw [d1.length, ← line_eq]; exact hl, fun p hp => post_tup r1 d1 hp h2⟩
theorem e_dispL {ds : Ds} {xs : List Expr} (ha : PA X xs (tDs S n ds)) : PE X (.List xs pos) (tE S n (.disp false ds)) := by
  refine (pe_lst ha).imp fun σ H Q h => ?_
  obtain ⟨ρ, M, τ, r, rs, h⟩ := h
  refine ⟨ρ, M, τ, r, rs, Post.bind h fun ds M1 ρ1 H1 vs e1 x1 r1 d1 h1 => ?_⟩
  obtain ⟨hl, h2⟩ := post_if h1
  exact ⟨by rw [d1.length, ← line_eq]; exact hl, fun p hp => post_new r1 d1 hp h2⟩
end
end Ev
namespace Ev
open PySem PySem.Spec PyProof.Rows L2

/-! ### where arguments come from -/
section
variable {K : PySem.W.Frag} {FA : Nat → Addr} {ρ : List Addr} {H : Hp}
theorem RelDs.append_get {ds es : List D} {vs us : List V} {i : Nat} {d : D} (h : RelDs K FA ρ H ds vs) (h' : RelDs K FA ρ H es us) (e : (ds ++ es)[i]? = some d) : ∃ v, (vs ++ us)[i]? = some v ∧ RelD K FA ρ H d v :=
  (h.append h').get e
theorem resA_rel {as dfl : List D} {vs dvs : List V} (h : RelDs K FA ρ H as vs) (h' : RelDs K FA ρ H dfl dvs) {x : Arr} {d : D} (e : resA as dfl x = some d) : ∃ v, resA vs dvs x = some v ∧ RelD K FA ρ H d v := by
  cases x with
  | a i => exact h.get e
  | d j => exact h'.get e
theorem arrD_rel {as dfl : List D} {vs dvs : List V} (h : RelDs K FA ρ H as vs) (h' : RelDs K FA ρ H dfl dvs) : ∀ {arr : List Arr} {xs : List D}, arrD as dfl arr = some xs → ∃ us, arrD vs dvs arr = some us ∧ RelDs K FA ρ H xs us
  | [], xs, e => by
    cases e
    exact ⟨[], rfl, rfl⟩
  | x :: r, xs, e => by
    obtain ⟨d, ys, e1, e2, rfl⟩ := optAll_cons (show optAll (resA as dfl x :: r.map (resA as dfl)) = some xs from e)
    obtain ⟨v, q1, r1⟩ := resA_rel h h' e1
    obtain ⟨us, q2, r2⟩ := arrD_rel h h' (arr := r) e2
    refine ⟨v :: us, ?_, v, us, rfl, r1, r2⟩
    show optAll (resA vs dvs x :: r.map (resA vs dvs)) = _
    rw [q1]
    show (optAll (r.map (resA vs dvs))).map _ = _
    rw [show optAll (r.map (resA vs dvs)) = some us from q2] <;> rfl
theorem arrD_vals {vs dvs : List V} {us its : List Value} (h : Vals vs us) (h' : Vals dvs its) : ∀ {arr : List Arr} {xs : List V}, arrD vs dvs arr = some xs → ∃ ws, arrD us its arr = some ws ∧ Vals xs ws
  | [], xs, e => by
    cases e
    exact ⟨[], rfl, .nil⟩
  | x :: r, xs, e => by
    obtain ⟨d, ys, e1, e2, rfl⟩ := optAll_cons (show optAll (resA vs dvs x :: r.map (resA vs dvs)) = some xs from e)
    have one : ∃ v, resA us its x = some v ∧ RelV d v := by
      cases x with
      | a i => exact h.get e1
      | d j => exact h'.get e1
    obtain ⟨v, q1, r1⟩ := one
    obtain ⟨ws, q2, r2⟩ := arrD_vals h h' (arr := r) e2
    refine ⟨v :: ws, ?_, .cons r1 r2⟩
    show optAll (resA us its x :: r.map (resA us its)) = _
    rw [q1]
    show (optAll (r.map (resA us its))).map _ = _
    rw [show optAll (r.map (resA us its)) = some ws from q2] <;> rfl
theorem arrD_all {α : Type} (as dfl : List α) : arrD as dfl ((List.range as.length).map Arr.a) = some as := by
  unfold arrD
  rw [List.map_map]
  rw [show (List.range as.length).map (resA as dfl ∘ Arr.a) = as.map some from range_get as 0 as.length as (by simp) rfl (Nat.le_refl _)]
  exact optAll_some as
end
/-- how a call's arguments go to the def's parameters -/
def arrOk (ps ks : List Str) (na nk nd : Nat) (arr : List Arr) : Bool :=
  decide (bindP ps ((List.range na).map Arr.a) ks ((List.range nk).map fun i => Arr.a (na + i)) ((List.range nd).map Arr.d) = some arr)

theorem kw_fst {env : Env} {pos : Pos} : ∀ kws : List Keyword, (backToKw pos (keywordEach kws env)).map (·.1) = kws.map (·.arg)
  | [] => rfl
  | ⟨a, v, p⟩ :: r => by
    show a :: ((backToKw pos (keywordEach r env)).map (·.1)) = a :: r.map (·.arg)
    rw [kw_fst r]
section
variable {env : Env} {pos : Pos} {kws : List Keyword} {ks : List Str}
theorem kw_some (h : kws.map (·.arg) = ks.map some) : (backToKw pos (keywordEach kws env)).all (·.1.isSome) = true := by
  have e : (backToKw pos (keywordEach kws env)).all (·.1.isSome) = ((backToKw pos (keywordEach kws env)).map (·.1)).all (·.isSome) := by
    rw [List.all_map]
    rfl
  rw [e, kw_fst, h, List.all_map]
  exact List.all_eq_true.mpr fun _ _ => rfl
theorem kw_none (h : kws.map (·.arg) = ks.map some) : (backToKw pos (keywordEach kws env)).any (·.1.isNone) = false := by
  have e : (backToKw pos (keywordEach kws env)).any (·.1.isNone) = ((backToKw pos (keywordEach kws env)).map (·.1)).any (·.isNone) := by
    rw [List.any_map]
    rfl
  rw [e, kw_fst, h, List.any_map]
  exact List.any_eq_false.mpr fun _ _ => by simp
theorem kw_names (h : kws.map (·.arg) = ks.map some) : (backToKw pos (keywordEach kws env)).filterMap (·.1) = ks := by
  have e : (backToKw pos (keywordEach kws env)).filterMap (·.1) = ((backToKw pos (keywordEach kws env)).map (·.1)).filterMap id := by
    rw [List.filterMap_map]
    rfl
  rw [e, kw_fst, h, List.filterMap_map]
  induction ks with
  | nil => rfl
  | cons k r ih => simp
end
section
variable {S : Sta} {C : Cm} {n : Nat} {X : Cx} {pos p : Pos}
/-- the def runs on arguments that stand -/
theorem call_core (G : Good S C n X) (F : Fns S n) {f : Nat} {fd : Fd} (hf : S.T[f]? = some fd) {arr : List Arr} {ks : List Str} {pins : List (Addr × Obj)} {σ : L2.St} {H : Hp} {s : Shared} {Q : VK} {ρ : List Addr} {M : Mem}
    {ds es as : List D} {vs zs : List V} {us ws : List Value} (hb : arrOk fd.ps ks ds.length es.length fd.dfl.length arr = true)
    (I : Inv X pins σ H s) (r : Rel S.K S.FA ρ M H) (rd : RelDs S.K S.FA ρ H ds vs) (re : RelDs S.K S.FA ρ H es zs) (rv : Vals vs us) (rz : Vals zs ws) (ha : arrD (ds ++ es) fd.dfl arr = some as)
    (h : PostD S.K S.FA ((S.cfg n).call f as M) ρ H Q) : wpAny (model X.prog X.w) X.A (call (.ref (S.FA f)) us (ks.zip ws)) (EP X pins σ Q) X.xe s := by
  obtain ⟨fdata, args, dx, dvs, hk, hp, hps, hd, hdd, _⟩ := (F.is f fd hf).ex
  have hk' : FnK X.prog X.w X.K X.mg X.base n (S.FA f) fdata fd.ps (spF S n f) := by
    rw [G.P, G.w, G.K, G.mg, G.base]
    exact hk
  have key : ∃ its, Vals dvs its ∧ ((fdata.defaults = .none ∧ its = []) ∨ ∃ T o n, fdata.defaults = .ref T ∧ s.heap.get? T = some o ∧ o.data = .seq its.toArray n) := by
    rcases hd with ⟨e1, e2⟩ | ⟨_, T, o, its, m, e1, e2, e3, e4⟩
    · subst e1
      exact ⟨[], .nil, .inl ⟨e2, rfl⟩⟩
    · exact ⟨its, e4, .inr ⟨T, o, m, e1, I.kIn T o (by rw [G.K]; exact e2), e3⟩⟩
  obtain ⟨its, hits, hdef⟩ := key
  obtain ⟨avs, q1, r1⟩ := arrD_rel (rd.append re) (hdd ρ H) ha
  obtain ⟨aus, q2, r2⟩ := arrD_vals (rv.append rz) hits q1
  have l1 : us.length = ds.length := by rw [← rv.length, rd.length]
  have l2 : ws.length = es.length := by rw [← rz.length, re.length]
  have l3 : its.length = fd.dfl.length := by rw [← hits.length, (hdd ρ H).length]
  have hb' := of_decide_eq_true hb
  rw [← l1, ← l2, ← l3] at hb'
  obtain ⟨as2, b1, b2⟩ := bind_arr hb'
  rw [q2] at b2
  cases b2
  exact wpAny_call (runK hk' G.room G.gd passL I (bind_gen hp hps hdef b1) r2 ⟨ρ, M, as, r, r1, h⟩)
theorem glo_fn (G : Good S C n X) (F : Fns S n) {f : Nat} {fd : Fd} (hf : S.T[f]? = some fd) : X.mg fd.name = some (.ref (S.FA f)) ∧ PySem.W.keepIn X.K (.ref (S.FA f)) = true := by
  rw [G.mg, G.K]
  exact F.top.fn f fd hf
/-- f(.., k = ..) -/
theorem e_callk (G : Good S C n X) (F : Fns S n) {f : Nat} {fd : Fd} {es ks : Es} {xs : List Expr} {kws : List Keyword} {kn : List Str} {arr : List Arr} {na nk : Nat} (hf : S.T[f]? = some fd) (hl : C.sc.names.lookup fd.name = some .globalImplicit)
    (hd : (fd.name == ("__debug__" : Str)) = false) (ha : PA X xs (tEs S n es)) (hk : PK X kws (tEs S n ks)) (hs : noStars xs = true) (hn : kws.map (·.arg) = kn.map some)
    (la : ∀ τ M ds M', evs (S.cfg n) es τ M = .ok ds M' → ds.length = na) (lk : ∀ τ M ds M', evs (S.cfg n) ks τ M = .ok ds M' → ds.length = nk) (hb : arrOk fd.ps kn na nk fd.dfl.length arr = true) (hz : xs = [] → na = 0) :
    PE X (.Call (.Name fd.name p) xs kws pos) (tE S n (.callk f es ks arr)) := by
  refine ⟨fun pins s σ H Q I h => ?_⟩
  obtain ⟨ρ, M, τ, r, rs, h⟩ := h
  obtain ⟨g1, g2⟩ := glo_fn G F hf
  have hdf : (S.cfg n).dfl f = fd.dfl := by
    show (match S.T[f]? with | some fd => fd.dfl | none => []) = fd.dfl
    rw [hf]
  have main : tEs S n es σ H fun vs H1 => ∃ ρ1 M1 ds, (ds.length = na) ∧ Rel S.K S.FA ρ1 M1 H1 ∧ RelS S.K S.FA ρ1 H1 τ σ ∧ RelDs S.K S.FA ρ1 H1 ds vs ∧
      PostD S.K S.FA ((evs (S.cfg n) ks τ M1).bind fun zs M => match arrD (ds ++ zs) ((S.cfg n).dfl f) arr with | some as => (S.cfg n).call f as M | none => .bad) ρ1 H1 Q :=
    ⟨ρ, M, τ, r, rs, Post.bind h fun ds M1 ρ1 H1 vs e1 x1 r1 d1 h1 => ⟨ρ1, M1, ds, la τ M ds M1 e1, r1, rs.mono x1, d1, h1⟩⟩
  -- behind the positional ones
  have rest : ∀ (us : List Value) (s1 : Shared) (vs : List V) (H1 : Hp), Inv X pins σ H1 s1 → Vals vs us → (∃ ρ1 M1 ds, (ds.length = na) ∧ Rel S.K S.FA ρ1 M1 H1 ∧ RelS S.K S.FA ρ1 H1 τ σ ∧ RelDs S.K S.FA ρ1 H1 ds vs ∧
      PostD S.K S.FA ((evs (S.cfg n) ks τ M1).bind fun zs M => match arrD (ds ++ zs) ((S.cfg n).dfl f) arr with | some as => (S.cfg n).call f as M | none => .bad) ρ1 H1 Q) →
      wpAny (model X.prog X.w) X.A (evalAll ((backToKw pos (keywordEach kws X.env)).map (·.2))) (fun ws s2 => X.K.In s2.heap ∧ wpAny (model X.prog X.w) X.A (call (.ref (S.FA f)) us (kn.zip ws)) (EP X pins σ Q) X.xe s2) X.xe s1 := by
    intro us s1 vs H1 I1 rv hq
    obtain ⟨ρ1, M1, ds, ld, r1, rs1, d1, h1⟩ := hq
    have tk : tEs S n ks σ H1 fun zs H2 => ∃ ρ2 M2 es as, es.length = nk ∧ Rel S.K S.FA ρ2 M2 H2 ∧ RelDs S.K S.FA ρ2 H2 ds vs ∧ RelDs S.K S.FA ρ2 H2 es zs ∧ arrD (ds ++ es) fd.dfl arr = some as ∧ PostD S.K S.FA ((S.cfg n).call f as M2) ρ2 H2 Q := by
      refine ⟨ρ1, M1, τ, r1, rs1, Post.bind h1 fun es M2 ρ2 H2 zs e2 x2 r2 d2 h2 => ?_⟩
      rw [hdf] at h2
      cases q : arrD (ds ++ es) fd.dfl arr with
      | none =>
        rw [q] at h2
        exact h2.elim
      | some as =>
        rw [q] at h2
        exact ⟨ρ2, M2, es, as, lk τ M1 es M2 e2, r2, d1.mono x2, d2, q, h2⟩
    refine thn (hk.run pos pins s1 σ H1 _ I1 tk) fun ws s2 ⟨zs, H2, I2, rz, ρ2, M2, es, as, le, r2, d1', d2, q, h2⟩ => ⟨I2.kIn, ?_⟩
    exact call_core G F hf (by rw [ld, le]; exact hb) I2 r2 d1' d2 rv rz q h2
  refine wpAny_Call_Name_kw (ld_glob I (G.gl hl) g1 ?_ hd)
  cases xs with
  | nil =>
    have hp := ha.run pos pins s σ H _ I main
    refine PySem.W.callWith_KW0 (h₀ := X.base) I.ok.mod.kin g2 (kw_some hn) ?_ (by rw [kw_none hn] <;> rfl)
    rw [kw_names hn]
    have hb2 := wpAny_bind (f := fun _ => evalAll ((backToKw pos (keywordEach kws X.env)).map (·.2))) (thn hp fun us s1 ⟨vs, H1, I1, rv, q⟩ => by
      have e0 : us = [] := by
        obtain ⟨ρ1, M1, ds, ld, _, _, d1, _⟩ := q
        have l1 := rv.length
        rw [d1.length, ld, hz rfl] at l1
        exact List.length_eq_zero_iff.mp l1.symm
      rw [e0] at rv
      exact rest [] s1 vs H1 I1 rv q)
    rw [show spliced (backTo pos (starEach [] X.env)) = pure [] from rfl, pure_bind] at hb2
    exact hb2
  | cons x xs =>
    obtain ⟨h1, h2⟩ := Bool.and_eq_true_iff.mp hs
    have h3 : isStar x = false := by
      cases q : isStar x with
      | false => rfl
      | true =>
        rw [q] at h1
        cases h1
    refine PySem.W.callWith_KW (h₀ := X.base) I.ok.mod.kin g2 (kw_some hn) (thn (ha.run pos pins s σ H _ I main) fun us s1 ⟨vs, H1, I1, rv, q⟩ => ?_) (by rw [noStars_any hs, kw_none hn] <;> rfl) (starEach_of h3)
    rw [kw_names hn]
    exact rest us s1 vs H1 I1 rv q
end
end Ev
namespace Ev
open PySem PySem.Spec PyProof.Rows L2

def Es.len : Es → Nat
  | .nil => 0
  | .cons _ r => r.len + 1
theorem evs_len {C : Cfg} {σ : Sl} : ∀ {es : Es} {M M' : Mem} {ds : List D}, evs C es σ M = .ok ds M' → ds.length = es.len
  | .nil, M, M', ds, h => by
    cases h
    rfl
  | .cons a r, M, M', ds, h => by
    obtain ⟨x, M1, _, h1⟩ := bind_ok h
    obtain ⟨xs, M2, h2, h3⟩ := bind_ok h1
    cases h3
    rw [List.length_cons, evs_len h2] <;> rfl
section
variable {S : Sta} {C : Cm} {n : Nat} {X : Cx} {pos p apos : Pos} {a : E} {x : Expr}
/-- f(..), positional -/
theorem e_call (G : Good S C n X) (F : Fns S n) {f : Nat} {fd : Fd} {es : Es} {xs : List Expr} (hf : S.T[f]? = some fd) (hl : C.sc.names.lookup fd.name = some .globalImplicit)
    (hd : (fd.name == ("__debug__" : Str)) = false) (ha : PA X xs (tEs S n es)) (hs : noStars xs = true) (hb : arrOk fd.ps [] es.len 0 fd.dfl.length ((List.range es.len).map Arr.a) = true) (hz : xs = [] → es.len = 0) :
    PE X (.Call (.Name fd.name p) xs [] pos) (tE S n (.call f es)) := by
  refine (e_callk (kn := []) G F hf hl hd ha k_nil hs rfl (fun τ M ds M' h => evs_len h) (fun τ M ds M' h => evs_len h) hb hz).imp fun σ H Q h => ?_
  obtain ⟨ρ, M, τ, r, rs, h⟩ := h
  refine ⟨ρ, M, τ, r, rs, ?_⟩
  have h1 : PostD S.K S.FA ((evs (S.cfg n) es τ M).bind fun ds M => (S.cfg n).call f ds M) ρ H Q := h
  show PostD S.K S.FA ((evs (S.cfg n) es τ M).bind fun ds M => (evs (S.cfg n) .nil τ M).bind fun zs M => match arrD (ds ++ zs) ((S.cfg n).dfl f) ((List.range es.len).map Arr.a) with | some as => (S.cfg n).call f as M | none => .bad) ρ H Q
  cases q : evs (S.cfg n) es τ M with
  | bad =>
    rw [q] at h1
    exact h1
  | exc c p M =>
    rw [q] at h1
    exact h1
  | ok ds M1 =>
    rw [q] at h1
    show PostD S.K S.FA (match arrD (ds ++ []) ((S.cfg n).dfl f) ((List.range es.len).map Arr.a) with | some as => (S.cfg n).call f as M1 | none => .bad) ρ H Q
    rw [List.append_nil, ← evs_len q, arrD_all]
    exact h1
/-! ### built-ins -/
def bFn : B → Option (Str × String)
  | .len => some ("len", "len")
  | .sum => some ("sum", "sum")
  | .all => some ("all", "all")
  | .any => some ("any", "any")
  | .abs => some ("abs", "abs")
  | .min => some ("min", "min")
  | .max => some ("max", "max")
  | .sorted => some ("sorted", "sorted")
  | .divmod => some ("divmod", "divmod")
  | .repr => some ("repr", "repr")
  | .isi => some ("isinstance", "isinstance")
  | _ => none
def bTy : B → Option (Str × String)
  | .tuple => some ("tuple", "tuple")
  | .list => some ("list", "list")
  | .int => some ("int", "int")
  | _ => none
theorem bFn_ok (G : Good S C n X) {b : B} {nm : Str} {id : String} (h : bFn b = some (nm, id)) : CallR X (.builtin id) (rC X S.FA b) ∧ bootBuiltins nm = some (.builtin id) ∧ nm ≠ "__name__" ∧ (nm == ("__debug__" : Str)) = false := by
  have u := G.u
  cases b with
  | len =>
    cases h
    exact ⟨call_len', boot_len, by decide, by decide⟩
  | sum =>
    cases h
    exact ⟨sum_ok G.calm, boot_sum, by decide, by decide⟩
  | all =>
    cases h
    exact ⟨all_ok G.calm, boot_all, by decide, by decide⟩
  | any =>
    cases h
    exact ⟨any_ok G.calm, boot_any, by decide, by decide⟩
  | abs =>
    cases h
    exact ⟨abs_ok, boot_abs, by decide, by decide⟩
  | min =>
    cases h
    exact ⟨min_ok G.calm, boot_min, by decide, by decide⟩
  | max =>
    cases h
    exact ⟨max_ok G.calm, boot_max, by decide, by decide⟩
  | sorted =>
    cases h
    exact ⟨sorted_ok (by omega), boot_sorted, by decide, by decide⟩
  | divmod =>
    cases h
    exact ⟨divmod_ok, boot_divmod, by decide, by decide⟩
  | repr =>
    cases h
    exact ⟨repr_ok G.gd (by omega), boot_repr, by decide, by decide⟩
  | isi =>
    cases h
    exact ⟨isi_ok, boot_isinstance, by decide, by decide⟩
  | _ => cases h
theorem bTy_ok (G : Good S C n X) {b : B} {nm : Str} {id : String} (h : bTy b = some (nm, id)) : CallR X (.type id) (rC X S.FA b) ∧ bootBuiltins nm = some (.type id) ∧ nm ≠ "__name__" ∧ (nm == ("__debug__" : Str)) = false := by
  cases b with
  | tuple =>
    cases h
    exact ⟨tuple_ok, PyProof.Rows.boot_tuple, by decide, by decide⟩
  | list =>
    cases h
    exact ⟨list_ok, PyProof.Rows.boot_list, by decide, by decide⟩
  | int =>
    cases h
    exact ⟨int_ok, PyProof.Rows.boot_int, by decide, by decide⟩
  | _ => cases h
theorem blt_read (G : Good S C n X) {b : B} {es : Es} {σ : L2.St} {H : Hp} {Q : VK} (h : tE S n (.blt b es) σ H Q) : tCB (rC X S.FA b) (tEs S n es) σ H Q := by
  obtain ⟨ρ, M, τ, r, rs, h⟩ := h
  refine ⟨ρ, M, τ, r, rs, Post.bind h fun ds M1 ρ1 H1 vs e1 x1 r1 d1 h1 => ?_⟩
  exact ⟨ρ1, M1, ds, by rw [G.K]; exact r1, by rw [G.K]; exact d1, by rw [G.K]; exact h1⟩
theorem Good.fr (G : Good S C n X) (F : Fns S n) {nm : Str} (h : nm ∈ S.free) : X.mg nm = none := by
  rw [G.mg]
  exact F.top.free nm h
theorem noStars1 {e : Expr} {r : List Expr} (h : noStars (e :: r) = true) : isStar e = false ∧ noStars r = true := by
  obtain ⟨h1, h2⟩ := Bool.and_eq_true_iff.mp h
  refine ⟨?_, h2⟩
  cases q : isStar e with
  | false => rfl
  | true =>
    rw [q] at h1
    cases h1
theorem e_blt (G : Good S C n X) (F : Fns S n) {b : B} {nm : Str} {id : String} {es : Es} {y : Expr} {ys : List Expr} (hb : bFn b = some (nm, id)) (hf : nm ∈ S.free) (hl : C.sc.names.lookup nm = some .globalImplicit) (ha : PA X (y :: ys) (tEs S n es)) (hs : noStars (y :: ys) = true) :
    PE X (.Call (.Name nm p) (y :: ys) [] pos) (tE S n (.blt b es)) := by
  obtain ⟨h1, h2, h3, h4⟩ := bFn_ok G hb
  obtain ⟨s1, s2⟩ := noStars1 hs
  exact (pe_callB h1 (G.gl hl) (G.fr F hf) h2 ha h3 h4 (starEach_of s1) (noStars_any s2)).imp fun σ H Q h => blt_read G h
theorem e_bltT (G : Good S C n X) (F : Fns S n) {b : B} {nm : Str} {id : String} {es : Es} {y : Expr} {ys : List Expr} (hb : bTy b = some (nm, id)) (hf : nm ∈ S.free) (hl : C.sc.names.lookup nm = some .globalImplicit) (ha : PA X (y :: ys) (tEs S n es)) (hs : noStars (y :: ys) = true) :
    PE X (.Call (.Name nm p) (y :: ys) [] pos) (tE S n (.blt b es)) := by
  obtain ⟨h1, h2, h3, h4⟩ := bTy_ok G hb
  obtain ⟨s1, s2⟩ := noStars1 hs
  exact (pe_callTy h1 (G.gl hl) (G.fr F hf) h2 ha h3 h4 (starEach_of s1) (noStars_any s2)).imp fun σ H Q h => blt_read G h
theorem e_gcd (G : Good S C n X) (F : Fns S n) {nm : Str} {es : Es} {y : Expr} {ys : List Expr} (hf : (nm, "math.gcd") ∈ S.bfn) (hl : C.sc.names.lookup nm = some .globalImplicit) (hd : (nm == ("__debug__" : Str)) = false) (ha : PA X (y :: ys) (tEs S n es)) (hs : noStars (y :: ys) = true) :
    PE X (.Call (.Name nm p) (y :: ys) [] pos) (tE S n (.blt .gcd es)) := by
  obtain ⟨s1, s2⟩ := noStars1 hs
  exact (pe_callBfun gcd_ok (G.gl hl) (by rw [G.mg]; exact F.top.bfn _ hf) ha hd (starEach_of s1) (noStars_any s2)).imp fun σ H Q h => blt_read G h
/-- sorted(.., reverse=True) -/
theorem e_sortR (G : Good S C n X) (F : Fns S n) {es : Es} {y : Expr} {ys : List Expr} {kp : Pos} {j : Nat} {cp : Pos} (hf : ("sorted" : Str) ∈ S.free) (hl : C.sc.names.lookup ("sorted" : Str) = some .globalImplicit) (ha : PA X (y :: ys) (tEs S n es)) (hs : noStars (y :: ys) = true) :
    PE X (.Call (.Name ("sorted" : Str) p) (y :: ys) [⟨some ("reverse" : Str), .Constant (.bool true) j cp, kp⟩] pos) (tE S n (.blt .sortedR es)) := by
  obtain ⟨s1, s2⟩ := noStars1 hs
  have hk : ([⟨some ("reverse" : Str), .Constant (.bool true) j cp, kp⟩] : List Keyword).map (·.arg) = ([Str.ofString "reverse"] : List Str).map some := rfl
  refine (pe_callBK (ks := [Str.ofString "reverse"]) (sortedR_ok (FA := S.FA)) (G.gl hl) (G.fr F hf) PyProof.Rows.boot_sorted ha (pk_cons pe_bl pk_nil) (by decide) (by decide) (by rw [starEach_of s1] <;> rfl) (noStars_any hs) (kw_some hk) (kw_none hk) (kw_names hk)).imp fun σ H Q h => ?_
  obtain ⟨ρ, M, τ, r, rs, h⟩ := h
  refine ⟨ρ, M, τ, r, rs, Post.bind h fun ds M1 ρ1 H1 vs e1 x1 r1 d1 h1 => ?_⟩
  exact ⟨rfl, ρ1, M1, ds, by rw [G.K]; exact r1, by rw [G.K]; exact d1, by rw [G.K]; exact h1⟩
/-- min(.., default=None) -/
theorem e_minD (G : Good S C n X) (F : Fns S n) {es : Es} {y : Expr} {ys : List Expr} {kp : Pos} {j : Nat} {cp : Pos} (hf : ("min" : Str) ∈ S.free) (hl : C.sc.names.lookup ("min" : Str) = some .globalImplicit) (ha : PA X (y :: ys) (tEs S n es)) (hs : noStars (y :: ys) = true) :
    PE X (.Call (.Name ("min" : Str) p) (y :: ys) [⟨some ("default" : Str), .Constant .none j cp, kp⟩] pos) (tE S n (.blt .minD es)) := by
  have u := G.u
  obtain ⟨s1, s2⟩ := noStars1 hs
  have hk : ([⟨some ("default" : Str), .Constant .none j cp, kp⟩] : List Keyword).map (·.arg) = ([Str.ofString "default"] : List Str).map some := rfl
  refine (pe_callBK (ks := [Str.ofString "default"]) (minD_ok (FA := S.FA) G.calm (by omega)) (G.gl hl) (G.fr F hf) boot_min ha (pk_cons pe_non pk_nil) (by decide) (by decide) (by rw [starEach_of s1] <;> rfl) (noStars_any hs) (kw_some hk) (kw_none hk) (kw_names hk)).imp fun σ H Q h => ?_
  obtain ⟨ρ, M, τ, r, rs, h⟩ := h
  refine ⟨ρ, M, τ, r, rs, Post.bind h fun ds M1 ρ1 H1 vs e1 x1 r1 d1 h1 => ?_⟩
  exact ⟨rfl, ρ1, M1, ds, by rw [G.K]; exact r1, by rw [G.K]; exact d1, by rw [G.K]; exact h1⟩
/-- a class as a value -/
def tyNm (nm : Str) : Option String := (["int", "str", "bool", "list", "tuple", "dict", "float"] : List String).find? fun t => decide (Str.ofString t = nm)
theorem tyNm_ok {nm : Str} {t : String} (h : tyNm nm = some t) : bootBuiltins nm = some (.type t) ∧ nm ≠ "__name__" ∧ (nm == ("__debug__" : Str)) = false := by
  have h1 := List.find?_some h
  have h2 := List.mem_of_find?_eq_some h
  have e : Str.ofString t = nm := of_decide_eq_true h1
  subst e
  have all : ∀ t ∈ (["int", "str", "bool", "list", "tuple", "dict", "float"] : List String), bootBuiltins (Str.ofString t) = some (.type t) ∧ Str.ofString t ≠ "__name__" ∧ (Str.ofString t == ("__debug__" : Str)) = false := by
    decide +kernel
  exact all t h2
theorem e_ty (G : Good S C n X) (F : Fns S n) {nm : Str} {t : String} (h : tyNm nm = some t) (hf : nm ∈ S.free) (hl : C.sc.names.lookup nm = some .globalImplicit) : PE X (.Name nm pos) (tE S n (.con (.ty t))) := by
  obtain ⟨h1, h2, h3⟩ := tyNm_ok h
  exact e_con (v := .ty t) (pe_bltn (G.gl hl) (G.fr F hf) h1 rfl h2 h3) fun ρ H => rfl
end
end Ev
namespace Ev
open PySem PySem.Spec PyProof.Rows L2

def isCallE : Expr → Bool
  | .Call .. => true
  | _ => false
theorem base_of {o : Expr} {nm : Str} {env : Env} {w : Sem Value} (h : isCallE o = false) : attributeBase o nm env w = w := by
  cases o <;> first | rfl | cases h
theorem few_of {env : Env} {cpos : Pos} {es : List Expr} (h : noStars es = true) (hl : es.length < 30) :
    ((backTo cpos (starEach es env)).all (fun x => !x.1) && (backToKw cpos (keywordEach [] env)).all (fun x => x.1.isSome) && decide (es.length + ([] : List Keyword).length + (if ([] : List Keyword).isEmpty then 0 else 1) < 30)) = true := by
  have h1 := noStars_any (env := env) (pos := cpos) h
  have h2 : (backTo cpos (starEach es env)).all (fun x => !x.1) = true := by
    rw [List.all_eq_true]
    intro x hx
    have := List.any_eq_false.mp h1 x hx
    cases q : x.1 with
    | false => rfl
    | true =>
      rw [q] at this
      exact absurd rfl this
  rw [h2]
  simp only [List.isEmpty_nil, if_true, List.length_nil, Nat.add_zero, Bool.true_and, Bool.and_eq_true]
  exact ⟨rfl, decide_eq_true hl⟩
theorem mtd_loc {m : Mt} {o : D} {ds : List D} {M : Mem} (h : ∀ l, o ≠ .loc l) : mtd m o ds M = .bad := by
  cases o with
  | loc l => exact absurd rfl (h l)
  | _ => cases m <;> first | rfl | (cases ds with
    | nil => rfl
    | cons d r => cases d <;> first | rfl | (cases r <;> rfl))
theorem bad_bind {α β : Type} {RA : List Addr → Hp → D → V → Prop} {K : PySem.W.Frag} {FA : Nat → Addr} {r : R α} {ρ : List Addr} {H : Hp} {Q : V → Hp → Prop} (h : Post K FA RA (r.bind fun _ _ => (.bad : R D)) ρ H Q) : False := by
  cases r with
  | ok a M => exact h
  | exc c p M => exact h
  | bad => exact h
section
variable {S : Sta} {C : Cm} {n : Nat} {X : Cx} {pos p apos : Pos} {a : E} {x : Expr}
theorem rol_list {ρ : List Addr} {H : Hp} {M : Mem} {l : Nat} {v : V} {K : PySem.W.Frag} {FA : Nat → Addr} (r : Rel K FA ρ M H) (d : RelD K FA ρ H (.loc l) v) : ∃ a, v = .ref a ∧ ρ[l]? = some a ∧ ∃ xs, SqL K H a xs := by
  obtain ⟨a, rfl, ha⟩ := d
  refine ⟨a, rfl, ha, ?_⟩
  have hl : l < M.length := by
    rw [← r.len]
    exact getElem?_len ha
  obtain ⟨c, hc⟩ : ∃ c, M[l]? = some c := ⟨_, List.getElem?_eq_getElem hl⟩
  have h := r.cell l c a hc ha
  cases c with
  | lst xs =>
    obtain ⟨vs, e, _⟩ := h
    exact ⟨vs, SqL.of e⟩
  | rol xs =>
    obtain ⟨vs, e, _⟩ := h
    exact ⟨vs, .inl e⟩
/-- the method's reading, its object a list -/
theorem meth_read (G : Good S C n X) {m : Mt} {es : Es} {rr : V → List V → Hp → VK → Prop}
    (hr : ∀ ρ M H l a ds vs Q, Rel S.K S.FA ρ M H → ρ[l]? = some a → RelDs S.K S.FA ρ H ds vs → PostD S.K S.FA (mtd m (.loc l) ds M) ρ H Q → rr (.ref a) vs H Q)
    {σ : L2.St} {H : Hp} {Q : VK} (h : tE S n (.meth m a es) σ H Q) : tBM X.K "list" rr (tE S n a) (tEs S n es) σ H Q := by
  obtain ⟨ρ, M, τ, r, rs, h⟩ := h
  refine ⟨ρ, M, τ, r, rs, Post.bind h fun d M1 ρ1 H1 v e1 x1 r1 d1 h1 => ?_⟩
  by_cases hl : ∃ l, d = .loc l
  · obtain ⟨l, rfl⟩ := hl
    obtain ⟨b, rfl, hb, xs, sq⟩ := rol_list r1 d1
    refine ⟨by rw [G.K]; exact .inl ⟨rfl, xs, sq⟩, ρ1, M1, τ, r1, rs.mono x1, Post.bind h1 fun ds M2 ρ2 H2 vs e2 x2 r2 d2 h2 => ?_⟩
    exact hr ρ2 M2 H2 l b ds vs Q r2 (x2.pre _ _ hb) d2 h2
  · have h2 : PostD S.K S.FA ((evs (S.cfg n) es τ M1).bind fun ds M => mtd m d ds M) ρ1 H1 Q := h1
    have e3 : (fun ds M => mtd m d ds M) = fun _ _ => (.bad : R D) := by
      funext ds M
      exact mtd_loc fun l e => hl ⟨l, e⟩
    rw [e3] at h2
    exact (bad_bind (β := D) h2).elim
theorem e_append (G : Good S C n X) {es : Es} {y : Expr} {ys : List Expr} (ho : PE X x (tE S n a)) (ha : PA X (y :: ys) (tEs S n es)) (hs : noStars (y :: ys) = true) (hl : (y :: ys).length < 30) (hc : isCallE x = false) (hp : (apos.endLine == pos.line) = true) :
    PE X (.Call (.Attribute x ("append" : Str) apos) (y :: ys) [] pos) (tE S n (.meth .append a es)) := by
  obtain ⟨s1, s2⟩ := noStars1 hs
  refine (pe_bm PySem.F.plainAttrs_list PySem.F.slot_list_append PySem.F.type_list_append mt_append ho ha (base_of hc) (few_of hs hl) hp (starEach_of s1) (noStars_any s2)).imp fun σ H Q h => meth_read G (fun ρ M H l b ds vs Q r hb d h => ?_) h
  match ds, d, h with
  | [z], d, h =>
    obtain ⟨u, r', rfl, d1, d2⟩ := d
    obtain rfl : r' = [] := d2
    have h' : PostD S.K S.FA (match mutAt M l with | some xs => if xs.length < line then .ok .non (M.set l (.lst (xs ++ [z]))) else .bad | none => .bad) ρ H Q := h
    cases q : mutAt M l with
    | none =>
      rw [q] at h'
      exact h'.elim
    | some xs =>
      rw [q] at h'
      obtain ⟨hlt, h3⟩ := post_if h'
      obtain ⟨ws, e, rv⟩ := r.mutAt q hb
      refine ⟨b, ws, u, rfl, rfl, e, by rw [rv.length, ← line_eq]; exact hlt, ?_⟩
      obtain ⟨ex, rl⟩ := r.write (xs' := xs ++ [z]) (vs' := ws ++ [u]) (mutAt_eq q) hb (rv.append ⟨u, [], rfl, d1, rfl⟩)
      exact h3 ρ _ _ ex rl rfl
  | [], d, h => exact h.elim
  | _ :: _ :: _, d, h => exact h.elim
theorem e_extend (G : Good S C n X) {es : Es} {y : Expr} {ys : List Expr} (ho : PE X x (tE S n a)) (ha : PA X (y :: ys) (tEs S n es)) (hs : noStars (y :: ys) = true) (hl : (y :: ys).length < 30) (hc : isCallE x = false) (hp : (apos.endLine == pos.line) = true) :
    PE X (.Call (.Attribute x ("extend" : Str) apos) (y :: ys) [] pos) (tE S n (.meth .extend a es)) := by
  obtain ⟨s1, s2⟩ := noStars1 hs
  refine (pe_bm PySem.F.plainAttrs_list PySem.F.slot_list_extend PySem.F.type_list_extend mt_extend ho ha (base_of hc) (few_of hs hl) hp (starEach_of s1) (noStars_any s2)).imp fun σ H Q h => meth_read G (fun ρ M H l b ds vs Q r hb d h => ?_) h
  match ds, d, h with
  | [.loc k], d, h =>
    obtain ⟨u, r', rfl, d1, d2⟩ := d
    obtain rfl : r' = [] := d2
    obtain ⟨c, rfl, hcc⟩ := d1
    have h' : PostD S.K S.FA (match mutAt M l, mutAt M k with | some xs, some ys => if xs.length + ys.length ≤ line then .ok .non (M.set l (.lst (xs ++ ys))) else .bad | _, _ => .bad) ρ H Q := h
    cases q : mutAt M l with
    | none =>
      rw [q] at h'
      exact h'.elim
    | some xs =>
      cases q2 : mutAt M k with
      | none =>
        rw [q, q2] at h'
        exact h'.elim
      | some zs =>
        rw [q, q2] at h'
        obtain ⟨hlt, h3⟩ := post_if h'
        obtain ⟨ws, e, rv⟩ := r.mutAt q hb
        obtain ⟨ts, e2, rv2⟩ := r.mutAt q2 hcc
        refine ⟨b, c, ws, ts, rfl, rfl, e, e2, by rw [rv.length, rv2.length, ← line_eq]; exact hlt, ?_⟩
        obtain ⟨ex, rl⟩ := r.write (xs' := xs ++ zs) (vs' := ws ++ ts) (mutAt_eq q) hb (rv.append rv2)
        exact h3 ρ _ _ ex rl rfl
  | [], d, h => exact h.elim
  | e1 :: e2 :: r', d, h =>
    rw [show mtd .extend (.loc l) (e1 :: e2 :: r') M = .bad by cases e1 <;> rfl] at h
    exact h.elim
  | [.non], d, h => exact h.elim
  | [.bl _], d, h => exact h.elim
  | [.int _], d, h => exact h.elim
  | [.str _], d, h => exact h.elim
  | [.tup _], d, h => exact h.elim
  | [.ty _], d, h => exact h.elim
  | [.fn _], d, h => exact h.elim
/-- slices -/
theorem p_no : PO X none (tP S n .no) := by
  refine po_none.imp fun σ H Q h => ?_
  obtain ⟨ρ, M, τ, r, rs, h⟩ := h
  exact Post.at (RA := fun _ _ (a b : Option Int) => a = b) (a := none) h r rfl
theorem p_yes (ha : PE X x (tE S n a)) : PO X (some x) (tP S n (.yes a)) := by
  refine (po_some ha).imp fun σ H Q h => ?_
  obtain ⟨ρ, M, τ, r, rs, h⟩ := h
  refine ⟨ρ, M, τ, r, rs, Post.bind h fun d M1 ρ1 H1 v e1 x1 r1 d1 h1 => ?_⟩
  cases d with
  | int i => exact ⟨i, d1, Post.at (RA := fun _ _ (a b : Option Int) => a = b) (a := some i) h1 r1 rfl⟩
  | _ => exact h1.elim
theorem RelDs.cut {K : PySem.W.Frag} {FA : Nat → Addr} {ρ : List Addr} {H : Hp} {ds : List D} {vs : List V} (h : RelDs K FA ρ H ds vs) (lo hi : Option Int) : RelDs K FA ρ H (cutD ds lo hi) (cutV vs lo hi) := by
  unfold cutD cutV
  rw [h.length]
  exact (h.drop _).take _
theorem e_slice (G : Good S C n X) {lo hi : Po} {l u : Option Expr} {p2 : Pos} (ha : PE X x (tE S n a)) (hl : PO X l (tP S n lo)) (hh : PO X u (tP S n hi)) : PE X (.Subscript x (.Slice l u none p2) pos) (tE S n (.slice a lo hi .no)) := by
  have ht := pe_slice (pos := pos) (p2 := p2) (SlR.or sl_list sl_tupA) ha hl hh
  rw [G.K] at ht
  refine ht.imp fun σ H Q h => ?_
  obtain ⟨ρ, M, τ, r, rs, h⟩ := h
  refine ⟨ρ, M, τ, r, rs, Post.bind h fun d M1 ρ1 H1 v e1 x1 r1 d1 h1 => ?_⟩
  refine ⟨ρ1, M1, τ, r1, rs.mono x1, Post.bind h1 fun i M2 ρ2 H2 i' e2 x2 r2 d2 h2 => ?_⟩
  refine ⟨ρ2, M2, τ, r2, (rs.mono x1).mono x2, Post.bind h2 fun j M3 ρ3 H3 j' e3 x3 r3 d3 h3 => ?_⟩
  cases (show i = i' from d2)
  cases (show j = j' from d3)
  have h4 : PostD S.K S.FA (sliceD M3 d i j none) ρ3 H3 Q := h3
  have d1' := (d1.mono x2).mono x3
  cases d with
  | tup xs =>
    obtain ⟨b, vs, rfl, sq, rv⟩ := d1'
    refine .inr ⟨b, vs, rfl, sq, fun hw => ?_, fun hw p hp => ?_⟩
    · have e : cutV vs i j = vs := by
        unfold cutV
        rw [hw.1, hw.2]
        simp
      refine h4 ρ3 H3 _ .refl r3 ⟨b, vs, rfl, sq, ?_⟩
      have := rv.cut i j
      rw [e] at this
      exact this
    · exact post_tup r3 (rv.cut i j) hp h4
  | loc l =>
    have h5 : PostD S.K S.FA (match lstAt M3 l with | some xs => new (cutD xs i j) M3 | none => .bad) ρ3 H3 Q := h4
    cases q : lstAt M3 l with
    | none =>
      rw [q] at h5
      exact h5.elim
    | some xs =>
      rw [q] at h5
      obtain ⟨b, rfl, hb⟩ := d1'
      obtain ⟨vs, sq, rv⟩ := r3.lstAt q hb
      exact .inl ⟨b, vs, rfl, sq, fun p hp => post_new r3 (rv.cut i j) hp h5⟩
  | _ => exact h4.elim
/-- x[::-1] -/
theorem adjust_back (n : Nat) : Builtin.Slice.sliceAdjust none none (-1) (n : Int) = ((n : Int) - 1, -1) := by
  unfold Builtin.Slice.sliceAdjust
  simp
theorem places_back (n : Nat) : Builtin.Slice.slicePlaces ((n : Int) - 1) (-1) (-1) = n := by
  unfold Builtin.Slice.slicePlaces
  have h1 : ¬ ((-1 : Int) > 0) := by omega
  simp only [h1, if_false]
  rw [show (-(-1) : Int) = 1 from rfl, Int.ediv_one]
  split <;> omega
theorem pick_back (xs : Array Value) : ((List.range xs.size).filterMap fun (m : Nat) => xs[((xs.size : Int) - 1 + (m : Int) * -1).toNat]?).toArray = xs.toList.reverse.toArray := by
  congr 1
  have e : (List.range xs.size).filterMap (fun (m : Nat) => xs[((xs.size : Int) - 1 + (m : Int) * -1).toNat]?) = ((List.range xs.size).map fun k => xs.size - 1 - k).filterMap (xs[·]?) := by
    rw [List.filterMap_map]
    have key : ∀ l : List Nat, (∀ m ∈ l, m < xs.size) → l.filterMap (fun (m : Nat) => xs[((xs.size : Int) - 1 + (m : Int) * -1).toNat]?) = l.filterMap ((xs[·]?) ∘ fun k => xs.size - 1 - k) := fun l => by
      induction l with
      | nil => exact fun _ => rfl
      | cons m l ih =>
        intro hl
        have hm := hl m List.mem_cons_self
        have em : ((xs.size : Int) - 1 + (m : Int) * -1).toNat = xs.size - 1 - m := by omega
        rw [List.filterMap_cons, List.filterMap_cons, ih fun z hz => hl z (List.mem_cons_of_mem _ hz), em]
        rfl
    exact key _ fun m hm => List.mem_range.mp hm
  rw [e, PySem.W.krv_range, List.filterMap_reverse, PySem.W.krv_all]
section
variable {prog : Program} {w : World} {A : Around} {E : Value → Shared → Prop} {s : Shared}
theorem applied_back {sl : Addr} {vl vu vs : Value} {n : Nat} {Q : Int × Int × Nat → Shared → Prop} (hs : s.heap.IsSliceOf sl vl vu vs) (pl : IsPart vl none) (pu : IsPart vu none) (ps : IsPart vs (some (-1)))
    (h : Q ((n : Int) - 1, -1, n) s) : wpAny (model prog w) A (Builtin.Slice.sliceApplied (.ref sl) (pure (n : Int))) Q E s := by
  obtain ⟨os, hos, hcs, hds⟩ := id hs
  unfold Builtin.Slice.sliceApplied Builtin.Slice.sliceFields
  refine wpAny_bind (wpAny_bind (wpAny_field hos hds (x := vl) rfl (wpAny_bind (wpAny_field hos hds (x := vu) rfl (wpAny_bind (wpAny_field hos hds (x := vs) rfl (wpAny_pure ?_)))))))
  refine wpAny_bind (HT.slicePart_ ps ?_)
  show wpAny _ _ (if ((-1 : Int) == 0) = true then _ else _) _ _ s
  rw [if_neg (by decide)]
  refine wpAny_bind (HT.slicePart_ pl (wpAny_bind (HT.slicePart_ pu (wpAny_bind (wpAny_pure ?_)))))
  show wpAny _ _ (match Builtin.Slice.sliceAdjust none none (-1) (n : Int) with | (lo, hi) => pure (lo, (-1 : Int), Builtin.Slice.slicePlaces lo hi (-1))) _ _ s
  rw [adjust_back n]
  show wpAny _ _ (pure ((n : Int) - 1, (-1 : Int), Builtin.Slice.slicePlaces ((n : Int) - 1) (-1) (-1))) _ _ s
  rw [places_back]
  exact wpAny_pure h
theorem getItem_tuple_back {t sl : Addr} {items : Array Value} {vl vu vs : Value} {Q : Value → Shared → Prop} (ht : IsTup s.heap t items) (hs : s.heap.IsSliceOf sl vl vu vs) (pl : IsPart vl none) (pu : IsPart vu none) (ps : IsPart vs (some (-1)))
    (h : Q (.ref s.heap.objs.size) { s with heap := s.heap.push { cls := .type "tuple", data := .seq items.toList.reverse.toArray } })
    (hsz : items.size ≤ sizeLine) : wpAny (model prog w) A (getItem (.ref t) (.ref sl)) Q E s := by
  have htake : sizeOk (.seq items.toList.reverse.toArray) := by
    show items.toList.reverse.toArray.size ≤ sizeLine
    rw [List.size_toArray, List.length_reverse, Array.length_toList]
    exact hsz
  obtain ⟨os, hos, hcs, hds⟩ := id hs
  have hTs : s.TypeIs (.ref sl) "slice" := ⟨os, hos, hcs⟩
  unfold getItem
  try with_reducible refine wpAny_holding ?_
  first | refine wpAny_bind (wpAny_pure ?_) | skip
  refine wpAny_bind (wpAny_sequenceKey ht.typeIs (by decide) ?_)
  refine wpAny_bind (wpAny_callSpecial?_slot (name := Str.ofString "__getitem__") ht.typeIs PyProof.Rows.slot_tuple_getitem
    (wpAny_call_entry PyProof.Rows.slot_tuple_getitem ht.typeIs entry_tuple_getitem ?_ (args_tuple_getitem _ _)))
  show wpAny _ _ (Builtin.Tuple.tupleItemsOf (.ref t) >>= _) _ _ s
  refine wpAny_bind (PyProof.Rows.tupleItemsOf_ ht ?_)
  refine wpAny_bind (wpAny_typeOf hTs ?_)
  rw [if_pos (by decide)]
  refine wpAny_bind (applied_back hs pl pu ps ?_)
  show wpAny _ _ (if (((items.size : Int) - 1) == 0 && (-1 : Int) == 1 && items.size == items.size) = true then _ else _) _ _ s
  rw [if_neg (by rw [show ((-1 : Int) == 1) = false from rfl, Bool.and_false, Bool.false_and]; exact Bool.false_ne_true), pick_back]
  first
    | exact wpAny_bind (m := Builtin.Tuple.tupleExact _) (wpAny_newObj_type (wpAny_pure ⟨_, rfl, wpAny_pure h⟩) htake)
    | exact wpAny_bind (m := Builtin.Tuple.tupleExact _) (wpAny_newObj_type (wpAny_bind (wpAny_pure (wpAny_pure ⟨_, rfl, wpAny_pure h⟩))) htake)
    | exact wpAny_bind (wpAny_bind (m := Builtin.Tuple.tupleExact _) (wpAny_newObj_type (wpAny_pure (wpAny_pure ⟨_, rfl, wpAny_pure h⟩)) htake))
    | exact wpAny_bind (wpAny_bind (m := Builtin.Tuple.tupleExact _) (wpAny_newObj_type (wpAny_pure ⟨_, rfl, wpAny_pure h⟩) htake))
end
def tRevA (K : PySem.W.Frag) (te : TE) : TE := fun σ H Q => te σ H fun x H1 => ∃ a xs, x = .ref a ∧ ((SqL K H1 a xs ∧ ∀ p, H1 p = none → Q (.ref p) (upd H1 p (.lst xs.reverse))) ∨ (SqT K H1 a xs ∧ ∀ p, H1 p = none → Q (.ref p) (upd H1 p (.tup xs.reverse))))
theorem pe_revAny {X : Cx} {e : Expr} {te : TE} {k : Nat} {p1 p2 p3 pos : Pos} (he : PE X e te) : PE X (.Subscript e (.Slice none none (some (.UnaryOp .USub (.Constant (.int 1) k p1) p2)) p3) pos) (tRevA X.K te) := by
  refine ⟨fun pins s σ H Q I h => ?_⟩
  refine Subscript_ (thn (he.run pins s σ H _ I h) fun v s1 ⟨x, H1, I1, r1, q1⟩ => ?_)
  obtain ⟨a, xs, ex, q1⟩ := q1
  subst ex
  cases r1
  have hst : PO X (some (.UnaryOp .USub (.Constant (.int 1) k p1) p2)) (tPart (tUn (rU fun i => .int (-i)) (tC (.int 1)))) := po_some (pe_un un_neg pe_int)
  refine wpAny_Slice (thn (po_none.run pins s1 σ H1 (fun o H2 => o = none ∧ H2 = H1) I1 ⟨rfl, rfl⟩) fun vl s2 ⟨l, H2, I2, pl, el, e2⟩ => ?_)
  subst el e2
  refine thn (po_none.run pins s2 σ H2 (fun o H3 => o = none ∧ H3 = H2) I2 ⟨rfl, rfl⟩) fun vu s3 ⟨u, H3, I3, pu, eu, e3⟩ => ?_
  subst eu e3
  refine thn (hst.run pins s3 σ H3 (fun o H4 => o = some (-1) ∧ H4 = H3) I3 ⟨1, rfl, -1, rfl, rfl, rfl⟩) fun vs s4 ⟨o, H4, I4, ps, eo, e4⟩ => ?_
  subst eo e4
  have I5 : Inv X pins σ H4 { s4 with heap := s4.heap.push { cls := .type "slice", data := .fields #[vl, vu, vs] } } := I4.kept (t' := s4.toks) fun b ob q => Heap.get?_push_of_some _ q
  rcases q1 with ⟨hx, q⟩ | ⟨hx, q⟩
  · obtain ⟨its, r, ht, hz⟩ := I5.list hx
    have hlen := r.length
    show wpAny (model X.prog X.w) X.A (subscriptTail e (.Slice none none (some (.UnaryOp .USub (.Constant (.int 1) k p1) p2)) p3) (.ref a) (.ref s4.heap.objs.size)) (EP X pins σ Q) X.xe { s4 with heap := s4.heap.push { cls := .type "slice", data := .fields #[vl, vu, vs] } }
    refine tail_any (ops := [.ref a, .ref s4.heap.objs.size]) ht.isList.typeIs (PySem.slot_list_getitem.lookup) ?_ (by with_unfolding_all rfl)
    refine wpAny_getItem_list_slice ht.isList (Heap.IsSliceOf.new _ vl vu vs) pl pu ps (by decide) ?_ (by rw [List.size_toArray]; omega)
    rw [PySem.W.krv_pick]
    refine ⟨.ref _, _, I5.laid (t' := s4.toks) (o := .lst xs.reverse) (fun b ob q => Heap.get?_push_of_some _ q) (Nat.le_refl _) ?_, rfl, q _ (I5.hok.fresh (Nat.le_refl _))⟩
    exact ⟨by rw [List.length_reverse]; exact hz, _, 0, r.reverse, Heap.get?_push_size _ rfl⟩
  · obtain ⟨its, r, ht, hz⟩ := I5.tuple hx
    have hlen := r.length
    show wpAny (model X.prog X.w) X.A (subscriptTail e (.Slice none none (some (.UnaryOp .USub (.Constant (.int 1) k p1) p2)) p3) (.ref a) (.ref s4.heap.objs.size)) (EP X pins σ Q) X.xe { s4 with heap := s4.heap.push { cls := .type "slice", data := .fields #[vl, vu, vs] } }
    refine tail_any (ops := [.ref a, .ref s4.heap.objs.size]) ht.typeIs (PyProof.Rows.slot_tuple_getitem.lookup) ?_ (by with_unfolding_all rfl)
    refine getItem_tuple_back ht (Heap.IsSliceOf.new _ vl vu vs) pl pu ps ?_ (by rw [List.size_toArray]; omega)
    refine ⟨.ref _, _, I5.laid (t' := s4.toks) (o := .tup xs.reverse) (fun b ob q => Heap.get?_push_of_some _ q) (Nat.le_refl _) ?_, rfl, q _ (I5.hok.fresh (Nat.le_refl _))⟩
    exact ⟨by rw [List.length_reverse]; exact hz, _, r.reverse, IsTup.new _ _⟩
theorem e_back (G : Good S C n X) {k : Nat} {p1 p2 p3 : Pos} (ha : PE X x (tE S n a)) : PE X (.Subscript x (.Slice none none (some (.UnaryOp .USub (.Constant (.int 1) k p1) p2)) p3) pos) (tE S n (.slice a .no .no (.yes (.neg (.con (.int 1)))))) := by
  have ht := pe_revAny (k := k) (p1 := p1) (p2 := p2) (p3 := p3) (pos := pos) ha
  rw [G.K] at ht
  refine ht.imp fun σ H Q h => ?_
  obtain ⟨ρ, M, τ, r, rs, h⟩ := h
  refine ⟨ρ, M, τ, r, rs, Post.bind h fun d M1 ρ1 H1 v e1 x1 r1 d1 h1 => ?_⟩
  have h4 : PostD S.K S.FA (sliceD M1 d none none (some (-1))) ρ1 H1 Q := h1
  cases d with
  | tup xs =>
    obtain ⟨b, vs, rfl, sq, rv⟩ := d1
    have h5 : PostD S.K S.FA (.ok (.tup xs.reverse) M1) ρ1 H1 Q := h4
    exact ⟨b, vs, rfl, .inr ⟨sq, fun p hp => post_tup r1 rv.reverse hp h5⟩⟩
  | loc l =>
    have h5 : PostD S.K S.FA (match lstAt M1 l with | some xs => new xs.reverse M1 | none => .bad) ρ1 H1 Q := h4
    cases q : lstAt M1 l with
    | none =>
      rw [q] at h5
      exact h5.elim
    | some xs =>
      rw [q] at h5
      obtain ⟨b, rfl, hb⟩ := d1
      obtain ⟨vs, sq, rv⟩ := r1.lstAt q hb
      exact ⟨b, vs, rfl, .inl ⟨sq, fun p hp => post_new r1 rv.reverse hp h5⟩⟩
  | _ => exact h4.elim
end
end Ev
namespace Ev
open PySem PySem.Spec PyProof.Rows

/-! ### one step of an iterator over a list (false) or a tuple (true); of a zip, an enumerate in any state -/
def Drw (k : Bool) (h : Heap) (it l : Addr) (i : Nat) : Prop := match k with
  | false => h.IsListIter it l i
  | true => h.IsTupleIter it l i
def Cnt (k : Bool) (h : Heap) (l : Addr) (xs : Array Value) : Prop := match k with
  | false => h.IsList l xs
  | true => h.IsTuple l xs
theorem Drw.to {k : Bool} {h h' : Heap} {it l : Addr} {i : Nat} (d : Drw k h it l i) (e : ∀ o, h.get? it = some o → h'.get? it = some o) : Drw k h' it l i := by
  cases k with
  | false => exact Heap.IsListIter.at d e
  | true => exact Heap.IsTupleIter.at d e
theorem Cnt.to {k : Bool} {h h' : Heap} {l : Addr} {xs : Array Value} (d : Cnt k h l xs) (e : ∀ o, h.get? l = some o → h'.get? l = some o) : Cnt k h' l xs := by
  cases k with
  | false => exact Heap.IsList.at d e
  | true => exact Heap.IsTuple.at d e
theorem Drw.obj {k : Bool} {h : Heap} {it l : Addr} {i : Nat} (d : Drw k h it l i) : ∃ o, h.get? it = some o ∧ ∀ v, o.data ≠ .cell v := by
  cases k with
  | false =>
    obtain ⟨o, e, _, q⟩ := d
    exact ⟨o, e, fun v z => by rw [q] at z; cases z⟩
  | true =>
    obtain ⟨o, e, _, q⟩ := d
    exact ⟨o, e, fun v z => by rw [q] at z; cases z⟩
theorem Drw.lt {k : Bool} {h : Heap} {it l : Addr} {i : Nat} (d : Drw k h it l i) : it < h.objs.size := by
  obtain ⟨o, e, _⟩ := d.obj
  exact Heap.lt_size e
theorem Cnt.lt {k : Bool} {h : Heap} {l : Addr} {xs : Array Value} (d : Cnt k h l xs) : l < h.objs.size := by
  cases k with
  | false =>
    obtain ⟨o, e, _⟩ := d
    exact Heap.lt_size e
  | true =>
    obtain ⟨o, e, _⟩ := d
    exact Heap.lt_size e
abbrev IsZ (h : Heap) (z TI TO : Addr) (o : Value) (f : Bool) : Prop :=
  h.get? z = some { cls := .type "zip", dict := none, data := .fields #[o, .bool f, .bool false, .ref TI, .ref TO], slots := #[] }
abbrev IsE (h : Heap) (e it : Addr) (i : Int) (old o : Value) (f : Bool) : Prop :=
  h.get? e = some { cls := .type "enumerate", dict := none, data := .fields #[o, .bool f, .ref it, rawInt i, .none, old], slots := #[] }
def OwnO (o : Value) : Prop := o = .none ∨ ∃ T : Addr, o = rawInt (T : Nat)
/-- the object that iter(l) makes -/
def itO (k : Bool) (l : Addr) : Obj := match k with
  | false => { cls := .type "list_iterator", data := .fields #[.ref l, .int 0 0] }
  | true => { cls := .type "tuple_iterator", data := .fields #[.ref l, .int 0 0] }
theorem begins_k (k : Bool) (l : Addr) (xs : Array Value) : Begins (.ref l) (itO k l) fun h => Cnt k h l xs := by
  cases k with
  | false => exact begins_list l xs
  | true => exact begins_tuple l xs
theorem drw_new {k : Bool} {h : Heap} {it l : Addr} (e : h.get? it = some (itO k l)) : Drw k h it l 0 := by
  cases k with
  | false => exact ⟨_, e, rfl, rfl⟩
  | true => exact ⟨_, e, rfl, rfl⟩
section
variable {prog : Program} {w : World} {A : Around} {E : Value → Shared → Prop} {s : Shared}
theorem nx_item {k : Bool} {it l : Addr} {i : Nat} {xs : Array Value} {x : Value} {Q : Value → Shared → Prop} (hit : Drw k s.heap it l i) (hl : Cnt k s.heap l xs) (hx : xs[i]? = some x)
    (hQ : ∀ h', Drw k h' it l (i + 1) → Heap.SameBut it s.heap h' → Q x { s with heap := h' }) : wpAny (model prog w) A (Builtin.SmallTypes.nextOf (.ref it)) Q E s := by
  cases k with
  | false => exact wpAny_nextOf_list_item hit hl hx hQ
  | true => exact wpAny_nextOf_tuple_item hit hl hx hQ
theorem nx_end {k : Bool} {it l : Addr} {i : Nat} {xs : Array Value} {Q : Value → Shared → Prop} (hh : A.handled = none) (hit : Drw k s.heap it l i) (hl : Cnt k s.heap l xs) (hx : xs[i]? = none)
    (hE : ∀ h' e, Heap.ExtBut it s.heap h' → (∃ o, h'.get? e = some o ∧ o.cls = .type "StopIteration") → E (.ref e) { s with heap := h' }) : wpAny (model prog w) A (Builtin.SmallTypes.nextOf (.ref it)) Q E s := by
  cases k with
  | false => exact wpAny_nextOf_list_end hh hit hl hx hE
  | true => exact wpAny_nextOf_tuple_end hh hit hl hx hE
theorem alive_any {a : Addr} {Q : Option Obj → Shared → Prop} (h : ∀ o, Q o s) : wpAny (model prog w) A (loadIfAlive a) Q E s := fun _ _ _ => h _
theorem free_zip {z TI TO : Addr} {o : Value} {f : Bool} {Q : Bool → Shared → Prop} (hz : IsZ s.heap z TI TO o f) (ho : OwnO o)
    (h : ∀ b h' f', IsZ h' z TI TO o f' → Heap.SameBut z s.heap h' → Q b { s with heap := h' }) : wpAny (model prog w) A (Builtin.SmallTypes.ownedTupleIsFree (.ref z)) Q E s := by
  unfold Builtin.SmallTypes.ownedTupleIsFree
  rcases ho with rfl | ⟨T, rfl⟩
  · exact wpAny_bind (wpAny_field hz rfl (x := .none) rfl (wpAny_pure (h true s.heap f hz (Heap.SameBut.refl _ _))))
  · refine wpAny_bind (wpAny_field hz rfl (x := rawInt T) rfl ?_)
    show wpAny _ _ (loadIfAlive ((T : Int).toNat) >>= _) _ _ _
    refine wpAny_bind (alive_any fun ob => ?_)
    cases ob with
    | none =>
      simp only [Option.isNone_none, if_true]
      exact wpAny_pure (h true s.heap f hz (Heap.SameBut.refl _ _))
    | some ob =>
    simp only [Option.isNone_some, Bool.false_eq_true, if_false]
    refine wpAny_bind (wpAny_field hz rfl (x := .bool f) rfl ?_)
    cases f with
    | true =>
      rw [if_neg (show ¬ ((Value.bool true != Value.bool true) = true) from Bool.false_ne_true)]
      exact wpAny_pure (h false s.heap true hz (Heap.SameBut.refl _ _))
    | false =>
      rw [if_pos (show (Value.bool false != Value.bool true) = true from rfl)]
      exact wpAny_bind (wpAny_setField_rec hz (by simp) fun h₁ hz₁ hs₁ => wpAny_pure (h false h₁ true hz₁ hs₁))
theorem free_enum {e it : Addr} {i : Int} {old o : Value} {f : Bool} {Q : Bool → Shared → Prop} (hz : IsE s.heap e it i old o f) (ho : OwnO o)
    (h : ∀ b h' f', IsE h' e it i old o f' → Heap.SameBut e s.heap h' → Q b { s with heap := h' }) : wpAny (model prog w) A (Builtin.SmallTypes.ownedTupleIsFree (.ref e)) Q E s := by
  unfold Builtin.SmallTypes.ownedTupleIsFree
  rcases ho with rfl | ⟨T, rfl⟩
  · exact wpAny_bind (wpAny_field hz rfl (x := .none) rfl (wpAny_pure (h true s.heap f hz (Heap.SameBut.refl _ _))))
  · refine wpAny_bind (wpAny_field hz rfl (x := rawInt T) rfl ?_)
    show wpAny _ _ (loadIfAlive ((T : Int).toNat) >>= _) _ _ _
    refine wpAny_bind (alive_any fun ob => ?_)
    cases ob with
    | none =>
      simp only [Option.isNone_none, if_true]
      exact wpAny_pure (h true s.heap f hz (Heap.SameBut.refl _ _))
    | some ob =>
    simp only [Option.isNone_some, Bool.false_eq_true, if_false]
    refine wpAny_bind (wpAny_field hz rfl (x := .bool f) rfl ?_)
    cases f with
    | true =>
      rw [if_neg (show ¬ ((Value.bool true != Value.bool true) = true) from Bool.false_ne_true)]
      exact wpAny_pure (h false s.heap true hz (Heap.SameBut.refl _ _))
    | false =>
      rw [if_pos (show (Value.bool false != Value.bool true) = true from rfl)]
      exact wpAny_bind (wpAny_setField_rec hz (by simp) fun h₁ hz₁ hs₁ => wpAny_pure (h false h₁ true hz₁ hs₁))

theorem zip_step {k1 k2 : Bool} {z TI TO i1 i2 l1 l2 : Addr} {n1 n2 : Nat} {o : Value} {f : Bool} {xs ys : Array Value} {x y a b : Value} {Q : Value → Shared → Prop} (D : ZipApart z TI TO i1 i2 l1 l2)
    (hz : IsZ s.heap z TI TO o f) (ho : OwnO o) (hTI : IsPair s.heap TI (.ref i1) (.ref i2)) (hTO : IsPair s.heap TO a b)
    (h1 : Drw k1 s.heap i1 l1 n1) (h2 : Drw k2 s.heap i2 l2 n2) (hl1 : Cnt k1 s.heap l1 xs) (hl2 : Cnt k2 s.heap l2 ys) (hx : xs[n1]? = some x) (hy : ys[n2]? = some y)
    (hQ : ∀ h' o' f' a' b', OwnO o' → IsZ h' z TI TO o' f' → IsPair h' TO a' b' → Drw k1 h' i1 l1 (n1 + 1) → Drw k2 h' i2 l2 (n2 + 1) → IsPair h' s.heap.objs.size x y → h'.objs.size = s.heap.objs.size + 1 →
      (∀ c o, c ≠ z → c ≠ TO → c ≠ i1 → c ≠ i2 → s.heap.get? c = some o → h'.get? c = some o) → Q (.ref s.heap.objs.size) { s with heap := h' }) :
    wpAny (model prog w) A (Builtin.«zip.__next__» ⟨[.ref z], []⟩) (fun fin s' => ∃ v, fin = .done (.ret v) ∧ Q v s') E s := by
  show wpAny _ _ (field (.ref z) 2 >>= _) _ _ _
  refine wpAny_bind (wpAny_field hz rfl (x := .bool false) rfl ?_)
  show wpAny _ _ (field (.ref z) 3 >>= _) _ _ _
  refine wpAny_bind (wpAny_field hz rfl (x := .ref TI) rfl ?_)
  refine wpAny_bind (wpAny_seqItems hTI rfl ?_)
  show wpAny _ _ (Builtin.SmallTypes.ownedTupleIsFree (.ref z) >>= _) _ _ _
  refine wpAny_bind (free_zip hz ho fun fr h₀ f₀ hz₀ hs₀ => ?_)
  have hTO₀ : IsPair h₀ TO a b := hs₀.extBut _ _ D.TOz hTO
  cases fr with
  | true =>
    simp only [if_true]
    refine wpAny_bind (wpAny_rule ?_)
    refine wpAny_bind (wpAny_field hz₀ rfl (x := .ref TO) rfl ?_)
    refine wpAny_bind (wpAny_setField_rec hz₀ (by simp) fun h₁ hz₁ hs₁ => ?_)
    replace hz₁ : IsZ h₁ z TI TO .ellipsis f₀ := hz₁
    refine wpAny_bind ?_
    simp only [List.zipIdx_cons, List.zipIdx_nil, List.forIn_cons, List.forIn_nil]
    refine wpAny_bind (wpAny_bind (wpAny_onRaise ?_))
    show wpAny _ _ (Builtin.SmallTypes.nextOf (.ref i1) >>= _) _ _ _
    refine wpAny_bind (nx_item ((h1.to fun o => hs₀.extBut _ o D.i1z).to fun o => hs₁.extBut _ o D.i1z) ((hl1.to fun o => hs₀.extBut _ o D.l1z).to fun o => hs₁.extBut _ o D.l1z) hx fun h₂ h1₂ hs₂ => wpAny_pure ?_)
    have hTO₂ : IsPair h₂ TO a b := hs₂.extBut _ _ D.TOi1 (hs₁.extBut _ _ D.TOz hTO₀)
    refine wpAny_bind (wpAny_seqItems hTO₂ rfl ?_)
    refine wpAny_bind (wpAny_updateSeq_pair hTO₂ fun h₃ hTO₃ hs₃ => ?_)
    replace hTO₃ : IsPair h₃ TO x b := hTO₃
    refine wpAny_bind (wpAny_letGo (wpAny_pure ?_))
    refine wpAny_bind (wpAny_bind (wpAny_onRaise ?_))
    show wpAny _ _ (Builtin.SmallTypes.nextOf (.ref i2) >>= _) _ _ _
    refine wpAny_bind (nx_item ((((h2.to fun o => hs₀.extBut _ o D.i2z).to fun o => hs₁.extBut _ o D.i2z).to fun o => hs₂.extBut _ o D.i12.symm).to fun o => hs₃.extBut _ o D.TOi2.symm)
      ((((hl2.to fun o => hs₀.extBut _ o D.l2z).to fun o => hs₁.extBut _ o D.l2z).to fun o => hs₂.extBut _ o D.l2i1).to fun o => hs₃.extBut _ o D.l2TO) hy fun h₄ h2₄ hs₄ => wpAny_pure ?_)
    have hTO₄ : IsPair h₄ TO x b := hs₄.extBut _ _ D.TOi2 hTO₃
    refine wpAny_bind (wpAny_seqItems hTO₄ rfl ?_)
    refine wpAny_bind (wpAny_updateSeq_pair hTO₄ fun h₅ hTO₅ hs₅ => ?_)
    replace hTO₅ : IsPair h₅ TO x y := hTO₅
    refine wpAny_bind (wpAny_letGo (wpAny_pure (wpAny_pure ?_)))
    refine wpAny_bind (wpAny_seqItems hTO₅ rfl ?_)
    refine wpAny_bind (wpAny_newTuple ?_)
    have hsz : h₅.objs.size = s.heap.objs.size := by rw [hs₅.1, hs₄.1, hs₃.1, hs₂.1, hs₁.1, hs₀.1]
    have hz₅ : IsZ h₅ z TI TO .ellipsis f₀ := hs₅.extBut _ _ D.TOz.symm (hs₄.extBut _ _ D.i2z.symm (hs₃.extBut _ _ D.TOz.symm (hs₂.extBut _ _ D.i1z.symm hz₁)))
    have hk₅ : ∀ c o, c ≠ z → c ≠ TO → c ≠ i1 → c ≠ i2 → s.heap.get? c = some o → h₅.get? c = some o := fun c o c1 c2 c3 c4 e =>
      hs₅.extBut _ _ c2 (hs₄.extBut _ _ c4 (hs₃.extBut _ _ c2 (hs₂.extBut _ _ c3 (hs₁.extBut _ _ c1 (hs₀.extBut _ _ c1 e)))))
    have h1₅ : Drw k1 h₅ i1 l1 (n1 + 1) := ((h1₂.to fun o => hs₃.extBut _ o D.TOi1.symm).to fun o => hs₄.extBut _ o D.i12).to fun o => hs₅.extBut _ o D.TOi1.symm
    have h2₅ : Drw k2 h₅ i2 l2 (n2 + 1) := h2₄.to fun o => hs₅.extBut _ o D.TOi2.symm
    have hzlt : z < h₅.objs.size := Heap.lt_size hz₅
    show wpAny _ _ (Builtin.SmallTypes.ownedTupleHandOut (.ref z) (.ref h₅.objs.size) >>= _) _ _ _
    refine wpAny_bind ?_
    unfold Builtin.SmallTypes.ownedTupleHandOut
    have hz₆ : IsZ (h₅.push { cls := .type "tuple", data := .seq #[x, y] }) z TI TO .ellipsis f₀ := Heap.get?_push_of_some _ hz₅
    refine wpAny_bind (wpAny_setField_rec hz₆ (by simp) fun h₇ hz₇ hs₇ => ?_)
    replace hz₇ : IsZ h₇ z TI TO (rawInt h₅.objs.size) f₀ := hz₇
    refine wpAny_setField_rec hz₇ (by simp) fun h₈ hz₈ hs₈ => ?_
    replace hz₈ : IsZ h₈ z TI TO (rawInt h₅.objs.size) false := hz₈
    have up : ∀ c o, c ≠ z → h₅.get? c = some o → h₈.get? c = some o := fun c o c1 e => hs₈.extBut _ _ c1 (hs₇.extBut _ _ c1 (Heap.get?_push_of_some _ e))
    have hT₈ : IsPair h₈ h₅.objs.size x y := hs₈.extBut _ _ (Nat.ne_of_gt hzlt) (hs₇.extBut _ _ (Nat.ne_of_gt hzlt) (Heap.get?_push_size _ rfl))
    have hz8 : h₈.objs.size = h₅.objs.size + 1 := by rw [hs₈.1, hs₇.1, Heap.size_push]
    rw [hsz] at hz₈ hT₈ hz8
    refine wpAny_pure ⟨_, rfl, ?_⟩
    show Q (.ref h₅.objs.size) _
    rw [hsz]
    exact hQ h₈ _ _ _ _ (.inr ⟨_, rfl⟩) hz₈ (up _ _ D.TOz hTO₅) (h1₅.to fun o e => up _ o D.i1z e) (h2₅.to fun o e => up _ o D.i2z e) hT₈ hz8 fun c o c1 c2 c3 c4 e => up c o c1 (hk₅ c o c1 c2 c3 c4 e)
  | false =>
    simp only [Bool.false_eq_true, if_false]
    refine wpAny_bind ?_
    rw [← Array.forIn_toList]
    simp only [List.forIn_cons, List.forIn_nil]
    refine wpAny_bind (wpAny_bind (wpAny_holding ?_))
    show wpAny _ _ (Builtin.SmallTypes.nextOf (.ref i1) >>= _) _ _ _
    refine wpAny_bind (nx_item (s := { s with heap := h₀ }) (h1.to fun o => hs₀.extBut _ o D.i1z) (hl1.to fun o => hs₀.extBut _ o D.l1z) hx fun h₂ h1₂ hs₂ => wpAny_pure ?_)
    refine wpAny_pure ?_
    refine wpAny_bind (wpAny_bind (wpAny_holding ?_))
    show wpAny _ _ (Builtin.SmallTypes.nextOf (.ref i2) >>= _) _ _ _
    refine wpAny_bind (nx_item (s := { s with heap := h₂ }) ((h2.to fun o => hs₀.extBut _ o D.i2z).to fun o => hs₂.extBut _ o D.i12.symm) ((hl2.to fun o => hs₀.extBut _ o D.l2z).to fun o => hs₂.extBut _ o D.l2i1) hy fun h₃ h2₃ hs₃ => wpAny_pure ?_)
    refine wpAny_pure (wpAny_pure ?_)
    show wpAny _ _ (newTuple [x, y] >>= _) _ _ _
    refine wpAny_bind (wpAny_newTuple ?_)
    have hsz : h₃.objs.size = s.heap.objs.size := by rw [hs₃.1, hs₂.1, hs₀.1]
    have hz₃ : IsZ h₃ z TI TO o f₀ := hs₃.extBut _ _ D.i2z.symm (hs₂.extBut _ _ D.i1z.symm hz₀)
    have hTO₃ : IsPair h₃ TO a b := hs₃.extBut _ _ D.TOi2 (hs₂.extBut _ _ D.TOi1 hTO₀)
    have hk : ∀ c o, c ≠ z → c ≠ i1 → c ≠ i2 → s.heap.get? c = some o → h₃.get? c = some o := fun c o c1 c2 c3 e => hs₃.extBut _ _ c3 (hs₂.extBut _ _ c2 (hs₀.extBut _ _ c1 e))
    have h1₃ : Drw k1 h₃ i1 l1 (n1 + 1) := h1₂.to fun o => hs₃.extBut _ o D.i12
    refine wpAny_pure ⟨_, rfl, ?_⟩
    show Q (.ref h₃.objs.size) _
    have hp : IsPair (h₃.push { cls := .type "tuple", data := .seq #[x, y] }) h₃.objs.size x y := Heap.get?_push_size _ rfl
    have hz4 : (h₃.push { cls := .type "tuple", data := .seq #[x, y] }).objs.size = h₃.objs.size + 1 := Heap.size_push ..
    rw [hsz] at hp hz4 ⊢
    exact hQ _ _ _ _ _ ho (Heap.get?_push_of_some _ hz₃) (Heap.get?_push_of_some _ hTO₃) (h1₃.to fun o e => Heap.get?_push_of_some _ e) (h2₃.to fun o e => Heap.get?_push_of_some _ e) hp hz4 fun c o c1 _ c2 c3 e => Heap.get?_push_of_some _ (hk c o c1 c2 c3 e)

theorem zip_stop {k1 k2 : Bool} {z TI TO i1 i2 l1 l2 : Addr} {n1 n2 : Nat} {o : Value} {f : Bool} {xs ys : Array Value} {a b : Value} {Q : Fin → Shared → Prop} (hh : A.handled = none) (D : ZipApart z TI TO i1 i2 l1 l2)
    (hz : IsZ s.heap z TI TO o f) (ho : OwnO o) (hTI : IsPair s.heap TI (.ref i1) (.ref i2)) (hTO : IsPair s.heap TO a b)
    (h1 : Drw k1 s.heap i1 l1 n1) (h2 : Drw k2 s.heap i2 l2 n2) (hl1 : Cnt k1 s.heap l1 xs) (hl2 : Cnt k2 s.heap l2 ys) (hend : xs[n1]? = none ∨ ys[n2]? = none)
    (hE : ∀ h' e, (∀ c o, c ≠ z → c ≠ TO → c ≠ i1 → c ≠ i2 → s.heap.get? c = some o → h'.get? c = some o) → (∃ o, h'.get? e = some o ∧ o.cls = .type "StopIteration") → E (.ref e) { s with heap := h' }) :
    wpAny (model prog w) A (Builtin.«zip.__next__» ⟨[.ref z], []⟩) Q E s := by
  show wpAny _ _ (field (.ref z) 2 >>= _) _ _ _
  refine wpAny_bind (wpAny_field hz rfl (x := .bool false) rfl ?_)
  show wpAny _ _ (field (.ref z) 3 >>= _) _ _ _
  refine wpAny_bind (wpAny_field hz rfl (x := .ref TI) rfl ?_)
  refine wpAny_bind (wpAny_seqItems hTI rfl ?_)
  show wpAny _ _ (Builtin.SmallTypes.ownedTupleIsFree (.ref z) >>= _) _ _ _
  refine wpAny_bind (free_zip hz ho fun fr h₀ f₀ hz₀ hs₀ => ?_)
  have hTO₀ : IsPair h₀ TO a b := hs₀.extBut _ _ D.TOz hTO
  cases fr with
  | true =>
    simp only [if_true]
    refine wpAny_bind (wpAny_rule ?_)
    refine wpAny_bind (wpAny_field hz₀ rfl (x := .ref TO) rfl ?_)
    refine wpAny_bind (wpAny_setField_rec hz₀ (by simp) fun h₁ hz₁ hs₁ => ?_)
    replace hz₁ : IsZ h₁ z TI TO .ellipsis f₀ := hz₁
    refine wpAny_bind ?_
    simp only [List.zipIdx_cons, List.zipIdx_nil, List.forIn_cons, List.forIn_nil]
    refine wpAny_bind (wpAny_bind (wpAny_onRaise ?_))
    show wpAny _ _ (Builtin.SmallTypes.nextOf (.ref i1) >>= _) _ _ _
    cases hx : xs[n1]? with
    | none =>
      refine wpAny_bind (nx_end hh ((h1.to fun o => hs₀.extBut _ o D.i1z).to fun o => hs₁.extBut _ o D.i1z) ((hl1.to fun o => hs₀.extBut _ o D.l1z).to fun o => hs₁.extBut _ o D.l1z) hx fun h₂ e hs₂ he => ?_)
      obtain ⟨oe, hoe, hce⟩ := he
      have hz₂ : IsZ h₂ z TI TO .ellipsis f₀ := hs₂ _ _ D.i1z.symm hz₁
      have hez : e ≠ z := fun x => by subst x; rw [hz₂] at hoe; cases hoe; simp at hce
      refine wpAny_setField_rec hz₂ (by simp) fun h₃ _ hs₃ => hE h₃ e (fun c o c1 _ c3 _ x => hs₃.extBut _ _ c1 (hs₂ _ _ c3 (hs₁.extBut _ _ c1 (hs₀.extBut _ _ c1 x)))) ⟨oe, hs₃.extBut _ _ hez hoe, hce⟩
    | some x =>
      have hy : ys[n2]? = none := by rcases hend with h | h; rw [hx] at h; cases h; exact h
      refine wpAny_bind (nx_item ((h1.to fun o => hs₀.extBut _ o D.i1z).to fun o => hs₁.extBut _ o D.i1z) ((hl1.to fun o => hs₀.extBut _ o D.l1z).to fun o => hs₁.extBut _ o D.l1z) hx fun h₂ h1₂ hs₂ => wpAny_pure ?_)
      have hTO₂ : IsPair h₂ TO a b := hs₂.extBut _ _ D.TOi1 (hs₁.extBut _ _ D.TOz hTO₀)
      refine wpAny_bind (wpAny_seqItems hTO₂ rfl ?_)
      refine wpAny_bind (wpAny_updateSeq_pair hTO₂ fun h₃ hTO₃ hs₃ => ?_)
      refine wpAny_bind (wpAny_letGo (wpAny_pure ?_))
      refine wpAny_bind (wpAny_bind (wpAny_onRaise ?_))
      show wpAny _ _ (Builtin.SmallTypes.nextOf (.ref i2) >>= _) _ _ _
      refine wpAny_bind (nx_end hh ((((h2.to fun o => hs₀.extBut _ o D.i2z).to fun o => hs₁.extBut _ o D.i2z).to fun o => hs₂.extBut _ o D.i12.symm).to fun o => hs₃.extBut _ o D.TOi2.symm)
        ((((hl2.to fun o => hs₀.extBut _ o D.l2z).to fun o => hs₁.extBut _ o D.l2z).to fun o => hs₂.extBut _ o D.l2i1).to fun o => hs₃.extBut _ o D.l2TO) hy fun h₄ e hs₄ he => ?_)
      obtain ⟨oe, hoe, hce⟩ := he
      have hz₄ : IsZ h₄ z TI TO .ellipsis f₀ := hs₄ _ _ D.i2z.symm (hs₃.extBut _ _ D.TOz.symm (hs₂.extBut _ _ D.i1z.symm hz₁))
      have hez : e ≠ z := fun x => by subst x; rw [hz₄] at hoe; cases hoe; simp at hce
      refine wpAny_setField_rec hz₄ (by simp) fun h₅ _ hs₅ => hE h₅ e (fun c o c1 c2 c3 c4 x => hs₅.extBut _ _ c1 (hs₄ _ _ c4 (hs₃.extBut _ _ c2 (hs₂.extBut _ _ c3 (hs₁.extBut _ _ c1 (hs₀.extBut _ _ c1 x)))))) ⟨oe, hs₅.extBut _ _ hez hoe, hce⟩
  | false =>
    simp only [Bool.false_eq_true, if_false]
    refine wpAny_bind ?_
    rw [← Array.forIn_toList]
    simp only [List.forIn_cons, List.forIn_nil]
    refine wpAny_bind (wpAny_bind (wpAny_holding ?_))
    show wpAny _ _ (Builtin.SmallTypes.nextOf (.ref i1) >>= _) _ _ _
    cases hx : xs[n1]? with
    | none =>
      refine wpAny_bind (nx_end (s := { s with heap := h₀ }) hh (h1.to fun o => hs₀.extBut _ o D.i1z) (hl1.to fun o => hs₀.extBut _ o D.l1z) hx fun h₂ e hs₂ he => ?_)
      exact hE h₂ e (fun c o c1 _ c2 _ x => hs₂ _ _ c2 (hs₀.extBut _ _ c1 x)) he
    | some x =>
      have hy : ys[n2]? = none := by rcases hend with h | h; rw [hx] at h; cases h; exact h
      refine wpAny_bind (nx_item (s := { s with heap := h₀ }) (h1.to fun o => hs₀.extBut _ o D.i1z) (hl1.to fun o => hs₀.extBut _ o D.l1z) hx fun h₂ h1₂ hs₂ => wpAny_pure ?_)
      refine wpAny_pure ?_
      refine wpAny_bind (wpAny_bind (wpAny_holding ?_))
      show wpAny _ _ (Builtin.SmallTypes.nextOf (.ref i2) >>= _) _ _ _
      refine wpAny_bind (nx_end (s := { s with heap := h₂ }) hh ((h2.to fun o => hs₀.extBut _ o D.i2z).to fun o => hs₂.extBut _ o D.i12.symm) ((hl2.to fun o => hs₀.extBut _ o D.l2z).to fun o => hs₂.extBut _ o D.l2i1) hy fun h₃ e hs₃ he => ?_)
      exact hE h₃ e (fun c o c1 _ c2 c3 x => hs₃ _ _ c3 (hs₂.extBut _ _ c2 (hs₀.extBut _ _ c1 x))) he

/-- next of an enumerate: what its own iterator does is told by hin -/
theorem enum_step {e it : Addr} {i : Int} {old o x : Value} {f : Bool} {P : Heap → Prop} {Q : Value → Shared → Prop} (he : IsE s.heap e it i old o f) (ho : OwnO o)
    (hin : ∀ (A : Around) (Q : Value → Shared → Prop) (E : Value → Shared → Prop), (∀ h1, P h1 → Q x { s with heap := h1 }) → wpAny (model prog w) A (Builtin.SmallTypes.nextOf (.ref it)) Q E s)
    (hP : ∀ h1, P h1 → h1.get? e = s.heap.get? e)
    (hQ : ∀ h1 h' old' o' f', P h1 → OwnO o' → IsE h' e it (i + 1) old' o' f' → h'.get? h1.objs.size = some { cls := .type "tuple", data := .seq #[.int i s.toks, x] } → h'.objs.size = h1.objs.size + 1 →
      (∀ b o, b ≠ e → h1.get? b = some o → h'.get? b = some o) → Q (.ref h1.objs.size) { s with heap := h', toks := s.toks + 1 }) :
    wpAny (model prog w) A (Builtin.«enumerate.__next__» ⟨[.ref e], []⟩) (fun fin s' => ∃ v, fin = .done (.ret v) ∧ Q v s') E s := by
  obtain ⟨hp, g, d, tk, os⟩ := s
  show wpAny _ _ (field (.ref e) 2 >>= _) _ _ _
  refine wpAny_bind (wpAny_field he rfl (x := .ref it) rfl ?_)
  refine wpAny_bind (hin _ _ _ fun h₁ hP₁ => ?_)
  have he₁ : IsE h₁ e it i old o f := (hP h₁ hP₁).trans he
  show wpAny _ _ (field (.ref e) 3 >>= _) _ _ ⟨h₁, g, d, tk, os⟩
  refine wpAny_bind (wpAny_field he₁ rfl (x := rawInt i) rfl ?_)
  show wpAny _ _ (field (.ref e) 4 >>= _) _ _ ⟨h₁, g, d, tk, os⟩
  refine wpAny_bind (wpAny_field he₁ rfl (x := .none) rfl ?_)
  show wpAny _ _ (mkInt i >>= _) _ _ ⟨h₁, g, d, tk, os⟩
  refine wpAny_bind (wpAny_mkInt ?_)
  show wpAny _ _ (setField (.ref e) 3 (rawInt (i + 1)) >>= _) _ _ ⟨h₁, g, d, tk + 1, os⟩
  refine wpAny_bind (wpAny_setField_rec he₁ (by simp) fun h₂ he₂ hs₂ => ?_)
  replace hs₂ : Heap.SameBut e h₁ h₂ := hs₂
  replace he₂ : IsE h₂ e it (i + 1) old o f := he₂
  show wpAny _ _ (setField (.ref e) 4 .none >>= _) _ _ ⟨h₂, g, d, tk + 1, os⟩
  refine wpAny_bind (wpAny_setField_rec he₂ (by simp) fun h₃ he₃ hs₃ => ?_)
  replace hs₃ : Heap.SameBut e h₂ h₃ := hs₃
  replace he₃ : IsE h₃ e it (i + 1) old o f := he₃
  show wpAny _ _ (newTuple [.int i tk, x] >>= _) _ _ ⟨h₃, g, d, tk + 1, os⟩
  refine wpAny_bind (wpAny_newTuple ?_)
  have he₄ : IsE (h₃.push { cls := .type "tuple", data := .seq #[.int i tk, x] }) e it (i + 1) old o f := Heap.get?_push_of_some _ he₃
  generalize hh₄ : h₃.push { cls := .type "tuple", data := .seq #[.int i tk, x] } = h₄ at he₄
  have hsz : h₃.objs.size = h₁.objs.size := by rw [hs₃.1, hs₂.1]
  have hel : e < h₁.objs.size := Heap.lt_size he₁
  have ht₄ : h₄.get? h₁.objs.size = some { cls := .type "tuple", data := .seq #[.int i tk, x] } := by rw [← hh₄, ← hsz]; exact Heap.get?_push_size _ rfl
  have hz₄ : h₄.objs.size = h₁.objs.size + 1 := by rw [← hh₄, Heap.size_push, hsz]
  have hk₄ : ∀ b o, b ≠ e → h₁.get? b = some o → h₄.get? b = some o := fun b o hbe hb => by
    rw [← hh₄]; exact Heap.get?_push_of_some _ (hs₃.extBut b o hbe (hs₂.extBut b o hbe hb))
  show wpAny _ _ (Builtin.SmallTypes.ownedTupleIsFree (.ref e) >>= _) _ _ ⟨h₄, g, d, tk + 1, os⟩
  rw [hsz]
  clear hh₄ he₃ hs₃ he₂ hs₂ hsz h₃ h₂
  refine wpAny_bind (free_enum (s := ⟨h₄, g, d, tk + 1, os⟩) he₄ ho fun fr h₅ f₅ he₅ hs₅ => ?_)
  replace hs₅ : Heap.SameBut e h₄ h₅ := hs₅
  have ht₅ := hs₅.extBut _ _ (Nat.ne_of_gt hel) ht₄
  have hz₅ : h₅.objs.size = h₁.objs.size + 1 := by rw [hs₅.1, hz₄]
  have hk₅ : ∀ b o, b ≠ e → h₁.get? b = some o → h₅.get? b = some o := fun b o hbe hb => hs₅.extBut b o hbe (hk₄ b o hbe hb)
  cases fr with
  | false =>
    simp only [Bool.false_eq_true, if_false]
    exact wpAny_pure ⟨_, rfl, hQ h₁ h₅ _ _ _ hP₁ ho he₅ ht₅ hz₅ hk₅⟩
  | true =>
    simp only [if_true]
    refine wpAny_bind (wpAny_rule ?_)
    refine wpAny_bind (wpAny_field he₅ rfl (x := old) rfl ?_)
    refine wpAny_bind (wpAny_setField_rec he₅ (by simp) fun h₆ he₆ hs₆ => ?_)
    replace hs₆ : Heap.SameBut e h₅ h₆ := hs₆
    replace he₆ : IsE h₆ e it (i + 1) x o f₅ := he₆
    show wpAny _ _ (Builtin.SmallTypes.ownedTupleHandOut (.ref e) (.ref h₁.objs.size) >>= _) _ _ ⟨h₆, g, d, tk + 1, os⟩
    refine wpAny_bind ?_
    unfold Builtin.SmallTypes.ownedTupleHandOut
    refine wpAny_bind (wpAny_setField_rec he₆ (by simp) fun h₇ he₇ hs₇ => ?_)
    replace hs₇ : Heap.SameBut e h₆ h₇ := hs₇
    replace he₇ : IsE h₇ e it (i + 1) x (rawInt h₁.objs.size) f₅ := he₇
    refine wpAny_setField_rec he₇ (by simp) fun h₈ he₈ hs₈ => ?_
    replace hs₈ : Heap.SameBut e h₇ h₈ := hs₈
    replace he₈ : IsE h₈ e it (i + 1) x (rawInt h₁.objs.size) false := he₈
    refine wpAny_bind (wpAny_letGo (wpAny_pure ⟨_, rfl, hQ h₁ h₈ _ _ _ hP₁ (.inr ⟨_, rfl⟩) he₈ ?_ ?_ ?_⟩))
    · exact hs₈.extBut _ _ (Nat.ne_of_gt hel) (hs₇.extBut _ _ (Nat.ne_of_gt hel) (hs₆.extBut _ _ (Nat.ne_of_gt hel) ht₅))
    · rw [hs₈.1, hs₇.1, hs₆.1, hz₅]
    · exact fun b o hbe hb => hs₈.extBut b o hbe (hs₇.extBut b o hbe (hs₆.extBut b o hbe (hk₅ b o hbe hb)))
theorem enum_stop {e it : Addr} {i : Int} {old o : Value} {f : Bool} {P : Heap → Prop} {Q : Fin → Shared → Prop} (he : IsE s.heap e it i old o f)
    (hin : ∀ (A' : Around) (Q : Value → Shared → Prop) (E' : Value → Shared → Prop), A'.handled = A.handled → (∀ h' x, P h' → (∃ o, h'.get? x = some o ∧ o.cls = .type "StopIteration") → E' (.ref x) { s with heap := h' }) → wpAny (model prog w) A' (Builtin.SmallTypes.nextOf (.ref it)) Q E' s)
    (hE : ∀ h' x, P h' → (∃ o, h'.get? x = some o ∧ o.cls = .type "StopIteration") → E (.ref x) { s with heap := h' }) :
    wpAny (model prog w) A (Builtin.«enumerate.__next__» ⟨[.ref e], []⟩) Q E s := by
  show wpAny _ _ (field (.ref e) 2 >>= _) _ _ _
  refine wpAny_bind (wpAny_field he rfl (x := .ref it) rfl ?_)
  exact wpAny_bind (hin _ _ _ rfl hE)

/-- from a builtin's own __next__ to next -/
theorem pyNext_zip {z TI TO : Addr} {o : Value} {f : Bool} {Q : Option Value → Shared → Prop} (hz : IsZ s.heap z TI TO o f)
    (h : wpAny (model prog w) A.in1 (Builtin.«zip.__next__» ⟨[.ref z], []⟩) (fun fin s' => ∃ v, fin = .done (.ret v) ∧ Q (some v) s') (fun x s' => ∃ e, x = .ref e ∧ (∃ o, s'.heap.get? e = some o ∧ o.cls = .type "StopIteration") ∧ Q none s') s) : wpAny (model prog w) A (pyNext (.ref z)) Q E s := by
  have hT : s.TypeIs (.ref z) "zip" := ⟨_, hz, rfl⟩
  unfold pyNext
  refine wpAny_bind (wpAny_attempt (wpAny_callSpecial?_slot (name := Str.ofString "__next__") hT F.slot_zip_next
    (wpAny_call_entry F.slot_zip_next hT F.entry_zip_next (wpAny_mono h (fun fin s' ⟨v, e, q⟩ => ⟨v, e, wpAny_pure q⟩) fun x s' ⟨e, hx, ho, q⟩ => ?_) (F.args_zip_next_1 _))))
  subst hx
  obtain ⟨o, ho, hc⟩ := ho
  exact wpAny_bind (wpAny_isInstance (T := "StopIteration") (b := true) ⟨o, ho, hc⟩ isSubtype_stop (wpAny_pure q))
theorem pyNext_enum {e it : Addr} {i : Int} {old o : Value} {f : Bool} {Q : Option Value → Shared → Prop} (he : IsE s.heap e it i old o f)
    (h : wpAny (model prog w) A.in1 (Builtin.«enumerate.__next__» ⟨[.ref e], []⟩) (fun fin s' => ∃ v, fin = .done (.ret v) ∧ Q (some v) s') (fun x s' => ∃ e, x = .ref e ∧ (∃ o, s'.heap.get? e = some o ∧ o.cls = .type "StopIteration") ∧ Q none s') s) : wpAny (model prog w) A (pyNext (.ref e)) Q E s := by
  have hT : s.TypeIs (.ref e) "enumerate" := ⟨_, he, rfl⟩
  unfold pyNext
  refine wpAny_bind (wpAny_attempt (wpAny_callSpecial?_slot (name := Str.ofString "__next__") hT F.slot_enumerate_next
    (wpAny_call_entry F.slot_enumerate_next hT F.entry_enumerate_next (wpAny_mono h (fun fin s' ⟨v, e, q⟩ => ⟨v, e, wpAny_pure q⟩) fun x s' ⟨e, hx, ho, q⟩ => ?_) (F.args_enumerate_next_1 _))))
  subst hx
  obtain ⟨o, ho, hc⟩ := ho
  exact wpAny_bind (wpAny_isInstance (T := "StopIteration") (b := true) ⟨o, ho, hc⟩ isSubtype_stop (wpAny_pure q))
theorem nextOf_zip {z TI TO : Addr} {o : Value} {f : Bool} {Q : Value → Shared → Prop} (hz : IsZ s.heap z TI TO o f)
    (h : wpAny (model prog w) A.in1 (Builtin.«zip.__next__» ⟨[.ref z], []⟩) (fun fin s' => ∃ v, fin = .done (.ret v) ∧ Q v s') E s) : wpAny (model prog w) A (Builtin.SmallTypes.nextOf (.ref z)) Q E s := by
  have hT : s.TypeIs (.ref z) "zip" := ⟨_, hz, rfl⟩
  unfold Builtin.SmallTypes.nextOf
  exact wpAny_bind (wpAny_callSpecial?_slot (name := Str.ofString "__next__") hT F.slot_zip_next
    (wpAny_call_entry F.slot_zip_next hT F.entry_zip_next (wpAny_mono h (fun fin s' ⟨v, e, q⟩ => ⟨v, e, wpAny_pure q⟩) fun x s' q => q) (F.args_zip_next_1 _)))

theorem go_zip (tg : Expr) {z TI TO : Addr} {o v : Value} {f : Bool} {Q : Unit → Shared → Prop} (hz : IsZ s.heap z TI TO o f) (ho : OwnO o)
    (hQ : ∀ h' o', OwnO o' → IsZ h' z TI TO o' f → Heap.SameBut z s.heap h' → Q () { s with heap := h' }) : wpAny (model prog w) A (letOwnedTupleGo tg (.ref z) v) Q E s := by
  unfold letOwnedTupleGo
  cases tg <;> first
    | exact wpAny_pure (hQ _ o ho hz (Heap.SameBut.refl _ _))
    | (cases v <;> first
        | exact wpAny_pure (hQ _ o ho hz (Heap.SameBut.refl _ _))
        | (refine wpAny_bind (wpAny_load hz ?_)
           dsimp only
           split
           · refine wpAny_bind (wpAny_rule ?_)
             show wpAny _ _ (setField (.ref z) 0 .none) Q E s
             exact wpAny_setField_rec hz (by simp) fun h' hz' hs' => hQ h' .none (.inl rfl) hz' hs'
           · exact wpAny_pure (hQ _ o ho hz (Heap.SameBut.refl _ _))))
theorem go_enum (tg : Expr) {e it : Addr} {i : Int} {old o v : Value} {f : Bool} {Q : Unit → Shared → Prop} (he : IsE s.heap e it i old o f) (ho : OwnO o)
    (hQ : ∀ h' o', OwnO o' → IsE h' e it i old o' f → Heap.SameBut e s.heap h' → Q () { s with heap := h' }) : wpAny (model prog w) A (letOwnedTupleGo tg (.ref e) v) Q E s := by
  unfold letOwnedTupleGo
  cases tg <;> first
    | exact wpAny_pure (hQ _ o ho he (Heap.SameBut.refl _ _))
    | (cases v <;> first
        | exact wpAny_pure (hQ _ o ho he (Heap.SameBut.refl _ _))
        | (refine wpAny_bind (wpAny_load he ?_)
           dsimp only
           split
           · refine wpAny_bind (wpAny_rule ?_)
             show wpAny _ _ (setField (.ref e) 0 .none) Q E s
             exact wpAny_setField_rec he (by simp) fun h' hz' hs' => hQ h' .none (.inl rfl) hz' hs'
           · exact wpAny_pure (hQ _ o ho he (Heap.SameBut.refl _ _))))
theorem iter_zip {z TI TO : Addr} {o : Value} {f : Bool} {Q : Value → Shared → Prop} (hz : IsZ s.heap z TI TO o f) (h : Q (.ref z) s) : wpAny (model prog w) A (pyIter (.ref z)) Q E s := by
  have hT : s.TypeIs (.ref z) "zip" := ⟨_, hz, rfl⟩
  refine wpAny_pyIter_slot hT F.slot_zip_iter (wpAny_call_entry F.slot_zip_iter hT F.entry_zip_iter ?_ (F.args_zip_iter_1 _))
  show wpAny _ _ (ret (.ref z)) _ _ s
  exact wpAny_pure ⟨_, rfl, "zip", _, hT, F.slot_zip_next.lookup, h⟩
theorem iter_enum {e it : Addr} {i : Int} {old o : Value} {f : Bool} {Q : Value → Shared → Prop} (he : IsE s.heap e it i old o f) (h : Q (.ref e) s) : wpAny (model prog w) A (pyIter (.ref e)) Q E s := by
  have hT : s.TypeIs (.ref e) "enumerate" := ⟨_, he, rfl⟩
  refine wpAny_pyIter_slot hT F.slot_enumerate_iter (wpAny_call_entry F.slot_enumerate_iter hT F.entry_enumerate_iter ?_ (F.args_enumerate_iter_1 _))
  show wpAny _ _ (ret (.ref e)) _ _ s
  exact wpAny_pure ⟨_, rfl, "enumerate", _, hT, F.slot_enumerate_next.lookup, h⟩
/-- enumerate(v), iter(v) a new object -/
theorem meets_enumerate_B {v : Value} {o : Obj} {H1 : Heap → Prop} (B : Begins v o H1) :
    Meets (Builtin.«enumerate.__new__» ⟨[.type "enumerate", v], []⟩) (fun _ R s => H1 s.heap ∧
      R (.ok (.ret (.ref (s.heap.push o).objs.size))) { s with heap := (s.heap.push o).push { cls := .type "enumerate", data := .fields #[.none, .bool false, .ref s.heap.objs.size, rawInt 0, .none, .none] } }) :=
  .of_wp fun prog w A R s h => by
    obtain ⟨hp, g, d, tk, os⟩ := s; obtain ⟨h1, h⟩ := h
    have hsub := sub_enumerate
    have q1 : ∀ {A' : Around} {E : Value → Shared → Prop} {Q : Value → Shared → Prop}, Q (.ref hp.objs.size) ⟨(hp.push o), g, d, tk, os⟩ → wpAny (model prog w) A' (pyIter v) Q E ⟨hp, g, d, tk, os⟩ :=
      fun q => B.iter prog w _ _ ⟨hp, g, d, tk, os⟩ _ h1 q
    wp_walk
    refine wpAny_stack_any fun st => wpAny_pure ?_
    split
    · rename_i c _ _ _ _ _
      cases (c == Value.type "enumerate")
      · wp_walk using q1
        exact ⟨_, rfl, h⟩
      · wp_walk using q1
        exact ⟨_, rfl, h⟩
    · wp_walk using q1
      exact ⟨_, rfl, h⟩
theorem call_enumerate_B {v : Value} {o : Obj} {H1 : Heap → Prop} {Q : Value → Shared → Prop} (B : Begins v o H1) (h1 : H1 s.heap)
    (h : ∀ h', IsE h' (s.heap.objs.size + 1) s.heap.objs.size 0 .none .none false → h'.get? s.heap.objs.size = some o → h'.objs.size = s.heap.objs.size + 2 →
      (∀ b o, s.heap.get? b = some o → h'.get? b = some o) → Q (.ref (s.heap.objs.size + 1)) { s with heap := h' }) :
    wpAny (model prog w) A (call (.type "enumerate") [v]) Q E s := by
  refine callType_new F.called_enumerate (by decide) (F.typeCall_enumerate_1 _) (F.newCall_enumerate_1 _) (fun obj => F.args_object_init_2 obj _) F.entry_enumerate_new
    (meets_enumerate_B B) ⟨h1, ?_⟩
  have hz : (s.heap.push o).objs.size = s.heap.objs.size + 1 := Heap.size_push ..
  show _ ∧ _
  rw [hz]
  have he : IsE ((s.heap.push o).push { cls := .type "enumerate", data := .fields #[.none, .bool false, .ref s.heap.objs.size, rawInt 0, .none, .none] }) (s.heap.objs.size + 1) s.heap.objs.size 0 .none .none false := by
    have := Heap.get?_push_size (s.heap.push o) (o := { cls := .type "enumerate", data := .fields #[.none, .bool false, .ref s.heap.objs.size, rawInt 0, .none, .none] }) rfl
    rw [hz] at this; exact this
  refine ⟨⟨_, he, rfl⟩, h _ he (Heap.get?_push_of_some _ (Heap.get?_push_size _ B.free)) (by rw [Heap.size_push, hz]) fun b o x => Heap.get?_push_of_some _ (Heap.get?_push_of_some _ x)⟩
/-- enumerate(v), v itself an iterator (a zip) -/
theorem meets_enumerate_Z {z TI TO : Addr} :
    Meets (Builtin.«enumerate.__new__» ⟨[.type "enumerate", .ref z], []⟩) (fun _ R s => IsZ s.heap z TI TO .none false ∧
      R (.ok (.ret (.ref s.heap.objs.size))) { s with heap := s.heap.push { cls := .type "enumerate", data := .fields #[.none, .bool false, .ref z, rawInt 0, .none, .none] } }) :=
  .of_wp fun prog w A R s h => by
    obtain ⟨hp, g, d, tk, os⟩ := s; obtain ⟨h1, h⟩ := h
    have hsub := sub_enumerate
    have q1 : ∀ {A' : Around} {E : Value → Shared → Prop} {Q : Value → Shared → Prop}, Q (.ref z) ⟨hp, g, d, tk, os⟩ → wpAny (model prog w) A' (pyIter (.ref z)) Q E ⟨hp, g, d, tk, os⟩ :=
      fun q => iter_zip (s := ⟨hp, g, d, tk, os⟩) h1 q
    wp_walk using wpAny_loadPart' h1
    refine wpAny_stack_any fun st => wpAny_pure ?_
    split
    · rename_i c _ _ _ _ _
      cases (c == Value.type "enumerate")
      · wp_walk using wpAny_loadPart' h1, q1
        exact ⟨_, rfl, h⟩
      · wp_walk using wpAny_loadPart' h1, q1
        exact ⟨_, rfl, h⟩
    · wp_walk using wpAny_loadPart' h1, q1
      exact ⟨_, rfl, h⟩
theorem call_enumerate_Z {z TI TO : Addr} {Q : Value → Shared → Prop} (hz : IsZ s.heap z TI TO .none false)
    (h : ∀ h', IsE h' s.heap.objs.size z 0 .none .none false → h'.objs.size = s.heap.objs.size + 1 →
      (∀ b o, s.heap.get? b = some o → h'.get? b = some o) → Q (.ref s.heap.objs.size) { s with heap := h' }) :
    wpAny (model prog w) A (call (.type "enumerate") [.ref z]) Q E s := by
  refine callType_new F.called_enumerate (by decide) (F.typeCall_enumerate_1 _) (F.newCall_enumerate_1 _) (fun obj => F.args_object_init_2 obj _) F.entry_enumerate_new
    meets_enumerate_Z ⟨hz, ?_⟩
  have he : IsE (s.heap.push { cls := .type "enumerate", data := .fields #[.none, .bool false, .ref z, rawInt 0, .none, .none] }) s.heap.objs.size z 0 .none .none false := Heap.get?_push_size _ rfl
  exact ⟨⟨_, he, rfl⟩, h _ he (by rw [Heap.size_push]) fun b o x => Heap.get?_push_of_some _ x⟩
end
end Ev
namespace Ev
open PySem PySem.Spec PyProof.Rows L2

/-! ### zip, enumerate, enumerate over zip: lists and tuples in any mix, any target -/
def SqK (k : Bool) (K : PySem.W.Frag) (H : Hp) (a : Addr) (xs : List V) : Prop := match k with
  | false => SqL K H a xs
  | true => SqT K H a xs
theorem inv_cnt {X : Cx} {pins : List (Addr × Obj)} {σ : L2.St} {H : Hp} {s : Shared} (I : Inv X pins σ H s) {k : Bool} {a : Addr} {xs : List V} (hq : SqK k X.K H a xs) :
    ∃ its : Array Value, Cnt k s.heap a its ∧ (∀ (i : Nat) (x : V), xs[i]? = some x → ∃ u, its[i]? = some u ∧ RelV x u) ∧ ∀ (i : Nat), xs.length ≤ i → its[i]? = none := by
  cases k with
  | false =>
    obtain ⟨its, rv, p, _⟩ := I.list hq
    refine ⟨its.toArray, p.isList, fun i x hx => ?_, fun i hi => ?_⟩
    · obtain ⟨u, hu, ru⟩ := rv.get hx
      exact ⟨u, by simpa using hu, ru⟩
    · have := rv.length
      simp
      omega
  | true =>
    obtain ⟨its, rv, p, _⟩ := I.tuple hq
    refine ⟨its.toArray, (show s.heap.IsTuple a its.toArray from p), fun i x hx => ?_, fun i hi => ?_⟩
    · obtain ⟨u, hu, ru⟩ := rv.get hx
      exact ⟨u, by simpa using hu, ru⟩
    · have := rv.length
      simp
      omega
theorem inv_inj {X : Cx} {pins : List (Addr × Obj)} {σ : L2.St} {H : Hp} {s : Shared} (I : Inv X pins σ H s) {k : Bool} {a : Addr} {xs ys : List V} (h : SqK k X.K H a xs) (h' : SqK k X.K H a ys) : xs = ys := by
  cases k with
  | false => exact I.list_inj h h'
  | true => exact I.tuple_inj h h'
/-- a and b as they stand at each turn, the items in new pairs -/
def Itz2 (K : PySem.W.Frag) (k1 k2 : Bool) (a b : Addr) : It :=
  ⟨fun i H => ∃ (xs ys : List V) (x y : V), SqK k1 K H a xs ∧ SqK k2 K H b ys ∧ xs[i]? = some x ∧ ys[i]? = some y,
    fun i H v H' => ∃ T x y, v = .ref T ∧ H T = none ∧ H' = upd H T (.tup [x, y]) ∧ (∀ xs, SqK k1 K H a xs → xs[i]? = some x) ∧ ∀ ys, SqK k2 K H b ys → ys[i]? = some y,
    fun i H => ∃ xs ys : List V, SqK k1 K H a xs ∧ SqK k2 K H b ys ∧ (xs.length ≤ i ∨ ys.length ≤ i)⟩
def Ite1 (K : PySem.W.Frag) (k : Bool) (a : Addr) : It :=
  ⟨fun i H => ∃ (xs : List V) (x : V), SqK k K H a xs ∧ xs[i]? = some x,
    fun i H v H' => ∃ T x, v = .ref T ∧ H T = none ∧ H' = upd H T (.tup [.int (i : Nat), x]) ∧ ∀ xs, SqK k K H a xs → xs[i]? = some x,
    fun i H => ∃ xs : List V, SqK k K H a xs ∧ xs.length ≤ i⟩
def Itez (K : PySem.W.Frag) (k1 k2 : Bool) (a b : Addr) : It :=
  ⟨fun i H => ∃ (xs ys : List V) (x y : V), SqK k1 K H a xs ∧ SqK k2 K H b ys ∧ xs[i]? = some x ∧ ys[i]? = some y,
    fun i H v H' => ∃ T1 T2 x y, v = .ref T2 ∧ H T1 = none ∧ upd H T1 (.tup [x, y]) T2 = none ∧ H' = upd (upd H T1 (.tup [x, y])) T2 (.tup [.int (i : Nat), .ref T1]) ∧ (∀ xs, SqK k1 K H a xs → xs[i]? = some x) ∧ ∀ ys, SqK k2 K H b ys → ys[i]? = some y,
    fun i H => ∃ xs ys : List V, SqK k1 K H a xs ∧ SqK k2 K H b ys ∧ (xs.length ≤ i ∨ ys.length ≤ i)⟩
def TnZ (k1 k2 : Bool) (a b z TI TO i1 i2 : Addr) (i : Nat) (h : Heap) : Prop := ∃ o f x y, OwnO o ∧ IsZ h z TI TO o f ∧ IsPair h TI (.ref i1) (.ref i2) ∧ IsPair h TO x y ∧ Drw k1 h i1 a i ∧ Drw k2 h i2 b i
theorem TnZ.obj {k1 k2 : Bool} {a b z TI TO i1 i2 : Addr} {i : Nat} {h : Heap} (t : TnZ k1 k2 a b z TI TO i1 i2 i h) : ∀ c ∈ [z, TI, TO, i1, i2], ∃ o, h.get? c = some o ∧ ∀ v, o.data ≠ .cell v := by
  obtain ⟨o, f, x, y, ho, hz, hTI, hTO, h1, h2⟩ := t
  intro c hc
  have e' : c = z ∨ c = TI ∨ c = TO ∨ c = i1 ∨ c = i2 := by simpa using hc
  rcases e' with q | q | q | q | q
  · rw [q]; exact ⟨_, hz, fun v q => nomatch q⟩
  · rw [q]; exact ⟨_, hTI, fun v q => nomatch q⟩
  · rw [q]; exact ⟨_, hTO, fun v q => nomatch q⟩
  · rw [q]; exact h1.obj
  · rw [q]; exact h2.obj
theorem TnZ.keep {k1 k2 : Bool} {a b z TI TO i1 i2 : Addr} {i : Nat} {h h' : Heap} (t : TnZ k1 k2 a b z TI TO i1 i2 i h) (k : ∀ c ∈ [z, TI, TO, i1, i2], ∀ o, h.get? c = some o → h'.get? c = some o) : TnZ k1 k2 a b z TI TO i1 i2 i h' := by
  obtain ⟨o, f, x, y, ho, hz, hTI, hTO, h1, h2⟩ := t
  exact ⟨o, f, x, y, ho, k z (by simp) _ hz, k TI (by simp) _ hTI, k TO (by simp) _ hTO, h1.to fun o q => k i1 (by simp) o q, h2.to fun o q => k i2 (by simp) o q⟩
theorem TnZ.lt {k1 k2 : Bool} {a b z TI TO i1 i2 : Addr} {i : Nat} {h : Heap} (t : TnZ k1 k2 a b z TI TO i1 i2 i h) : ∀ c ∈ [z, TI, TO, i1, i2], c < h.objs.size := fun c hc => by
  obtain ⟨o, e, _⟩ := t.obj c hc
  exact Heap.lt_size e
theorem TnE_obj {k : Bool} {a e it : Addr} {i : Nat} {h : Heap} (t : (∃ o old f, OwnO o ∧ IsE h e it ((i : Nat) : Int) old o f) ∧ Drw k h it a i) : ∀ c ∈ [e, it], ∃ o, h.get? c = some o ∧ ∀ v, o.data ≠ .cell v := by
  obtain ⟨⟨o, old, f, ho, he⟩, h1⟩ := t
  intro c hc
  have e' : c = e ∨ c = it := by simpa using hc
  rcases e' with q | q
  · rw [q]; exact ⟨_, he, fun v q => nomatch q⟩
  · rw [q]; exact h1.obj
theorem turn_zip2 {P : Program} {w : World} {K : PySem.W.Frag} {tg : Expr} {k1 k2 : Bool} {a b z TI TO i1 i2 : Addr} (D : ZipApart z TI TO i1 i2 a b) :
    Turn P w K tg (Itz2 K k1 k2 a b) [z, TI, TO, i1, i2] z (TnZ k1 k2 a b z TI TO i1 i2) where
  mem := by simp
  obj := fun i h st c hc => st.obj c hc
  keep := fun i h h' st k => st.keep k
  item := by
    intro X hP hw hK hc i pins s σ H E I hf st hg
    subst hP hw hK
    have stl := st.lt
    obtain ⟨o, f, x0, y0, ho, hz, hTI, hTO, h1, h2⟩ := st
    obtain ⟨xs, ys, x, y, hqx, hqy, hx, hy⟩ := hg
    obtain ⟨its, p, g1, _⟩ := inv_cnt I hqx
    obtain ⟨its2, p2, g2, _⟩ := inv_cnt I hqy
    obtain ⟨u, hu, ru⟩ := g1 _ _ hx
    obtain ⟨u2, hu2, ru2⟩ := g2 _ _ hy
    have hzl : z < s.heap.objs.size := Heap.lt_size hz
    refine pyNext_zip hz (zip_step D hz ho hTI hTO h1 h2 p p2 hu hu2 fun h' o' f' a' b' ho' z' TO' h1' h2' hT hsz hk => ?_)
    refine ⟨_, rfl, go_zip tg (s := { s with heap := h' }) z' ho' fun h'' o'' ho'' z'' sb => ?_⟩
    have hT2 : h''.get? s.heap.objs.size = some { cls := .type "tuple", data := .seq #[u, u2] } := (sb.2 _ (Nat.ne_of_gt hzl)).trans hT
    have new : ObjOk X.prog X.w (upd H s.heap.objs.size (.tup [x, y])) h'' s.heap.objs.size (.tup [x, y]) :=
      ⟨by show 2 ≤ sizeLine; decide, [u, u2], .cons ru (.cons ru2 .nil), ⟨_, hT2, rfl, _, rfl⟩⟩
    have I1 : Inv X pins σ (upd H s.heap.objs.size (.tup [x, y])) { s with heap := h'' } :=
      I.turnedNew (t' := s.toks) (ch := [z, TI, TO, i1, i2]) (fun c o hb q => (sb.2 c (fun q' => hb (by simp [q']))).trans (hk c o (fun q' => hb (by simp [q'])) (fun q' => hb (by simp [q'])) (fun q' => hb (by simp [q'])) (fun q' => hb (by simp [q'])) q)) hf (Nat.le_refl _) new
    refine ⟨.ref s.heap.objs.size, _, I1, rfl, ⟨_, x, y, rfl, I.hok.fresh (Nat.le_refl _), rfl, fun l hl => by rw [inv_inj I hl hqx]; exact hx, fun l hl => by rw [inv_inj I hl hqy]; exact hy⟩, ⟨o'', f', a', b', ho'', z'', ?_, ?_, ?_, ?_⟩, fun c hcm => ?_⟩
    · exact (sb.2 _ D.TIz).trans (hk _ _ D.TIz D.TITO D.TIi1 D.TIi2 hTI)
    · exact (sb.2 _ D.TOz).trans TO'
    · exact h1'.to fun o q => (sb.2 _ D.i1z).trans q
    · exact h2'.to fun o q => (sb.2 _ D.i2z).trans q
    · rw [upd_ne (Nat.ne_of_lt (stl c hcm))]
      exact (hf c hcm).1
  done := by
    intro X hP hw hK hc i pins s σ H E I hf st hg
    subst hP hw hK
    obtain ⟨o, f, x0, y0, ho, hz, hTI, hTO, h1, h2⟩ := st
    obtain ⟨xs, ys, hqx, hqy, hend⟩ := hg
    obtain ⟨its, p, _, g1⟩ := inv_cnt I hqx
    obtain ⟨its2, p2, _, g2⟩ := inv_cnt I hqy
    have he : its[i]? = none ∨ its2[i]? = none := by
      rcases hend with q | q
      · exact .inl (g1 _ q)
      · exact .inr (g2 _ q)
    exact pyNext_zip hz (zip_stop (I.ok.hd hc) D hz ho hTI hTO h1 h2 p p2 he fun h' e hk hs => ⟨e, rfl, hs, rfl, I.turnedL (t' := s.toks) (ch := [z, TI, TO, i1, i2]) (fun c o hb q =>
      hk c o (fun q' => hb (by simp [q'])) (fun q' => hb (by simp [q'])) (fun q' => hb (by simp [q'])) (fun q' => hb (by simp [q'])) q) hf⟩)
  self := fun A i s Q E st h => by
    obtain ⟨o, f, x0, y0, ho, hz, _⟩ := st
    exact iter_zip hz h
theorem turn_enum1 {P : Program} {w : World} {K : PySem.W.Frag} {tg : Expr} {k : Bool} {a e it : Addr} (hne : e ≠ it) :
    Turn P w K tg (Ite1 K k a) [e, it] e (fun i h => (∃ o old f, OwnO o ∧ IsE h e it ((i : Nat) : Int) old o f) ∧ Drw k h it a i) where
  mem := by simp
  obj := fun i h st c hc => TnE_obj st c hc
  keep := fun i h h' st k => let ⟨⟨o, old, f, ho, he⟩, hi⟩ := st; ⟨⟨o, old, f, ho, k e (by simp) _ he⟩, hi.to fun o q => k it (by simp) o q⟩
  item := by
    intro X hP hw hK hc i pins s σ H E I hf st hg
    subst hP hw hK
    obtain ⟨⟨o, old, f, ho, he⟩, hit⟩ := st
    obtain ⟨xs, x, hq, hx⟩ := hg
    obtain ⟨its, p, g1, _⟩ := inv_cnt I hq
    obtain ⟨u, hu, ru⟩ := g1 _ _ hx
    have hel : e < s.heap.objs.size := Heap.lt_size he
    have hil : it < s.heap.objs.size := hit.lt
    refine pyNext_enum he (enum_step (P := fun h1 => Drw k h1 it a (i + 1) ∧ Heap.SameBut it s.heap h1) he ho (fun A Q E hQ => nx_item hit p hu fun h' d sb => hQ h' ⟨d, sb⟩) (fun h1 p => p.2.2 e hne) fun h1 h' old' o' f' p1 ho' he' hT hsz hk => ?_)
    have hs1 : h1.objs.size = s.heap.objs.size := p1.2.1
    rw [hs1] at hT hsz ⊢
    refine ⟨_, rfl, go_enum tg (s := { s with heap := h', toks := s.toks + 1 }) he' ho' fun h'' o'' ho'' he'' sb => ?_⟩
    have hT2 : h''.get? s.heap.objs.size = some { cls := .type "tuple", data := .seq #[.int i s.toks, u] } := (sb.2 _ (Nat.ne_of_gt hel)).trans hT
    have new : ObjOk X.prog X.w (upd H s.heap.objs.size (.tup [.int (i : Nat), x])) h'' s.heap.objs.size (.tup [.int (i : Nat), x]) :=
      ⟨by show 2 ≤ sizeLine; decide, [.int i s.toks, u], .cons ⟨_, rfl⟩ (.cons ru .nil), ⟨_, hT2, rfl, _, rfl⟩⟩
    have I1 : Inv X pins σ (upd H s.heap.objs.size (.tup [.int (i : Nat), x])) { s with heap := h'', toks := s.toks + 1 } :=
      I.turnedNew (ch := [e, it]) (fun b ob hb q => (sb.2 b (fun z => hb (by simp [z]))).trans (hk b ob (fun z => hb (by simp [z])) ((p1.2.2 b fun z => hb (by simp [z])).trans q))) hf (Nat.le_refl _) new
    refine ⟨.ref s.heap.objs.size, _, I1, rfl, ⟨_, x, rfl, I.hok.fresh (Nat.le_refl _), rfl, fun ys hy => by rw [inv_inj I hy hq]; exact hx⟩, ⟨⟨o'', old', f', ho'', ?_⟩, (p1.1.to fun o q => hk it o (Ne.symm hne) q).to fun o q => (sb.2 it (Ne.symm hne)).trans q⟩, fun b hb => ?_⟩
    · have e1 : ((i + 1 : Nat) : Int) = (i : Int) + 1 := by omega
      rw [e1]; exact he''
    · have hb' : b < s.heap.objs.size := by
        have e' : b = e ∨ b = it := by simpa using hb
        rcases e' with z | z
        · rw [z]; exact hel
        · rw [z]; exact hil
      rw [upd_ne (Nat.ne_of_lt hb')]
      exact (hf b hb).1
  done := by
    intro X hP hw hK hc i pins s σ H E I hf st hg
    subst hP hw hK
    obtain ⟨⟨o, old, f, ho, he⟩, hit⟩ := st
    obtain ⟨xs, hq, hx⟩ := hg
    obtain ⟨its, p, _, g1⟩ := inv_cnt I hq
    obtain ⟨f0, f1, f2, f3, f4, f5⟩ := hf it (by simp)
    have hh : X.A.in1.handled = none := I.ok.hd hc
    exact pyNext_enum he (enum_stop (P := fun h' => Heap.ExtBut it s.heap h') he (fun A' Q E' hA hE => nx_end (hA.trans hh) hit p (g1 _ hx) hE) fun h' x eb hs => ⟨x, rfl, hs, rfl, I.turned (t' := s.toks) (fun b o hb q => eb b o hb q) f0 f1 f3 f4 f5⟩)
  self := fun A i s Q E st h => by
    obtain ⟨⟨o, old, f, ho, he⟩, _⟩ := st
    exact iter_enum he h
theorem turn_enumz {P : Program} {w : World} {K : PySem.W.Frag} {tg : Expr} {k1 k2 : Bool} {a b e z TI TO i1 i2 : Addr} (D : ZipApart z TI TO i1 i2 a b) (hne : e ∉ [z, TI, TO, i1, i2]) :
    Turn P w K tg (Itez K k1 k2 a b) [e, z, TI, TO, i1, i2] e (fun i h => (∃ o old f, OwnO o ∧ IsE h e z ((i : Nat) : Int) old o f) ∧ TnZ k1 k2 a b z TI TO i1 i2 i h) where
  mem := by simp
  obj := fun i h st c hc => by
    obtain ⟨⟨o, old, f, ho, he⟩, t⟩ := st
    rcases List.mem_cons.mp hc with q | q
    · rw [q]; exact ⟨_, he, fun v q => nomatch q⟩
    · exact t.obj c q
  keep := fun i h h' st k => let ⟨⟨o, old, f, ho, he⟩, t⟩ := st; ⟨⟨o, old, f, ho, k e (by simp) _ he⟩, t.keep fun c hc => k c (List.mem_cons_of_mem _ hc)⟩
  item := by
    intro X hP hw hK hc i pins s σ H E I hf st hg
    subst hP hw hK
    obtain ⟨⟨o, old, f, ho, he⟩, t⟩ := st
    have tl := t.lt
    obtain ⟨oz, fz, x0, y0, hoz, hz, hTI, hTO, h1, h2⟩ := t
    obtain ⟨xs, ys, x, y, hqx, hqy, hx, hy⟩ := hg
    obtain ⟨its, p, g1, _⟩ := inv_cnt I hqx
    obtain ⟨its2, p2, g2, _⟩ := inv_cnt I hqy
    obtain ⟨u, hu, ru⟩ := g1 _ _ hx
    obtain ⟨u2, hu2, ru2⟩ := g2 _ _ hy
    have hel : e < s.heap.objs.size := Heap.lt_size he
    have hzl : z < s.heap.objs.size := Heap.lt_size hz
    have ez : e ≠ z := fun q => hne (by simp [q])
    have eTI : e ≠ TI := fun q => hne (by simp [q])
    have eTO : e ≠ TO := fun q => hne (by simp [q])
    have e1 : e ≠ i1 := fun q => hne (by simp [q])
    have e2 : e ≠ i2 := fun q => hne (by simp [q])
    refine pyNext_enum he (enum_step (P := fun h1 => TnZ k1 k2 a b z TI TO i1 i2 (i + 1) h1 ∧ IsPair h1 s.heap.objs.size u u2 ∧ h1.objs.size = s.heap.objs.size + 1 ∧ (∀ c o, c ∉ [z, TI, TO, i1, i2] → s.heap.get? c = some o → h1.get? c = some o)) (x := .ref s.heap.objs.size) he ho
      (fun A Q E hQ => nextOf_zip hz (zip_step D hz hoz hTI hTO h1 h2 p p2 hu hu2 fun h' o' f' a' b' ho' z' TO' h1' h2' hT hsz hk =>
        hQ h' ⟨⟨o', f', a', b', ho', z', hk _ _ D.TIz D.TITO D.TIi1 D.TIi2 hTI, TO', h1', h2'⟩, hT, hsz, fun c o hb q => hk c o (fun q' => hb (by simp [q'])) (fun q' => hb (by simp [q'])) (fun q' => hb (by simp [q'])) (fun q' => hb (by simp [q'])) q⟩))
      (fun h1 p => (p.2.2.2 e _ hne he).trans he.symm) fun h1 h' old' o' f' p1 ho' he' hT hsz hk => ?_)
    obtain ⟨t1, hp1, hs1, hk1⟩ := p1
    refine ⟨_, rfl, go_enum tg (s := { s with heap := h', toks := s.toks + 1 }) he' ho' fun h'' o'' ho'' he'' sb => ?_⟩
    have new1 : ObjOk X.prog X.w (upd H s.heap.objs.size (.tup [x, y])) h1 s.heap.objs.size (.tup [x, y]) :=
      ⟨by show 2 ≤ sizeLine; decide, [u, u2], .cons ru (.cons ru2 .nil), ⟨_, hp1, rfl, _, rfl⟩⟩
    have I1 : Inv X pins σ (upd H s.heap.objs.size (.tup [x, y])) { s with heap := h1 } :=
      I.turnedNew (t' := s.toks) (ch := [z, TI, TO, i1, i2]) hk1 (fun c hcm => hf c (List.mem_cons_of_mem _ hcm)) (Nat.le_refl _) new1
    have hT2 : h''.get? h1.objs.size = some { cls := .type "tuple", data := .seq #[.int i s.toks, .ref s.heap.objs.size] } := (sb.2 _ (by rw [hs1]; exact Nat.ne_of_gt (Nat.lt_succ_of_lt hel))).trans hT
    have hn1 : upd H s.heap.objs.size (.tup [x, y]) h1.objs.size = none := I1.hok.fresh (Nat.le_refl _)
    have new2 : ObjOk X.prog X.w (upd (upd H s.heap.objs.size (.tup [x, y])) h1.objs.size (.tup [.int (i : Nat), .ref s.heap.objs.size])) h'' h1.objs.size (.tup [.int (i : Nat), .ref s.heap.objs.size]) :=
      ⟨by show 2 ≤ sizeLine; decide, [.int i s.toks, .ref s.heap.objs.size], .cons ⟨_, rfl⟩ (.cons rfl .nil), ⟨_, hT2, rfl, _, rfl⟩⟩
    have hfe : FpOk X pins (upd H s.heap.objs.size (.tup [x, y])) e := by
      obtain ⟨q0, q1⟩ := hf e (by simp)
      exact ⟨by rw [upd_ne (Nat.ne_of_lt hel)]; exact q0, q1⟩
    have I2 : Inv X pins σ (upd (upd H s.heap.objs.size (.tup [x, y])) h1.objs.size (.tup [.int (i : Nat), .ref s.heap.objs.size])) { s with heap := h'', toks := s.toks + 1 } :=
      I1.turnedNew (ch := [e]) (fun c ob hb q => (sb.2 c (fun q' => hb (by simp [q']))).trans (hk c ob (fun q' => hb (by simp [q'])) q)) (fun c hcm => by rw [List.mem_singleton.mp hcm]; exact hfe) (Nat.le_refl _) new2
    refine ⟨.ref h1.objs.size, _, I2, rfl, ⟨_, _, x, y, rfl, I.hok.fresh (Nat.le_refl _), hn1, rfl, fun l hl => by rw [inv_inj I hl hqx]; exact hx, fun l hl => by rw [inv_inj I hl hqy]; exact hy⟩, ⟨⟨o'', old', f', ho'', ?_⟩, t1.keep fun c hcm o q => (sb.2 c fun q' => hne (by rw [← q']; exact hcm)).trans (hk c o (fun q' => hne (by rw [← q']; exact hcm)) q)⟩, fun c hcm => ?_⟩
    · have e1 : ((i + 1 : Nat) : Int) = (i : Int) + 1 := by omega
      rw [e1]; exact he''
    · have hlt : c < s.heap.objs.size := by
        rcases List.mem_cons.mp hcm with q | q
        · rw [q]; exact hel
        · exact tl c q
      rw [upd_ne (Nat.ne_of_lt (by rw [hs1]; exact Nat.lt_succ_of_lt hlt)), upd_ne (Nat.ne_of_lt hlt)]
      exact (hf c hcm).1
  done := by
    intro X hP hw hK hc i pins s σ H E I hf st hg
    subst hP hw hK
    obtain ⟨⟨o, old, f, ho, he⟩, oz, fz, x0, y0, hoz, hz, hTI, hTO, h1, h2⟩ := st
    obtain ⟨xs, ys, hqx, hqy, hend⟩ := hg
    obtain ⟨its, p, _, g1⟩ := inv_cnt I hqx
    obtain ⟨its2, p2, _, g2⟩ := inv_cnt I hqy
    have hh : X.A.in1.handled = none := I.ok.hd hc
    have hend' : its[i]? = none ∨ its2[i]? = none := by
      rcases hend with q | q
      · exact .inl (g1 _ q)
      · exact .inr (g2 _ q)
    exact pyNext_enum he (enum_stop (P := fun h' => ∀ c o, c ∉ [z, TI, TO, i1, i2] → s.heap.get? c = some o → h'.get? c = some o) he
      (fun A' Q E' hA hE => nextOf_zip hz (wpAny_mono (zip_stop (Q := fun _ _ => False) (hA.trans hh) D hz hoz hTI hTO h1 h2 p p2 hend' fun h' e hk hs => hE h' e (fun c o hb q => hk c o (fun q' => hb (by simp [q'])) (fun q' => hb (by simp [q'])) (fun q' => hb (by simp [q'])) (fun q' => hb (by simp [q'])) q) hs) (fun _ _ q => q.elim) fun _ _ q => q))
      fun h' x hk hs => ⟨x, rfl, hs, rfl, I.turnedL (t' := s.toks) (ch := [z, TI, TO, i1, i2]) hk fun c hcm => hf c (List.mem_cons_of_mem _ hcm)⟩)
  self := fun A i s Q E st h => by
    obtain ⟨⟨o, old, f, ho, he⟩, _⟩ := st
    exact iter_enum he h
def iZip2 (K : PySem.W.Frag) (ta : TA) : TI := fun σ H R => ta σ H fun vs H1 => ∃ k1 k2 a b xs ys, vs = [.ref a, .ref b] ∧ SqK k1 K H1 a xs ∧ SqK k2 K H1 b ys ∧ R (Itz2 K k1 k2 a b) H1
def iEnum1 (K : PySem.W.Frag) (ta : TA) : TI := fun σ H R => ta σ H fun vs H1 => ∃ k a xs, vs = [.ref a] ∧ SqK k K H1 a xs ∧ R (Ite1 K k a) H1
def iEnumZ (K : PySem.W.Frag) (ta : TA) : TI := fun σ H R => ta σ H fun vs H1 => ∃ k1 k2 a b xs ys, vs = [.ref a, .ref b] ∧ SqK k1 K H1 a xs ∧ SqK k2 K H1 b ys ∧ R (Itez K k1 k2 a b) H1
section
variable {X : Cx} {e e2 tg : Expr} {ta : TA} {p p' pos pos' : Pos}
/-- the call of zip: its five cells -/
theorem zip_made {pins : List (Addr × Obj)} {σ : L2.St} {H : Hp} {s : Shared} {Qv : List V → Hp → Prop} {Q : Value → Shared → Prop} (I : Inv X pins σ H s) (hg : Gl X "zip") (hm : X.mg "zip" = none) (ha : PA X [e, e2] ta)
    (hs : starEach [e, e2] X.env = (false, eval e X.env) :: starEach [e2] X.env) (hpl : (backTo pos (starEach [e2] X.env)).any (·.1) = false)
    (h : ta σ H Qv) (hv : ∀ vs H1, Qv vs H1 → ∃ k1 k2 a b xs ys, vs = [.ref a, .ref b] ∧ SqK k1 X.K H1 a xs ∧ SqK k2 X.K H1 b ys ∧
      ∀ (s1 : Shared) (h' : Heap), Inv X pins σ H1 s1 → Inv X pins σ H1 { s1 with heap := h' } → ZipApart (s1.heap.objs.size + 4) (s1.heap.objs.size + 2) (s1.heap.objs.size + 3) s1.heap.objs.size (s1.heap.objs.size + 1) a b →
        TnZ k1 k2 a b (s1.heap.objs.size + 4) (s1.heap.objs.size + 2) (s1.heap.objs.size + 3) s1.heap.objs.size (s1.heap.objs.size + 1) 0 h' → IsZ h' (s1.heap.objs.size + 4) (s1.heap.objs.size + 2) (s1.heap.objs.size + 3) .none false → h'.objs.size = s1.heap.objs.size + 5 →
        Q (.ref (s1.heap.objs.size + 4)) { s1 with heap := h' }) :
    wpAny (model X.prog X.w) X.A (eval (.Call (.Name "zip" p) [e, e2] [] pos) X.env) Q X.xe s := by
  refine Call_ (ld_blt I hg hm PyProof.Rows.boot_zip (PyProof.Rows.callWith_type1 (thn (ha.run pos pins s σ H _ I h) fun us s1 ⟨vs, H1, I1, r1, q1⟩ => ?_) hs hpl))
  obtain ⟨k1, k2, a, b, xs, ys, ex, hqx, hqy, q⟩ := hv _ _ q1
  subst ex
  cases r1 with
  | cons r rr =>
    cases rr with
    | cons r' rr =>
      cases rr
      cases r
      cases r'
      obtain ⟨its, p1, _⟩ := inv_cnt I1 hqx
      obtain ⟨its2, p2, _⟩ := inv_cnt I1 hqy
      refine zip_begins2 (begins_k k1 a its) (begins_k k2 b its2) p1 p2 fun h' hz hTI hTO h1 h2 hsz hk => ?_
      exact q s1 h' I1 (I1.kept (t' := s1.toks) hk) (PySem.W.ktu_apart s1.heap.objs.size a b p1.lt p2.lt) ⟨_, _, _, _, .inl rfl, hz, hTI, hTO, drw_new h1, drw_new h2⟩ hz hsz
theorem pi_zip2 (hg : Gl X "zip") (hm : X.mg "zip" = none) (ha : PA X [e, e2] ta)
    (hs : starEach [e, e2] X.env = (false, eval e X.env) :: starEach [e2] X.env) (hpl : (backTo pos (starEach [e2] X.env)).any (·.1) = false) :
    PI X tg (.Call (.Name "zip" p) [e, e2] [] pos) (iZip2 X.K ta) := by
  refine ⟨fun pins s σ H R I h => zip_made I hg hm ha hs hpl h fun vs H1 q => ?_⟩
  obtain ⟨k1, k2, a, b, xs, ys, ex, hqx, hqy, q⟩ := q
  refine ⟨k1, k2, a, b, xs, ys, ex, hqx, hqy, fun s1 h' I1 I2 D t hz hsz => iter_zip hz ?_⟩
  refine ⟨s1.heap.objs.size + 4, [s1.heap.objs.size + 4, s1.heap.objs.size + 2, s1.heap.objs.size + 3, s1.heap.objs.size, s1.heap.objs.size + 1], _, _, H1, rfl, I2, turn_zip2 D, t, fun c hcm => ?_, q⟩
  have hle : s1.heap.objs.size ≤ c := by
    have e' : c = s1.heap.objs.size + 4 ∨ c = s1.heap.objs.size + 2 ∨ c = s1.heap.objs.size + 3 ∨ c = s1.heap.objs.size ∨ c = s1.heap.objs.size + 1 := by simpa using hcm
    rcases e' with z | z | z | z | z
    · rw [z]; exact Nat.le_add_right _ _
    · rw [z]; exact Nat.le_add_right _ _
    · rw [z]; exact Nat.le_add_right _ _
    · rw [z]; exact Nat.le_refl _
    · rw [z]; exact Nat.le_add_right _ _
  exact I1.fpOk hle (I1.hok.fresh hle)
theorem pi_enum1 (hg : Gl X "enumerate") (hm : X.mg "enumerate" = none) (ha : PA X [e] ta) (hs : starEach [e] X.env = [(false, eval e X.env)]) :
    PI X tg (.Call (.Name "enumerate" p) [e] [] pos) (iEnum1 X.K ta) := by
  refine ⟨fun pins s σ H R I h => ?_⟩
  refine Call_ (ld_blt I hg hm boot_enumerate (PyProof.Rows.callWith_type1 (thn (ha.run pos pins s σ H _ I h) fun us s1 ⟨vs, H1, I1, r1, q1⟩ => ?_) hs rfl))
  obtain ⟨k, a, xs, ex, hq, q⟩ := q1
  subst ex
  cases r1 with
  | cons r rr =>
    cases rr
    cases r
    obtain ⟨its, p', _⟩ := inv_cnt I1 hq
    refine call_enumerate_B (begins_k k a its) p' fun h' he hit hsz hk => iter_enum he ?_
    have I2 : Inv X pins σ H1 { s1 with heap := h' } := I1.kept (t' := s1.toks) hk
    refine ⟨s1.heap.objs.size + 1, [s1.heap.objs.size + 1, s1.heap.objs.size], _, _, H1, rfl, I2, turn_enum1 (Nat.succ_ne_self _), ⟨⟨.none, .none, false, .inl rfl, he⟩, drw_new hit⟩, fun b hb => ?_, q⟩
    have e' : b = s1.heap.objs.size + 1 ∨ b = s1.heap.objs.size := by simpa using hb
    have hle : s1.heap.objs.size ≤ b := by
      rcases e' with z | z
      · rw [z]; exact Nat.le_add_right _ _
      · rw [z]; exact Nat.le_refl _
    exact I1.fpOk hle (I1.hok.fresh hle)
theorem pi_enumz (hg : Gl X "enumerate") (hm : X.mg "enumerate" = none) (hg2 : Gl X "zip") (hm2 : X.mg "zip" = none) (ha : PA X [e, e2] ta)
    (hs : starEach [e, e2] X.env = (false, eval e X.env) :: starEach [e2] X.env) (hpl : (backTo pos' (starEach [e2] X.env)).any (·.1) = false) :
    PI X tg (.Call (.Name "enumerate" p) [.Call (.Name "zip" p') [e, e2] [] pos'] [] pos) (iEnumZ X.K ta) := by
  refine ⟨fun pins s σ H R I h => ?_⟩
  refine Call_ (ld_blt I hg hm boot_enumerate (PyProof.Rows.callWith_type1 ?_ rfl rfl))
  show wpAny _ _ (spliced ((false, eval (.Call (.Name "zip" p') [e, e2] [] pos') X.env) :: backTo pos (starEach [] X.env))) _ _ s
  refine Calls.spliced_cons (zip_made I hg2 hm2 ha hs hpl h fun vs H1 q => ?_)
  obtain ⟨k1, k2, a, b, xs, ys, ex, hqx, hqy, q⟩ := q
  refine ⟨k1, k2, a, b, xs, ys, ex, hqx, hqy, fun s1 h' I1 I2 D t hz hsz => Calls.spliced_nil ?_⟩
  refine call_enumerate_Z (s := { s1 with heap := h' }) hz fun h'' he hsz2 hk => iter_enum he ?_
  have I3 : Inv X pins σ H1 { s1 with heap := h'' } := I2.kept (t' := s1.toks) hk
  have hsz3 : ({ s1 with heap := h' } : Shared).heap.objs.size = s1.heap.objs.size + 5 := hsz
  rw [hsz3] at he ⊢
  have lt5 : ∀ c ∈ [s1.heap.objs.size + 4, s1.heap.objs.size + 2, s1.heap.objs.size + 3, s1.heap.objs.size, s1.heap.objs.size + 1], s1.heap.objs.size ≤ c ∧ c < s1.heap.objs.size + 5 := fun c hcm => by
    have e' : c = s1.heap.objs.size + 4 ∨ c = s1.heap.objs.size + 2 ∨ c = s1.heap.objs.size + 3 ∨ c = s1.heap.objs.size ∨ c = s1.heap.objs.size + 1 := by simpa using hcm
    rcases e' with z | z | z | z | z
    · rw [z]; exact ⟨Nat.le_add_right _ _, Nat.add_lt_add_left (by decide) _⟩
    · rw [z]; exact ⟨Nat.le_add_right _ _, Nat.add_lt_add_left (by decide) _⟩
    · rw [z]; exact ⟨Nat.le_add_right _ _, Nat.add_lt_add_left (by decide) _⟩
    · rw [z]; exact ⟨Nat.le_refl _, Nat.lt_add_of_pos_right (by decide)⟩
    · rw [z]; exact ⟨Nat.le_add_right _ _, Nat.add_lt_add_left (by decide) _⟩
  refine ⟨s1.heap.objs.size + 5, [s1.heap.objs.size + 5, s1.heap.objs.size + 4, s1.heap.objs.size + 2, s1.heap.objs.size + 3, s1.heap.objs.size, s1.heap.objs.size + 1], _, _, H1, rfl, I3,
    turn_enumz D (fun hm => absurd (lt5 _ hm).2 (Nat.lt_irrefl _)), ⟨⟨.none, .none, false, .inl rfl, he⟩, t.keep fun c _ o q => hk c o q⟩, fun c hcm => ?_, q⟩
  have hle : s1.heap.objs.size ≤ c := by
    rcases List.mem_cons.mp hcm with z | z
    · rw [z]; exact Nat.le_add_right _ _
    · exact (lt5 c z).1
  exact I1.fpOk hle (I1.hok.fresh hle)
end
end Ev
namespace Ev
open PySem PySem.Spec PyProof.Rows L2

/-! ### combinations(range(n), 2) -/
abbrev cmbT : String := "itertools.combinations"
theorem cmb_slot_init : Slot cmbT "__init__" "object.__init__" :=
  .of (owner := "object") (n := "__init__") (by rw [typeLookup_type, builtinLookup_eq_fast]; kernel_rfl) (by decide +kernel) (by decide +kernel) (by decide +kernel)
    (by first | exact .inl (by decide +kernel) | exact .inr (by decide +kernel)) (by rw [isSubtype_type]; kernel_rfl)
theorem cmb_slot_iter : Slot cmbT "__iter__" "itertools.combinations.__iter__" :=
  .of (owner := cmbT) (n := "__iter__") (by rw [typeLookup_type, builtinLookup_eq_fast]; kernel_rfl) (by decide +kernel) (by decide +kernel) (by decide +kernel)
    (by first | exact .inl (by decide +kernel) | exact .inr (by decide +kernel)) (by rw [isSubtype_type]; kernel_rfl)
theorem cmb_slot_next : Slot cmbT "__next__" "itertools.combinations.__next__" :=
  .of (owner := cmbT) (n := "__next__") (by rw [typeLookup_type, builtinLookup_eq_fast]; kernel_rfl) (by decide +kernel) (by decide +kernel) (by decide +kernel)
    (by first | exact .inl (by decide +kernel) | exact .inr (by decide +kernel)) (by rw [isSubtype_type]; kernel_rfl)
theorem cmb_entry_next : entryFor table "itertools.combinations.__next__" = some Builtin.«itertools.combinations.__next__» := entryFor_of_tree (by kernel_rfl)
theorem cmb_entry_new : entryFor table "itertools.combinations.__new__" = some Builtin.«itertools.combinations.__new__» := entryFor_of_tree (by kernel_rfl)
theorem cmb_entry_iter : entryFor table "itertools.combinations.__iter__" = some Builtin.«dict_keyiterator.__iter__» :=
  entryFor_alias (id' := "dict_keyiterator.__iter__") (by kernel_rfl) (by first | rfl | decide +kernel | (unfold String.splitOn; simp +decide [String.splitOnAux])) (by decide +kernel) (by kernel_rfl)
theorem cmb_args_next (a : Value) : argsOk "itertools.combinations.__next__" ⟨[a], []⟩ := by
  unfold argsOk
  kernel_rfl
theorem cmb_args_iter (a : Value) : argsOk "itertools.combinations.__iter__" ⟨[a], []⟩ := by
  unfold argsOk
  kernel_rfl
theorem cmb_mro : mroOf (.type cmbT) = pure [.type cmbT, .type "object"] := by rw [mroOf_type]; kernel_rfl
theorem cmb_lookup_new : typeLookup (.type cmbT) "__new__" = pure (some (.builtin "itertools.combinations.__new__")) := by rw [typeLookup_type, builtinLookup_eq_fast]; kernel_rfl
theorem cmb_called : TypeCalled cmbT "itertools.combinations.__new__" "object.__init__" :=
  ⟨by decide +kernel, by decide +kernel, ⟨_, _, cmb_mro⟩, madeBy_type cmb_mro cmb_lookup_new (by decide +kernel), by decide +kernel, by rw [isSubtype_type]; kernel_rfl, cmb_slot_init⟩
theorem cmb_typeCall (a b : Value) : checkTypeCall cmbT ⟨[a, b], []⟩ = pure () := by kernel_rfl
theorem cmb_newCall (a b : Value) : checkBuiltinCall "itertools.combinations.__new__" ⟨[.type cmbT, a, b], []⟩ = pure () := by kernel_rfl
end Ev
namespace Ev
open PySem PySem.Spec PyProof.Rows L2
abbrev IsC (h : Heap) (z TP : Addr) (st : Nat) (last : Value) (a b : Nat) : Prop :=
  h.get? z = some { cls := .type cmbT, dict := none, data := .fields #[.ref TP, rawInt (st : Nat), last, rawInt (a : Nat), rawInt (b : Nat)], slots := #[] }
def nxtP (n : Nat) (q : Nat × Nat) : Option (Nat × Nat) := if q.2 + 1 ≠ n then some (q.1, q.2 + 1) else if q.1 + 2 ≠ n then some (q.1 + 1, q.1 + 2) else none
def nxtL (n : Nat) (indices : List Nat) : Option (List Nat) :=
  let r := indices.length
  match (List.range r).reverse.find? fun i => indices.getD i 0 != i + n - r with
  | none => none
  | some i => some (indices.take i ++ (List.range (r - i)).map (indices.getD i 0 + 1 + ·))
theorem nxt_eq {n a b : Nat} (h : 2 ≤ n) : nxtL n [a, b] = (nxtP n (a, b)).map fun q => [q.1, q.2] := by
  unfold nxtL nxtP
  have e1 : (List.range [a, b].length).reverse = [1, 0] := rfl
  dsimp only
  rw [e1, List.find?_cons, List.find?_cons]
  by_cases h1 : b + 1 = n
  · have e2 : ([a, b].getD 1 0 != 1 + n - [a, b].length) = false := by
      show (b != 1 + n - 2) = false
      rw [bne_eq_false_iff_eq]
      omega
    rw [e2, if_neg (by simp [h1])]
    by_cases h2 : a + 2 = n
    · have e3 : ([a, b].getD 0 0 != 0 + n - [a, b].length) = false := by
        show (a != 0 + n - 2) = false
        rw [bne_eq_false_iff_eq]
        omega
      rw [e3, if_neg (by simp [h2])]
      rfl
    · have e3 : ([a, b].getD 0 0 != 0 + n - [a, b].length) = true := by
        show (a != 0 + n - 2) = true
        rw [bne_iff_ne]
        omega
      rw [e3, if_pos h2]
      rfl
  · have e2 : ([a, b].getD 1 0 != 1 + n - [a, b].length) = true := by
      show (b != 1 + n - 2) = true
      rw [bne_iff_ne]
      omega
    rw [e2, if_pos h1]
    rfl
section
variable {prog : Program} {w : World} {A : Around} {E : Value → Shared → Prop} {s : Shared}
theorem raise_stop {α : Type} {Q : α → Shared → Prop} (hh : A.handled = none)
    (h : ∀ h' e, (∀ c o, s.heap.get? c = some o → h'.get? c = some o) → (∃ o, h'.get? e = some o ∧ o.cls = .type "StopIteration") → E (.ref e) { s with heap := h' }) : wpAny (model prog w) A (Builtin.Itertools.itStop : Sem α) Q E s := by
  unfold Builtin.Itertools.itStop
  refine wpAny_bind ?_
  simp only [newExc, newTuple]
  refine wpAny_bind (wpAny_newObj_type ?_ (by size_fits))
  refine wpAny_bind (m := firstArgMember _ _) (wpAny_of_eq (a := Value.none) (by first | rfl | (simp only [firstArgMember]; rfl)) ?_)
  refine wpAny_newObj_type ?_ (by size_fits)
  simp only [raiseNew]
  refine wpAny_bind (wpAny_handled ?_)
  rw [hh]
  refine wpAny_bind (wpAny_pure (wpAny_throw ?_))
  exact h _ _ (fun c o e => Heap.get?_push_of_some _ (Heap.get?_push_of_some _ e)) ⟨_, Heap.get?_push_size _ rfl, rfl⟩
/-- the pair is handed out -/
theorem cmb_hand {z TP : Addr} {st : Nat} {last : Value} {a b : Nat} {items : Array Value} {ys : List Nat} {Q : Value → Shared → Prop} (hy : ys = [a, b]) (hz : IsC s.heap z TP st last a b) (hT : IsTup s.heap TP items)
    (hQ : ∀ h', IsC h' z TP st (.ref s.heap.objs.size) a b → h'.get? s.heap.objs.size = some { cls := .type "tuple", data := .seq #[items.getD a .none, items.getD b .none] } → h'.objs.size = s.heap.objs.size + 1 →
      (∀ c o, c ≠ z → s.heap.get? c = some o → h'.get? c = some o) → Q (.ref s.heap.objs.size) { s with heap := h' }) :
    wpAny (model prog w) A ((do
        let items ← Builtin.Itertools.itPoolItems (.ref TP)
        newTuple (ys.map fun i => items.getD i .none)) >>= fun result => (do
      let before ← field (.ref z) 2
      setField (.ref z) 2 result
      letGo [before] [result]
      ret result)) (fun fin s' => ∃ v, fin = .done (.ret v) ∧ Q v s') E s := by
  subst hy
  obtain ⟨oT, hT1, hT2, n, hT3⟩ := hT
  refine wpAny_bind (wpAny_bind ?_)
  unfold Builtin.Itertools.itPoolItems
  refine wpAny_bind (wpAny_seqItems hT1 hT3 (wpAny_pure ?_))
  refine wpAny_newTuple ?_ (by show 2 ≤ sizeLine; decide)
  have hzl : z < s.heap.objs.size := Heap.lt_size hz
  have hz1 : IsC (s.heap.push { cls := .type "tuple", data := .seq (([a, b].map fun i => items.getD i .none).toArray) }) z TP st last a b := Heap.get?_push_of_some _ hz
  refine wpAny_bind (wpAny_field hz1 rfl (x := last) rfl ?_)
  refine wpAny_bind (wpAny_setField_rec hz1 (by simp) fun h₁ hz₁ hs₁ => ?_)
  refine wpAny_bind (wpAny_letGo ?_)
  refine wpAny_pure ⟨_, rfl, ?_⟩
  refine hQ h₁ hz₁ ?_ (by rw [hs₁.1, Heap.size_push]) fun c o hc e => (hs₁.extBut _ _ hc (Heap.get?_push_of_some _ e))
  exact hs₁.extBut _ _ (Nat.ne_of_gt hzl) (Heap.get?_push_size _ rfl)
theorem cmb_step0 {z TP : Addr} {last : Value} {a b : Nat} {items : Array Value} {Q : Value → Shared → Prop} (hz : IsC s.heap z TP 0 last a b) (hT : IsTup s.heap TP items) (hzT : TP ≠ z)
    (hQ : ∀ h', IsC h' z TP 1 (.ref s.heap.objs.size) a b → h'.get? s.heap.objs.size = some { cls := .type "tuple", data := .seq #[items.getD a .none, items.getD b .none] } → h'.objs.size = s.heap.objs.size + 1 →
      (∀ c o, c ≠ z → s.heap.get? c = some o → h'.get? c = some o) → Q (.ref s.heap.objs.size) { s with heap := h' }) :
    wpAny (model prog w) A (Builtin.«itertools.combinations.__next__» ⟨[.ref z], []⟩) (fun fin s' => ∃ v, fin = .done (.ret v) ∧ Q v s') E s := by
  unfold Builtin.«itertools.combinations.__next__»
  show wpAny _ _ (field (.ref z) 0 >>= _) _ _ _
  refine wpAny_bind (wpAny_field hz rfl (x := .ref TP) rfl ?_)
  show wpAny _ _ (Builtin.Itertools.itNumbersFrom (.ref z) 3 >>= _) _ _ _
  refine wpAny_bind ?_
  unfold Builtin.Itertools.itNumbersFrom
  refine wpAny_bind (wpAny_load hz ?_)
  dsimp only
  refine wpAny_pure ?_
  show wpAny _ _ (Builtin.Itertools.itIntField (.ref z) 1 >>= _) _ _ _
  refine wpAny_bind ?_
  unfold Builtin.Itertools.itIntField
  refine wpAny_bind (wpAny_field hz rfl (x := rawInt 0) rfl ?_)
  refine wpAny_pure ?_
  show wpAny _ _ (setField (.ref z) 1 (rawInt 1) >>= _) _ _ _
  refine wpAny_bind (wpAny_setField_rec hz (by simp) fun h₁ hz₁ hs₁ => ?_)
  replace hz₁ : IsC h₁ z TP 1 last a b := hz₁
  refine cmb_hand (s := { s with heap := h₁ }) (items := items) (a := a) (b := b) rfl hz₁ (hT.extBut hs₁.extBut hzT) fun h' q1 q2 q3 q4 => ?_
  have e : h₁.objs.size = s.heap.objs.size := hs₁.1
  simp only [e] at q1 q2 q3 ⊢
  exact hQ h' q1 q2 q3 fun c o hc e => q4 c o hc (hs₁.extBut _ _ hc e)
theorem cmb_step1 {z TP : Addr} {last : Value} {a b a' b' : Nat} {items : Array Value} {Q : Value → Shared → Prop} (hz : IsC s.heap z TP 1 last a b) (hT : IsTup s.heap TP items) (hzT : TP ≠ z) (h2 : 2 ≤ items.size) (hn : nxtP items.size (a, b) = some (a', b'))
    (hQ : ∀ h', IsC h' z TP 1 (.ref s.heap.objs.size) a' b' → h'.get? s.heap.objs.size = some { cls := .type "tuple", data := .seq #[items.getD a' .none, items.getD b' .none] } → h'.objs.size = s.heap.objs.size + 1 →
      (∀ c o, c ≠ z → s.heap.get? c = some o → h'.get? c = some o) → Q (.ref s.heap.objs.size) { s with heap := h' }) :
    wpAny (model prog w) A (Builtin.«itertools.combinations.__next__» ⟨[.ref z], []⟩) (fun fin s' => ∃ v, fin = .done (.ret v) ∧ Q v s') E s := by
  obtain ⟨oT, hT1, hT2, n, hT3⟩ := id hT
  unfold Builtin.«itertools.combinations.__next__»
  show wpAny _ _ (field (.ref z) 0 >>= _) _ _ _
  refine wpAny_bind (wpAny_field hz rfl (x := .ref TP) rfl ?_)
  show wpAny _ _ (Builtin.Itertools.itNumbersFrom (.ref z) 3 >>= _) _ _ _
  refine wpAny_bind ?_
  unfold Builtin.Itertools.itNumbersFrom
  refine wpAny_bind (wpAny_load hz ?_)
  dsimp only
  refine wpAny_pure ?_
  show wpAny _ _ (Builtin.Itertools.itIntField (.ref z) 1 >>= _) _ _ _
  refine wpAny_bind ?_
  unfold Builtin.Itertools.itIntField
  refine wpAny_bind (wpAny_field hz rfl (x := rawInt 1) rfl ?_)
  refine wpAny_pure ?_
  show wpAny _ _ (Builtin.Itertools.itPoolItems (.ref TP) >>= _) _ _ _
  refine wpAny_bind ?_
  unfold Builtin.Itertools.itPoolItems
  refine wpAny_bind (wpAny_seqItems hT1 hT3 (wpAny_pure ?_))
  have en : nxtL items.size [a, b] = some [a', b'] := by rw [nxt_eq h2, hn] <;> rfl
  split
  · rename_i next hx
    have hx' : nxtL items.size [a, b] = some next := hx
    rw [en] at hx'
    cases hx'
    show wpAny _ _ (Builtin.Itertools.itSetNumbersFrom (.ref z) 3 [a', b'] >>= _) _ _ _
    refine wpAny_bind ?_
    unfold Builtin.Itertools.itSetNumbersFrom
    refine wpAny_updateFields hz rfl ?_ (by show 5 ≤ sizeLine + 3; decide)
    have hs₁ : Heap.SameBut z s.heap (s.heap.update z (Obj.mapFields fun fs => fs.extract 0 3 ++ ([a', b'].map fun (n : Nat) => rawInt n).toArray)) := Heap.SameBut.update ..
    have hz₁ : IsC (s.heap.update z (Obj.mapFields fun fs => fs.extract 0 3 ++ ([a', b'].map fun (n : Nat) => rawInt n).toArray)) z TP 1 last a' b' := Heap.get?_update_self _ hz rfl
    generalize (s.heap.update z (Obj.mapFields fun fs => fs.extract 0 3 ++ ([a', b'].map fun (n : Nat) => rawInt n).toArray)) = h₁ at *
    refine cmb_hand (s := { s with heap := h₁ }) (items := items) (a := a') (b := b') rfl hz₁ (hT.extBut hs₁.extBut hzT) fun h' q1 q2 q3 q4 => ?_
    have e : h₁.objs.size = s.heap.objs.size := hs₁.1
    simp only [e] at q1 q2 q3 ⊢
    exact hQ h' q1 q2 q3 fun c o hc e => q4 c o hc (hs₁.extBut _ _ hc e)
  · rename_i hx
    have hx' : nxtL items.size [a, b] = none := hx
    rw [en] at hx'
    cases hx'
theorem cmb_stop1 {z TP : Addr} {last : Value} {a b : Nat} {items : Array Value} {Q : Fin → Shared → Prop} (hh : A.handled = none) (hz : IsC s.heap z TP 1 last a b) (hT : IsTup s.heap TP items) (h2 : 2 ≤ items.size) (hn : nxtP items.size (a, b) = none)
    (hE : ∀ h' e, (∀ c o, c ≠ z → s.heap.get? c = some o → h'.get? c = some o) → (∃ o, h'.get? e = some o ∧ o.cls = .type "StopIteration") → E (.ref e) { s with heap := h' }) :
    wpAny (model prog w) A (Builtin.«itertools.combinations.__next__» ⟨[.ref z], []⟩) Q E s := by
  obtain ⟨oT, hT1, hT2, n, hT3⟩ := id hT
  unfold Builtin.«itertools.combinations.__next__»
  show wpAny _ _ (field (.ref z) 0 >>= _) _ _ _
  refine wpAny_bind (wpAny_field hz rfl (x := .ref TP) rfl ?_)
  show wpAny _ _ (Builtin.Itertools.itNumbersFrom (.ref z) 3 >>= _) _ _ _
  refine wpAny_bind ?_
  unfold Builtin.Itertools.itNumbersFrom
  refine wpAny_bind (wpAny_load hz ?_)
  dsimp only
  refine wpAny_pure ?_
  show wpAny _ _ (Builtin.Itertools.itIntField (.ref z) 1 >>= _) _ _ _
  refine wpAny_bind ?_
  unfold Builtin.Itertools.itIntField
  refine wpAny_bind (wpAny_field hz rfl (x := rawInt 1) rfl ?_)
  refine wpAny_pure ?_
  show wpAny _ _ (Builtin.Itertools.itPoolItems (.ref TP) >>= _) _ _ _
  refine wpAny_bind ?_
  unfold Builtin.Itertools.itPoolItems
  refine wpAny_bind (wpAny_seqItems hT1 hT3 (wpAny_pure ?_))
  have en : nxtL items.size [a, b] = none := by rw [nxt_eq h2, hn] <;> rfl
  split
  · rename_i next hx
    have hx' : nxtL items.size [a, b] = some next := hx
    rw [en] at hx'
    cases hx'
  · show wpAny _ _ (setField (.ref z) 1 (rawInt 2) >>= _) _ _ _
    refine wpAny_bind (wpAny_setField_rec hz (by simp) fun h₁ hz₁ hs₁ => ?_)
    exact raise_stop (s := { s with heap := h₁ }) hh fun h' e k t => hE h' e (fun c o hc q => k _ _ (hs₁.extBut _ _ hc q)) t
theorem cmb_stop2 {z TP : Addr} {last : Value} {a b : Nat} {Q : Fin → Shared → Prop} (hh : A.handled = none) (hz : IsC s.heap z TP 2 last a b)
    (hE : ∀ h' e, (∀ c o, c ≠ z → s.heap.get? c = some o → h'.get? c = some o) → (∃ o, h'.get? e = some o ∧ o.cls = .type "StopIteration") → E (.ref e) { s with heap := h' }) :
    wpAny (model prog w) A (Builtin.«itertools.combinations.__next__» ⟨[.ref z], []⟩) Q E s := by
  unfold Builtin.«itertools.combinations.__next__»
  show wpAny _ _ (field (.ref z) 0 >>= _) _ _ _
  refine wpAny_bind (wpAny_field hz rfl (x := .ref TP) rfl ?_)
  show wpAny _ _ (Builtin.Itertools.itNumbersFrom (.ref z) 3 >>= _) _ _ _
  refine wpAny_bind ?_
  unfold Builtin.Itertools.itNumbersFrom
  refine wpAny_bind (wpAny_load hz ?_)
  dsimp only
  refine wpAny_pure ?_
  show wpAny _ _ (Builtin.Itertools.itIntField (.ref z) 1 >>= _) _ _ _
  refine wpAny_bind ?_
  unfold Builtin.Itertools.itIntField
  refine wpAny_bind (wpAny_field hz rfl (x := rawInt 2) rfl ?_)
  refine wpAny_pure ?_
  show wpAny _ _ (rule "itertools.combinations.ended" >>= _) _ _ _
  refine wpAny_bind (wpAny_rule ?_)
  exact raise_stop hh fun h' e k t => hE h' e (fun c o hc q => k _ _ q) t
theorem pyNext_cmb {z TP : Addr} {st : Nat} {last : Value} {a b : Nat} {Q : Option Value → Shared → Prop} (hz : IsC s.heap z TP st last a b)
    (h : wpAny (model prog w) A.in1 (Builtin.«itertools.combinations.__next__» ⟨[.ref z], []⟩) (fun fin s' => ∃ v, fin = .done (.ret v) ∧ Q (some v) s') (fun x s' => ∃ e, x = .ref e ∧ (∃ o, s'.heap.get? e = some o ∧ o.cls = .type "StopIteration") ∧ Q none s') s) : wpAny (model prog w) A (pyNext (.ref z)) Q E s := by
  have hT : s.TypeIs (.ref z) cmbT := ⟨_, hz, rfl⟩
  unfold pyNext
  refine wpAny_bind (wpAny_attempt (wpAny_callSpecial?_slot (name := Str.ofString "__next__") hT cmb_slot_next
    (wpAny_call_entry cmb_slot_next hT cmb_entry_next (wpAny_mono h (fun fin s' ⟨v, e, q⟩ => ⟨v, e, wpAny_pure q⟩) fun x s' ⟨e, hx, ho, q⟩ => ?_) (cmb_args_next _))))
  subst hx
  obtain ⟨o, ho, hc⟩ := ho
  exact wpAny_bind (wpAny_isInstance (T := "StopIteration") (b := true) ⟨o, ho, hc⟩ isSubtype_stop (wpAny_pure q))
theorem iter_cmb {z TP : Addr} {st : Nat} {last : Value} {a b : Nat} {Q : Value → Shared → Prop} (hz : IsC s.heap z TP st last a b) (h : Q (.ref z) s) : wpAny (model prog w) A (pyIter (.ref z)) Q E s := by
  have hT : s.TypeIs (.ref z) cmbT := ⟨_, hz, rfl⟩
  refine wpAny_pyIter_slot hT cmb_slot_iter (wpAny_call_entry cmb_slot_iter hT cmb_entry_iter ?_ (cmb_args_iter _))
  show wpAny _ _ (ret (.ref z)) _ _ s
  exact wpAny_pure ⟨_, rfl, cmbT, _, hT, cmb_slot_next.lookup, h⟩
theorem meets_cmb {r : Addr} {m : Int} {t u v t2 : Tok} {n : Nat} (hsmall : Builtin.Range.small 0 m 1 = true) (hn : Builtin.Range.rangeSize 0 m 1 = n) (hlen : n ≤ 1000) :
    Meets (Builtin.«itertools.combinations.__new__» ⟨[.type cmbT, .ref r, .int 2 t2], []⟩) (fun A R s => A.handled = none ∧ IsRange s.heap r 0 m 1 t u v ∧
      ∀ (h' : Heap) (tk : Nat) (acc : Array Value), (∀ b o, s.heap.get? b = some o → h'.get? b = some o) → ItemsOf (fun i v => ∃ t, v = .int (0 + i * 1) t) acc n →
      R (.ok (.ret (.ref (h'.objs.size + 1)))) { s with heap := (h'.push { cls := .type "tuple", data := .seq acc }).push { cls := .type cmbT, data := .fields #[.ref h'.objs.size, rawInt ((if 2 > n then 2 else 0 : Nat) : Nat), .none, rawInt (0 : Nat), rawInt (1 : Nat)] }, toks := tk }) :=
  .of_wp fun prog w A R s h => by
    obtain ⟨hh, hr, h⟩ := h
    have hsub : isSubtype (.type cmbT) (.type cmbT) = pure true := by rw [isSubtype_type]; kernel_rfl
    unfold Builtin.«itertools.combinations.__new__»
    wp_walk
    refine wpAny_of_eq (a := true) hsub ?_
    show wpAny _ _ (pure (Value.type cmbT, [Value.ref r, Value.int 2 t2])) _ _ s
    refine wpAny_pure ?_
    dsimp only
    refine wpAny_bind ?_
    unfold Builtin.Itertools.itBindNamed
    have hh1 : A.in1.handled = none := hh
    wp_walk using collect_range (A := A.in1) hh1 hr hsmall hn (by omega)
    intro h' tk acc hk hi
    have hlen' : acc.toList.length = n := by simpa using hi.1
    refine wpAny_ite_false (by decide) ?_
    refine wpAny_ite_false (by decide) ?_
    refine wpAny_bind (wpAny_newTuple ?_ (by rw [hlen', sizeLine_eq]; omega))
    refine wpAny_pure ?_
    dsimp only
    have e1 : acc.toList.toArray = acc := by simp
    have e2 : (rawInt (if Int.toNat 2 > acc.toList.length then 2 else 0)) = rawInt ((if 2 > n then 2 else 0 : Nat) : Nat) := by
      rw [hlen']
      show rawInt (if 2 > n then 2 else 0) = _
      split <;> rfl
    rw [e1, e2]
    refine wpAny_bind ?_
    unfold Builtin.Itertools.itNewRecord
    have ed : typeHasDict (.type cmbT) = false := by kernel_rfl
    rw [ed]
    refine wpAny_ite_true (by decide) ?_
    show wpAny _ _ (newObj (.type cmbT) (.fields #[.ref h'.objs.size, rawInt ((if 2 > n then 2 else 0 : Nat) : Nat), .none, rawInt (0 : Nat), rawInt (1 : Nat)])) _ _ _
    refine wpAny_newObj_type ?_ (by size_fits)
    refine wpAny_pure ⟨_, rfl, ?_⟩
    have := h h' tk acc hk hi
    have es : (h'.push { cls := Value.type "tuple", data := Data.seq acc }).objs.size = h'.objs.size + 1 := Heap.size_push ..
    show R (.ok (.ret (.ref (h'.push { cls := Value.type "tuple", data := Data.seq acc }).objs.size))) _
    rw [es]
    exact this
theorem call_cmb {r : Addr} {m : Int} {t u v t2 : Tok} {n : Nat} {Q : Value → Shared → Prop} (hh : A.handled = none) (hr : IsRange s.heap r 0 m 1 t u v) (hsmall : Builtin.Range.small 0 m 1 = true) (hn : Builtin.Range.rangeSize 0 m 1 = n) (hlen : n ≤ 1000)
    (h : ∀ (h0 h' : Heap) (tk : Nat) (acc : Array Value), (∀ b o, s.heap.get? b = some o → h0.get? b = some o) → (∀ b o, h0.get? b = some o → h'.get? b = some o) → ItemsOf (fun i v => ∃ t, v = .int (0 + i * 1) t) acc n → IsTup h' h0.objs.size acc → IsC h' (h0.objs.size + 1) h0.objs.size (if 2 > n then 2 else 0) .none 0 1 →
      Q (.ref (h0.objs.size + 1)) { s with heap := h', toks := tk }) : wpAny (model prog w) A (call (.type cmbT) [.ref r, .int 2 t2]) Q E s := by
  refine callType_new cmb_called (by decide) (cmb_typeCall _ _) (cmb_newCall _ _) (fun obj => F.args_object_init_3 obj _ _) cmb_entry_new (meets_cmb hsmall hn hlen) ⟨hh, hr, fun h' tk acc hk hi => ?_⟩
  have es : (h'.push { cls := Value.type "tuple", data := Data.seq acc }).objs.size = h'.objs.size + 1 := Heap.size_push ..
  have hC : IsC ((h'.push { cls := .type "tuple", data := .seq acc }).push { cls := .type cmbT, data := .fields #[.ref h'.objs.size, rawInt ((if 2 > n then 2 else 0 : Nat) : Nat), .none, rawInt (0 : Nat), rawInt (1 : Nat)] }) (h'.objs.size + 1) h'.objs.size (if 2 > n then 2 else 0) .none 0 1 := by
    have := Heap.get?_push_size (h'.push { cls := Value.type "tuple", data := Data.seq acc }) (o := { cls := .type cmbT, data := .fields #[.ref h'.objs.size, rawInt ((if 2 > n then 2 else 0 : Nat) : Nat), .none, rawInt (0 : Nat), rawInt (1 : Nat)] }) rfl
    rw [es] at this
    exact this
  refine ⟨⟨_, hC, rfl⟩, h h' _ tk acc hk (fun b o e => Heap.get?_push_of_some _ (Heap.get?_push_of_some _ e)) hi ⟨_, Heap.get?_push_of_some _ (Heap.get?_push_size _ rfl), rfl, _, rfl⟩ hC⟩
end
theorem pairs_fact {n : Nat} (h : n ≤ 6) : (pairsN n)[0]? = (if 2 ≤ n then some (0, 1) else none) ∧ (pairsN n).length ≤ 15 ∧ ∀ j, j < 15 → ∀ q, (pairsN n)[j]? = some q → q.1 < n ∧ q.2 < n ∧ (pairsN n)[j + 1]? = nxtP n q := by
  have key : (pairsN n)[0]? = (if 2 ≤ n then some (0, 1) else none) ∧ (pairsN n).length ≤ 15 ∧ ∀ j, j < 15 → (match (pairsN n)[j]? with | some q => decide (q.1 < n ∧ q.2 < n ∧ (pairsN n)[j + 1]? = nxtP n q) | none => true) = true := by
    rcases (show n = 0 ∨ n = 1 ∨ n = 2 ∨ n = 3 ∨ n = 4 ∨ n = 5 ∨ n = 6 by omega) with rfl | rfl | rfl | rfl | rfl | rfl | rfl <;> decide +kernel
  refine ⟨key.1, key.2.1, fun j hj q e => ?_⟩
  have := key.2.2 j hj
  rw [e] at this
  exact of_decide_eq_true this
def Itc (n : Nat) : It := ⟨fun i _ => i < (pairsN n).length, fun i H v H' => ∃ T q, (pairsN n)[i]? = some q ∧ v = .ref T ∧ H T = none ∧ H' = upd H T (.tup [.int (q.1 : Nat), .int (q.2 : Nat)]), fun i _ => (pairsN n).length ≤ i⟩
def TnC (n : Nat) (z TP : Addr) (i : Nat) (h : Heap) : Prop := ∃ acc last, IsTup h TP acc ∧ ItemsOf (fun i v => ∃ t, v = .int (0 + i * 1) t) acc n ∧
  ((i = 0 ∧ IsC h z TP (if 2 > n then 2 else 0) last 0 1) ∨ ∃ j q, i = j + 1 ∧ (pairsN n)[j]? = some q ∧ IsC h z TP 1 last q.1 q.2)
theorem turn_cmb {P : Program} {w : World} {K : PySem.W.Frag} {tg : Expr} {n : Nat} {z TP : Addr} (hn : n ≤ 6) (hne : TP ≠ z) : Turn P w K tg (Itc n) [z, TP] z (TnC n z TP) where
  mem := by simp
  obj := fun i h st c hc => by
    obtain ⟨acc, last, hT, hi, hC⟩ := st
    have e' : c = z ∨ c = TP := by simpa using hc
    rcases e' with q | q
    · rw [q]
      rcases hC with ⟨_, hC⟩ | ⟨_, _, _, _, hC⟩
      · exact ⟨_, hC, fun v q => nomatch q⟩
      · exact ⟨_, hC, fun v q => nomatch q⟩
    · rw [q]
      obtain ⟨o, e, _, m, d⟩ := hT
      exact ⟨o, e, fun v q => by rw [d] at q; cases q⟩
  keep := fun i h h' st k => by
    obtain ⟨acc, last, ⟨o, e, c, d⟩, hi, hC⟩ := st
    refine ⟨acc, last, ⟨o, k TP (by simp) _ e, c, d⟩, hi, ?_⟩
    rcases hC with ⟨e, hC⟩ | ⟨j, q, e, hq, hC⟩
    · exact .inl ⟨e, k z (by simp) _ hC⟩
    · exact .inr ⟨j, q, e, hq, k z (by simp) _ hC⟩
  item := by
    intro X hP hw hK hc i pins s σ H E I hf st hg
    subst hP hw hK
    obtain ⟨f0, f15, fN⟩ := pairs_fact hn
    obtain ⟨acc, last, hT, hi, hC⟩ := st
    have hg' : i < (pairsN n).length := hg
    obtain ⟨q, hq⟩ : ∃ q, (pairsN n)[i]? = some q := ⟨_, List.getElem?_eq_getElem hg'⟩
    obtain ⟨q1, q2, _⟩ := fN i (by omega) q hq
    have hsz : acc.size = n := hi.1
    have it : ∀ k, k < n → ∃ t, acc.getD k .none = .int (k : Nat) t := fun k hk => by
      have hk' : k < acc.size := by rw [hsz]; exact hk
      obtain ⟨t, e⟩ := hi.2 k _ (Array.getElem?_eq_getElem hk')
      refine ⟨t, ?_⟩
      rw [Array.getD_eq_getD_getElem?, Array.getElem?_eq_getElem hk', Option.getD_some, e]
      congr 1
      omega
    have zl : z < s.heap.objs.size := by
      rcases hC with ⟨_, hC⟩ | ⟨_, _, _, _, hC⟩ <;> exact Heap.lt_size hC
    obtain ⟨t1, e1⟩ := it q.1 q1
    obtain ⟨t2, e2⟩ := it q.2 q2
    have fin : ∀ h', IsC h' z TP 1 (.ref s.heap.objs.size) q.1 q.2 → h'.get? s.heap.objs.size = some { cls := .type "tuple", data := .seq #[acc.getD q.1 .none, acc.getD q.2 .none] } → h'.objs.size = s.heap.objs.size + 1 →
        (∀ c o, c ≠ z → s.heap.get? c = some o → h'.get? c = some o) →
        ∃ u, some (Value.ref s.heap.objs.size) = some u ∧ wpAny (model X.prog X.w) X.A (letOwnedTupleGo tg (.ref z) u) (fun _ s2 => ∃ x H', Inv X pins σ H' s2 ∧ RelV x u ∧ (Itc n).yld i H x H' ∧ TnC n z TP (i + 1) s2.heap ∧ ∀ b ∈ [z, TP], H' b = none) E { s with heap := h' } := fun h' c1 c2 c3 c4 => by
      refine ⟨_, rfl, go_of (s := { s with heap := h' }) (n := cmbT) c1 rfl rfl (by decide) ?_⟩
      rw [e1, e2] at c2
      have new : ObjOk X.prog X.w (upd H s.heap.objs.size (.tup [.int (q.1 : Nat), .int (q.2 : Nat)])) h' s.heap.objs.size (.tup [.int (q.1 : Nat), .int (q.2 : Nat)]) :=
        ⟨by show 2 ≤ sizeLine; decide, [.int (q.1 : Nat) t1, .int (q.2 : Nat) t2], .cons ⟨_, rfl⟩ (.cons ⟨_, rfl⟩ .nil), ⟨_, c2, rfl, _, rfl⟩⟩
      have I1 : Inv X pins σ (upd H s.heap.objs.size (.tup [.int (q.1 : Nat), .int (q.2 : Nat)])) { s with heap := h' } :=
        I.turnedNew (t' := s.toks) (ch := [z]) (fun c o hb e => c4 c o (fun q' => hb (by simp [q'])) e) (fun c hcm => hf c (by rw [List.mem_singleton.mp hcm]; simp)) (Nat.le_refl _) new
      refine ⟨.ref s.heap.objs.size, _, I1, rfl, ⟨_, q, hq, rfl, I.hok.fresh (Nat.le_refl _), rfl⟩, ⟨acc, _, hT.extBut (fun c o hc e => c4 c o hc e) hne, hi, .inr ⟨i, q, rfl, hq, c1⟩⟩, fun c hcm => ?_⟩
      have hlt : c < s.heap.objs.size := by
        have e' : c = z ∨ c = TP := by simpa using hcm
        rcases e' with q | q
        · rw [q]; exact zl
        · rw [q]; exact hT.lt
      rw [upd_ne (Nat.ne_of_lt hlt)]
      exact (hf c hcm).1
    rcases hC with ⟨rfl, hC⟩ | ⟨j, q', rfl, hq', hC⟩
    · rw [f0] at hq
      by_cases h2 : 2 ≤ n
      · rw [if_pos h2] at hq
        cases hq
        rw [if_neg (by omega)] at hC
        exact pyNext_cmb hC (cmb_step0 hC hT hne fun h' c1 c2 c3 c4 => fin h' c1 c2 c3 c4)
      · rw [if_neg h2] at hq
        cases hq
    · obtain ⟨_, _, hx⟩ := fN j (by omega) q' hq'
      rw [hx] at hq
      have h2 : 2 ≤ acc.size := by
        have := (fN j (by omega) q' hq')
        rw [hsz]
        unfold nxtP at hq
        split at hq
        · cases hq
          have a1 : q'.1 < n := this.1
          have : q'.2 + 1 < n := q2
          omega
        · split at hq
          · cases hq
            have : q'.1 + 2 < n := q2
            omega
          · cases hq
      refine pyNext_cmb hC (cmb_step1 (a' := q.1) (b' := q.2) hC hT hne h2 (by rw [hsz]; exact hq) fun h' c1 c2 c3 c4 => fin h' c1 c2 c3 c4)
  done := by
    intro X hP hw hK hc i pins s σ H E I hf st hg
    subst hP hw hK
    obtain ⟨f0, f15, fN⟩ := pairs_fact hn
    obtain ⟨acc, last, hT, hi, hC⟩ := st
    have hsz : acc.size = n := hi.1
    have hh : X.A.in1.handled = none := I.ok.hd hc
    have hg' : (pairsN n).length ≤ i := hg
    have fin : ∀ h' e, (∀ c o, c ≠ z → s.heap.get? c = some o → h'.get? c = some o) → (∃ o, h'.get? e = some o ∧ o.cls = .type "StopIteration") →
        ∃ e', Value.ref e = .ref e' ∧ (∃ o, h'.get? e' = some o ∧ o.cls = .type "StopIteration") ∧ (none : Option Value) = none ∧ Inv X pins σ H { s with heap := h' } := fun h' e hk hs =>
      ⟨e, rfl, hs, rfl, I.turnedL (t' := s.toks) (ch := [z]) (fun c o hb q => hk c o (fun q' => hb (by simp [q'])) q) (fun c hcm => hf c (by rw [List.mem_singleton.mp hcm]; simp))⟩
    rcases hC with ⟨rfl, hC⟩ | ⟨j, q', rfl, hq', hC⟩
    · have h2 : n < 2 := by
        refine Nat.lt_of_not_le fun h2 => ?_
        rw [if_pos h2, List.getElem?_eq_none hg'] at f0
        cases f0
      rw [if_pos h2] at hC
      exact pyNext_cmb hC (cmb_stop2 hh hC fun h' e hk hs => fin h' e hk hs)
    · have hj : j < (pairsN n).length := (List.getElem?_eq_some_iff.mp hq').1
      obtain ⟨a1, a2, hx⟩ := fN j (by omega) q' hq'
      rw [List.getElem?_eq_none hg'] at hx
      have h2 : 2 ≤ acc.size := by
        rw [hsz]
        refine Nat.le_of_not_lt fun h2 => ?_
        have : (pairsN n).length = 0 := by
          rcases (show n = 0 ∨ n = 1 by omega) with rfl | rfl <;> rfl
        omega
      exact pyNext_cmb hC (cmb_stop1 hh hC hT h2 (by rw [hsz]; exact hx.symm) fun h' e hk hs => fin h' e hk hs)
  self := fun A i s Q E st h => by
    obtain ⟨acc, last, hT, hi, hC⟩ := st
    rcases hC with ⟨_, hC⟩ | ⟨_, _, _, _, hC⟩
    · exact iter_cmb hC h
    · exact iter_cmb hC h
section
variable {X : Cx} {tg e : Expr} {te : L2.St → Hp → (Int → Int → Hp → Prop) → Prop} {nm : Str} {p pos cp : Pos} {cj : Nat}
theorem pi_cmb (hc : X.calm = true) (hg : Gl X nm) (hm : X.mg nm = some (.type cmbT)) (hd : (nm == ("__debug__" : Str)) = false) (he : PRg X e te) (na : starEach [e, .Constant (.int 2) cj cp] X.env = (false, eval e X.env) :: starEach [.Constant (.int 2) cj cp] X.env) :
    PI X tg (.Call (.Name nm p) [e, .Constant (.int 2) cj cp] [] pos) (fun σ H R => te σ H fun a b H1 => a = 0 ∧ 0 ≤ b ∧ b ≤ 6 ∧ R (Itc b.toNat) H1) := by
  refine ⟨fun pins s σ H R I h => ?_⟩
  refine Call_ (ld_glob I hg hm (PyProof.Rows.callWith_type1 (args_cons (thn (he pins s σ H _ I h) fun x s1 ⟨r, a, b, t, u, v, H1, ex, hr, I1, ha, b0, b6, q⟩ => ?_) na) na rfl) hd)
  subst ex ha
  refine args_cons (wpAny_Constant_int ?_) rfl
  refine args_nil ?_
  have I1' := I1.tok (s1.toks + 1)
  refine call_cmb (s := { s1 with toks := s1.toks + 1 }) (n := b.toNat) (I1.ok.hd hc) hr (small_one (by omega) (by omega) (by omega) (by omega)) (by have := rangeSize_nat 0 b; rwa [Int.sub_zero] at this) (by omega) fun h0 h' tk acc hk0 hk hi hT hC => iter_cmb hC ?_
  have I2 : Inv X pins σ H1 { s1 with heap := h0, toks := tk } := I1.kept hk0
  have I3 : Inv X pins σ H1 { s1 with heap := h', toks := tk } := I2.kept (t' := tk) hk
  refine ⟨h0.objs.size + 1, [h0.objs.size + 1, h0.objs.size], _, _, H1, rfl, I3, turn_cmb (n := b.toNat) (TP := h0.objs.size) (by omega) (Nat.ne_of_lt (Nat.lt_succ_self _)), ⟨acc, _, hT, hi, .inl ⟨rfl, hC⟩⟩, fun c hcm => ?_, q⟩
  have hle : h0.objs.size ≤ c := by
    have e' : c = h0.objs.size + 1 ∨ c = h0.objs.size := by simpa using hcm
    rcases e' with z | z
    · rw [z]; exact Nat.le_succ _
    · rw [z]; exact Nat.le_refl _
  exact I2.fpOk hle (I2.hok.fresh hle)
end
end Ev
namespace Ev
open PySem PySem.Spec PyProof.Rows L2

/-! ### a list beside the memory -/
section
variable {K : PySem.W.Frag} {FA : Nat → Addr} {ρ ρ' ρ0 : List Addr} {H H' H0 : Hp} {M : Mem} {D : Addr} {vs vs' : List V}
theorem far0 (hD : H D = some (.lst vs)) : Ext0 K ρ H ρ (upd H D (.lst vs')) := by
  refine ⟨fun _ _ h => h, fun b ys h => ?_⟩
  rcases h with (h | ⟨o, h⟩) | h
  · refine .inl (.inl ?_)
    rw [upd_ne (fun e => by rw [e, hD] at h; cases h)]
    exact h
  · refine .inl (.inr ⟨o, ?_⟩)
    rw [upd_ne (fun e => by rw [e, hD] at h; cases h)]
    exact h
  · exact .inr h
theorem Ext.far (x : Ext K ρ0 H0 ρ H) (h0 : H0 D = none) (hD : H D = some (.lst vs)) : Ext K ρ0 H0 ρ (upd H D (.lst vs')) := by
  have f : Ext0 K ρ H ρ (upd H D (.lst vs')) := far0 hD
  refine ⟨⟨fun l a h => x.pre l a h, fun b xs h => f.tup _ _ (x.tup _ _ h)⟩, fun b o h n => ?_⟩
  obtain ⟨h1, h2⟩ := x.fr b o h n
  refine ⟨?_, h2⟩
  rw [upd_ne (fun e => by rw [e, h0] at h; cases h)]
  exact h1
theorem Rel.far (r : Rel K FA ρ M H) (hD : H D = some (.lst vs)) (n : ∀ l : Nat, ρ[l]? ≠ some D) : Rel K FA ρ M (upd H D (.lst vs')) :=
  ⟨r.len, r.inj, fun l c a h1 h2 => (r.cell l c a h1 h2).mono0 (far0 hD) fun o ho => by
    rw [upd_ne (fun e => n l (by rw [← e]; exact h2))]
    exact ho⟩
theorem Rel.notin (r : Rel K FA ρ M H) (hD : H D = none) : ∀ l : Nat, ρ[l]? ≠ some D := fun l e => by
  have hl : l < M.length := by
    rw [← r.len]
    exact getElem?_len e
  obtain ⟨o, ho⟩ := (r.cell l _ D (List.getElem?_eq_getElem hl) e).there
  rw [hD] at ho
  cases ho
/-- .. comes into the memory -/
theorem adopt (x : Ext K ρ0 H0 ρ H) (h0 : H0 D = none) (r : Rel K FA ρ M H) (hD : H D = some (.lst vs)) (n : ∀ l : Nat, ρ[l]? ≠ some D) {xs : List Ev.D} (rv : RelDs K FA ρ H xs vs) :
    Ext K ρ0 H0 (ρ ++ [D]) H ∧ Rel K FA (ρ ++ [D]) (M ++ [.lst xs]) H ∧ RelD K FA (ρ ++ [D]) H (.loc M.length) (.ref D) := by
  have pre : ∀ (l : Nat) (a : Addr), ρ[l]? = some a → (ρ ++ [D])[l]? = some a := fun l a h => by
    rw [List.getElem?_append_left (getElem?_len h)]
    exact h
  have at_ : (ρ ++ [D])[M.length]? = some D := by
    rw [← r.len, List.getElem?_append_right (Nat.le_refl _), Nat.sub_self]
    rfl
  have ex : Ext0 K ρ H (ρ ++ [D]) H := ⟨pre, fun _ _ h => h⟩
  have old : ∀ (l : Nat) (c : Cell), (M ++ [Cell.lst xs])[l]? = some c → (M[l]? = some c ∧ l < M.length) ∨ (l = M.length ∧ c = .lst xs) := fun l c h => by
    by_cases hl : l < M.length
    · rw [List.getElem?_append_left hl] at h
      exact .inl ⟨h, hl⟩
    · have h2 := getElem?_len h
      rw [List.length_append] at h2
      have e : l = M.length := by
        have : [Cell.lst xs].length = 1 := rfl
        omega
      rw [e, List.getElem?_append_right (Nat.le_refl _), Nat.sub_self] at h
      exact .inr ⟨e, (Option.some.inj h).symm⟩
  have oldA : ∀ (l : Nat) (a : Addr), l < M.length → (ρ ++ [D])[l]? = some a → ρ[l]? = some a := fun l a hl h => by
    rw [List.getElem?_append_left (by rw [r.len]; exact hl)] at h
    exact h
  refine ⟨⟨⟨fun l a h => pre l a (x.pre l a h), x.tup⟩, fun b o h hn => ?_⟩, ⟨by rw [List.length_append, List.length_append, r.len] <;> rfl, fun l k a c d h1 h2 h3 h4 => ?_, fun l c a h1 h2 => ?_⟩, D, rfl, at_⟩
  · obtain ⟨q1, q2⟩ := x.fr b o h hn
    refine ⟨q1, fun l e => ?_⟩
    by_cases hl : l < ρ.length
    · rw [List.getElem?_append_left hl] at e
      exact q2 l e
    · rw [List.getElem?_append_right (by omega)] at e
      have e2 : b ∈ [D] := List.mem_of_getElem? e
      rw [List.mem_singleton.mp e2, h0] at h
      cases h
  · rcases old l c h1 with ⟨h1, hl⟩ | ⟨e1, e2⟩
    · have h3 := oldA l a hl h3
      rcases old k d h2 with ⟨h2, hk⟩ | ⟨e3, e4⟩
      · exact r.inj l k a c d h1 h2 h3 (oldA k a hk h4)
      · subst e3
        rw [at_] at h4
        cases h4
        exact absurd h3 (n l)
    · subst e1
      rw [at_] at h3
      cases h3
      rcases old k d h2 with ⟨h2, hk⟩ | ⟨e3, e4⟩
      · exact absurd (oldA k D hk h4) (n k)
      · exact e3.symm
  · rcases old l c h1 with ⟨h1, hl⟩ | ⟨e1, e2⟩
    · exact (r.cell l c a h1 (oldA l a hl h2)).mono0 ex fun _ h => h
    · subst e1 e2
      rw [at_] at h2
      cases h2
      exact ⟨vs, hD, rv.mono0 ex⟩
theorem bind_assoc {α β γ : Type} (r : R α) (f : α → Mem → R β) (g : β → Mem → R γ) : (r.bind f).bind g = r.bind fun a M => (f a M).bind g := by
  cases r <;> rfl
/-- in a row, the end seen from further back -/
theorem Post.bind0 {α β γ δ : Type} {RA : List Addr → Hp → α → β → Prop} {RC : List Addr → Hp → γ → δ → Prop} {r : R α} {f : α → Mem → R γ} {Q : δ → Hp → Prop} {S : β → Hp → Prop} (h : Post K FA RC (r.bind f) ρ0 H0 Q)
    (hs : ∀ a M' ρ' H' b, r = .ok a M' → Ext K ρ H ρ' H' → Rel K FA ρ' M' H' → RA ρ' H' a b → Post K FA RC (f a M') ρ0 H0 Q → S b H') : Post K FA RA r ρ H S := by
  cases r with
  | bad => exact h
  | exc c p N => exact h
  | ok a M' =>
    intro ρ' H' b e rl q
    exact hs a M' ρ' H' b rfl e rl q h
end
/-! ### what is walked -/
section
variable {S : Sta} {C : Cm} {n : Nat} {X : Cx} {pos p : Pos} {a : E} {x tg : Expr}
theorem src_lst {ρ : List Addr} {H : Hp} {l m : Nat} {b : Addr} (hb : ρ[l]? = some b) : SrcOk S ρ H (.lst l m) (Itl S.K b) := by
  intro ρ' H' M' ex r
  have hb' := ex.pre _ _ hb
  refine ⟨fun i d h => ?_, fun i h => ?_⟩
  · have h' : ((lstAt M' l).bind fun xs => xs[i]?) = some d := h
    cases q : lstAt M' l with
    | none =>
      rw [q] at h'
      cases h'
    | some xs =>
      rw [q] at h'
      obtain ⟨vs, sq, rv⟩ := r.lstAt q hb'
      obtain ⟨v, e, rd⟩ := rv.get h'
      refine ⟨⟨vs, v, sq, e⟩, fun y H2 hy => ?_⟩
      obtain ⟨rfl, hy⟩ := hy
      have e2 := hy vs sq
      rw [e] at e2
      cases e2
      exact ⟨fun _ _ h => h, rd⟩
  · have h' : (match lstAt M' l with | some xs => decide (xs.length ≤ i) | none => false) = true := h
    cases q : lstAt M' l with
    | none =>
      rw [q] at h'
      cases h'
    | some xs =>
      rw [q] at h'
      obtain ⟨vs, sq, rv⟩ := r.lstAt q hb'
      exact ⟨vs, sq, by rw [rv.length]; exact of_decide_eq_true h'⟩
theorem src_tup {ρ : List Addr} {H : Hp} {xs : List D} {vs : List V} {b : Addr} (sq : SqT S.K H b vs) (rv : RelDs S.K S.FA ρ H xs vs) : SrcOk S ρ H (.tup xs) (Itt S.K b) := by
  intro ρ' H' M' ex r
  have sq' := ex.tup _ _ sq
  have rv' := rv.mono0 ex
  refine ⟨fun i d h => ?_, fun i h => ?_⟩
  · obtain ⟨v, e, rd⟩ := rv'.get (show xs[i]? = some d from h)
    refine ⟨⟨vs, v, sq', e⟩, fun y H2 hy => ?_⟩
    obtain ⟨rfl, hy⟩ := hy
    have e2 := hy vs sq'
    rw [e] at e2
    cases e2
    exact ⟨fun _ _ h => h, rd⟩
  · exact ⟨vs, sq', by rw [rv'.length]; exact of_decide_eq_true (show decide (xs.length ≤ i) = true from h)⟩
theorem src_rng {ρ : List Addr} {H : Hp} {lo : Int} {m : Nat} : SrcOk S ρ H (.rng lo m) (Itr lo m) := by
  intro ρ' H' M' ex r
  refine ⟨fun i d h => ?_, fun i h => ?_⟩
  · have h' : (if i < m then some (D.int (lo + i)) else none) = some d := h
    by_cases hi : i < m
    · rw [if_pos hi] at h'
      cases h'
      exact ⟨hi, fun y H2 hy => ⟨fun b u e => by rw [hy.1]; exact e, hy.2⟩⟩
    · rw [if_neg hi] at h'
      cases h'
  · show m ≤ i
    exact of_decide_eq_true (show decide (m ≤ i) = true from h)
/-- a list or a tuple, as a walk -/
def KSrc (S : Sta) (ρ : List Addr) (H : Hp) (src : Src) (k : Bool) (b : Addr) : Prop :=
  (∃ l m, src = .lst l m ∧ k = false ∧ ρ[l]? = some b) ∨ ∃ xs vs, src = .tup xs ∧ k = true ∧ SqT S.K H b vs ∧ RelDs S.K S.FA ρ H xs vs
theorem KSrc.mono0 {ρ ρ' : List Addr} {H H' : Hp} {src : Src} {k : Bool} {b : Addr} (q : KSrc S ρ H src k b) (ex : Ext0 S.K ρ H ρ' H') : KSrc S ρ' H' src k b := by
  rcases q with ⟨l, m, e, ek, hb⟩ | ⟨xs, vs, e, ek, sq, rv⟩
  · exact .inl ⟨l, m, e, ek, ex.pre _ _ hb⟩
  · exact .inr ⟨xs, vs, e, ek, ex.tup _ _ sq, rv.mono0 ex⟩
theorem KSrc.sq {ρ : List Addr} {H : Hp} {M : Mem} {src : Src} {k : Bool} {b : Addr} (q : KSrc S ρ H src k b) (r : Rel S.K S.FA ρ M H) :
    ∃ vs, SqK k S.K H b vs ∧ (∀ i d, src.get i M = some d → ∃ v, vs[i]? = some v ∧ RelD S.K S.FA ρ H d v) ∧ ∀ i, src.done i M = true → vs.length ≤ i := by
  rcases q with ⟨l, m, e, ek, hb⟩ | ⟨xs, vs, e, ek, sq, rv⟩
  · subst e ek
    have hl : l < M.length := by
      rw [← r.len]
      exact getElem?_len hb
    have q : ∃ xs, lstAt M l = some xs := by
      unfold lstAt
      rw [List.getElem?_eq_getElem hl]
      cases M[l] with
      | lst ys => exact ⟨ys, rfl⟩
      | rol ys => exact ⟨ys, rfl⟩
    obtain ⟨xs, q⟩ := q
    obtain ⟨vs, sq, rv⟩ := r.lstAt q hb
    refine ⟨vs, sq, fun i d h => ?_, fun i h => ?_⟩
    · have h' : ((lstAt M l).bind fun xs => xs[i]?) = some d := h
      rw [q] at h'
      exact rv.get h'
    · have h' : (match lstAt M l with | some xs => decide (xs.length ≤ i) | none => false) = true := h
      rw [q] at h'
      rw [rv.length]
      exact of_decide_eq_true h'
  · subst e ek
    refine ⟨vs, sq, fun i d h => rv.get (show xs[i]? = some d from h), fun i h => ?_⟩
    rw [rv.length]
    exact of_decide_eq_true (show decide (xs.length ≤ i) = true from h)
theorem zip_get {a b : Src} {i : Nat} {M : Mem} {d : D} (h : (Src.zip a b).get i M = some d) : ∃ x y, a.get i M = some x ∧ b.get i M = some y ∧ d = .tup [x, y] := by
  have h' : (match a.get i M, b.get i M with | some x, some y => some (D.tup [x, y]) | _, _ => none) = some d := h
  cases q3 : a.get i M with
  | none =>
    rw [q3] at h'
    cases h'
  | some dx =>
    cases q4 : b.get i M with
    | none =>
      rw [q3, q4] at h'
      cases h'
    | some dy =>
      rw [q3, q4] at h'
      exact ⟨dx, dy, rfl, rfl, (Option.some.inj h').symm⟩
theorem zip_done {a b : Src} {i : Nat} {M : Mem} (h : (Src.zip a b).done i M = true) : a.done i M = true ∨ b.done i M = true := by
  have h' : (a.done i M || ((a.get i M).isSome && b.done i M)) = true := h
  rcases Bool.or_eq_true_iff.mp h' with h1 | h1
  · exact .inl h1
  · exact .inr (Bool.and_eq_true_iff.mp h1).2
theorem src_zip {ρ : List Addr} {H : Hp} {a b : Src} {k1 k2 : Bool} {p q : Addr} (qa : KSrc S ρ H a k1 p) (qb : KSrc S ρ H b k2 q) : SrcOk S ρ H (.zip a b) (Itz2 S.K k1 k2 p q) := by
  intro ρ' H' M' ex r
  obtain ⟨vs, sq, g1, n1⟩ := (qa.mono0 ex).sq r
  obtain ⟨ws, sq2, g2, n2⟩ := (qb.mono0 ex).sq r
  refine ⟨fun i d h => ?_, fun i h => ?_⟩
  · obtain ⟨dx, dy, e1, e2, rfl⟩ := zip_get h
    obtain ⟨v, e, rd⟩ := g1 _ _ e1
    obtain ⟨w, e2, rd2⟩ := g2 _ _ e2
    refine ⟨⟨vs, ws, v, w, sq, sq2, e, e2⟩, fun y H2 hy => ?_⟩
    obtain ⟨T, v', w', rfl, hT, rfl, h1, h2⟩ := hy
    have e3 := h1 vs sq
    have e4 := h2 ws sq2
    rw [e] at e3
    rw [e2] at e4
    cases e3
    cases e4
    have sm : Same H' (upd H' T (.tup [v, w])) := same_new hT
    have em : Ext S.K ρ' H' ρ' (upd H' T (.tup [v, w])) := Ext.same sm
    exact ⟨sm, T, [v, w], rfl, .inl (.inl upd_same), v, [w], rfl, rd.mono em, w, [], rfl, rd2.mono em, rfl⟩
  · refine ⟨vs, ws, sq, sq2, ?_⟩
    rcases zip_done h with h1 | h1
    · exact .inl (n1 _ h1)
    · exact .inr (n2 _ h1)
theorem src_enum {ρ : List Addr} {H : Hp} {a : Src} {k : Bool} {b : Addr} (qa : KSrc S ρ H a k b) : SrcOk S ρ H (.enum a) (Ite1 S.K k b) := by
  intro ρ' H' M' ex r
  obtain ⟨vs, sq, g1, n1⟩ := (qa.mono0 ex).sq r
  refine ⟨fun i d h => ?_, fun i h => ⟨vs, sq, n1 i h⟩⟩
  have h' : (a.get i M').map (fun x => D.tup [.int i, x]) = some d := h
  obtain ⟨dx, h2, rfl⟩ := map_some h'
  obtain ⟨v, e, rd⟩ := g1 _ _ h2
  refine ⟨⟨vs, v, sq, e⟩, fun y H2 hy => ?_⟩
  obtain ⟨T, v', rfl, hT, rfl, h1⟩ := hy
  have e3 := h1 vs sq
  rw [e] at e3
  cases e3
  have sm : Same H' (upd H' T (.tup [.int (i : Nat), v])) := same_new hT
  have em : Ext S.K ρ' H' ρ' (upd H' T (.tup [.int (i : Nat), v])) := Ext.same sm
  exact ⟨sm, T, [.int (i : Nat), v], rfl, .inl (.inl upd_same), .int (i : Nat), [v], rfl, rfl, v, [], rfl, rd.mono em, rfl⟩
theorem src_enumz {ρ : List Addr} {H : Hp} {a b : Src} {k1 k2 : Bool} {p q : Addr} (qa : KSrc S ρ H a k1 p) (qb : KSrc S ρ H b k2 q) : SrcOk S ρ H (.enum (.zip a b)) (Itez S.K k1 k2 p q) := by
  intro ρ' H' M' ex r
  obtain ⟨vs, sq, g1, n1⟩ := (qa.mono0 ex).sq r
  obtain ⟨ws, sq2, g2, n2⟩ := (qb.mono0 ex).sq r
  refine ⟨fun i d h => ?_, fun i h => ?_⟩
  · have h' : ((Src.zip a b).get i M').map (fun x => D.tup [.int i, x]) = some d := h
    obtain ⟨dz, h2, rfl⟩ := map_some h'
    obtain ⟨dx, dy, e1, e2, rfl⟩ := zip_get h2
    obtain ⟨v, e, rd⟩ := g1 _ _ e1
    obtain ⟨w, e2, rd2⟩ := g2 _ _ e2
    refine ⟨⟨vs, ws, v, w, sq, sq2, e, e2⟩, fun y H2 hy => ?_⟩
    obtain ⟨T1, T2, v', w', rfl, hT1, hT2, rfl, h1, h2⟩ := hy
    have e3 := h1 vs sq
    have e4 := h2 ws sq2
    rw [e] at e3
    rw [e2] at e4
    cases e3
    cases e4
    have sm1 : Same H' (upd H' T1 (.tup [v, w])) := same_new hT1
    have sm2 : Same (upd H' T1 (.tup [v, w])) (upd (upd H' T1 (.tup [v, w])) T2 (.tup [.int (i : Nat), .ref T1])) := same_new hT2
    have sm : Same H' (upd (upd H' T1 (.tup [v, w])) T2 (.tup [.int (i : Nat), .ref T1])) := fun a o h => sm2 a o (sm1 a o h)
    have em : Ext S.K ρ' H' ρ' (upd (upd H' T1 (.tup [v, w])) T2 (.tup [.int (i : Nat), .ref T1])) := Ext.same sm
    have t1 : (upd (upd H' T1 (.tup [v, w])) T2 (.tup [.int (i : Nat), .ref T1])) T1 = some (.tup [v, w]) := sm2 _ _ upd_same
    exact ⟨sm, T2, [.int (i : Nat), .ref T1], rfl, .inl (.inl upd_same), .int (i : Nat), [.ref T1], rfl, rfl, .ref T1, [], rfl, ⟨T1, [v, w], rfl, .inl (.inl t1), v, [w], rfl, rd.mono em, w, [], rfl, rd2.mono em, rfl⟩, rfl⟩
  · refine ⟨vs, ws, sq, sq2, ?_⟩
    have h' : (Src.zip a b).done i M' = true := h
    rcases zip_done h' with h1 | h1
    · exact .inl (n1 _ h1)
    · exact .inr (n2 _ h1)
theorem src_cmb {ρ : List Addr} {H : Hp} {m : Nat} : SrcOk S ρ H (.comb m) (Itc m) := by
  intro ρ' H' M' ex r
  refine ⟨fun i d h => ?_, fun i h => ?_⟩
  · have h' : (pairsN m)[i]?.map (fun q => D.tup [.int (q.1 : Nat), .int (q.2 : Nat)]) = some d := h
    obtain ⟨q, h2, rfl⟩ := map_some h'
    refine ⟨(List.getElem?_eq_some_iff.mp h2).1, fun y H2 hy => ?_⟩
    obtain ⟨T, q', e, rfl, hT, rfl⟩ := hy
    rw [h2] at e
    cases e
    have sm : Same H' (upd H' T (.tup [.int (q.1 : Nat), .int (q.2 : Nat)])) := same_new hT
    exact ⟨sm, T, [.int (q.1 : Nat), .int (q.2 : Nat)], rfl, .inl (.inl upd_same), .int (q.1 : Nat), [.int (q.2 : Nat)], rfl, rfl, .int (q.2 : Nat), [], rfl, rfl, rfl⟩
  · have h' : decide ((pairsN m).length ≤ i) = true := h
    have h2 : (pairsN m).length ≤ i := of_decide_eq_true h'
    exact h2
end
end Ev
namespace Ev
open PySem PySem.Spec PyProof.Rows L2

section
variable {S : Sta} {C : Cm} {n : Nat} {X : Cx} {pos p : Pos} {a b : E} {x y tg : Expr}
/-- a list or a tuple -/
theorem i_seq (G : Good S C n X) (ha : PE X x (tE S n a)) : PI X tg x (tI S n (.seq a)) := by
  refine ⟨fun pins s σ H R I h => ?_⟩
  obtain ⟨ρ, M, τ, r, rs, h⟩ := h
  have main : tE S n a σ H fun v H1 => ∃ c, v = .ref c ∧ ((∃ xs, SqL X.K H1 c xs ∧ R (Itl X.K c) H1) ∨ (∃ xs, SqT X.K H1 c xs ∧ R (Itt X.K c) H1)) := by
    rw [G.K]
    refine ⟨ρ, M, τ, r, rs, Post.bind h fun d M1 ρ1 H1 v e1 x1 r1 d1 h1 => ?_⟩
    obtain ⟨src, h2, h3⟩ := post_ofO h1
    cases d with
    | tup xs =>
      cases h2
      obtain ⟨c, vs, rfl, sq, rv⟩ := d1
      exact ⟨c, rfl, .inr ⟨vs, sq, h3.at r1 (src_tup sq rv)⟩⟩
    | loc l =>
      obtain ⟨xs, q, rfl⟩ := map_some h2
      obtain ⟨c, rfl, hc⟩ := d1
      obtain ⟨vs, sq, rv⟩ := r1.lstAt q hc
      exact ⟨c, rfl, .inl ⟨vs, sq, h3.at r1 (src_lst hc)⟩⟩
    | _ => cases h2
  refine thn (ha.run pins s σ H _ I main) fun v s1 ⟨u, H1, I1, r1, q1⟩ => ?_
  obtain ⟨c, rfl, q⟩ := q1
  cases r1
  rcases q with ⟨xs, sq, hR⟩ | ⟨xs, sq, hR⟩
  · obtain ⟨its, rv, pl, _⟩ := I1.list sq
    exact wpAny_pyIter_list pl.isList (pi_one I1 _ (turn_list c _) ⟨_, Heap.get?_push_size _ rfl, rfl, rfl⟩ hR)
  · obtain ⟨its, rv, pl, _⟩ := I1.tuple sq
    exact wpAny_pyIter_tuple (show s1.heap.IsTuple c its.toArray from pl) (pi_one I1 _ (turn_tuple c _) ⟨_, Heap.get?_push_size _ rfl, rfl, rfl⟩ hR)
theorem i_rng1 (G : Good S C n X) (F : Fns S n) {es : Es} (hf : ("range" : Str) ∈ S.free) (hl : C.sc.names.lookup ("range" : Str) = some .globalImplicit) (ha : PA X [x] (tEs S n es)) (hs : isStar x = false) (he : es.len = 1) : PI X tg (.Call (.Name ("range" : Str) p) [x] [] pos) (tI S n (.rng es)) := by
  refine (pi_range1 (G.gl hl) (G.fr F hf) ha (by rw [starEach_of hs] <;> rfl)).imp fun σ H R h => ?_
  obtain ⟨ρ, M, τ, r, rs, h⟩ := h
  refine ⟨ρ, M, τ, r, rs, Post.bind h fun ds M1 ρ1 H1 vs e1 x1 r1 d1 h1 => ?_⟩
  obtain ⟨src, h2, h3⟩ := post_ofO h1
  have hl := evs_len e1
  rw [he] at hl
  match ds, hl, d1, h2 with
  | [d], _, d1, h2 =>
    cases d with
    | int j =>
      have h2' : (if -(2 ^ 62) ≤ j ∧ j < 2 ^ 62 then some (Src.rng 0 j.toNat) else none) = some src := h2
      split at h2'
      case isFalse => cases h2'
      case isTrue c =>
      cases h2'
      obtain ⟨v, r', rfl, q1, q2⟩ := d1
      obtain rfl : r' = [] := q2
      obtain rfl : v = .int j := q1
      exact ⟨j, rfl, c.1, c.2, h3.at r1 src_rng⟩
    | _ => cases h2
theorem i_rng2 (G : Good S C n X) (F : Fns S n) {es : Es} (hf : ("range" : Str) ∈ S.free) (hl : C.sc.names.lookup ("range" : Str) = some .globalImplicit) (ha : PA X [x, y] (tEs S n es)) (hs : isStar x = false) (hs2 : isStar y = false) (he : es.len = 2) : PI X tg (.Call (.Name ("range" : Str) p) [x, y] [] pos) (tI S n (.rng es)) := by
  refine (pi_range2 (G.gl hl) (G.fr F hf) ha (by rw [starEach_of hs, starEach_of hs2] <;> rfl) (by rw [starEach_of hs2] <;> rfl)).imp fun σ H R h => ?_
  obtain ⟨ρ, M, τ, r, rs, h⟩ := h
  refine ⟨ρ, M, τ, r, rs, Post.bind h fun ds M1 ρ1 H1 vs e1 x1 r1 d1 h1 => ?_⟩
  obtain ⟨src, h2, h3⟩ := post_ofO h1
  have hl := evs_len e1
  rw [he] at hl
  match ds, hl, d1, h2 with
  | [d, e], _, d1, h2 =>
    cases d with
    | int i =>
      cases e with
      | int j =>
        have h2' : (if -(2 ^ 62) ≤ i ∧ i < 2 ^ 62 ∧ -(2 ^ 62) ≤ j ∧ j < 2 ^ 62 then some (Src.rng i (j - i).toNat) else none) = some src := h2
        split at h2'
        case isFalse => cases h2'
        case isTrue c =>
        cases h2'
        obtain ⟨v, r', rfl, q1, w, r'', rfl, q2, q3⟩ := d1
        obtain rfl : r'' = [] := q3
        obtain rfl : v = .int i := q1
        obtain rfl : w = .int j := q2
        exact ⟨i, j, rfl, c, h3.at r1 src_rng⟩
      | _ => cases h2
    | _ => cases h2
/-- what a sequence's walk is -/
theorem seq_src {ρ : List Addr} {H : Hp} {M : Mem} {d : D} {v : V} {src : Src} (r : Rel S.K S.FA ρ M H) (h : srcOf M d = some src) (rd : RelD S.K S.FA ρ H d v) :
    (∃ l m b, src = .lst l m ∧ d = .loc l ∧ v = .ref b ∧ ρ[l]? = some b) ∨ ∃ xs b vs, src = .tup xs ∧ v = .ref b ∧ SqT S.K H b vs ∧ RelDs S.K S.FA ρ H xs vs := by
  cases d with
  | tup xs =>
    cases h
    obtain ⟨c, vs, rfl, sq, rv⟩ := rd
    exact .inr ⟨xs, c, vs, rfl, rfl, sq, rv⟩
  | loc l =>
    obtain ⟨xs, q, rfl⟩ := map_some h
    obtain ⟨c, rfl, hc⟩ := rd
    exact .inl ⟨l, _, c, rfl, rfl, rfl, hc⟩
  | _ => cases h
theorem seq_k {ρ : List Addr} {H : Hp} {M : Mem} {d : D} {v : V} {src : Src} (r : Rel S.K S.FA ρ M H) (h : srcOf M d = some src) (rd : RelD S.K S.FA ρ H d v) :
    ∃ k b, v = .ref b ∧ KSrc S ρ H src k b := by
  rcases seq_src r h rd with ⟨l, m, b, e1, e2, e3, hb⟩ | ⟨xs, b, vs, e1, e3, sq, rv⟩
  · exact ⟨false, b, e3, .inl ⟨l, m, e1, rfl, hb⟩⟩
  · exact ⟨true, b, e3, .inr ⟨xs, vs, e1, rfl, sq, rv⟩⟩
theorem ksrc_zip {ρ : List Addr} {H : Hp} {a b z : Src} {k1 k2 : Bool} {p q : Addr} (qa : KSrc S ρ H a k1 p) (qb : KSrc S ρ H b k2 q) (h : zipSrc a b = some z) : z = .zip a b := by
  rcases qa with ⟨l, m, rfl, _, _⟩ | ⟨xs, vs, rfl, _, _, _⟩ <;> rcases qb with ⟨l', m', rfl, _, _⟩ | ⟨xs', vs', rfl, _, _, _⟩ <;> exact (Option.some.inj h).symm
theorem ksrc_enum {ρ : List Addr} {H : Hp} {a z : Src} {k : Bool} {p : Addr} (qa : KSrc S ρ H a k p) (h : enumSrc a = some z) : z = .enum a := by
  rcases qa with ⟨l, m, rfl, _, _⟩ | ⟨xs, vs, rfl, _, _, _⟩ <;> exact (Option.some.inj h).symm
/-- the two walks of a zip -/
theorem zip_read {σ : L2.St} {H : Hp} {ρ : List Addr} {M : Mem} {τ : Sl} {Qv : List V → Hp → Prop} {g : Src → Mem → R Src} {RR : It → Hp → Prop}
    (r : Rel S.K S.FA ρ M H) (rs : RelS S.K S.FA ρ H τ σ)
    (h : Post S.K S.FA (SrcOk S) (((ev (S.cfg n) a τ M).bind fun x M => .ofO (srcOf M x) M).bind fun x M => ((ev (S.cfg n) b τ M).bind fun y M => .ofO (srcOf M y) M).bind fun y M => (R.ofO (zipSrc x y) M).bind g) ρ H RR)
    (hq : ∀ (ρ1 : List Addr) (H1 : Hp) (M1 : Mem) (s1 s2 : Src) (k1 k2 : Bool) (p q : Addr), Rel S.K S.FA ρ1 M1 H1 → KSrc S ρ1 H1 s1 k1 p → KSrc S ρ1 H1 s2 k2 q → Post S.K S.FA (SrcOk S) (g (.zip s1 s2) M1) ρ1 H1 RR → Qv [.ref p, .ref q] H1) :
    tCons (tE S n a) (tCons (tE S n b) tNil) σ H Qv := by
  rw [bind_assoc] at h
  refine ⟨ρ, M, τ, r, rs, Post.bind h fun d M1 ρ1 H1 v e1 x1 r1 d1 h1 => ?_⟩
  have h1' : ∃ src, srcOf M1 d = some src ∧ Post S.K S.FA (SrcOk S) (((ev (S.cfg n) b τ M1).bind fun y M => .ofO (srcOf M y) M).bind fun y M => (R.ofO (zipSrc src y) M).bind g) ρ1 H1 RR := by
    cases q : srcOf M1 d with
    | none =>
      rw [q] at h1
      exact h1.elim
    | some src =>
      rw [q] at h1
      exact ⟨src, rfl, h1⟩
  obtain ⟨src, e2, h2⟩ := h1'
  rw [bind_assoc] at h2
  refine ⟨ρ1, M1, τ, r1, rs.mono x1, Post.bind h2 fun d' M2 ρ2 H2 v' e3 x2 r2 d2 h3 => ?_⟩
  have h3' : ∃ src', srcOf M2 d' = some src' ∧ Post S.K S.FA (SrcOk S) ((R.ofO (zipSrc src src') M2).bind g) ρ2 H2 RR := by
    cases q : srcOf M2 d' with
    | none =>
      rw [q] at h3
      exact h3.elim
    | some src =>
      rw [q] at h3
      exact ⟨src, rfl, h3⟩
  obtain ⟨src', e4, h4⟩ := h3'
  obtain ⟨k1, p, rfl, q1⟩ := seq_k r1 e2 d1
  obtain ⟨k2, q, rfl, q2⟩ := seq_k r2 e4 d2
  have q1' := q1.mono0 x2.toExt0
  cases ez : zipSrc src src' with
  | none =>
    rw [ez] at h4
    exact h4.elim
  | some z =>
    rw [ez] at h4
    rw [ksrc_zip q1' q2 ez] at h4
    exact hq _ _ _ _ _ _ _ _ _ r2 q1' q2 h4
theorem bind_okk {α : Type} (r : R α) : r.bind (fun a M => .ok a M) = r := by
  cases r <;> rfl
theorem i_zip (G : Good S C n X) (F : Fns S n) (hf : ("zip" : Str) ∈ S.free) (hl : C.sc.names.lookup ("zip" : Str) = some .globalImplicit) (ha : PE X x (tE S n a)) (hb : PE X y (tE S n b)) (hs : isStar x = false) (hs2 : isStar y = false) :
    PI X tg (.Call (.Name ("zip" : Str) p) [x, y] [] pos) (tI S n (.zip (.seq a) (.seq b))) := by
  refine (pi_zip2 (G.gl hl) (G.fr F hf) (pa_cons ha (pa_cons hb pa_nil (starEach_of hs2)) (starEach_of hs)) (starEach_of hs) (by rw [starEach_of hs2] <;> rfl)).imp fun σ H R h => ?_
  rw [G.K]
  obtain ⟨ρ, M, τ, r, rs, h⟩ := h
  have h0 : Post S.K S.FA (SrcOk S) (((ev (S.cfg n) a τ M).bind fun x M => .ofO (srcOf M x) M).bind fun x M => ((ev (S.cfg n) b τ M).bind fun y M => .ofO (srcOf M y) M).bind fun y M => .ofO (zipSrc x y) M) ρ H R := h
  refine zip_read (RR := R) (g := fun a M => .ok a M) r rs ?_ fun ρ1 H1 M1 s1 s2 k1 k2 p q r1 q1 q2 h1 => ?_
  · have e : ∀ (x y : Src) (M : Mem), (Ev.R.ofO (zipSrc x y) M).bind (fun a M => .ok a M) = Ev.R.ofO (zipSrc x y) M := fun x y M => bind_okk _
    simp only [e]
    exact h0
  · obtain ⟨vs, sq, _⟩ := q1.sq r1
    obtain ⟨ws, sq2, _⟩ := q2.sq r1
    exact ⟨k1, k2, p, q, vs, ws, rfl, sq, sq2, h1.at r1 (src_zip q1 q2)⟩
theorem i_enumz (G : Good S C n X) (F : Fns S n) {p' pos' : Pos} (hf : ("enumerate" : Str) ∈ S.free) (hl : C.sc.names.lookup ("enumerate" : Str) = some .globalImplicit) (hf2 : ("zip" : Str) ∈ S.free) (hl2 : C.sc.names.lookup ("zip" : Str) = some .globalImplicit)
    (ha : PE X x (tE S n a)) (hb : PE X y (tE S n b)) (hs : isStar x = false) (hs2 : isStar y = false) :
    PI X tg (.Call (.Name ("enumerate" : Str) p) [.Call (.Name ("zip" : Str) p') [x, y] [] pos'] [] pos) (tI S n (.enum (.zip (.seq a) (.seq b)))) := by
  refine (pi_enumz (G.gl hl) (G.fr F hf) (G.gl hl2) (G.fr F hf2) (pa_cons ha (pa_cons hb pa_nil (starEach_of hs2)) (starEach_of hs)) (starEach_of hs) (by rw [starEach_of hs2] <;> rfl)).imp fun σ H R h => ?_
  rw [G.K]
  obtain ⟨ρ, M, τ, r, rs, h⟩ := h
  have h0 : Post S.K S.FA (SrcOk S) ((((ev (S.cfg n) a τ M).bind fun x M => .ofO (srcOf M x) M).bind fun x M => ((ev (S.cfg n) b τ M).bind fun y M => .ofO (srcOf M y) M).bind fun y M => .ofO (zipSrc x y) M).bind fun x M => .ofO (enumSrc x) M) ρ H R := h
  refine zip_read (RR := R) (g := fun x M => .ofO (enumSrc x) M) r rs ?_ fun ρ1 H1 M1 s1 s2 k1 k2 p q r1 q1 q2 h1 => ?_
  · rw [bind_assoc] at h0
    have e : (fun (x : Src) (M : Mem) => (((ev (S.cfg n) b τ M).bind fun y M => Ev.R.ofO (srcOf M y) M).bind fun y M => Ev.R.ofO (zipSrc x y) M).bind fun x M => Ev.R.ofO (enumSrc x) M)
        = fun (x : Src) (M : Mem) => ((ev (S.cfg n) b τ M).bind fun y M => Ev.R.ofO (srcOf M y) M).bind fun y M => (Ev.R.ofO (zipSrc x y) M).bind fun x M => Ev.R.ofO (enumSrc x) M := by
      funext x M
      exact bind_assoc _ _ _
    rw [e] at h0
    exact h0
  · obtain ⟨vs, sq, _⟩ := q1.sq r1
    obtain ⟨ws, sq2, _⟩ := q2.sq r1
    have h2 : Post S.K S.FA (SrcOk S) (.ok (.enum (.zip s1 s2)) M1) ρ1 H1 R := h1
    exact ⟨k1, k2, p, q, vs, ws, rfl, sq, sq2, h2.at r1 (src_enumz q1 q2)⟩
theorem i_enum (G : Good S C n X) (F : Fns S n) (hf : ("enumerate" : Str) ∈ S.free) (hl : C.sc.names.lookup ("enumerate" : Str) = some .globalImplicit) (ha : PE X x (tE S n a)) (hs : isStar x = false) :
    PI X tg (.Call (.Name ("enumerate" : Str) p) [x] [] pos) (tI S n (.enum (.seq a))) := by
  refine (pi_enum1 (G.gl hl) (G.fr F hf) (pa_cons ha pa_nil (starEach_of hs)) (by rw [starEach_of hs] <;> rfl)).imp fun σ H R h => ?_
  rw [G.K]
  obtain ⟨ρ, M, τ, r, rs, h⟩ := h
  have h0 : Post S.K S.FA (SrcOk S) (((ev (S.cfg n) a τ M).bind fun x M => .ofO (srcOf M x) M).bind fun x M => .ofO (enumSrc x) M) ρ H R := h
  rw [bind_assoc] at h0
  refine ⟨ρ, M, τ, r, rs, Post.bind h0 fun d M1 ρ1 H1 v e1 x1 r1 d1 h1 => ?_⟩
  have h1' : ∃ src, srcOf M1 d = some src ∧ Post S.K S.FA (SrcOk S) (.ofO (enumSrc src) M1) ρ1 H1 R := by
    cases q : srcOf M1 d with
    | none =>
      rw [q] at h1
      exact h1.elim
    | some src =>
      rw [q] at h1
      exact ⟨src, rfl, h1⟩
  obtain ⟨src, e2, h2⟩ := h1'
  obtain ⟨z, e5, h5⟩ := post_ofO h2
  obtain ⟨k, b, rfl, q⟩ := seq_k r1 e2 d1
  rw [ksrc_enum q e5] at h5
  obtain ⟨vs, sq, _⟩ := q.sq r1
  exact ⟨k, b, vs, rfl, sq, h5.at r1 (src_enum q)⟩
theorem i_comb (G : Good S C n X) (F : Fns S n) {nm : Str} {p' pos' cp : Pos} {cj : Nat} (hf : (nm, "itertools.combinations") ∈ S.bfn) (hl : C.sc.names.lookup nm = some .globalImplicit) (hd : (nm == ("__debug__" : Str)) = false)
    (hf2 : ("range" : Str) ∈ S.free) (hl2 : C.sc.names.lookup ("range" : Str) = some .globalImplicit) (ha : PE X x (tE S n a)) (hs : isStar x = false) :
    PI X tg (.Call (.Name nm p) [.Call (.Name ("range" : Str) p') [x] [] pos', .Constant (.int 2) cj cp] [] pos) (tI S n (.comb a)) := by
  have hm : X.mg nm = some (.type cmbT) := by
    rw [G.mg]
    exact F.top.bfn _ hf
  refine (pi_cmb G.calm (G.gl hl) hm hd (prg_1 (G.gl hl2) (G.fr F hf2) ha (starEach_of hs)) rfl).imp fun σ H R h => ?_
  obtain ⟨ρ, M, τ, r, rs, h⟩ := h
  refine ⟨ρ, M, τ, r, rs, Post.bind h fun d M1 ρ1 H1 v e1 x1 r1 d1 h1 => ?_⟩
  obtain ⟨src, h2, h3⟩ := post_ofO h1
  cases d with
  | int j =>
    have h2' : (if 0 ≤ j ∧ j ≤ 6 then some (Src.comb j.toNat) else none) = some src := h2
    split at h2'
    case isFalse => cases h2'
    case isTrue c =>
    cases h2'
    obtain rfl : v = .int j := d1
    exact ⟨j, rfl, rfl, c.1, c.2, h3.at r1 src_cmb⟩
  | _ => cases h2
end
end Ev
namespace Ev
open PySem PySem.Spec PyProof.Rows L2

theorem assignEach_of {e : Expr} {r : List Expr} {env : Env} (h : isStar e = false) : assignEach (e :: r) env = (false, assign e env) :: assignEach r env := by
  cases e <;> first | rfl | cases h
theorem assignEach_len {env : Env} : ∀ es : List Expr, (assignEach es env).length = es.length
  | [] => rfl
  | e :: r => by
    have h := assignEach_len (env := env) r
    cases e <;> (show (assignEach r env).length + 1 = r.length + 1; rw [h])
theorem assignEach_no {env : Env} : ∀ es : List Expr, noStars es = true → (assignEach es env).findIdx? (·.1) = none
  | [], _ => rfl
  | e :: r, h => by
    obtain ⟨h1, h2⟩ := noStars1 h
    rw [assignEach_of h1, List.findIdx?_cons, assignEach_no r h2]
    rfl
theorem assign_sub {o i : Expr} {pos : Pos} {env : Env} (h : isSliceE i = false) (v : Value) : assign (.Subscript o i pos) env v = (do
      let ov ← holding [v] (eval o env)
      let iv ← holding [v, ov] (eval i env)
      standAt pos
      holding [v, ov, iv] (setItem ov iv v)
      release [v, ov, iv] []) := by
  cases i <;> first | rfl | cases h
/-- what a store does to the slots -/
structure Stp (R : L2.St → L2.St → Prop) (ok : Nat → Prop) : Prop where
  refl : ∀ σ, R σ σ
  trans : ∀ a b c, R a b → R b c → R a c
  set : ∀ σ i v, ok i → R σ (σ.set i v)
theorem stp_all : Stp (fun _ _ => True) (fun _ => True) := ⟨fun _ => trivial, fun _ _ _ _ _ => trivial, fun _ _ _ _ => trivial⟩
theorem wipe_set (σ : L2.St) (v : Option V) : ∀ {vs : List Nat} {i : Nat}, i ∈ vs → wipe (σ.set i v) vs = wipe σ vs
  | w :: vs, i, h => by
    unfold wipe
    by_cases hi : i ∈ vs
    · rw [wipe_set σ v hi]
    · have e : i = w := by
        rcases List.mem_cons.mp h with e | h
        · exact e
        · exact absurd h hi
      subst e
      have : ∀ {us : List Nat}, i ∉ us → wipe (σ.set i v) us = (wipe σ us).set i v := by
        intro us
        induction us with
        | nil => intro _; rfl
        | cons u us ih =>
          intro hn
          unfold wipe
          rw [ih (fun z => hn (List.mem_cons_of_mem _ z)), List.set_comm]
          exact fun z => hn (by rw [z]; exact List.mem_cons_self)
      rw [this hi, List.set_set]
theorem stp_wipe (vs : List Nat) : Stp (fun a b => wipe b vs = wipe a vs) (fun i => i ∈ vs) :=
  ⟨fun _ => rfl, fun _ _ _ h k => k.trans h, fun σ i v h => wipe_set σ v h⟩
def Ts.len : Ts → Nat
  | .nil => 0
  | .cons _ r => r.len + 1
theorem asgs_len {C : Cfg} : ∀ {ts : Ts} {ds : List D} {σ σ' : Sl} {M M' : Mem}, asgs C ts ds σ M = .ok σ' M' → ds.length = ts.len
  | .nil, [], _, _, _, _, _ => rfl
  | .nil, _ :: _, _, _, _, _, h => by cases h
  | .cons _ _, [], _, _, _, _, h => by cases h
  | .cons t r, d :: ds, _, _, _, _, h => by
    obtain ⟨_, _, _, h2⟩ := bind_ok h
    rw [List.length_cons, asgs_len h2] <;> rfl
section
variable {S : Sta} {C : Cm} {n : Nat} {X : Cx} {pos p : Pos} {a b : E} {x y : Expr} {R : L2.St → L2.St → Prop} {ok : Nat → Prop}
def RelX (S : Sta) (R : L2.St → L2.St → Prop) (σ : L2.St) : List Addr → Hp → Sl → L2.St → Prop := fun ρ H τ σ' => RelS S.K S.FA ρ H τ σ' ∧ R σ σ'
def tGX (S : Sta) (n : Nat) (R : L2.St → L2.St → Prop) (t : T) : TG := fun v σ H Q => ∃ ρ M τ d, Rel S.K S.FA ρ M H ∧ RelS S.K S.FA ρ H τ σ ∧ RelD S.K S.FA ρ H d v ∧ Post S.K S.FA (RelX S R σ) (asg (S.cfg n) t d τ M) ρ H Q
def tGXs (S : Sta) (n : Nat) (R : L2.St → L2.St → Prop) (ts : Ts) : TGs := fun vs σ H Q => ∃ ρ M τ ds, Rel S.K S.FA ρ M H ∧ RelS S.K S.FA ρ H τ σ ∧ RelDs S.K S.FA ρ H ds vs ∧ Post S.K S.FA (RelX S R σ) (asgs (S.cfg n) ts ds τ M) ρ H Q
theorem Post.impR {K : PySem.W.Frag} {FA : Nat → Addr} {α β : Type} {RA RB : List Addr → Hp → α → β → Prop} {r : Ev.R α} {ρ : List Addr} {H : Hp} {Q : β → Hp → Prop} (hR : ∀ ρ H a b, RB ρ H a b → RA ρ H a b) (h : Post K FA RA r ρ H Q) : Post K FA RB r ρ H Q := by
  cases r with
  | bad => exact h
  | exc c p M => exact h
  | ok a M => exact fun ρ' H' b e r q => h ρ' H' b e r (hR _ _ _ _ q)
theorem g_all {t : T} (h : PG X x (tGX S n (fun _ _ => True) t)) : PG X x (tG S n t) := h.imp fun v σ H Q h => by
  obtain ⟨ρ, M, τ, d, r, rs, rd, h⟩ := h
  exact ⟨ρ, M, τ, d, r, rs, rd, Post.impR (fun ρ H a b h => h.1) h⟩
def stoOk (C : Cm) (nm : Str) : Bool := match C.sc.names.lookup nm with
  | some .local => true
  | some .cell => C.cs nm
  | _ => false
theorem stoOk_of (G : Good S C n X) {nm : Str} (h : stoOk C nm = true) : Loc X.env.scope nm ∧ (X.fn nm = true ∨ X.env.scope.names.lookup nm = some .local) := by
  rw [G.sc]
  unfold stoOk at h
  cases q : C.sc.names.lookup nm with
  | none =>
    rw [q] at h
    cases h
  | some k =>
    rw [q] at h
    cases k with
    | «local» => exact ⟨.inl q, .inr rfl⟩
    | cell => exact ⟨.inr q, .inl (G.cs nm h)⟩
    | _ => cases h
theorem g_nm (G : Good S C n X) (E : Stp R ok) {i : Nat} {nm : Str} (h1 : C.N[i]? = some nm) (h2 : stoOk C nm = true) (hi : ok i) : PG X (.Name nm pos) (tGX S n R (.nm i)) := by
  obtain ⟨q1, q2⟩ := stoOk_of G h2
  refine (pg_name (i := i) (by rw [G.nn]; exact G.nd) (by rw [G.nn]; exact h1) q1 q2).imp fun v σ H Q h => ?_
  obtain ⟨ρ, M, τ, d, r, rs, rd, h⟩ := h
  exact h ρ H _ .refl r ⟨rs.set rd i, E.set σ i _ hi⟩
theorem gs_nil (E : Stp R ok) : PGs X [] (tGXs S n R .nil) := by
  refine pgs_nil.imp fun vs σ H Q h => ?_
  obtain ⟨ρ, M, τ, ds, r, rs, rd, h⟩ := h
  cases ds with
  | nil => exact ⟨rd, h ρ H σ .refl r ⟨rs, E.refl σ⟩⟩
  | cons d ds => exact h.elim
theorem gs_cons (E : Stp R ok) {t : T} {ts : Ts} {e : Expr} {es : List Expr} (h1 : PG X e (tGX S n R t)) (h2 : PGs X es (tGXs S n R ts)) (hs : isStar e = false) : PGs X (e :: es) (tGXs S n R (.cons t ts)) := by
  refine (pgs_cons h1 h2 (by rw [assignEach_of hs] <;> rfl)).imp fun vs σ H Q h => ?_
  obtain ⟨ρ, M, τ, ds, r, rs, rd, h⟩ := h
  cases ds with
  | nil => exact h.elim
  | cons d ds =>
    obtain ⟨v, vr, rfl, d1, d2⟩ := rd
    refine ⟨v, vr, rfl, ρ, M, τ, d, r, rs, d1, Post.bind h fun τ1 M1 ρ1 H1 σ1 e1 x1 r1 q1 h1 => ?_⟩
    refine ⟨ρ1, M1, τ1, ds, r1, q1.1, d2.mono x1, Post.impR (fun ρ H a b h => ⟨h.1, E.trans _ _ _ q1.2 h.2⟩) h1⟩
theorem g_tup (G : Good S C n X) {ts : Ts} {es : List Expr} {k : Nat} (h : PGs X es (tGXs S n R ts)) (hl : ts.len = es.length) (hs : noStars es = true) : PG X (.Tuple es k pos) (tGX S n R (.tup ts)) := by
  have ht := pg_tup (k := k) (pos := pos) (n := es.length) G.calm h (assignEach_len es) (assignEach_no es hs)
  rw [G.K] at ht
  refine ht.imp fun v σ H Q h => ?_
  obtain ⟨ρ, M, τ, d, r, rs, rd, h⟩ := h
  cases d with
  | tup ds =>
    obtain ⟨b, vs, rfl, sq, rv⟩ := rd
    have h' : Post S.K S.FA (RelX S R σ) (asgs (S.cfg n) ts ds τ M) ρ H Q := h
    refine ⟨b, vs, rfl, sq, ?_, ρ, M, τ, ds, r, rs, rv, h'⟩
    rw [rv.length, ← hl]
    cases q : asgs (S.cfg n) ts ds τ M with
    | bad =>
      rw [q] at h'
      exact h'.elim
    | exc c p M =>
      rw [q] at h'
      exact h'.elim
    | ok τ' M' => exact asgs_len q
  | _ => exact h.elim
theorem g_sub (G : Good S C n X) (ho : PE X x (tE S n a)) (hi : PE X y (tE S n b)) (hs : isSliceE y = false) (E : Stp R ok) : PG X (.Subscript x y pos) (tGX S n R (.sub a b)) := by
  refine (pg_sub ho hi set_list (assign_sub hs)).imp fun v σ H Q h => ?_
  obtain ⟨ρ, M, τ, d, r, rs, rd, h⟩ := h
  refine ⟨ρ, M, τ, r, rs, Post.bind h fun o M1 ρ1 H1 ov e1 x1 r1 d1 h1 => ?_⟩
  refine ⟨ρ1, M1, τ, r1, rs.mono x1, Post.bind h1 fun i M2 ρ2 H2 iv e2 x2 r2 d2 h2 => ?_⟩
  have h3 : Post S.K S.FA (RelX S R σ) (match setAt M2 o i d with | some M => .ok τ M | none => .bad) ρ2 H2 Q := h2
  cases q : setAt M2 o i d with
  | none =>
    rw [q] at h3
    exact h3.elim
  | some M3 =>
    rw [q] at h3
    cases o with
    | loc l =>
      cases i with
      | int i =>
        have q' : (match mutAt M2 l with | some xs => (L2.ixN xs.length i).map fun j => M2.set l (.lst (xs.set j d)) | none => none) = some M3 := q
        cases q2 : mutAt M2 l with
        | none =>
          rw [q2] at q'
          cases q'
        | some xs =>
          rw [q2] at q'
          obtain ⟨j, q3, rfl⟩ := map_some q'
          obtain ⟨c, rfl, hc⟩ := d1.mono x2
          obtain ⟨vs, e, rv⟩ := r2.mutAt q2 hc
          have rd2 := (rd.mono x1).mono x2
          obtain ⟨ex, rl⟩ := r2.write (mutAt_eq q2) hc (rv.set rd2 j)
          exact ⟨c, vs, i, j, rfl, d2, e, by rw [rv.length]; exact q3, h3 ρ2 _ σ ex rl ⟨((rs.mono x1).mono x2).mono ex, E.refl σ⟩⟩
      | _ => cases q
    | _ => cases q
end
end Ev
namespace Ev
open PySem PySem.Spec PyProof.Rows L2

section
variable {S : Sta} {C : Cm} {n : Nat} {X : Cx} {pos p : Pos} {a b : E} {x y : Expr}
/-- a turn of a comprehension, as the evaluator takes it -/
def stepD (C : Cfg) (e : E) (t : T) (c : Cd) (own : List Nat) (τ : Sl) : D → List D → Mem → R (List D) := fun d acc M => (asg C t d (wipeD τ own) M).bind fun σ2 M => (evB C c σ2 M).bind fun k M => match k with
  | true => (ev C e σ2 M).bind fun y M => pushD acc y M
  | false => .ok acc M
theorem Ext0.trans {K : PySem.W.Frag} {ρ ρ' ρ2 : List Addr} {H H' H2 : Hp} (x : Ext0 K ρ H ρ' H') (y : Ext0 K ρ' H' ρ2 H2) : Ext0 K ρ H ρ2 H2 := ⟨fun l a h => y.pre l a (x.pre l a h), fun b xs h => y.tup b xs (x.tup b xs h)⟩
theorem goD_succ {α : Type} {src : Src} {f : D → α → Mem → R α} {k i : Nat} {a : α} {M : Mem} : goD src f (k + 1) i a M = match src.get i M with
    | some d => (f d a M).bind fun a M => goD src f k (i + 1) a M
    | none => .bad := rfl
def LcInv (S : Sta) (D : Addr) (ρ1 : List Addr) (H1 : Hp) (ρ5 : List Addr) (H5 : Hp) (Q : VK) (REST : List Ev.D → Mem → R Ev.D) (Hc : Hp) : Prop := ∃ ρ' M' acc vs', Ext S.K ρ1 H1 ρ' Hc ∧ Ext0 S.K ρ5 H5 ρ' Hc ∧ Rel S.K S.FA ρ' M' Hc ∧ (∀ l : Nat, ρ'[l]? ≠ some D) ∧ Hc D = some (.lst vs') ∧ RelDs S.K S.FA ρ' Hc acc vs' ∧
    PostD S.K S.FA (REST acc M') ρ1 H1 Q
theorem wipe_wipe (σ : L2.St) (us : List Nat) : wipe (wipe σ us) us = wipe σ us := by
  have gen : ∀ vs : List Nat, (∀ v ∈ vs, v ∈ us) → wipe (wipe σ vs) us = wipe σ us := by
    intro vs
    induction vs with
    | nil => intro _; rfl
    | cons v vs ih =>
      intro hv
      show wipe ((wipe σ vs).set v none) us = _
      rw [wipe_set _ _ (hv v List.mem_cons_self)]
      exact ih fun w hw => hv w (List.mem_cons_of_mem _ hw)
  exact gen us fun v h => h
theorem lc_turn {e : E} {t : T} {c : Cd} {own : List Nat} {σ : L2.St} {τ : Sl} {Q : VK} {D : Addr} {ρ1 ρ' ρ9 : List Addr} {H1 H2 H9 : Hp} {M' : Mem} {acc : List Ev.D} {vs' : List V} {d : Ev.D} {v : V} {REST : List Ev.D → Mem → R Ev.D} (hD : H1 D = none)
    (ex : Ext S.K ρ1 H1 ρ' H2) (e9 : Ext0 S.K ρ9 H9 ρ' H2) (rl : Rel S.K S.FA ρ' M' H2) (nd : ∀ l : Nat, ρ'[l]? ≠ some D) (h2D : H2 D = some (.lst vs')) (racc : RelDs S.K S.FA ρ' H2 acc vs') (rdx : RelD S.K S.FA ρ' H2 d v) (rs : RelS S.K S.FA ρ' H2 τ σ)
    (hp : PostD S.K S.FA ((stepD (S.cfg n) e t c own τ d acc M').bind REST) ρ1 H1 Q) :
    tGX S n (fun a b => wipe b own = wipe a own) t v (wipe σ own) H2 fun σ2 H3 => wipe σ2 own = wipe σ own ∧ tCd S n c σ2 H3 fun b H4 =>
      if b = true then tE S n e σ2 H4 fun y H5 => ∃ acc, H5 D = some (.lst acc) ∧ acc.length < sizeLine ∧ LcInv S D ρ1 H1 ρ9 H9 Q REST (upd H5 D (.lst (acc ++ [y]))) else LcInv S D ρ1 H1 ρ9 H9 Q REST H4 := by
  unfold stepD at hp
  rw [bind_assoc] at hp
  refine ⟨ρ', M', _, d, rl, rs.wipe own, rdx, Post.bind0 hp fun τ2 M3 ρ3 H3 σ2 e3 x3 r3 q3 hp3 => ?_⟩
  refine ⟨by rw [q3.2]; exact wipe_wipe σ own, ρ3, M3, τ2, r3, q3.1, ?_⟩
  rw [bind_assoc] at hp3
  refine Post.bind0 hp3 fun k M4 ρ4 H4 k' e4 x4 r4 d4 hp4 => ?_
  cases (show k = k' from d4)
  have x14 := (ex.trans x3).trans x4
  obtain ⟨z1, z2⟩ := x3.fr D _ h2D nd
  obtain ⟨z3, z4⟩ := x4.fr D _ z1 z2
  cases k with
  | false => exact iteF ⟨ρ4, M4, acc, vs', x14, (e9.trans x3.toExt0).trans x4.toExt0, r4, z4, z3, (racc.mono x3).mono x4, hp4⟩
  | true =>
    have hp4' : PostD S.K S.FA (((ev (S.cfg n) e τ2 M4).bind fun y M => pushD acc y M).bind REST) ρ1 H1 Q := hp4
    rw [bind_assoc] at hp4'
    refine iteT ⟨ρ4, M4, τ2, r4, q3.1.mono x4, Post.bind0 hp4' fun dy M5 ρ5 H5 y e5 x5 r5 d5 hp5 => ?_⟩
    obtain ⟨z5, z6⟩ := x5.fr D _ z3 z4
    have racc5 := ((racc.mono x3).mono x4).mono x5
    have hp6 : PostD S.K S.FA ((if acc.length < line then R.ok (acc ++ [dy]) M5 else .bad).bind REST) ρ1 H1 Q := hp5
    by_cases hz : acc.length < line
    · rw [if_pos hz] at hp6
      have one : RelDs S.K S.FA ρ5 H5 [dy] [y] := ⟨y, [], rfl, d5, rfl⟩
      refine ⟨vs', z5, by rw [racc5.length, ← line_eq]; exact hz, ρ5, M5, acc ++ [dy], vs' ++ [y], (x14.trans x5).far hD z5, (((e9.trans x3.toExt0).trans x4.toExt0).trans x5.toExt0).trans (far0 z5), r5.far z5 z6, z6, upd_same, (racc5.append one).mono0 (far0 z5), hp6⟩
    · rw [if_neg hz] at hp6
      exact hp6.elim
theorem lc_read {e : E} {t : T} {it : I} {c : Cd} {own : List Nat} {σ : L2.St} {H : Hp} {Q : VK} (h : tE S n (.comp e t it c own) σ H Q) :
    tLc (tI S n it) (tGX S n (fun a b => wipe b own = wipe a own) t) (tCd S n c) (tE S n e) own σ H Q := by
  obtain ⟨ρ, M, τ, r, rs, h⟩ := h
  have h0 : PostD S.K S.FA ((evI (S.cfg n) it τ M).bind fun src M => (goD src (stepD (S.cfg n) e t c own τ) src.len 0 [] M).bind fun acc M => new acc M) ρ H Q := h
  refine ⟨ρ, M, τ, r, rs, Post.bind h0 fun src M1 ρ1 H1 J e1 x1 r1 sk h1 => ?_⟩
  intro D hD
  have nD := r1.notin hD
  refine ⟨fun i m Hc => LcInv S D ρ1 H1 ρ1 H1 Q (fun acc M => (goD src (stepD (S.cfg n) e t c own τ) m i acc M).bind fun acc M => new acc M) Hc, ⟨src.len, ?_⟩, ?_⟩
  · have sm : Same H1 (upd H1 D (.lst [])) := same_new hD
    have es : Ext S.K ρ1 H1 ρ1 (upd H1 D (.lst [])) := Ext.same sm
    exact ⟨ρ1, M1, [], [], es, es.toExt0, r1.same sm, nD, upd_same, rfl, h1⟩
  rintro i m Hc ⟨ρ', M', acc, vs', ex, e9, rl, nd, hcD, racc, hp⟩
  cases m with
  | zero =>
    have hp' : PostD S.K S.FA ((if src.done i M' = true then R.ok acc M' else .bad).bind fun acc M => new acc M) ρ1 H1 Q := hp
    by_cases hd : src.done i M' = true
    · rw [if_pos hd] at hp'
      obtain ⟨a1, a2, a3⟩ := adopt ex hD rl hcD nd racc
      exact .inl ⟨(sk ρ' Hc M' e9 rl).2 i hd, hp' _ _ _ a1 a2 a3⟩
    · rw [if_neg hd] at hp'
      exact hp'.elim
  | succ m =>
    have hp0 : PostD S.K S.FA ((match src.get i M' with
      | some d => (stepD (S.cfg n) e t c own τ d acc M').bind fun a M => goD src (stepD (S.cfg n) e t c own τ) m (i + 1) a M
      | none => .bad).bind fun acc M => new acc M) ρ1 H1 Q := hp
    cases q : src.get i M' with
    | none =>
      rw [q] at hp0
      exact hp0.elim
    | some d =>
      rw [q] at hp0
      obtain ⟨jg, jy⟩ := (sk ρ' Hc M' e9 rl).1 i d q
      refine .inr ⟨jg, _, fun H' w => ⟨m, Nat.lt_succ_self _, w⟩, fun x H2 hy => ?_⟩
      obtain ⟨sm, rdx⟩ := jy x H2 hy
      have ex2 : Ext S.K ρ1 H1 ρ' H2 := ex.trans (Ext.same sm)
      have hp2 : PostD S.K S.FA (((stepD (S.cfg n) e t c own τ d acc M').bind fun a M => goD src (stepD (S.cfg n) e t c own τ) m (i + 1) a M).bind fun acc M => new acc M) ρ1 H1 Q := hp0
      rw [bind_assoc] at hp2
      exact lc_turn hD ex2 ex2.toExt0 (rl.same sm) nd (sm _ _ hcD) (racc.mono (Ext.same sm)) rdx ((rs.mono x1).mono ex2) hp2
def Cm.in_ (C : Cm) (scope : Scope) : Cm := ⟨C.N, relS scope C.sc, fun x => scope.names.lookup x == some .cell⟩
theorem Good.blk (G : Good S C n X) {scope : Scope} (hk : scope.kind = .function) (s : Shared) (H : Hp) (A : Addr) (cl : List (Str × Addr)) (fp : List Addr) : Good S (C.in_ scope) n (X.blk s H scope (compEnvC scope cl A X.env) fp) where
  P := G.P
  w := G.w
  K := G.K
  mg := G.mg
  base := G.base
  nn := G.nn
  sc := by
    show relS scope X.env.scope = relS scope C.sc
    rw [G.sc]
  calm := G.calm
  nd := G.nd
  room := G.room
  gd := G.gd
  po := PassesOwn.never
  cs := fun x h => h
  kind := hk
/-- a clause's tests -/
def ifsOk : List Expr → Cd → Bool
  | [], .tt => true
  | [_], _ => true
  | _, _ => false
theorem c_ifs {c : Cd} {ifs : List Expr} (h : ifsOk ifs c = true) (hc : ∀ z, ifs = [z] → PT X z (tCd S n c)) : PTs X ifs (tCd S n c) := by
  match ifs, c, h with
  | [], .tt, _ =>
    refine pts_nil.imp fun σ H Q h => ?_
    obtain ⟨ρ, M, τ, r, rs, h⟩ := h
    exact Post.at (RA := RelB) (a := true) h r rfl
  | [z], c, _ => exact pts_one (hc z rfl)
variable {elt tg iter : Expr} {ifs : List Expr} {scope : Scope} {own : List Nat} {t : T} {it : I} {c : Cd} {e : E}
/-- the names of a comprehension's own -/
def ownN (N : List Str) (own : List Nat) : List (Str × Nat) := own.filterMap fun i => (N[i]?).map fun x => (x, i)
def ownOk (N : List Str) (sc scope : Scope) (own : List Nat) : Bool := decide ((ownN N own).map (·.2) = own) && blkC N sc scope (ownN N own)
theorem e_comp (G : Good S C n X) (hi : PI X tg iter (tI S n it)) (ok : ownOk C.N C.sc scope own = true)
    (hg : ∀ X', Good S (C.in_ scope) n X' → PG X' tg (tGX S n (fun a b => wipe b own = wipe a own) t)) (ht : ∀ X', Good S (C.in_ scope) n X' → PTs X' ifs (tCd S n c)) (he : ∀ X', Good S (C.in_ scope) n X' → PE X' elt (tE S n e)) (hs : isSetE iter = false) :
    PE X (.ListComp elt [⟨tg, iter, ifs, 0⟩] scope pos) (tE S n (.comp e t it c own)) := by
  obtain ⟨o1, o2⟩ := Bool.and_eq_true_iff.mp ok
  have o1 := of_decide_eq_true o1
  have bk := blkOk_by o2
  have bk' : BlkOk X.N X.env.scope scope (ownN C.N own) := by
    rw [G.nn, G.sc]
    exact bk
  have z := pe_lc (pos := pos) G.calm (by rw [G.nn]; exact G.nd) hi bk' (fun s H A cl fp => hg _ (G.blk bk.kind s H A cl fp)) (fun s H A cl fp => ht _ (G.blk bk.kind s H A cl fp)) (fun s H A cl fp => he _ (G.blk bk.kind s H A cl fp)) (fun x => folded_of hs)
  rw [o1] at z
  exact z.imp fun σ H Q h => lc_read h
end
end Ev
namespace Ev
open PySem PySem.Spec PyProof.Rows L2

section
variable {S : Sta} {C : Cm} {n : Nat} {X : Cx} {pos p : Pos} {a b : E} {x y : Expr}
/-- a turn of the outer clause -/
def stepD2 (C : Cfg) (e : E) (t : T) (c : Cd) (t1 : T) (it1 : I) (c1 : Cd) (own own1 : List Nat) (τ : Sl) : D → List D → Mem → R (List D) := fun d acc M => (asg C t d (wipeD τ own) M).bind fun σ2 M => (evB C c σ2 M).bind fun k M => match k with
  | true => (evI C it1 σ2 M).bind fun src1 M => goD src1 (stepD C e t1 c1 own1 σ2) src1.len 0 acc M
  | false => .ok acc M
theorem lc_read2 {e : E} {t t1 : T} {it it1 : I} {c c1 : Cd} {own own1 : List Nat} {σ : L2.St} {H : Hp} {Q : VK} (h : tE S n (.comp2 e t it c t1 it1 c1 own own1) σ H Q) :
    tLc2 (tI S n it) (tGX S n (fun a b => wipe b own = wipe a own) t) (tCd S n c) (tI S n it1) (tGX S n (fun a b => wipe b own1 = wipe a own1) t1) (tCd S n c1) (tE S n e) own own1 σ H Q := by
  obtain ⟨ρ, M, τ, r, rs, h⟩ := h
  have h0 : PostD S.K S.FA ((evI (S.cfg n) it τ M).bind fun src M => (goD src (stepD2 (S.cfg n) e t c t1 it1 c1 own own1 τ) src.len 0 [] M).bind fun acc M => new acc M) ρ H Q := h
  refine ⟨ρ, M, τ, r, rs, Post.bind h0 fun src M1 ρ1 H1 J e1 x1 r1 sk h1 => ?_⟩
  intro D hD
  have nD := r1.notin hD
  refine ⟨fun i m Hc => LcInv S D ρ1 H1 ρ1 H1 Q (fun acc M => (goD src (stepD2 (S.cfg n) e t c t1 it1 c1 own own1 τ) m i acc M).bind fun acc M => new acc M) Hc, ⟨src.len, ?_⟩, ?_⟩
  · have sm : Same H1 (upd H1 D (.lst [])) := same_new hD
    have es : Ext S.K ρ1 H1 ρ1 (upd H1 D (.lst [])) := Ext.same sm
    exact ⟨ρ1, M1, [], [], es, es.toExt0, r1.same sm, nD, upd_same, rfl, h1⟩
  rintro i m Hc ⟨ρ', M', acc, vs', ex, e9, rl, nd, hcD, racc, hp⟩
  cases m with
  | zero =>
    have hp' : PostD S.K S.FA ((if src.done i M' = true then R.ok acc M' else .bad).bind fun acc M => new acc M) ρ1 H1 Q := hp
    by_cases hd : src.done i M' = true
    · rw [if_pos hd] at hp'
      obtain ⟨a1, a2, a3⟩ := adopt ex hD rl hcD nd racc
      exact .inl ⟨(sk ρ' Hc M' e9 rl).2 i hd, hp' _ _ _ a1 a2 a3⟩
    · rw [if_neg hd] at hp'
      exact hp'.elim
  | succ m =>
    have hp0 : PostD S.K S.FA ((match src.get i M' with
      | some d => (stepD2 (S.cfg n) e t c t1 it1 c1 own own1 τ d acc M').bind fun a M => goD src (stepD2 (S.cfg n) e t c t1 it1 c1 own own1 τ) m (i + 1) a M
      | none => .bad).bind fun acc M => new acc M) ρ1 H1 Q := hp
    cases q : src.get i M' with
    | none =>
      rw [q] at hp0
      exact hp0.elim
    | some d =>
      rw [q] at hp0
      obtain ⟨jg, jy⟩ := (sk ρ' Hc M' e9 rl).1 i d q
      refine .inr ⟨jg, _, fun H' w => ⟨m, Nat.lt_succ_self _, w⟩, fun x H2 hy => ?_⟩
      obtain ⟨sm, rdx⟩ := jy x H2 hy
      have ex2 : Ext S.K ρ1 H1 ρ' H2 := ex.trans (Ext.same sm)
      have rl2 := rl.same sm
      have h2D := sm _ _ hcD
      have racc2 := racc.mono (Ext.same sm)
      have rs2 := ((rs.mono x1).mono ex2).wipe own
      have hp2 : PostD S.K S.FA (((stepD2 (S.cfg n) e t c t1 it1 c1 own own1 τ d acc M').bind fun a M => goD src (stepD2 (S.cfg n) e t c t1 it1 c1 own own1 τ) m (i + 1) a M).bind fun acc M => new acc M) ρ1 H1 Q := hp0
      rw [bind_assoc] at hp2
      generalize hR : (fun (a : List Ev.D) (M : Mem) => (goD src (stepD2 (S.cfg n) e t c t1 it1 c1 own own1 τ) m (i + 1) a M).bind fun acc M => new acc M) = REST at hp2 ⊢
      unfold stepD2 at hp2
      rw [bind_assoc] at hp2
      refine ⟨ρ', M', _, d, rl2, rs2, rdx, Post.bind0 hp2 fun τ2 M3 ρ3 H3 σ2 e3 x3 r3 q3 hp3 => ?_⟩
      refine ⟨by rw [q3.2]; exact wipe_wipe σ own, ρ3, M3, τ2, r3, q3.1, ?_⟩
      rw [bind_assoc] at hp3
      refine Post.bind0 hp3 fun k M4 ρ4 H4 k' e4 x4 r4 d4 hp4 => ?_
      cases (show k = k' from d4)
      have x14 := (ex2.trans x3).trans x4
      obtain ⟨z1, z2⟩ := x3.fr D _ h2D nd
      obtain ⟨z3, z4⟩ := x4.fr D _ z1 z2
      have racc4 := (racc2.mono x3).mono x4
      cases k with
      | false => exact iteF ⟨ρ4, M4, acc, vs', x14, x14.toExt0, r4, z4, z3, racc4, by rw [← hR] at hp4; exact hp4⟩
      | true =>
        have hp4' : PostD S.K S.FA (((evI (S.cfg n) it1 τ2 M4).bind fun src1 M => goD src1 (stepD (S.cfg n) e t1 c1 own1 τ2) src1.len 0 acc M).bind REST) ρ1 H1 Q := hp4
        rw [bind_assoc] at hp4'
        refine iteT ⟨ρ4, M4, τ2, r4, q3.1.mono x4, Post.bind0 hp4' fun src1 M5 ρ5 H5 J1 e5 x5 r5 sk1 hp5 => ?_⟩
        obtain ⟨z5, z6⟩ := x5.fr D _ z3 z4
        have rs5 := (q3.1.mono x4).mono x5
        have x15 := x14.trans x5
        refine ⟨fun j k Hc => LcInv S D ρ1 H1 ρ5 H5 Q (fun acc M => (goD src1 (stepD (S.cfg n) e t1 c1 own1 τ2) k j acc M).bind REST) Hc, ⟨src1.len, ?_⟩, ?_⟩
        · exact ⟨ρ5, M5, acc, vs', x15, Ext.refl.toExt0, r5, z6, z5, racc4.mono x5, hp5⟩
        rintro j k Hd ⟨ρ6, M6, acc6, vs6, ex6, e96, rl6, nd6, hd6, racc6, hp6⟩
        cases k with
        | zero =>
          have hp7 : PostD S.K S.FA ((if src1.done j M6 = true then R.ok acc6 M6 else .bad).bind REST) ρ1 H1 Q := hp6
          by_cases hd : src1.done j M6 = true
          · rw [if_pos hd] at hp7
            exact .inl ⟨(sk1 ρ6 Hd M6 e96 rl6).2 j hd, ρ6, M6, acc6, vs6, ex6, ex6.toExt0, rl6, nd6, hd6, racc6, by rw [← hR] at hp7; exact hp7⟩
          · rw [if_neg hd] at hp7
            exact hp7.elim
        | succ k =>
          have hp7 : PostD S.K S.FA ((match src1.get j M6 with
            | some d => (stepD (S.cfg n) e t1 c1 own1 τ2 d acc6 M6).bind fun a M => goD src1 (stepD (S.cfg n) e t1 c1 own1 τ2) k (j + 1) a M
            | none => .bad).bind REST) ρ1 H1 Q := hp6
          cases q6 : src1.get j M6 with
          | none =>
            rw [q6] at hp7
            exact hp7.elim
          | some d6 =>
            rw [q6] at hp7
            obtain ⟨jg6, jy6⟩ := (sk1 ρ6 Hd M6 e96 rl6).1 j d6 q6
            refine .inr ⟨jg6, _, fun H' w => ⟨k, Nat.lt_succ_self _, w⟩, fun x H2 hy => ?_⟩
            obtain ⟨sm, rdx⟩ := jy6 x H2 hy
            have es : Ext S.K ρ6 Hd ρ6 H2 := Ext.same sm
            have e92 := e96.trans es.toExt0
            have hp8 : PostD S.K S.FA (((stepD (S.cfg n) e t1 c1 own1 τ2 d6 acc6 M6).bind fun a M => goD src1 (stepD (S.cfg n) e t1 c1 own1 τ2) k (j + 1) a M).bind REST) ρ1 H1 Q := hp7
            rw [bind_assoc] at hp8
            exact lc_turn hD (ex6.trans es) e92 (rl6.same sm) nd6 (sm _ _ hd6) (racc6.mono es) rdx (rs5.mono0 e92) hp8
variable {elt tg iter tg1 iter1 : Expr} {ifs ifs1 : List Expr} {scope : Scope} {own own1 : List Nat} {t t1 : T} {it it1 : I} {c c1 : Cd} {e : E} {i : Nat} {nm : Str} {py spos : Pos}
theorem sub_of {own own1 : List Nat} (h : (own1.all fun i => own.contains i) = true) : ∀ i ∈ own1, i ∈ own := fun i hi => by
  have := List.all_eq_true.mp h i hi
  exact List.contains_iff_mem.mp this
theorem e_comp2 (G : Good S C n X) (hi : PI X tg iter (tI S n it)) (ok : ownOk C.N C.sc scope own = true) (hv : (own1.all fun i => own.contains i) = true)
    (hg : ∀ X', Good S (C.in_ scope) n X' → PG X' tg (tGX S n (fun a b => wipe b own = wipe a own) t)) (ht : ∀ X', Good S (C.in_ scope) n X' → PTs X' ifs (tCd S n c)) (hi1 : ∀ X', Good S (C.in_ scope) n X' → PI X' tg1 iter1 (tI S n it1))
    (hg1 : ∀ X', Good S (C.in_ scope) n X' → PG X' tg1 (tGX S n (fun a b => wipe b own1 = wipe a own1) t1)) (ht1 : ∀ X', Good S (C.in_ scope) n X' → PTs X' ifs1 (tCd S n c1)) (he : ∀ X', Good S (C.in_ scope) n X' → PE X' elt (tE S n e)) (hs : isSetE iter = false) (hs1 : isSetE iter1 = false) :
    PE X (.ListComp elt [⟨tg, iter, ifs, 0⟩, ⟨tg1, iter1, ifs1, 0⟩] scope pos) (tE S n (.comp2 e t it c t1 it1 c1 own own1)) := by
  obtain ⟨o1, o2⟩ := Bool.and_eq_true_iff.mp ok
  have o1 := of_decide_eq_true o1
  have bk := blkOk_by o2
  have bk' : BlkOk X.N X.env.scope scope (ownN C.N own) := by
    rw [G.nn, G.sc]
    exact bk
  have z := pe_lc2 (pos := pos) (vs1 := own1) G.calm (by rw [G.nn]; exact G.nd) hi bk' (by rw [o1]; exact sub_of hv) (fun s H A cl fp => hg _ (G.blk bk.kind s H A cl fp)) (fun s H A cl fp => ht _ (G.blk bk.kind s H A cl fp)) (fun s H A cl fp => hi1 _ (G.blk bk.kind s H A cl fp))
    (fun s H A cl fp => hg1 _ (G.blk bk.kind s H A cl fp)) (fun s H A cl fp => ht1 _ (G.blk bk.kind s H A cl fp)) (fun s H A cl fp => he _ (G.blk bk.kind s H A cl fp)) (fun x => folded_of hs) (fun env x => folded_of hs1)
  rw [o1] at z
  exact z.imp fun σ H Q h => lc_read2 h
/-- name = [..] on one line -/
def swOk (C : Cm) (scope : Scope) (nm : Str) (py pos : Pos) : Bool := decide (C.sc.names.lookup nm = some .local) && ((py.line == pos.line) && !(scope.names.any fun (n, k) => n == nm && (k == .local || k == .cell)))
theorem swOk_of (G : Good S C n X) {gs : List Comprehension} {l : Nat} (h : swOk C scope nm py pos = true) : X.env.scope.names.lookup nm = some .local ∧ swapsWith (.ListComp elt gs scope pos) (some (.Name nm py)) l X.env = pure true := by
  obtain ⟨h1, h2⟩ := Bool.and_eq_true_iff.mp h
  obtain ⟨h3, h4⟩ := Bool.and_eq_true_iff.mp h2
  have h1 := of_decide_eq_true h1
  have h5 : X.env.scope.names.lookup nm = some .local := by
    rw [G.sc]
    exact h1
  refine ⟨h5, sw_true (by rw [G.sc]; exact G.kind) h5 h3 ?_⟩
  cases q : scope.names.any fun (n, k) => n == nm && (k == .local || k == .cell) with
  | false => rfl
  | true =>
    rw [q] at h4
    cases h4
theorem asgE_read {a : E} {σ : L2.St} {H : Hp} {D : Ends} (h : tS S n (.asg (.nm i) a) D σ H) : tE S n a σ H fun x H1 => gName i x σ H1 D.nx := by
  obtain ⟨ρ, M, τ, r, rs, h⟩ := h
  refine ⟨ρ, M, τ, r, rs, PostF.bind h fun d M1 ρ1 H1 v e1 x1 r1 d1 h1 => ?_⟩
  exact h1 ρ1 H1 _ .refl r1 ((rs.mono x1).set d1 i)
theorem s_setLc (G : Good S C n X) (hN : C.N[i]? = some nm) (hw : swOk C scope nm py pos = true) (hi : PI X tg iter (tI S n it)) (ok : ownOk C.N C.sc scope own = true)
    (hg : ∀ X', Good S (C.in_ scope) n X' → PG X' tg (tGX S n (fun a b => wipe b own = wipe a own) t)) (ht : ∀ X', Good S (C.in_ scope) n X' → PTs X' ifs (tCd S n c)) (he : ∀ X', Good S (C.in_ scope) n X' → PE X' elt (tE S n e)) (hs : isSetE iter = false) :
    PS X (.Assign [.Name nm py] (.ListComp elt [⟨tg, iter, ifs, 0⟩] scope pos) spos) (tS S n (.asg (.nm i) (.comp e t it c own))) := by
  obtain ⟨o1, o2⟩ := Bool.and_eq_true_iff.mp ok
  have o1 := of_decide_eq_true o1
  have bk := blkOk_by o2
  have bk' : BlkOk X.N X.env.scope scope (ownN C.N own) := by
    rw [G.nn, G.sc]
    exact bk
  obtain ⟨w1, w2⟩ := swOk_of (l := spos.line) (elt := elt) (gs := [⟨tg, iter, ifs, 0⟩]) G hw
  have z := ps_setLc (pos := pos) (spos := spos) (py := py) (i := i) G.calm (by rw [G.nn]; exact G.nd) (by rw [G.nn]; exact hN) w1 w2 hi bk' (fun s H A cl fp => hg _ (G.blk bk.kind s H A cl fp)) (fun s H A cl fp => ht _ (G.blk bk.kind s H A cl fp)) (fun s H A cl fp => he _ (G.blk bk.kind s H A cl fp)) (fun x => folded_of hs)
  rw [o1] at z
  exact z.imp fun D σ H h => lc_read (asgE_read h)
theorem s_setLc2 (G : Good S C n X) (hN : C.N[i]? = some nm) (hw : swOk C scope nm py pos = true) (hi : PI X tg iter (tI S n it)) (ok : ownOk C.N C.sc scope own = true) (hv : (own1.all fun i => own.contains i) = true)
    (hg : ∀ X', Good S (C.in_ scope) n X' → PG X' tg (tGX S n (fun a b => wipe b own = wipe a own) t)) (ht : ∀ X', Good S (C.in_ scope) n X' → PTs X' ifs (tCd S n c)) (hi1 : ∀ X', Good S (C.in_ scope) n X' → PI X' tg1 iter1 (tI S n it1))
    (hg1 : ∀ X', Good S (C.in_ scope) n X' → PG X' tg1 (tGX S n (fun a b => wipe b own1 = wipe a own1) t1)) (ht1 : ∀ X', Good S (C.in_ scope) n X' → PTs X' ifs1 (tCd S n c1)) (he : ∀ X', Good S (C.in_ scope) n X' → PE X' elt (tE S n e)) (hs : isSetE iter = false) (hs1 : isSetE iter1 = false) :
    PS X (.Assign [.Name nm py] (.ListComp elt [⟨tg, iter, ifs, 0⟩, ⟨tg1, iter1, ifs1, 0⟩] scope pos) spos) (tS S n (.asg (.nm i) (.comp2 e t it c t1 it1 c1 own own1))) := by
  obtain ⟨o1, o2⟩ := Bool.and_eq_true_iff.mp ok
  have o1 := of_decide_eq_true o1
  have bk := blkOk_by o2
  have bk' : BlkOk X.N X.env.scope scope (ownN C.N own) := by
    rw [G.nn, G.sc]
    exact bk
  obtain ⟨w1, w2⟩ := swOk_of (l := spos.line) (elt := elt) (gs := [⟨tg, iter, ifs, 0⟩, ⟨tg1, iter1, ifs1, 0⟩]) G hw
  have z := ps_setLc2 (pos := pos) (spos := spos) (py := py) (i := i) (vs1 := own1) G.calm (by rw [G.nn]; exact G.nd) (by rw [G.nn]; exact hN) w1 w2 hi bk' (by rw [o1]; exact sub_of hv) (fun s H A cl fp => hg _ (G.blk bk.kind s H A cl fp)) (fun s H A cl fp => ht _ (G.blk bk.kind s H A cl fp)) (fun s H A cl fp => hi1 _ (G.blk bk.kind s H A cl fp))
    (fun s H A cl fp => hg1 _ (G.blk bk.kind s H A cl fp)) (fun s H A cl fp => ht1 _ (G.blk bk.kind s H A cl fp)) (fun s H A cl fp => he _ (G.blk bk.kind s H A cl fp)) (fun x => folded_of hs) (fun env x => folded_of hs1)
  rw [o1] at z
  exact z.imp fun D σ H h => lc_read2 (asgE_read h)
end
end Ev
namespace Ev
open PySem PySem.Spec PyProof.Rows L2

/-! ### statements -/
def isSeqE : Expr → Bool
  | .Tuple .. => true
  | .List .. => true
  | _ => false
theorem stores_of {tg e : Expr} {env : Env} (h : isSeqE tg = false ∨ isSeqE e = false) : swappedStores [tg] e env = pure none := by
  rcases h with h | h
  · cases tg <;> first | rfl | cases h
  · cases e <;> first | (cases tg <;> rfl) | cases h
section
variable {S : Sta} {C : Cm} {n : Nat} {X : Cx} {pos p : Pos} {a b : E} {x y tg : Expr} {i : Nat} {nm : Str} {py : Pos} {t : T}
theorem s_set (G : Good S C n X) (hN : C.N[i]? = some nm) (hl : stoOk C nm = true) (ha : PE X x (tE S n a)) (hs : isComp x = false) : PS X (.Assign [.Name nm py] x pos) (tS S n (.asg (.nm i) a)) := by
  obtain ⟨q1, q2⟩ := stoOk_of G hl
  exact (ps_set (i := i) (by rw [G.nn]; exact G.nd) (by rw [G.nn]; exact hN) q1 ha (swaps_of hs) q2).imp fun D σ H h => asgE_read h
theorem s_asg (G : Good S C n X) (ha : PE X x (tE S n a)) (hg : PG X tg (tGX S n (fun _ _ => True) t)) (hs : isComp x = false) (hw : swappedStores [tg] x X.env = pure none) (ht : isStar tg = false) : PS X (.Assign [tg] x pos) (tS S n (.asg t a)) := by
  refine (ps_asg ha (g_all hg) (swaps_of hs) hw (by rw [assignEach_of ht] <;> rfl)).imp fun D σ H h => ?_
  obtain ⟨ρ, M, τ, r, rs, h⟩ := h
  refine ⟨ρ, M, τ, r, rs, PostF.bind h fun d M1 ρ1 H1 v e1 x1 r1 d1 h1 => ?_⟩
  refine ⟨ρ1, M1, τ, d, r1, rs.mono x1, d1, PostF.bind h1 fun τ2 M2 ρ2 H2 σ2 e2 x2 r2 q2 h2 => ?_⟩
  exact h2 ρ2 H2 σ2 .refl r2 q2
theorem s_ex (ha : PE X x (tE S n a)) (hs : isComp x = false) : PS X (.Expr x pos) (tS S n (.ex a)) := by
  refine (ps_expr ha (swaps_of hs)).imp fun D σ H h => ?_
  obtain ⟨ρ, M, τ, r, rs, h⟩ := h
  refine ⟨ρ, M, τ, r, rs, PostF.bind h fun d M1 ρ1 H1 v e1 x1 r1 d1 h1 => ?_⟩
  exact h1 ρ1 H1 σ .refl r1 (rs.mono x1)
theorem s_ret (ha : PE X x (tE S n a)) : PS X (.Return (some x) pos) (tS S n (.ret a)) := by
  refine (ps_ret ha).imp fun D σ H h => ?_
  obtain ⟨ρ, M, τ, r, rs, h⟩ := h
  refine ⟨ρ, M, τ, r, rs, PostF.bind h fun d M1 ρ1 H1 v e1 x1 r1 d1 h1 => ?_⟩
  exact h1 ρ1 H1 v .refl r1 d1
theorem s_retN : PS X (.Return none pos) (tS S n .retN) := by
  refine ps_retN.imp fun D σ H h => ?_
  obtain ⟨ρ, M, τ, r, rs, h⟩ := h
  exact h ρ H .non .refl r rfl
theorem s_pass : PS X (.Pass pos) (tS S n .pass) := by
  refine ps_pass.imp fun D σ H h => ?_
  obtain ⟨ρ, M, τ, r, rs, h⟩ := h
  exact h ρ H σ .refl r rs
theorem s_brk : PS X (.Break pos) (tS S n .brk) := by
  refine ps_break.imp fun D σ H h => ?_
  obtain ⟨ρ, M, τ, r, rs, h⟩ := h
  exact h ρ H σ .refl r rs
theorem s_cnt : PS X (.Continue pos) (tS S n .cnt) := by
  refine ps_continue.imp fun D σ H h => ?_
  obtain ⟨ρ, M, τ, r, rs, h⟩ := h
  exact h ρ H σ .refl r rs
theorem s_doc {z : Str} {j : Nat} : PS X (.Expr (.Constant (.str z) j py) pos) (tS S n .pass) := by
  refine ps_doc.imp fun D σ H h => ?_
  obtain ⟨ρ, M, τ, r, rs, h⟩ := h
  exact h ρ H σ .refl r rs
theorem s_never {st : Stmt} : PS X st (tS S n .never) := by
  refine ps_never.imp fun D σ H h => ?_
  obtain ⟨ρ, M, τ, r, rs, h⟩ := h
  exact h.elim
theorem s_ite {cd : Cd} {A B : Ev.Ss} {as bs : List Stmt} (hc : PT X x (tCd S n cd)) (ha : PSs X as (tSs S n A)) (hb : PSs X bs (tSs S n B)) : PS X (.If x as bs pos) (tS S n (.ite cd A B)) := by
  refine (ps_if hc ha hb).imp fun D σ H h => ?_
  obtain ⟨ρ, M, τ, r, rs, h⟩ := h
  refine ⟨ρ, M, τ, r, rs, PostF.bind h fun k M1 ρ1 H1 k' e1 x1 r1 d1 h1 => ?_⟩
  cases (show k = k' from d1)
  cases k with
  | true => exact iteT ⟨ρ1, M1, τ, r1, rs.mono x1, h1⟩
  | false => exact iteF ⟨ρ1, M1, τ, r1, rs.mono x1, h1⟩
theorem ss_nil : PSs X [] (tSs S n .nil) := by
  refine pss_nil.imp fun D σ H h => ?_
  obtain ⟨ρ, M, τ, r, rs, h⟩ := h
  exact h ρ H σ .refl r rs
/-- what comes behind a statement -/
theorem PostF.seq {r : R Fl} {f : Sl → Mem → R Fl} {ρ : List Addr} {H : Hp} {D : Ends} {nx : L2.St → Hp → Prop} (h : PostF S (r.bind fun fl M => match fl with
      | .nx σ => f σ M
      | .rt d => .ok (.rt d) M
      | .bk σ => .ok (.bk σ) M
      | .ct σ => .ok (.ct σ) M) ρ H D) (hs : ∀ τ M' ρ' H' σ, Ext S.K ρ H ρ' H' → Rel S.K S.FA ρ' M' H' → RelS S.K S.FA ρ' H' τ σ → PostF S (f τ M') ρ' H' D → nx σ H') : PostF S r ρ H { D with nx := nx } := by
  cases r with
  | bad => exact h
  | exc c p M => exact h
  | ok fl M =>
    cases fl with
    | nx τ => exact fun ρ' H' σ e r q => hs τ M ρ' H' σ e r q (PostF.ext e h)
    | rt d => exact h
    | bk τ => exact h
    | ct τ => exact h
theorem ss_cons {st : Stmt} {rest : List Stmt} {s : Ev.S} {r : Ev.Ss} (h1 : PS X st (tS S n s)) (h2 : PSs X rest (tSs S n r)) : PSs X (st :: rest) (tSs S n (.cons s r)) := by
  refine (pss_cons h1 h2).imp fun D σ H h => ?_
  obtain ⟨ρ, M, τ, rl, rs, h⟩ := h
  exact ⟨ρ, M, τ, rl, rs, PostF.seq h fun τ1 M1 ρ1 H1 σ1 e1 r1 q1 h1 => ⟨ρ1, M1, τ1, r1, q1, h1⟩⟩
/-- the body of a loop, and what comes behind the turn -/
theorem PostF.turn {r : R Fl} {f : Sl → Mem → R Fl} {ρ : List Addr} {H : Hp} {D : Ends} {N : L2.St → Hp → Prop} (h : PostF S (r.bind fun fl M => match fl with
      | .nx σ => f σ M
      | .ct σ => f σ M
      | .bk σ => .ok (.nx σ) M
      | .rt d => .ok (.rt d) M) ρ H D) (hs : ∀ τ M' ρ' H' σ, Ext S.K ρ H ρ' H' → Rel S.K S.FA ρ' M' H' → RelS S.K S.FA ρ' H' τ σ → PostF S (f τ M') ρ' H' D → N σ H') : PostF S r ρ H { D with nx := N, ct := N, bk := D.nx } := by
  cases r with
  | bad => exact h
  | exc c p M => exact h
  | ok fl M =>
    cases fl with
    | nx τ => exact fun ρ' H' σ e r q => hs τ M ρ' H' σ e r q (PostF.ext e h)
    | rt d => exact h
    | bk τ => exact h
    | ct τ => exact fun ρ' H' σ e r q => hs τ M ρ' H' σ e r q (PostF.ext e h)
theorem s_for (G : Good S C n X) {it : I} {B : Ev.Ss} {bs : List Stmt} (hi : PI X tg x (tI S n it)) (hg : PG X tg (tGX S n (fun _ _ => True) t)) (hb : PSs X bs (tSs S n B)) (hs : isSetE x = false) : PS X (.For tg x bs [] pos) (tS S n (.for_ t it B)) := by
  refine (ps_for G.po G.calm hi (g_all hg) hb (fun x => folded_of hs)).imp fun D σ H h => ?_
  obtain ⟨ρ, M, τ, r, rs, h⟩ := h
  refine ⟨ρ, M, τ, r, rs, PostF.bind h fun src M1 ρ1 H1 J e1 x1 r1 sk h1 => ?_⟩
  refine ⟨fun i m σ' Hc => ∃ ρ' M' τ', Ext S.K ρ1 H1 ρ' Hc ∧ Rel S.K S.FA ρ' M' Hc ∧ RelS S.K S.FA ρ' Hc τ' σ' ∧
    PostF S (goF src (fun d σ M => (asg (S.cfg n) t d σ M).bind fun σ M => exs (S.cfg n) B σ M) m i τ' M') ρ' Hc D, ⟨src.len, ρ1, M1, τ, .refl, r1, rs.mono x1, h1⟩, ?_⟩
  rintro i m σ' Hc ⟨ρ', M', τ', ex, rl, rs', hp⟩
  cases m with
  | zero =>
    have hp' : PostF S (if src.done i M' = true then R.ok (.nx τ') M' else .bad) ρ' Hc D := hp
    by_cases hd : src.done i M' = true
    · rw [if_pos hd] at hp'
      exact .inl ⟨(sk ρ' Hc M' ex.toExt0 rl).2 i hd, hp' ρ' Hc σ' .refl rl rs'⟩
    · rw [if_neg hd] at hp'
      exact hp'.elim
  | succ m =>
    have hp0 : PostF S (match src.get i M' with
      | some d => (((asg (S.cfg n) t d τ' M').bind fun σ M => exs (S.cfg n) B σ M).bind fun fl M => match fl with
        | .nx σ => goF src (fun d σ M => (asg (S.cfg n) t d σ M).bind fun σ M => exs (S.cfg n) B σ M) m (i + 1) σ M
        | .ct σ => goF src (fun d σ M => (asg (S.cfg n) t d σ M).bind fun σ M => exs (S.cfg n) B σ M) m (i + 1) σ M
        | .bk σ => .ok (.nx σ) M
        | .rt d => .ok (.rt d) M)
      | none => .bad) ρ' Hc D := hp
    cases q : src.get i M' with
    | none =>
      rw [q] at hp0
      exact hp0.elim
    | some d =>
      rw [q] at hp0
      obtain ⟨jg, jy⟩ := (sk ρ' Hc M' ex.toExt0 rl).1 i d q
      refine .inr ⟨jg, _, fun σ'' H' w => ⟨m, Nat.lt_succ_self _, w⟩, fun x H2 hy => ?_⟩
      obtain ⟨sm, rdx⟩ := jy x H2 hy
      have es : Ext S.K ρ' Hc ρ' H2 := Ext.same sm
      have hp1 := PostF.ext es hp0
      dsimp only at hp1
      rw [bind_assoc] at hp1
      refine ⟨ρ', M', τ', d, rl.same sm, rs'.mono es, rdx, PostF.bind hp1 fun τ2 M2 ρ2 H3 σ2 e2 x2 r2 q2 h2 => ?_⟩
      refine ⟨ρ2, M2, τ2, r2, q2, PostF.turn h2 fun τ3 M3 ρ3 H4 σ3 e3 r3 q3 h3 => ?_⟩
      exact ⟨ρ3, M3, τ3, ((ex.trans es).trans x2).trans e3, r3, q3, h3⟩
theorem s_while (G : Good S C n X) {cd : Cd} {B : Ev.Ss} {bs : List Stmt} (hc : PT X x (tCd S n cd)) (hb : PSs X bs (tSs S n B)) : PS X (.While x bs [] pos) (tS S n (.while_ cd B)) := by
  refine (ps_while G.po hc hb).imp fun D σ H h => ?_
  obtain ⟨ρ, M, τ, r, rs, h⟩ := h
  refine ⟨fun m σ' Hc => ∃ ρ' M' τ', Rel S.K S.FA ρ' M' Hc ∧ RelS S.K S.FA ρ' Hc τ' σ' ∧ PostF S (goW (evB (S.cfg n) cd) (exs (S.cfg n) B) m τ' M') ρ' Hc D, ⟨(S.cfg n).wf, ρ, M, τ, r, rs, h⟩, ?_⟩
  rintro m σ' Hc ⟨ρ', M', τ', rl, rs', hp⟩
  cases m with
  | zero => exact hp.elim
  | succ m =>
    have hp0 : PostF S ((evB (S.cfg n) cd τ' M').bind fun b M => match b with
      | false => .ok (.nx τ') M
      | true => (exs (S.cfg n) B τ' M).bind fun fl M => match fl with
        | .nx σ => goW (evB (S.cfg n) cd) (exs (S.cfg n) B) m σ M
        | .ct σ => goW (evB (S.cfg n) cd) (exs (S.cfg n) B) m σ M
        | .bk σ => .ok (.nx σ) M
        | .rt d => .ok (.rt d) M) ρ' Hc D := hp
    refine ⟨ρ', M', τ', rl, rs', PostF.bind hp0 fun k M1 ρ1 H1 k' e1 x1 r1 d1 h1 => ?_⟩
    cases (show k = k' from d1)
    cases k with
    | false => exact iteF (h1 ρ1 H1 σ' .refl r1 (rs'.mono x1))
    | true =>
      refine iteT ⟨_, fun σ'' H' w => ⟨m, Nat.lt_succ_self _, w⟩, ρ1, M1, τ', r1, rs'.mono x1, PostF.turn h1 fun τ3 M3 ρ3 H4 σ3 e3 r3 q3 h3 => ?_⟩
      exact ⟨ρ3, M3, τ3, r3, q3, h3⟩
end
end Ev
namespace Ev
open PySem PySem.Spec PyProof.Rows L2

section
variable {S : Sta} {C : Cm} {n : Nat} {X : Cx} {pos px py pz pt pt2 : Pos} {a b c : Expr} {i j l : Nat} {x y z : Str} {kt k2 : Nat}
def parOk (C : Cm) (xs : List (Str × Pos)) (es : List Expr) : Bool :=
  (xs.all fun p => decide (C.sc.names.lookup p.1 = some .local)) && (match xs with | [] => false | p :: r => r.all fun q => q.2.line == p.2.line) && decide ((xs.map (·.1)).eraseDups.length = xs.length) && noStars es && !(es.all (foldedForSure 8)) && !(es.all (constantsAlone 8))
theorem stores2 (G : Good S C n X) (h : parOk C [(x, px), (y, py)] [a, b] = true) : swappedStores [.Tuple [.Name x px, .Name y py] kt pt] (.Tuple [a, b] k2 pt2) X.env = pure (some [x, y]) := by
  unfold parOk at h
  simp only [List.all_cons, List.all_nil, Bool.and_true, Bool.and_eq_true, decide_eq_true_eq, Bool.not_eq_true', List.map_cons, List.map_nil] at h
  obtain ⟨⟨⟨⟨⟨⟨h1, h2⟩, h3⟩, h4⟩, h5⟩, h6⟩, h7⟩ := h
  have hb : X.env.blockKind = .function := by
    unfold Env.blockKind
    rw [G.sc, G.kind]
    rfl
  have k1 : X.env.kindOf x = some .local := by
    show X.env.scope.names.lookup x = _
    rw [G.sc, h1]
  have k2 : X.env.kindOf y = some .local := by
    show X.env.scope.names.lookup y = _
    rw [G.sc, h2]
  have s1 : isStar a = false := (noStars1 h5).1
  have s2 : isStar b = false := (noStars1 (noStars1 h5).2).1
  have hs : ∀ f : Expr → Bool, (∀ e, isStar e = false → f e = false) → ([a, b].any f) = false := fun f hf => by
    rw [List.any_cons, List.any_cons, hf a s1, hf b s2]
    rfl
  have h3' : (py.line == px.line) = true := h3
  unfold swappedStores
  dsimp only
  rw [hb]
  rw [if_neg (by show ¬ ((!(true || false) || (2 : Nat) != 2 || ScopeKind.function != ScopeKind.function) = true); decide)]
  rw [hs _ (fun e h => by cases e <;> first | rfl | cases h)]
  rw [if_neg (by decide)]
  have h3e : py.line = px.line := eq_of_beq h3'
  have hl : (([Expr.Name x px, Expr.Name y py].head?.map (·.pos.line)).getD 0) = px.line := rfl
  rw [hl]
  have hn : ∀ f : Expr → Option Str, f (.Name x px) = some x → f (.Name y py) = some y → [Expr.Name x px, Expr.Name y py].filterMap f = [x, y] := fun f e1 e2 => by
    rw [List.filterMap_cons, e1, List.filterMap_cons, e2]
    rfl
  rw [hn _ (by dsimp only; rw [k1]; rw [if_pos (by simp)]) (by dsimp only; rw [k2, h3e]; rw [if_pos (by simp)])]
  rw [if_neg (by rw [h4]; show ¬ (((2 : Nat) != 2 || (2 : Nat) != 2) = true); decide)]
  have f1 : ¬ ([a, b].all (foldedForSure 8) = true) := by
    rw [List.all_cons, List.all_cons, List.all_nil, Bool.and_true, h6]
    decide
  have f2 : ¬ ([a, b].all (constantsAlone 8) = true) := by
    rw [List.all_cons, List.all_cons, List.all_nil, Bool.and_true, h7]
    decide
  rw [if_neg f1, if_neg f2]
theorem stores3 (G : Good S C n X) (h : parOk C [(x, px), (y, py), (z, pz)] [a, b, c] = true) : swappedStores [.Tuple [.Name x px, .Name y py, .Name z pz] kt pt] (.Tuple [a, b, c] k2 pt2) X.env = pure (some [x, y, z]) := by
  unfold parOk at h
  simp only [List.all_cons, List.all_nil, Bool.and_true, Bool.and_eq_true, decide_eq_true_eq, Bool.not_eq_true', List.map_cons, List.map_nil] at h
  obtain ⟨⟨⟨⟨⟨⟨h1, h2, h0⟩, h3, h3z⟩, h4⟩, h5⟩, h6⟩, h7⟩ := h
  have hb : X.env.blockKind = .function := by
    unfold Env.blockKind
    rw [G.sc, G.kind]
    rfl
  have k1 : X.env.kindOf x = some .local := by
    show X.env.scope.names.lookup x = _
    rw [G.sc, h1]
  have k2 : X.env.kindOf y = some .local := by
    show X.env.scope.names.lookup y = _
    rw [G.sc, h2]
  have k3 : X.env.kindOf z = some .local := by
    show X.env.scope.names.lookup z = _
    rw [G.sc, h0]
  have s1 : isStar a = false := (noStars1 h5).1
  have s2 : isStar b = false := (noStars1 (noStars1 h5).2).1
  have s3 : isStar c = false := (noStars1 (noStars1 (noStars1 h5).2).2).1
  have hs : ∀ f : Expr → Bool, (∀ e, isStar e = false → f e = false) → ([a, b, c].any f) = false := fun f hf => by
    rw [List.any_cons, List.any_cons, List.any_cons, hf a s1, hf b s2, hf c s3]
    rfl
  have h3' : (py.line == px.line) = true := h3
  have h3z' : (pz.line == px.line) = true := h3z
  unfold swappedStores
  dsimp only
  rw [hb]
  rw [if_neg (by show ¬ ((!(false || true) || (3 : Nat) != 3 || ScopeKind.function != ScopeKind.function) = true); decide)]
  rw [hs _ (fun e h => by cases e <;> first | rfl | cases h)]
  rw [if_neg (by decide)]
  have h3e : py.line = px.line := eq_of_beq h3'
  have h3f : pz.line = px.line := eq_of_beq h3z'
  have hl : (([Expr.Name x px, Expr.Name y py, Expr.Name z pz].head?.map (·.pos.line)).getD 0) = px.line := rfl
  rw [hl]
  have hn : ∀ f : Expr → Option Str, f (.Name x px) = some x → f (.Name y py) = some y → f (.Name z pz) = some z → [Expr.Name x px, Expr.Name y py, Expr.Name z pz].filterMap f = [x, y, z] := fun f e1 e2 e3 => by
    rw [List.filterMap_cons, e1, List.filterMap_cons, e2, List.filterMap_cons, e3]
    rfl
  rw [hn _ (by dsimp only; rw [k1]; rw [if_pos (by simp)]) (by dsimp only; rw [k2, h3e]; rw [if_pos (by simp)]) (by dsimp only; rw [k3, h3f]; rw [if_pos (by simp)])]
  rw [if_neg (by rw [h4]; show ¬ (((3 : Nat) != 3 || (3 : Nat) != 3) = true); decide)]
  have f1 : ¬ ([a, b, c].all (foldedForSure 8) = true) := by
    rw [List.all_cons, List.all_cons, List.all_cons, List.all_nil, Bool.and_true, h6]
    decide
  have f2 : ¬ ([a, b, c].all (constantsAlone 8) = true) := by
    rw [List.all_cons, List.all_cons, List.all_cons, List.all_nil, Bool.and_true, h7]
    decide
  rw [if_neg f1, if_neg f2]
def isNameE : Expr → Bool
  | .Name .. => true
  | _ => false
/-- a plain local name -/
def isLocE (C : Cm) : Expr → Bool
  | .Name nm _ => decide (C.sc.names.lookup nm = some .local)
  | _ => false
/-- the stores stand in their order -/
def stoN (C : Cm) (tg e : Expr) : Bool := !isSeqE tg || !isSeqE e || (match tg, e with
  | .Tuple ts _ _, .Tuple vs _ _ => (ts.any fun t => !isLocE C t) || vs.all (foldedForSure 8)
  | _, _ => false)
theorem fm_lt (f : Expr → Option Str) (hf : ∀ e, isLocE C e = false → f e = none) : ∀ ts : List Expr, (ts.any fun t => !isLocE C t) = true → (ts.filterMap f).length < ts.length
  | [], h => by cases h
  | t :: r, h => by
    rw [List.filterMap_cons]
    cases q : isLocE C t with
    | false =>
      rw [hf t q]
      exact Nat.lt_succ_of_le (List.length_filterMap_le f r)
    | true =>
      have h2 : (r.any fun t => !isLocE C t) = true := by
        rw [List.any_cons, q] at h
        exact h
      have := fm_lt f hf r h2
      cases f t with
      | none => exact Nat.lt_succ_of_lt this
      | some w => exact Nat.succ_lt_succ this
theorem stoN_of (G : Good S C n X) {tg e : Expr} (h : stoN C tg e = true) : swappedStores [tg] e X.env = pure none := by
  unfold stoN at h
  rcases Bool.or_eq_true_iff.mp h with h | h
  · rcases Bool.or_eq_true_iff.mp h with h | h
    · exact stores_of (.inl (by simpa using h))
    · exact stores_of (.inr (by simpa using h))
  · cases tg with
    | Tuple ts k1 p1 =>
      cases e with
      | Tuple vs k2 p2 =>
        have h' : ((ts.any fun t => !isLocE C t) || vs.all (foldedForSure 8)) = true := h
        unfold swappedStores
        dsimp only
        split
        · rfl
        split
        · rfl
        split
        · rfl
        case isFalse hn =>
        rcases Bool.or_eq_true_iff.mp h' with h' | h'
        · refine absurd ?_ hn
          have := fm_lt (C := C) (fun
            | .Name id pos => if X.env.kindOf id == some .local && pos.line == ((ts.head?.map (·.pos.line)).getD 0) then some id else none
            | _ => none) (fun e he => by
              cases e with
              | Name id pos =>
                have hk : X.env.kindOf id ≠ some .local := by
                  show X.env.scope.names.lookup id ≠ _
                  rw [G.sc]
                  exact of_decide_eq_false he
                dsimp only
                rw [if_neg (fun z => hk (eq_of_beq (Bool.and_eq_true_iff.mp z).1))]
              | _ => rfl) ts h'
          have ne : ∀ k m : Nat, k < m → (k != m) = true := fun k m hk => by
            simp
            omega
          exact Bool.or_eq_true_iff.mpr (.inl (ne _ _ this))
        · rw [if_pos h'] <;> rfl
      | _ => cases h
    | _ => cases h
/-! ### parallel assignments -/
theorem par_rel {ρ : List Addr} {H : Hp} : ∀ {is : List Nat} {ds : List D} {vs : List V} {τ τ' : Sl} {σ : L2.St}, parD is ds τ = some τ' → RelDs S.K S.FA ρ H ds vs → RelS S.K S.FA ρ H τ σ → vs.length = is.length ∧ RelS S.K S.FA ρ H τ' ((is.zip vs).foldl (fun σ p => σ.set p.1 (some p.2)) σ)
  | [], [], vs, τ, τ', σ, h, rd, rs => by
    cases h
    obtain rfl : vs = [] := rd
    exact ⟨rfl, rs⟩
  | i :: is, d :: ds, vs, τ, τ', σ, h, rd, rs => by
    obtain ⟨v, r, rfl, d1, d2⟩ := rd
    obtain ⟨h1, h2⟩ := par_rel (is := is) h d2 (rs.set d1 i)
    exact ⟨by rw [List.length_cons, h1] <;> rfl, h2⟩
  | [], _ :: _, _, _, _, _, h, _, _ => by cases h
  | _ :: _, [], _, _, _, _, h, _, _ => by cases h
theorem s_par2 (G : Good S C n X) {es : Es} (hi : C.N[i]? = some x) (hj : C.N[j]? = some y) (hij : i ≠ j) (ha : PA X [a, b] (tEs S n es)) (h : parOk C [(x, px), (y, py)] [a, b] = true) :
    PS X (.Assign [.Tuple [.Name x px, .Name y py] kt pt] (.Tuple [a, b] k2 pt2) pos) (tS S n (.par [i, j] es)) := by
  have h0 := h
  unfold parOk at h0
  simp only [List.all_cons, List.all_nil, Bool.and_true, Bool.and_eq_true, decide_eq_true_eq] at h0
  refine (ps_par G.calm (by rw [G.nn]; exact G.nd) (by rw [G.nn]; exact hi) (by rw [G.nn]; exact hj) hij (by rw [G.sc]; exact h0.1.1.1.1.1.1) (by rw [G.sc]; exact h0.1.1.1.1.1.2) ha (stores2 G h)).imp fun D σ H h => ?_
  obtain ⟨ρ, M, τ, r, rs, h⟩ := h
  refine ⟨ρ, M, τ, r, rs, PostF.bind h fun ds M1 ρ1 H1 vs e1 x1 r1 d1 h1 => ?_⟩
  have h2 : PostF S (.ofO ((parD [i, j] ds τ).map .nx) M1) ρ1 H1 D := h1
  cases q : parD [i, j] ds τ with
  | none =>
    rw [q] at h2
    exact h2.elim
  | some τ' =>
    rw [q] at h2
    obtain ⟨l1, rs'⟩ := par_rel q d1 (rs.mono x1)
    match vs, l1, rs' with
    | [v, w], _, rs' => exact ⟨v, w, rfl, h2 ρ1 H1 _ .refl r1 rs'⟩
theorem s_par3 (G : Good S C n X) {es : Es} (hi : C.N[i]? = some x) (hj : C.N[j]? = some y) (hl : C.N[l]? = some z) (hij : i ≠ j) (hil : i ≠ l) (hjl : j ≠ l) (ha : PA X [a, b, c] (tEs S n es)) (h : parOk C [(x, px), (y, py), (z, pz)] [a, b, c] = true) :
    PS X (.Assign [.Tuple [.Name x px, .Name y py, .Name z pz] kt pt] (.Tuple [a, b, c] k2 pt2) pos) (tS S n (.par [i, j, l] es)) := by
  have h0 := h
  unfold parOk at h0
  simp only [List.all_cons, List.all_nil, Bool.and_true, Bool.and_eq_true, decide_eq_true_eq] at h0
  refine (ps_par3 G.calm (by rw [G.nn]; exact G.nd) (by rw [G.nn]; exact hi) (by rw [G.nn]; exact hj) (by rw [G.nn]; exact hl) hij hil hjl (by rw [G.sc]; exact h0.1.1.1.1.1.1) (by rw [G.sc]; exact h0.1.1.1.1.1.2.1) (by rw [G.sc]; exact h0.1.1.1.1.1.2.2) ha (stores3 G h)).imp fun D σ H h => ?_
  obtain ⟨ρ, M, τ, r, rs, h⟩ := h
  refine ⟨ρ, M, τ, r, rs, PostF.bind h fun ds M1 ρ1 H1 vs e1 x1 r1 d1 h1 => ?_⟩
  have h2 : PostF S (.ofO ((parD [i, j, l] ds τ).map .nx) M1) ρ1 H1 D := h1
  cases q : parD [i, j, l] ds τ with
  | none =>
    rw [q] at h2
    exact h2.elim
  | some τ' =>
    rw [q] at h2
    obtain ⟨l1, rs'⟩ := par_rel q d1 (rs.mono x1)
    match vs, l1, rs' with
    | [u, v, w], _, rs' => exact ⟨u, v, w, rfl, h2 ρ1 H1 _ .refl r1 rs'⟩
end
end Ev
namespace Ev
open PySem PySem.Spec PyProof.Rows L2

/-! ### the text beside its form for the evaluator -/
/-- what the check knows: the defs' table, the globals, the free names, the built-ins by import -/
structure Tb where
  T : List Fd
  gl : List (Str × D)
  free : List Str
  bfn : List (Str × String)
def glOk (C : Cm) (nm : Str) : Bool := decide (C.sc.names.lookup nm = some .globalImplicit)
def noDbg (nm : Str) : Bool := !(nm == ("__debug__" : Str))
def visOk (C : Cm) (nm : Str) : Bool := match C.sc.names.lookup nm with
  | some .local => true
  | some .cell => true
  | some .free => true
  | _ => false
theorem visOk_of {C : Cm} {nm : Str} (h : visOk C nm = true) : Vis C.sc nm := by
  unfold visOk at h
  cases q : C.sc.names.lookup nm with
  | none =>
    rw [q] at h
    cases h
  | some k =>
    rw [q] at h
    cases k with
    | «local» => exact .inl q
    | cell => exact .inr (.inl q)
    | free => exact .inr (.inr q)
    | _ => cases h
theorem noDbg_of {nm : Str} (h : noDbg nm = true) : (nm == ("__debug__" : Str)) = false := by
  unfold noDbg at h
  cases q : nm == ("__debug__" : Str) with
  | false => rfl
  | true =>
    rw [q] at h
    cases h
def nB (b : Bool) : Bool := !b
theorem nB_of {b : Bool} (h : nB b = true) : b = false := by
  cases b with
  | false => rfl
  | true => cases h
def isTupE : Expr → Bool
  | .Tuple .. => true
  | _ => false
def frOk (tb : Tb) (C : Cm) (nm : Str) : Bool := decide (nm ∈ tb.free) && glOk C nm
def mCon (tb : Tb) (C : Cm) : D → Expr → Bool
  | .non, .Constant .none _ _ => true
  | .bl b, .Constant (.bool c) _ _ => b == c
  | .int i, .Constant (.int j) _ _ => decide (i = j)
  | .str x, .Constant (.str y) _ _ => decide (x = y)
  | .ty t, .Name nm _ => decide (tyNm nm = some t) && frOk tb C nm
  | _, _ => false
/-- a call of a def: its arguments go where they should -/
def fnOk (tb : Tb) (C : Cm) (f : Nat) (nm : Str) (kn : List Str) (na nk : Nat) (arr : List Arr) : Bool := match tb.T[f]? with
  | some fd => decide (fd.name = nm) && (glOk C nm && (noDbg nm && arrOk fd.ps kn na nk fd.dfl.length arr))
  | none => false
def bltOk (tb : Tb) (C : Cm) (b : B) (nm : Str) (kws : List Keyword) : Bool := match b, kws with
  | .sortedR, [⟨some k, .Constant (.bool true) _ _, _⟩] => decide (k = ("reverse" : Str)) && (decide (nm = ("sorted" : Str)) && frOk tb C nm)
  | .minD, [⟨some k, .Constant .none _ _, _⟩] => decide (k = ("default" : Str)) && (decide (nm = ("min" : Str)) && frOk tb C nm)
  | .gcd, [] => decide ((nm, "math.gcd") ∈ tb.bfn) && (glOk C nm && noDbg nm)
  | b, [] => (match bFn b with
    | some p => decide (p.1 = nm) && frOk tb C nm
    | none => (match bTy b with
      | some p => decide (p.1 = nm) && frOk tb C nm
      | none => false))
  | _, _ => false
def mtNm : Mt → Option Str
  | .append => some "append"
  | .extend => some "extend"
  | _ => none
/-- combinations(range(y), 2): the two names, y -/
def cmbArg (x : Expr) : Option (Str × Str × Expr) := match x with
  | .Call (.Name nm _) [.Call (.Name nm2 _) [y] [] _, .Constant (.int 2) _ _] [] _ => some (nm, nm2, y)
  | _ => none
theorem cmbArg_some {x y : Expr} {nm nm2 : Str} (h : cmbArg x = some (nm, nm2, y)) : ∃ p p2 pos pos2 j cp, x = .Call (.Name nm p) [.Call (.Name nm2 p2) [y] [] pos2, .Constant (.int 2) j cp] [] pos := by
  unfold cmbArg at h
  split at h
  · cases h
    exact ⟨_, _, _, _, _, _, rfl⟩
  · cases h
section
variable (tb : Tb)
mutual
def mE (C : Cm) : E → Expr → Bool
  | .var i, x => (match x with
    | .Name nm _ => decide (C.N[i]? = some nm) && (visOk C nm && (noDbg nm && nB (nm == ("__classdict__" : Str))))
    | _ => false)
  | .con d, x => mCon tb C d x
  | .glo i, x => (match x with
    | .Name nm _ => (match tb.gl[i]? with
      | some p => decide (p.1 = nm) && (glOk C nm && noDbg nm)
      | none => false)
    | _ => false)
  | .tup es, x => (match x with
    | .Tuple xs _ _ => mEs C es xs && decide (es.len ≤ 1000)
    | _ => false)
  | .lst es, x => (match x with
    | .List xs _ => mEs C es xs && decide (es.len ≤ 1000)
    | _ => false)
  | .disp b ds, x => (match x with
    | .Tuple xs _ _ => b && mDs C ds xs
    | .List xs _ => nB b && mDs C ds xs
    | _ => false)
  | .op o a b, x => (match x with
    | .BinOp y p z _ => decide (opOf o = some p) && (mE C a y && mE C b z)
    | .Compare y [p] [z] _ => decide (cmpOf o = some p) && (nB (isSetE z) && (mE C a y && mE C b z))
    | _ => false)
  | .neg a, x => (match x with
    | .UnaryOp .USub y _ => mE C a y
    | _ => false)
  | .not a, x => (match x with
    | .UnaryOp .Not y _ => mE C a y
    | _ => false)
  | .chain o p a b c, x => (match x with
    | .Compare y [q, r] [z, w] _ => decide (cmpOf o = some q) && (decide (cmpOf p = some r) && (nB (isSetE w) && (mE C a y && (mE C b z && mE C c w))))
    | _ => false)
  | .and a b, x => (match x with
    | .BoolOp .And [y, z] _ => mE C a y && mE C b z
    | .BoolOp .And (y :: z :: w :: r) p => mE C a y && mE C b (.BoolOp .And (z :: w :: r) p)
    | _ => false)
  | .or a b, x => (match x with
    | .BoolOp .Or [y, z] _ => mE C a y && mE C b z
    | .BoolOp .Or (y :: z :: w :: r) p => mE C a y && mE C b (.BoolOp .Or (z :: w :: r) p)
    | _ => false)
  | .ite c a b, x => (match x with
    | .IfExp y z w _ => mCd C c y && (mE C a z && mE C b w)
    | _ => false)
  | .call f es, x => (match x with
    | .Call (.Name nm _) xs [] _ => fnOk tb C f nm [] es.len 0 ((List.range es.len).map Arr.a) && (mEs C es xs && decide (xs = [] → es.len = 0))
    | _ => false)
  | .callk f es ks arr, x => (match x with
    | .Call (.Name nm _) xs kws _ => fnOk tb C f nm (kws.filterMap (·.arg)) es.len ks.len arr && (mEs C es xs && (mKs C ks kws && (decide (kws.map (·.arg) = (kws.filterMap (·.arg)).map some) && decide (xs = [] → es.len = 0))))
    | _ => false)
  | .blt b es, x => (match x with
    | .Call (.Name nm _) (y :: ys) kws _ => bltOk tb C b nm kws && mEs C es (y :: ys)
    | _ => false)
  | .meth m o es, x => (match x with
    | .Call (.Attribute y nm ap) (z :: zs) [] p => decide (mtNm m = some nm) && (nB (isCallE y) && ((ap.endLine == p.line) && (decide ((z :: zs).length < 30) && (mE C o y && mEs C es (z :: zs)))))
    | _ => false)
  | .sub a i, x => (match x with
    | .Subscript y z _ => nB (isSliceE z) && (mE C a y && mE C i z)
    | _ => false)
  | .slice a lo hi st, x => (match x with
    | .Subscript y (.Slice l u none _) _ => (match st with | .no => true | _ => false) && (mE C a y && (mPo C lo l && mPo C hi u))
    | .Subscript y (.Slice none none (some (.UnaryOp .USub (.Constant (.int 1) _ _) _)) _) _ => (match lo, hi, st with | .no, .no, .yes (.neg (.con (.int 1))) => true | _, _, _ => false) && mE C a y
    | _ => false)
  | .comp e t it c own, x => (match x with
    | .ListComp elt [⟨tg, iter, ifs, 0⟩] scope _ => ownOk C.N C.sc scope own && (nB (isSetE iter) && (mI C it tg iter && (mT (C.in_ scope) (fun i => own.contains i) t tg && (mIfs (C.in_ scope) c ifs && mE (C.in_ scope) e elt))))
    | _ => false)
  | .comp2 e t it c t1 it1 c1 own own1, x => (match x with
    | .ListComp elt [⟨tg, iter, ifs, 0⟩, ⟨tg1, iter1, ifs1, 0⟩] scope _ => ownOk C.N C.sc scope own && ((own1.all fun i => own.contains i) && (nB (isSetE iter) && (nB (isSetE iter1) && (mI C it tg iter && (mT (C.in_ scope) (fun i => own.contains i) t tg && (mIfs (C.in_ scope) c ifs &&
        (mI (C.in_ scope) it1 tg1 iter1 && (mT (C.in_ scope) (fun i => own1.contains i) t1 tg1 && (mIfs (C.in_ scope) c1 ifs1 && mE (C.in_ scope) e elt)))))))))
    | _ => false)
def mEs (C : Cm) : Es → List Expr → Bool
  | .nil, xs => (match xs with
    | [] => true
    | _ => false)
  | .cons a r, xs => (match xs with
    | y :: ys => nB (isStar y) && (mE C a y && mEs C r ys)
    | _ => false)
def mDs (C : Cm) : Ds → List Expr → Bool
  | .nil, xs => (match xs with
    | [] => true
    | _ => false)
  | .cons s a r, xs => (match xs with
    | .Starred y _ :: ys => s && (mE C a y && mDs C r ys)
    | y :: ys => nB s && (nB (isStar y) && (mE C a y && mDs C r ys))
    | _ => false)
def mKs (C : Cm) : Es → List Keyword → Bool
  | .nil, xs => (match xs with
    | [] => true
    | _ => false)
  | .cons a r, xs => (match xs with
    | ⟨_, y, _⟩ :: ys => mE C a y && mKs C r ys
    | _ => false)
def mPo (C : Cm) : Po → Option Expr → Bool
  | .no, x => (match x with
    | none => true
    | _ => false)
  | .yes a, x => (match x with
    | some y => mE C a y
    | _ => false)
def mI (C : Cm) : I → Expr → Expr → Bool
  | .seq a, _, x => mE C a x
  | .rng es, _, x => (match x with
    | .Call (.Name nm _) xs [] _ => decide (nm = ("range" : Str)) && (frOk tb C nm && (mEs C es xs && (decide (es.len = xs.length) && (match xs with
      | [_] => true
      | [_, _] => true
      | _ => false))))
    | _ => false)
  | .zip p q, tg, x => (match p, q with
    | .seq a, .seq b => (match x with
      | .Call (.Name nm _) [y, z] [] _ => decide (nm = ("zip" : Str)) && (frOk tb C nm && (nB (isStar y) && (nB (isStar z) && (mE C a y && mE C b z))))
      | _ => false)
    | _, _ => false)
  | .enum p, tg, x => (match p with
    | .seq a => (match x with
      | .Call (.Name nm _) [y] [] _ => decide (nm = ("enumerate" : Str)) && (frOk tb C nm && (nB (isStar y) && mE C a y))
      | _ => false)
    | .zip p q => (match p, q with
      | .seq a, .seq b => (match x with
        | .Call (.Name nm _) [.Call (.Name nm2 _) [y, z] [] _] [] _ => decide (nm = ("enumerate" : Str)) && (frOk tb C nm && (decide (nm2 = ("zip" : Str)) && (frOk tb C nm2 && (nB (isStar y) && (nB (isStar z) && (mE C a y && mE C b z))))))
        | _ => false)
      | _, _ => false)
    | _ => false)
  | .comb a, _, x => (match cmbArg x with
    | some (nm, nm2, y) => decide ((nm, "itertools.combinations") ∈ tb.bfn) && (glOk C nm && (noDbg nm && (decide (nm2 = ("range" : Str)) && (frOk tb C nm2 && (nB (isStar y) && mE C a y)))))
    | none => false)
def mT (C : Cm) (ok : Nat → Bool) : T → Expr → Bool
  | .nm i, x => (match x with
    | .Name nm _ => decide (C.N[i]? = some nm) && (stoOk C nm && ok i)
    | _ => false)
  | .tup ts, x => (match x with
    | .Tuple xs _ _ => decide (ts.len = xs.length) && mTs C ok ts xs
    | _ => false)
  | .sub o i, x => (match x with
    | .Subscript y z _ => nB (isSliceE z) && (mE C o y && mE C i z)
    | _ => false)
def mTs (C : Cm) (ok : Nat → Bool) : Ts → List Expr → Bool
  | .nil, xs => (match xs with
    | [] => true
    | _ => false)
  | .cons t r, xs => (match xs with
    | y :: ys => nB (isStar y) && (mT C ok t y && mTs C ok r ys)
    | _ => false)
/-- a test -/
def mCd (C : Cm) : Cd → Expr → Bool
  | .tt, _ => false
  | .and a b, x => (match x with
    | .BoolOp .And [y, z] _ => mCd C a y && mCd C b z
    | .BoolOp .And (y :: z :: w :: r) p => mCd C a y && mCdW C b (.BoolOp .And (z :: w :: r) p)
    | _ => false)
  | .or a b, x => (match x with
    | .BoolOp .Or [y, z] _ => mCd C a y && mCd C b z
    | .BoolOp .Or (y :: z :: w :: r) p => mCd C a y && mCdW C b (.BoolOp .Or (z :: w :: r) p)
    | _ => false)
  | .not a, x => (match x with
    | .UnaryOp .Not y _ => mCd C a y
    | _ => false)
  | .val e, x => (match e with
    | .op o a b => (match x with
      | .Compare y [p] [z] _ => decide (cmpOf o = some p) && (nB (isSetE z) && (mE C a y && mE C b z))
      | .BinOp y p z _ => decide (opOf o = some p) && (mE C a y && mE C b z)
      | _ => false)
    | .chain o p a b c => (match x with
      | .Compare y [q, r] [z, w] _ => decide (cmpOf o = some q) && (decide (cmpOf p = some r) && (nB (isSetE w) && (mE C a y && (mE C b z && mE C c w))))
      | _ => false)
    | e => plainT x && mE C e x)
/-- and, or, whatever stands around -/
def mCdW (C : Cm) : Cd → Expr → Bool
  | .and a b, x => (match x with
    | .BoolOp .And [y, z] _ => mCd C a y && mCd C b z
    | .BoolOp .And (y :: z :: w :: r) p => mCd C a y && mCdW C b (.BoolOp .And (z :: w :: r) p)
    | _ => false)
  | .or a b, x => (match x with
    | .BoolOp .Or [y, z] _ => mCd C a y && mCd C b z
    | .BoolOp .Or (y :: z :: w :: r) p => mCd C a y && mCdW C b (.BoolOp .Or (z :: w :: r) p)
    | _ => false)
  | _, _ => false
def mIfs (C : Cm) : Cd → List Expr → Bool
  | .tt, xs => (match xs with
    | [] => true
    | _ => false)
  | .and a b, xs => (match xs with
    | [x] => (match x with
      | .BoolOp .And [y, z] _ => mCd C a y && mCd C b z
      | .BoolOp .And (y :: z :: w :: r) p => mCd C a y && mCdW C b (.BoolOp .And (z :: w :: r) p)
      | _ => false)
    | _ => false)
  | .or a b, xs => (match xs with
    | [x] => (match x with
      | .BoolOp .Or [y, z] _ => mCd C a y && mCd C b z
      | .BoolOp .Or (y :: z :: w :: r) p => mCd C a y && mCdW C b (.BoolOp .Or (z :: w :: r) p)
      | _ => false)
    | _ => false)
  | .not a, xs => (match xs with
    | [x] => (match x with
      | .UnaryOp .Not y _ => mCd C a y
      | _ => false)
    | _ => false)
  | .val e, xs => (match xs with
    | [x] => (match e with
      | .op o a b => (match x with
        | .Compare y [p] [z] _ => decide (cmpOf o = some p) && (nB (isSetE z) && (mE C a y && mE C b z))
        | .BinOp y p z _ => decide (opOf o = some p) && (mE C a y && mE C b z)
        | _ => false)
      | .chain o p a b c => (match x with
        | .Compare y [q, r] [z, w] _ => decide (cmpOf o = some q) && (decide (cmpOf p = some r) && (nB (isSetE w) && (mE C a y && (mE C b z && mE C c w))))
        | _ => false)
      | e => plainT x && mE C e x)
    | _ => false)
end
end
end Ev
namespace Ev
open PySem PySem.Spec PyProof.Rows L2

def Sta.tb (S : Sta) : Tb := ⟨S.T, S.gl, S.free, S.bfn⟩
theorem b2 {a b : Bool} (h : (a && b) = true) : a = true ∧ b = true := Bool.and_eq_true_iff.mp h
theorem Stp.imp {R : L2.St → L2.St → Prop} {ok ok' : Nat → Prop} (E : Stp R ok) (h : ∀ i, ok' i → ok i) : Stp R ok' := ⟨E.refl, E.trans, fun σ i v q => E.set σ i v (h i q)⟩
section
variable {S : Sta} {C : Cm} {n : Nat} {X : Cx}
theorem frOk_of {nm : Str} (h : frOk S.tb C nm = true) : nm ∈ S.free ∧ C.sc.names.lookup nm = some .globalImplicit := by
  obtain ⟨h1, h2⟩ := b2 h
  exact ⟨of_decide_eq_true h1, of_decide_eq_true h2⟩
theorem mCon_ok (F : Fns S n) (G : Good S C n X) {d : D} {x : Expr} (h : mCon S.tb C d x = true) : PE X x (tE S n (.con d)) := by
  unfold mCon at h
  split at h
  · exact e_con (v := .non) pe_non fun ρ H => rfl
  · rename_i b c _ _
    have e : b = c := eq_of_beq h
    subst e
    exact e_con (v := .bl b) pe_bl fun ρ H => rfl
  · rename_i i j _ _
    have e : i = j := of_decide_eq_true h
    subst e
    exact e_con (v := .int i) pe_int fun ρ H => rfl
  · rename_i y z _ _
    have e : y = z := of_decide_eq_true h
    subst e
    exact e_con (v := .str y) pe_str fun ρ H => rfl
  · obtain ⟨h1, h2⟩ := b2 h
    obtain ⟨h3, h4⟩ := frOk_of h2
    exact e_ty G F (of_decide_eq_true h1) h3 h4
  · cases h
theorem noStars_of {C : Cm} {tb : Tb} : ∀ {es : Es} {xs : List Expr}, mEs tb C es xs = true → noStars xs = true ∧ es.len = xs.length
  | .nil, [], _ => ⟨rfl, rfl⟩
  | .nil, _ :: _, h => by cases h
  | .cons _ _, [], h => by cases h
  | .cons a r, y :: ys, h => by
    obtain ⟨h1, h2⟩ := b2 (show (nB (isStar y) && (mE tb C a y && mEs tb C r ys)) = true from h)
    obtain ⟨h3, h4⟩ := b2 h2
    obtain ⟨h5, h6⟩ := noStars_of h4
    refine ⟨?_, by rw [List.length_cons, ← h6] <;> rfl⟩
    show (!isStar y && noStars ys) = true
    rw [nB_of h1, h5] <;> rfl
theorem noStarsT_of {C : Cm} {tb : Tb} {ok : Nat → Bool} : ∀ {ts : Ts} {xs : List Expr}, mTs tb C ok ts xs = true → noStars xs = true
  | .nil, [], _ => rfl
  | .nil, _ :: _, h => by cases h
  | .cons _ _, [], h => by cases h
  | .cons t r, y :: ys, h => by
    obtain ⟨h1, h2⟩ := b2 (show (nB (isStar y) && (mT tb C ok t y && mTs tb C ok r ys)) = true from h)
    obtain ⟨h3, h4⟩ := b2 h2
    show (!isStar y && noStars ys) = true
    rw [nB_of h1, noStarsT_of h4] <;> rfl
theorem line_len {es : Es} (h : decide (es.len ≤ 1000) = true) {C : Cfg} : ∀ τ M ds M', evs C es τ M = .ok ds M' → ds.length ≤ line := fun τ M ds M' e => by
  have := of_decide_eq_true h
  rw [evs_len e]
  unfold line
  omega
theorem mIfs_of {C : Cm} {tb : Tb} : ∀ {c : Cd} {xs : List Expr}, mIfs tb C c xs = true → (c = .tt ∧ xs = []) ∨ ∃ x, xs = [x] ∧ mCd tb C c x = true := by
  intro c xs h
  cases c with
  | tt => cases xs with
    | nil => exact .inl ⟨rfl, rfl⟩
    | cons y ys => cases h
  | and a b =>
    right
    cases xs with
    | nil => cases h
    | cons x r => cases r with
      | nil => exact ⟨x, rfl, h⟩
      | cons y ys => cases h
  | or a b =>
    right
    cases xs with
    | nil => cases h
    | cons x r => cases r with
      | nil => exact ⟨x, rfl, h⟩
      | cons y ys => cases h
  | not a =>
    right
    cases xs with
    | nil => cases h
    | cons x r => cases r with
      | nil => exact ⟨x, rfl, h⟩
      | cons y ys => cases h
  | val e =>
    right
    cases xs with
    | nil => cases h
    | cons x r => cases r with
      | nil => exact ⟨x, rfl, h⟩
      | cons y ys => cases h
end
end Ev
namespace Ev
open PySem PySem.Spec PyProof.Rows L2

section
variable {S : Sta} {n : Nat}
theorem fnOk_of {C : Cm} {f : Nat} {nm : Str} {kn : List Str} {na nk : Nat} {arr : List Arr} (h : fnOk S.tb C f nm kn na nk arr = true) :
    ∃ fd, S.T[f]? = some fd ∧ fd.name = nm ∧ C.sc.names.lookup fd.name = some .globalImplicit ∧ (fd.name == ("__debug__" : Str)) = false ∧ arrOk fd.ps kn na nk fd.dfl.length arr = true := by
  unfold fnOk at h
  cases q : S.tb.T[f]? with
  | none =>
    rw [q] at h
    cases h
  | some fd =>
    rw [q] at h
    obtain ⟨h1, h2⟩ := b2 h
    obtain ⟨h3, h4⟩ := b2 h2
    obtain ⟨h5, h6⟩ := b2 h4
    have e : fd.name = nm := of_decide_eq_true h1
    refine ⟨fd, q, e, ?_, ?_, h6⟩
    · rw [e]
      exact of_decide_eq_true h3
    · rw [e]
      exact noDbg_of h5
theorem stpB {ok : Nat → Bool} {own : List Nat} (h : ok = fun i => own.contains i) : Stp (fun a b => wipe b own = wipe a own) (fun i => ok i = true) := by
  subst h
  exact (stp_wipe own).imp fun i q => List.contains_iff_mem.mp q
theorem blt_ok (F : Fns S n) {C : Cm} {X : Cx} (G : Good S C n X) {b : B} {nm : Str} {kws : List Keyword} {es : Es} {y : Expr} {ys : List Expr} {p pos : Pos} (h : bltOk S.tb C b nm kws = true) (ha : PA X (y :: ys) (tEs S n es)) (hs : noStars (y :: ys) = true) :
    PE X (.Call (.Name nm p) (y :: ys) kws pos) (tE S n (.blt b es)) := by
  unfold bltOk at h
  split at h
  · obtain ⟨h1, h2⟩ := b2 h
    obtain ⟨h3, h4⟩ := b2 h2
    have e1 := of_decide_eq_true h1
    have e2 := of_decide_eq_true h3
    subst e1 e2
    obtain ⟨h5, h6⟩ := frOk_of h4
    exact e_sortR G F h5 h6 ha hs
  · obtain ⟨h1, h2⟩ := b2 h
    obtain ⟨h3, h4⟩ := b2 h2
    have e1 := of_decide_eq_true h1
    have e2 := of_decide_eq_true h3
    subst e1 e2
    obtain ⟨h5, h6⟩ := frOk_of h4
    exact e_minD G F h5 h6 ha hs
  · obtain ⟨h1, h2⟩ := b2 h
    obtain ⟨h3, h4⟩ := b2 h2
    exact e_gcd G F (of_decide_eq_true h1) (of_decide_eq_true h3) (noDbg_of h4) ha hs
  · split at h
    · rename_i q
      obtain ⟨h1, h2⟩ := b2 h
      have e1 := of_decide_eq_true h1
      subst e1
      obtain ⟨h5, h6⟩ := frOk_of h2
      exact e_blt G F q h5 h6 ha hs
    · split at h
      · rename_i q
        obtain ⟨h1, h2⟩ := b2 h
        have e1 := of_decide_eq_true h1
        subst e1
        obtain ⟨h5, h6⟩ := frOk_of h2
        exact e_bltT G F q h5 h6 ha hs
      · cases h
  · cases h
theorem mIfs_via {c : Cd} {C : Cm} {xs : List Expr} {X : Cx} (hc : ∀ z, mCd S.tb C c z = true → PT X z (tCd S n c)) (h : mIfs S.tb C c xs = true) : PTs X xs (tCd S n c) := by
  rcases mIfs_of h with ⟨rfl, rfl⟩ | ⟨x, rfl, q⟩
  · exact c_ifs rfl fun z e => by cases e
  · exact pts_one (hc x q)
variable (F : Fns S n)
include F
mutual
theorem mE_ok : ∀ (e : E) (C : Cm) (x : Expr), mE S.tb C e x = true → ∀ X, Good S C n X → PE X x (tE S n e)
  | .var i, C, x, h, X, G => by
    cases x with
    | Name nm p =>
      obtain ⟨h1, h2⟩ := b2 h
      obtain ⟨h3, h4⟩ := b2 h2
      obtain ⟨h5, h6⟩ := b2 h4
      exact e_var G (of_decide_eq_true h1) (visOk_of h3) (noDbg_of h5) (nB_of h6)
    | _ => cases h
  | .con d, C, x, h, X, G => mCon_ok F G h
  | .glo i, C, x, h, X, G => by
    cases x with
    | Name nm p =>
      have h' : (match S.gl[i]? with | some p => decide (p.1 = nm) && (glOk C nm && noDbg nm) | none => false) = true := h
      cases q : S.gl[i]? with
      | none =>
        rw [q] at h'
        cases h'
      | some z =>
        rw [q] at h'
        obtain ⟨h1, h2⟩ := b2 h'
        obtain ⟨h3, h4⟩ := b2 h2
        have e : z.1 = nm := of_decide_eq_true h1
        exact e_glo (d := z.2) G F (by rw [q, ← e]) (of_decide_eq_true h3) (noDbg_of h4)
    | _ => cases h
  | .tup es, C, x, h, X, G => by
    cases x with
    | Tuple xs k p =>
      obtain ⟨h1, h2⟩ := b2 h
      exact e_tup (mEs_ok es C xs h1 X G) (line_len h2)
    | _ => cases h
  | .lst es, C, x, h, X, G => by
    cases x with
    | List xs p =>
      obtain ⟨h1, h2⟩ := b2 h
      exact e_lst (mEs_ok es C xs h1 X G) (line_len h2)
    | _ => cases h
  | .disp b ds, C, x, h, X, G => by
    cases x with
    | Tuple xs k p =>
      obtain ⟨h1, h2⟩ := b2 h
      subst h1
      exact e_dispT (mDs_ok ds C xs h2 X G)
    | List xs p =>
      obtain ⟨h1, h2⟩ := b2 h
      have := nB_of h1
      subst this
      exact e_dispL (mDs_ok ds C xs h2 X G)
    | _ => cases h
  | .op o a b, C, x, h, X, G => by
    cases x with
    | BinOp y p z q =>
      obtain ⟨h1, h2⟩ := b2 h
      obtain ⟨h3, h4⟩ := b2 h2
      exact e_op G (mE_ok a C y h3 X G) (mE_ok b C z h4 X G) (opOf_f (of_decide_eq_true h1))
    | Compare y ps zs q =>
      match ps, zs, h with
      | [p], [z], h =>
        obtain ⟨h1, h2⟩ := b2 h
        obtain ⟨h3, h4⟩ := b2 h2
        obtain ⟨h5, h6⟩ := b2 h4
        exact e_cmp G (mE_ok a C y h5 X G) (mE_ok b C z h6 X G) (cmpOf_f (of_decide_eq_true h1)) (nB_of h3)
      | [], zs, h => cases h
      | _ :: _ :: _, zs, h => cases h
      | [_], [], h => cases h
      | [_], _ :: _ :: _, h => cases h
    | _ => cases h
  | .neg a, C, x, h, X, G => by
    cases x with
    | UnaryOp op y p =>
      cases op with
      | USub => exact e_neg (mE_ok a C y h X G)
      | _ => cases h
    | _ => cases h
  | .not a, C, x, h, X, G => by
    cases x with
    | UnaryOp op y p =>
      cases op with
      | Not => exact e_not G (mE_ok a C y h X G)
      | _ => cases h
    | _ => cases h
  | .chain o p a b c, C, x, h, X, G => by
    cases x with
    | Compare y ps zs q =>
      match ps, zs, h with
      | [q, r], [z, w], h =>
        obtain ⟨h1, h2⟩ := b2 h
        obtain ⟨h3, h4⟩ := b2 h2
        obtain ⟨h5, h6⟩ := b2 h4
        obtain ⟨h7, h8⟩ := b2 h6
        obtain ⟨h9, h10⟩ := b2 h8
        exact e_chain G (mE_ok a C y h7 X G) (mE_ok b C z h9 X G) (mE_ok c C w h10 X G) (cmpOf_f (of_decide_eq_true h1)) (cmpOf_f (of_decide_eq_true h3)) (nB_of h5)
      | [], zs, h => cases h
      | [_], zs, h => cases h
      | _ :: _ :: _ :: _, zs, h => cases h
      | [_, _], [], h => cases h
      | [_, _], [_], h => cases h
      | [_, _], _ :: _ :: _ :: _, h => cases h
    | _ => cases h
  | .and a b, C, x, h, X, G => by
    cases x with
    | BoolOp op vs p =>
      cases op with
      | And =>
        match vs, h with
        | [y, z], h =>
          obtain ⟨h1, h2⟩ := b2 h
          exact e_and G (mE_ok a C y h1 X G) (pe_one (mE_ok b C z h2 X G))
        | y :: z :: w :: r, h =>
          obtain ⟨h1, h2⟩ := b2 h
          exact e_and G (mE_ok a C y h1 X G) (mE_ok b C _ h2 X G)
        | [], h => cases h
        | [_], h => cases h
      | Or => cases h
    | _ => cases h
  | .or a b, C, x, h, X, G => by
    cases x with
    | BoolOp op vs p =>
      cases op with
      | Or =>
        match vs, h with
        | [y, z], h =>
          obtain ⟨h1, h2⟩ := b2 h
          exact e_or G (mE_ok a C y h1 X G) (pe_one (mE_ok b C z h2 X G))
        | y :: z :: w :: r, h =>
          obtain ⟨h1, h2⟩ := b2 h
          exact e_or G (mE_ok a C y h1 X G) (mE_ok b C _ h2 X G)
        | [], h => cases h
        | [_], h => cases h
      | And => cases h
    | _ => cases h
  | .ite c a b, C, x, h, X, G => by
    cases x with
    | IfExp y z w p =>
      obtain ⟨h1, h2⟩ := b2 h
      obtain ⟨h3, h4⟩ := b2 h2
      exact e_ite (mCd_ok c C y h1 X G) (mE_ok a C z h3 X G) (mE_ok b C w h4 X G)
    | _ => cases h
  | .call f es, C, x, h, X, G => by
    cases x with
    | Call fx xs kws p =>
      cases fx with
      | Name nm q =>
        cases kws with
        | nil =>
          obtain ⟨h1, h2⟩ := b2 h
          obtain ⟨h3, h4⟩ := b2 h2
          obtain ⟨fd, f1, rfl, f3, f4, f5⟩ := fnOk_of h1
          exact e_call G F f1 f3 f4 (mEs_ok es C xs h3 X G) (noStars_of h3).1 f5 (of_decide_eq_true h4)
        | cons _ _ => cases h
      | _ => cases h
    | _ => cases h
  | .callk f es ks arr, C, x, h, X, G => by
    cases x with
    | Call fx xs kws p =>
      cases fx with
      | Name nm q =>
        obtain ⟨h1, h2⟩ := b2 h
        obtain ⟨h3, h4⟩ := b2 h2
        obtain ⟨h5, h6⟩ := b2 h4
        obtain ⟨h7, h8⟩ := b2 h6
        obtain ⟨fd, f1, rfl, f3, f4, f5⟩ := fnOk_of h1
        exact e_callk G F f1 f3 f4 (mEs_ok es C xs h3 X G) (mKs_ok ks C kws h5 X G) (noStars_of h3).1 (of_decide_eq_true h7) (fun _ _ _ _ e => evs_len e) (fun _ _ _ _ e => evs_len e) f5 (of_decide_eq_true h8)
      | _ => cases h
    | _ => cases h
  | .blt b es, C, x, h, X, G => by
    cases x with
    | Call fx xs kws p =>
      cases fx with
      | Name nm q =>
        cases xs with
        | nil => cases h
        | cons y ys =>
          obtain ⟨h1, h2⟩ := b2 h
          exact blt_ok F G h1 (mEs_ok es C (y :: ys) h2 X G) (noStars_of h2).1
      | _ => cases h
    | _ => cases h
  | .meth m o es, C, x, h, X, G => by
    cases x with
    | Call fx xs kws p =>
      cases fx with
      | Attribute y nm ap =>
        cases xs with
        | nil => cases h
        | cons z zs =>
          cases kws with
          | cons _ _ => cases h
          | nil =>
            obtain ⟨h1, h2⟩ := b2 h
            obtain ⟨h3, h4⟩ := b2 h2
            obtain ⟨h5, h6⟩ := b2 h4
            obtain ⟨h7, h8⟩ := b2 h6
            obtain ⟨h9, h10⟩ := b2 h8
            have h1 := of_decide_eq_true h1
            have po := mE_ok o C y h9 X G
            have pa := mEs_ok es C (z :: zs) h10 X G
            cases m with
            | append =>
              cases h1
              exact e_append G po pa (noStars_of h10).1 (of_decide_eq_true h7) (nB_of h3) h5
            | extend =>
              cases h1
              exact e_extend G po pa (noStars_of h10).1 (of_decide_eq_true h7) (nB_of h3) h5
            | _ => cases h1
      | _ => cases h
    | _ => cases h
  | .sub a i, C, x, h, X, G => by
    cases x with
    | Subscript y z p =>
      obtain ⟨h1, h2⟩ := b2 h
      obtain ⟨h3, h4⟩ := b2 h2
      exact e_sub G (mE_ok a C y h3 X G) (mE_ok i C z h4 X G) (nB_of h1)
    | _ => cases h
  | .slice a lo hi st, C, x, h, X, G => by
    cases x with
    | Subscript y z p =>
      cases z with
      | Slice l u t q =>
        cases t with
        | some w =>
          simp only [mE] at h
          split at h
          · rename_i heq
            cases heq
          · rename_i heq
            cases heq
            obtain ⟨h1, h2⟩ := b2 h
            split at h1
            · exact e_back G (mE_ok a C y h2 X G)
            · cases h1
          · cases h
        | none =>
          cases st with
          | yes _ => cases h
          | no =>
            have h' : (mE S.tb C a y && (mPo S.tb C lo l && mPo S.tb C hi u)) = true := h
            obtain ⟨h3, h4⟩ := b2 h'
            obtain ⟨h5, h6⟩ := b2 h4
            exact e_slice G (mE_ok a C y h3 X G) (mPo_ok lo C l h5 X G) (mPo_ok hi C u h6 X G)
      | _ => cases h
    | _ => cases h
  | .comp e t it c own, C, x, h, X, G => by
    cases x with
    | ListComp elt gs scope p =>
      match gs, h with
      | [⟨tg, iter, ifs, .ofNat 0⟩], h =>
        obtain ⟨h1, h2⟩ := b2 h
        obtain ⟨h3, h4⟩ := b2 h2
        obtain ⟨h5, h6⟩ := b2 h4
        obtain ⟨h7, h8⟩ := b2 h6
        obtain ⟨h9, h10⟩ := b2 h8
        exact e_comp G (mI_ok it C tg iter h5 X G) h1 (fun X' G' => mT_ok t (C.in_ scope) tg _ h7 (stpB rfl) X' G') (fun X' G' => mIfs_via (fun z hz => mCd_ok c (C.in_ scope) z hz X' G') h9) (fun X' G' => mE_ok e (C.in_ scope) elt h10 X' G') (nB_of h3)
      | [⟨tg, iter, ifs, .ofNat (k + 1)⟩], h => cases h
      | [⟨tg, iter, ifs, .negSucc k⟩], h => cases h
      | [], h => cases h
      | ⟨_, _, _, .ofNat 0⟩ :: _ :: _, h => cases h
      | ⟨_, _, _, .ofNat (k + 1)⟩ :: _ :: _, h => cases h
      | ⟨_, _, _, .negSucc k⟩ :: _ :: _, h => cases h
    | _ => cases h
  | .comp2 e t it c t1 it1 c1 own own1, C, x, h, X, G => by
    cases x with
    | ListComp elt gs scope p =>
      match gs, h with
      | [⟨tg, iter, ifs, .ofNat 0⟩, ⟨tg1, iter1, ifs1, .ofNat 0⟩], h =>
        obtain ⟨h1, h2⟩ := b2 h
        obtain ⟨h3, h4⟩ := b2 h2
        obtain ⟨h5, h6⟩ := b2 h4
        obtain ⟨h7, h8⟩ := b2 h6
        obtain ⟨h9, h10⟩ := b2 h8
        obtain ⟨h11, h12⟩ := b2 h10
        obtain ⟨h13, h14⟩ := b2 h12
        obtain ⟨h15, h16⟩ := b2 h14
        obtain ⟨h17, h18⟩ := b2 h16
        obtain ⟨h19, h20⟩ := b2 h18
        exact e_comp2 G (mI_ok it C tg iter h9 X G) h1 h3 (fun X' G' => mT_ok t (C.in_ scope) tg _ h11 (stpB rfl) X' G') (fun X' G' => mIfs_via (fun z hz => mCd_ok c (C.in_ scope) z hz X' G') h13) (fun X' G' => mI_ok it1 (C.in_ scope) tg1 iter1 h15 X' G')
          (fun X' G' => mT_ok t1 (C.in_ scope) tg1 _ h17 (stpB rfl) X' G') (fun X' G' => mIfs_via (fun z hz => mCd_ok c1 (C.in_ scope) z hz X' G') h19) (fun X' G' => mE_ok e (C.in_ scope) elt h20 X' G') (nB_of h5) (nB_of h7)
      | [], h => cases h
      | [⟨tg, iter, ifs, .ofNat 0⟩], h => cases h
      | [⟨tg, iter, ifs, .ofNat (k + 1)⟩], h => cases h
      | [⟨tg, iter, ifs, .negSucc k⟩], h => cases h
      | ⟨_, _, _, .ofNat (k + 1)⟩ :: _ :: _, h => cases h
      | ⟨_, _, _, .negSucc k⟩ :: _ :: _, h => cases h
      | [⟨_, _, _, .ofNat 0⟩, ⟨_, _, _, .ofNat (k + 1)⟩], h => cases h
      | [⟨_, _, _, .ofNat 0⟩, ⟨_, _, _, .negSucc k⟩], h => cases h
      | ⟨_, _, _, .ofNat 0⟩ :: ⟨_, _, _, .ofNat 0⟩ :: _ :: _, h => cases h
      | ⟨_, _, _, .ofNat 0⟩ :: ⟨_, _, _, .ofNat (k + 1)⟩ :: _ :: _, h => cases h
      | ⟨_, _, _, .ofNat 0⟩ :: ⟨_, _, _, .negSucc k⟩ :: _ :: _, h => cases h
    | _ => cases h
theorem mEs_ok : ∀ (es : Es) (C : Cm) (xs : List Expr), mEs S.tb C es xs = true → ∀ X, Good S C n X → PA X xs (tEs S n es)
  | .nil, C, xs, h, X, G => by
    cases xs with
    | nil => exact a_nil
    | cons _ _ => cases h
  | .cons a r, C, xs, h, X, G => by
    cases xs with
    | nil => cases h
    | cons y ys =>
      obtain ⟨h1, h2⟩ := b2 h
      obtain ⟨h3, h4⟩ := b2 h2
      exact a_cons (mE_ok a C y h3 X G) (mEs_ok r C ys h4 X G) (nB_of h1)
theorem mDs_ok : ∀ (ds : Ds) (C : Cm) (xs : List Expr), mDs S.tb C ds xs = true → ∀ X, Good S C n X → PA X xs (tDs S n ds)
  | .nil, C, xs, h, X, G => by
    cases xs with
    | nil => exact d_nil
    | cons _ _ => cases h
  | .cons s a r, C, xs, h, X, G => by
    cases xs with
    | nil => cases h
    | cons y ys =>
      by_cases hy : ∃ z p, y = .Starred z p
      · obtain ⟨z, p, rfl⟩ := hy
        have h' : (s && (mE S.tb C a z && mDs S.tb C r ys)) = true := h
        obtain ⟨h1, h2⟩ := b2 h'
        obtain ⟨h3, h4⟩ := b2 h2
        subst h1
        exact d_star G (mE_ok a C z h3 X G) (mDs_ok r C ys h4 X G)
      · have h' : (nB s && (nB (isStar y) && (mE S.tb C a y && mDs S.tb C r ys))) = true := by
          cases y with
          | Starred z p => exact absurd ⟨z, p, rfl⟩ hy
          | _ => exact h
        obtain ⟨h1, h2⟩ := b2 h'
        obtain ⟨h3, h4⟩ := b2 h2
        obtain ⟨h5, h6⟩ := b2 h4
        have := nB_of h1
        subst this
        exact d_cons (mE_ok a C y h5 X G) (mDs_ok r C ys h6 X G) (nB_of h3)
theorem mKs_ok : ∀ (es : Es) (C : Cm) (xs : List Keyword), mKs S.tb C es xs = true → ∀ X, Good S C n X → PK X xs (tEs S n es)
  | .nil, C, xs, h, X, G => by
    cases xs with
    | nil => exact k_nil
    | cons _ _ => cases h
  | .cons a r, C, xs, h, X, G => by
    cases xs with
    | nil => cases h
    | cons y ys =>
      obtain ⟨nm, y, q⟩ := y
      obtain ⟨h1, h2⟩ := b2 h
      exact k_cons (mE_ok a C y h1 X G) (mKs_ok r C ys h2 X G)
theorem mPo_ok : ∀ (p : Po) (C : Cm) (x : Option Expr), mPo S.tb C p x = true → ∀ X, Good S C n X → PO X x (tP S n p)
  | .no, C, x, h, X, G => by
    cases x with
    | none => exact p_no
    | some _ => cases h
  | .yes a, C, x, h, X, G => by
    cases x with
    | none => cases h
    | some y => exact p_yes (mE_ok a C y h X G)
theorem mI_ok : ∀ (i : I) (C : Cm) (tg x : Expr), mI S.tb C i tg x = true → ∀ X, Good S C n X → PI X tg x (tI S n i)
  | .seq a, C, tg, x, h, X, G => i_seq G (mE_ok a C x h X G)
  | .rng es, C, tg, x, h, X, G => by
    cases x with
    | Call fx xs kws p =>
      cases fx with
      | Name nm q =>
        cases kws with
        | cons _ _ => cases h
        | nil =>
          obtain ⟨h1, h2⟩ := b2 h
          obtain ⟨h3, h4⟩ := b2 h2
          obtain ⟨h5, h6⟩ := b2 h4
          obtain ⟨h7, h8⟩ := b2 h6
          have e := of_decide_eq_true h1
          subst e
          obtain ⟨f1, f2⟩ := frOk_of h3
          have l := of_decide_eq_true h7
          have ns := (noStars_of h5).1
          match xs, h5, h8, l, ns with
          | [y], h5, _, l, ns => exact i_rng1 G F f1 f2 (mEs_ok es C [y] h5 X G) (noStars1 ns).1 l
          | [y, z], h5, _, l, ns => exact i_rng2 G F f1 f2 (mEs_ok es C [y, z] h5 X G) (noStars1 ns).1 (noStars1 (noStars1 ns).2).1 l
          | [], _, h8, _, _ => cases h8
          | _ :: _ :: _ :: _, _, h8, _, _ => cases h8
      | _ => cases h
    | _ => cases h
  | .zip p q, C, tg, x, h, X, G => by
    cases p with
    | seq a =>
      cases q with
      | seq b =>
        cases x with
        | Call fx xs kws pos =>
          cases fx with
          | Name nm np =>
            cases kws with
            | cons _ _ => cases xs with
              | nil => cases h
              | cons y ys => cases ys with
                | nil => cases h
                | cons z zs => cases zs with
                  | nil => cases h
                  | cons _ _ => cases h
            | nil =>
              match xs, h with
              | [y, z], h =>
                obtain ⟨h3, h4⟩ := b2 h
                obtain ⟨h5, h6⟩ := b2 h4
                obtain ⟨h7, h8⟩ := b2 h6
                obtain ⟨h9, h10⟩ := b2 h8
                obtain ⟨h11, h12⟩ := b2 h10
                have e := of_decide_eq_true h3
                subst e
                obtain ⟨f1, f2⟩ := frOk_of h5
                exact i_zip G F f1 f2 (mE_ok a C y h11 X G) (mE_ok b C z h12 X G) (nB_of h7) (nB_of h9)
              | [], h => cases h
              | [_], h => cases h
              | _ :: _ :: _ :: _, h => cases h
          | _ => cases h
        | _ => cases h
      | _ => cases h
    | _ => cases q <;> cases h
  | .comb a, C, tg, x, h, X, G => by
    have h' : (match cmbArg x with
      | some (nm, nm2, y) => decide ((nm, "itertools.combinations") ∈ S.tb.bfn) && (glOk C nm && (noDbg nm && (decide (nm2 = ("range" : Str)) && (frOk S.tb C nm2 && (nB (isStar y) && mE S.tb C a y)))))
      | none => false) = true := h
    cases q : cmbArg x with
    | none =>
      rw [q] at h'
      cases h'
    | some z =>
      obtain ⟨nm, nm2, y⟩ := z
      rw [q] at h'
      obtain ⟨p, p2, pos, pos2, j, cp, rfl⟩ := cmbArg_some q
      obtain ⟨h1, h2⟩ := b2 h'
      obtain ⟨h3, h4⟩ := b2 h2
      obtain ⟨h5, h6⟩ := b2 h4
      obtain ⟨h7, h8⟩ := b2 h6
      obtain ⟨h9, h10⟩ := b2 h8
      obtain ⟨h11, h12⟩ := b2 h10
      have e := of_decide_eq_true h7
      subst e
      obtain ⟨f1, f2⟩ := frOk_of h9
      exact i_comb G F (of_decide_eq_true h1) (of_decide_eq_true h3) (noDbg_of h5) f1 f2 (mE_ok a C y h12 X G) (nB_of h11)
  | .enum p, C, tg, x, h, X, G => by
    cases p with
    | seq a =>
      cases x with
      | Call fx xs kws pos =>
        cases fx with
        | Name nm np =>
          match xs, kws, h with
          | [y], [], h =>
            obtain ⟨h3, h4⟩ := b2 h
            obtain ⟨h5, h6⟩ := b2 h4
            obtain ⟨h7, h8⟩ := b2 h6
            have e := of_decide_eq_true h3
            subst e
            obtain ⟨f1, f2⟩ := frOk_of h5
            exact i_enum G F f1 f2 (mE_ok a C y h8 X G) (nB_of h7)
          | [], kws, h => cases h
          | [_], _ :: _, h => cases h
          | _ :: _ :: _, kws, h => cases h
        | _ => cases h
      | _ => cases h
    | zip p q =>
      cases p with
      | seq a =>
        cases q with
        | seq b =>
          simp only [mI] at h
          split at h
          case h_2 => cases h
          case h_1 nm _ nm2 _ y z _ _ =>
            obtain ⟨h1, h2⟩ := b2 h
            obtain ⟨h3, h4⟩ := b2 h2
            obtain ⟨h5, h6⟩ := b2 h4
            obtain ⟨h7, h8⟩ := b2 h6
            obtain ⟨h9, h10⟩ := b2 h8
            obtain ⟨h11, h12⟩ := b2 h10
            obtain ⟨h13, h14⟩ := b2 h12
            have e := of_decide_eq_true h1
            subst e
            have e2 := of_decide_eq_true h5
            subst e2
            obtain ⟨f1, f2⟩ := frOk_of h3
            obtain ⟨f3, f4⟩ := frOk_of h7
            exact i_enumz G F f1 f2 f3 f4 (mE_ok a C y h13 X G) (mE_ok b C z h14 X G) (nB_of h9) (nB_of h11)
        | _ => cases h
      | _ => cases q <;> cases h
    | _ => cases h
theorem mT_ok : ∀ (t : T) (C : Cm) (x : Expr) (ok : Nat → Bool), mT S.tb C ok t x = true → ∀ {R : L2.St → L2.St → Prop}, Stp R (fun i => ok i = true) → ∀ X, Good S C n X → PG X x (tGX S n R t)
  | .nm i, C, x, ok, h, R, E, X, G => by
    cases x with
    | Name nm p =>
      obtain ⟨h1, h2⟩ := b2 h
      obtain ⟨h3, h4⟩ := b2 h2
      exact g_nm G E (of_decide_eq_true h1) h3 h4
    | _ => cases h
  | .tup ts, C, x, ok, h, R, E, X, G => by
    cases x with
    | Tuple xs k p =>
      obtain ⟨h1, h2⟩ := b2 h
      exact g_tup G (mTs_ok ts C xs ok h2 E X G) (of_decide_eq_true h1) (noStarsT_of h2)
    | _ => cases h
  | .sub o i, C, x, ok, h, R, E, X, G => by
    cases x with
    | Subscript y z p =>
      obtain ⟨h1, h2⟩ := b2 h
      obtain ⟨h3, h4⟩ := b2 h2
      exact g_sub G (mE_ok o C y h3 X G) (mE_ok i C z h4 X G) (nB_of h1) E
    | _ => cases h
theorem mTs_ok : ∀ (ts : Ts) (C : Cm) (xs : List Expr) (ok : Nat → Bool), mTs S.tb C ok ts xs = true → ∀ {R : L2.St → L2.St → Prop}, Stp R (fun i => ok i = true) → ∀ X, Good S C n X → PGs X xs (tGXs S n R ts)
  | .nil, C, xs, ok, h, R, E, X, G => by
    cases xs with
    | nil => exact gs_nil E
    | cons _ _ => cases h
  | .cons t r, C, xs, ok, h, R, E, X, G => by
    cases xs with
    | nil => cases h
    | cons y ys =>
      obtain ⟨h1, h2⟩ := b2 h
      obtain ⟨h3, h4⟩ := b2 h2
      exact gs_cons E (mT_ok t C y ok h3 E X G) (mTs_ok r C ys ok h4 E X G) (nB_of h1)
theorem mCd_ok : ∀ (c : Cd) (C : Cm) (x : Expr), mCd S.tb C c x = true → ∀ X, Good S C n X → PT X x (tCd S n c)
  | .tt, C, x, h, X, G => by cases h
  | .and a b, C, x, h, X, G => by
    cases x with
    | BoolOp op vs p =>
      cases op with
      | And =>
        match vs, h with
        | [y, z], h =>
          obtain ⟨h1, h2⟩ := b2 h
          exact (c_and (mCd_ok a C y h1 X G) (c_and1 (mCd_ok b C z h2 X G))).pt
        | y :: z :: w :: r, h =>
          obtain ⟨h1, h2⟩ := b2 h
          exact (c_and (mCd_ok a C y h1 X G) (mCdW_ok b C _ h2 X G)).pt
        | [], h => cases h
        | [_], h => cases h
      | Or => cases h
    | _ => cases h
  | .or a b, C, x, h, X, G => by
    cases x with
    | BoolOp op vs p =>
      cases op with
      | Or =>
        match vs, h with
        | [y, z], h =>
          obtain ⟨h1, h2⟩ := b2 h
          exact (c_or (mCd_ok a C y h1 X G) (c_or1 (mCd_ok b C z h2 X G))).pt
        | y :: z :: w :: r, h =>
          obtain ⟨h1, h2⟩ := b2 h
          exact (c_or (mCd_ok a C y h1 X G) (mCdW_ok b C _ h2 X G)).pt
        | [], h => cases h
        | [_], h => cases h
      | And => cases h
    | _ => cases h
  | .not a, C, x, h, X, G => by
    cases x with
    | UnaryOp op y p =>
      cases op with
      | Not => exact c_not (mCd_ok a C y h X G)
      | _ => cases h
    | _ => cases h
  | .val e, C, x, h, X, G => by
    cases e with
    | op o a b =>
      cases x with
      | BinOp y p z q =>
        obtain ⟨h1, h2⟩ := b2 h
        obtain ⟨h3, h4⟩ := b2 h2
        exact c_val G (e_op G (mE_ok a C y h3 X G) (mE_ok b C z h4 X G) (opOf_f (of_decide_eq_true h1))) rfl
      | Compare y ps zs q =>
        match ps, zs, h with
        | [p], [z], h =>
          obtain ⟨h1, h2⟩ := b2 h
          obtain ⟨h3, h4⟩ := b2 h2
          obtain ⟨h5, h6⟩ := b2 h4
          exact c_cmp G (mE_ok a C y h5 X G) (mE_ok b C z h6 X G) (of_decide_eq_true h1) (nB_of h3)
        | [], zs, h => cases h
        | _ :: _ :: _, zs, h => cases h
        | [_], [], h => cases h
        | [_], _ :: _ :: _, h => cases h
      | _ => cases h
    | chain o p a b c =>
      cases x with
      | Compare y ps zs q =>
        match ps, zs, h with
        | [q, r], [z, w], h =>
          obtain ⟨h1, h2⟩ := b2 h
          obtain ⟨h3, h4⟩ := b2 h2
          obtain ⟨h5, h6⟩ := b2 h4
          obtain ⟨h7, h8⟩ := b2 h6
          obtain ⟨h9, h10⟩ := b2 h8
          exact c_chain G (mE_ok a C y h7 X G) (mE_ok b C z h9 X G) (mE_ok c C w h10 X G) (of_decide_eq_true h1) (of_decide_eq_true h3) (nB_of h5)
        | [], zs, h => cases h
        | [_], zs, h => cases h
        | _ :: _ :: _ :: _, zs, h => cases h
        | [_, _], [], h => cases h
        | [_, _], [_], h => cases h
        | [_, _], _ :: _ :: _ :: _, h => cases h
      | _ => cases h
    | var i => exact c_val G (mE_ok (.var i) C x (b2 h).2 X G) (b2 h).1
    | con d => exact c_val G (mE_ok (.con d) C x (b2 h).2 X G) (b2 h).1
    | glo i => exact c_val G (mE_ok (.glo i) C x (b2 h).2 X G) (b2 h).1
    | tup es => exact c_val G (mE_ok (.tup es) C x (b2 h).2 X G) (b2 h).1
    | lst es => exact c_val G (mE_ok (.lst es) C x (b2 h).2 X G) (b2 h).1
    | disp db dz => exact c_val G (mE_ok (.disp db dz) C x (b2 h).2 X G) (b2 h).1
    | neg a => exact c_val G (mE_ok (.neg a) C x (b2 h).2 X G) (b2 h).1
    | not a => exact c_val G (mE_ok (.not a) C x (b2 h).2 X G) (b2 h).1
    | and a b => exact c_val G (mE_ok (.and a b) C x (b2 h).2 X G) (b2 h).1
    | or a b => exact c_val G (mE_ok (.or a b) C x (b2 h).2 X G) (b2 h).1
    | ite c a b => exact c_val G (mE_ok (.ite c a b) C x (b2 h).2 X G) (b2 h).1
    | call f es => exact c_val G (mE_ok (.call f es) C x (b2 h).2 X G) (b2 h).1
    | callk f es ks arr => exact c_val G (mE_ok (.callk f es ks arr) C x (b2 h).2 X G) (b2 h).1
    | blt b es => exact c_val G (mE_ok (.blt b es) C x (b2 h).2 X G) (b2 h).1
    | meth m o es => exact c_val G (mE_ok (.meth m o es) C x (b2 h).2 X G) (b2 h).1
    | sub a i => exact c_val G (mE_ok (.sub a i) C x (b2 h).2 X G) (b2 h).1
    | slice a lo hi st => exact c_val G (mE_ok (.slice a lo hi st) C x (b2 h).2 X G) (b2 h).1
    | comp e t it c own => exact c_val G (mE_ok (.comp e t it c own) C x (b2 h).2 X G) (b2 h).1
    | comp2 e t it c t1 it1 c1 own own1 => exact c_val G (mE_ok (.comp2 e t it c t1 it1 c1 own own1) C x (b2 h).2 X G) (b2 h).1
theorem mCdW_ok : ∀ (c : Cd) (C : Cm) (x : Expr), mCdW S.tb C c x = true → ∀ X, Good S C n X → PW X x (tCd S n c)
  | .tt, C, x, h, X, G => by cases h
  | .not a, C, x, h, X, G => by cases h
  | .val e, C, x, h, X, G => by cases h
  | .and a b, C, x, h, X, G => by
    cases x with
    | BoolOp op vs p =>
      cases op with
      | And =>
        match vs, h with
        | [y, z], h =>
          obtain ⟨h1, h2⟩ := b2 h
          exact c_and (mCd_ok a C y h1 X G) (c_and1 (mCd_ok b C z h2 X G))
        | y :: z :: w :: r, h =>
          obtain ⟨h1, h2⟩ := b2 h
          exact c_and (mCd_ok a C y h1 X G) (mCdW_ok b C _ h2 X G)
        | [], h => cases h
        | [_], h => cases h
      | Or => cases h
    | _ => cases h
  | .or a b, C, x, h, X, G => by
    cases x with
    | BoolOp op vs p =>
      cases op with
      | Or =>
        match vs, h with
        | [y, z], h =>
          obtain ⟨h1, h2⟩ := b2 h
          exact c_or (mCd_ok a C y h1 X G) (c_or1 (mCd_ok b C z h2 X G))
        | y :: z :: w :: r, h =>
          obtain ⟨h1, h2⟩ := b2 h
          exact c_or (mCd_ok a C y h1 X G) (mCdW_ok b C _ h2 X G)
        | [], h => cases h
        | [_], h => cases h
      | And => cases h
    | _ => cases h
end
end
end Ev
namespace Ev
open PySem PySem.Spec PyProof.Rows L2

section
variable (tb : Tb)
def mAsg (C : Cm) (t : T) (e : E) (tg x : Expr) : Bool := nB (isComp x) && (nB (isStar tg) && (stoN C tg x && (mE tb C e x && mT tb C (fun _ => true) t tg)))
def mLcS (C : Cm) (t : T) (e : E) (tg x : Expr) : Bool := match t, e, tg, x with
  | .nm i, .comp e t it c own, .Name nm py, .ListComp elt [⟨tg, iter, ifs, 0⟩] scope pos => decide (C.N[i]? = some nm) && (swOk C scope nm py pos && (ownOk C.N C.sc scope own && (nB (isSetE iter) && (mI tb C it tg iter && (mT tb (C.in_ scope) (fun i => own.contains i) t tg && (mIfs tb (C.in_ scope) c ifs && mE tb (C.in_ scope) e elt))))))
  | .nm i, .comp2 e t it c t1 it1 c1 own own1, .Name nm py, .ListComp elt [⟨tg, iter, ifs, 0⟩, ⟨tg1, iter1, ifs1, 0⟩] scope pos => decide (C.N[i]? = some nm) && (swOk C scope nm py pos && (ownOk C.N C.sc scope own && ((own1.all fun i => own.contains i) && (nB (isSetE iter) && (nB (isSetE iter1) && (mI tb C it tg iter && (mT tb (C.in_ scope) (fun i => own.contains i) t tg && (mIfs tb (C.in_ scope) c ifs &&
        (mI tb (C.in_ scope) it1 tg1 iter1 && (mT tb (C.in_ scope) (fun i => own1.contains i) t1 tg1 && (mIfs tb (C.in_ scope) c1 ifs1 && mE tb (C.in_ scope) e elt)))))))))))
  | _, _, _, _ => false
def mPar (C : Cm) (is : List Nat) (es : Es) (ts vs : List Expr) : Bool := match is, ts, vs with
  | [i, j], [.Name x px, .Name y py], [a, b] => decide (C.N[i]? = some x) && (decide (C.N[j]? = some y) && (decide (i ≠ j) && (mEs tb C es [a, b] && parOk C [(x, px), (y, py)] [a, b])))
  | [i, j, l], [.Name x px, .Name y py, .Name z pz], [a, b, c] => decide (C.N[i]? = some x) && (decide (C.N[j]? = some y) && (decide (C.N[l]? = some z) && (decide (i ≠ j) && (decide (i ≠ l) && (decide (j ≠ l) && (mEs tb C es [a, b, c] && parOk C [(x, px), (y, py), (z, pz)] [a, b, c]))))))
  | _, _, _ => false
mutual
def mS (C : Cm) : Ev.S → Stmt → Bool
  | .asg t e, st => (match st with
    | .Assign [tg] x _ => mAsg tb C t e tg x || mLcS tb C t e tg x
    | _ => false)
  | .par is es, st => (match st with
    | .Assign [tg] x _ => (match tg with
      | .Tuple ts _ _ => (match x with
        | .Tuple vs _ _ => mPar tb C is es ts vs
        | _ => false)
      | _ => false)
    | _ => false)
  | .ex e, st => (match st with
    | .Expr x _ => nB (isComp x) && mE tb C e x
    | _ => false)
  | .ret e, st => (match st with
    | .Return (some x) _ => mE tb C e x
    | _ => false)
  | .retN, st => (match st with
    | .Return none _ => true
    | _ => false)
  | .ite c a b, st => (match st with
    | .If x as bs _ => mCd tb C c x && (mSs C a as && mSs C b bs)
    | _ => false)
  | .for_ t it b, st => (match st with
    | .For tg x bs [] _ => nB (isSetE x) && (mI tb C it tg x && (mT tb C (fun _ => true) t tg && mSs C b bs))
    | _ => false)
  | .while_ c b, st => (match st with
    | .While x bs [] _ => mCd tb C c x && mSs C b bs
    | _ => false)
  | .pass, st => (match st with
    | .Pass _ => true
    | .Expr (.Constant (.str _) _ _) _ => true
    | _ => false)
  | .brk, st => (match st with
    | .Break _ => true
    | _ => false)
  | .cnt, st => (match st with
    | .Continue _ => true
    | _ => false)
  | .aug _ _ _, _ => false
  | .never, _ => true
def mSs (C : Cm) : Ev.Ss → List Stmt → Bool
  | .nil, xs => (match xs with
    | [] => true
    | _ => false)
  | .cons s r, xs => (match xs with
    | y :: ys => mS C s y && mSs C r ys
    | _ => false)
end
end
section
variable {S : Sta} {n : Nat} (F : Fns S n)
include F
theorem mAsg_ok {C : Cm} {t : T} {e : E} {tg x : Expr} {pos : Pos} (h : mAsg S.tb C t e tg x = true) (X : Cx) (G : Good S C n X) : PS X (.Assign [tg] x pos) (tS S n (.asg t e)) := by
  obtain ⟨h1, h2⟩ := b2 h
  obtain ⟨h3, h4⟩ := b2 h2
  obtain ⟨h5, h6⟩ := b2 h4
  obtain ⟨h7, h8⟩ := b2 h6
  exact s_asg G (mE_ok F e C x h7 X G) (mT_ok F t C tg _ h8 (stp_all.imp fun _ _ => trivial) X G) (nB_of h1) (stoN_of G h5) (nB_of h3)
theorem mLcS_ok {C : Cm} {t : T} {e : E} {tg x : Expr} {pos : Pos} (h : mLcS S.tb C t e tg x = true) (X : Cx) (G : Good S C n X) : PS X (.Assign [tg] x pos) (tS S n (.asg t e)) := by
  unfold mLcS at h
  split at h
  · obtain ⟨ha, h⟩ := b2 h
    obtain ⟨hb, h⟩ := b2 h
    obtain ⟨h1, h2⟩ := b2 h
    obtain ⟨h3, h4⟩ := b2 h2
    obtain ⟨h5, h6⟩ := b2 h4
    obtain ⟨h7, h8⟩ := b2 h6
    obtain ⟨h9, h10⟩ := b2 h8
    exact s_setLc G (of_decide_eq_true ha) hb (mI_ok F _ C _ _ h5 X G) h1 (fun X' G' => mT_ok F _ (C.in_ _) _ _ h7 (stpB rfl) X' G') (fun X' G' => mIfs_via (fun z hz => mCd_ok F _ (C.in_ _) z hz X' G') h9) (fun X' G' => mE_ok F _ (C.in_ _) _ h10 X' G') (nB_of h3)
  · obtain ⟨ha, h⟩ := b2 h
    obtain ⟨hb, h⟩ := b2 h
    obtain ⟨h1, h2⟩ := b2 h
    obtain ⟨h3, h4⟩ := b2 h2
    obtain ⟨h5, h6⟩ := b2 h4
    obtain ⟨h7, h8⟩ := b2 h6
    obtain ⟨h9, h10⟩ := b2 h8
    obtain ⟨h11, h12⟩ := b2 h10
    obtain ⟨h13, h14⟩ := b2 h12
    obtain ⟨h15, h16⟩ := b2 h14
    obtain ⟨h17, h18⟩ := b2 h16
    obtain ⟨h19, h20⟩ := b2 h18
    exact s_setLc2 G (of_decide_eq_true ha) hb (mI_ok F _ C _ _ h9 X G) h1 h3 (fun X' G' => mT_ok F _ (C.in_ _) _ _ h11 (stpB rfl) X' G') (fun X' G' => mIfs_via (fun z hz => mCd_ok F _ (C.in_ _) z hz X' G') h13) (fun X' G' => mI_ok F _ (C.in_ _) _ _ h15 X' G')
      (fun X' G' => mT_ok F _ (C.in_ _) _ _ h17 (stpB rfl) X' G') (fun X' G' => mIfs_via (fun z hz => mCd_ok F _ (C.in_ _) z hz X' G') h19) (fun X' G' => mE_ok F _ (C.in_ _) _ h20 X' G') (nB_of h5) (nB_of h7)
  · cases h
theorem mPar_ok {C : Cm} {is : List Nat} {es : Es} {ts vs : List Expr} {k1 k2 : Nat} {p1 p2 pos : Pos} (h : mPar S.tb C is es ts vs = true) (X : Cx) (G : Good S C n X) : PS X (.Assign [.Tuple ts k1 p1] (.Tuple vs k2 p2) pos) (tS S n (.par is es)) := by
  unfold mPar at h
  split at h
  · obtain ⟨h1, h2⟩ := b2 h
    obtain ⟨h3, h4⟩ := b2 h2
    obtain ⟨h5, h6⟩ := b2 h4
    obtain ⟨h7, h8⟩ := b2 h6
    exact s_par2 G (of_decide_eq_true h1) (of_decide_eq_true h3) (of_decide_eq_true h5) (mEs_ok F es C _ h7 X G) h8
  · obtain ⟨h1, h2⟩ := b2 h
    obtain ⟨h3, h4⟩ := b2 h2
    obtain ⟨h5, h6⟩ := b2 h4
    obtain ⟨h7, h8⟩ := b2 h6
    obtain ⟨h9, h10⟩ := b2 h8
    obtain ⟨h11, h12⟩ := b2 h10
    obtain ⟨h13, h14⟩ := b2 h12
    exact s_par3 G (of_decide_eq_true h1) (of_decide_eq_true h3) (of_decide_eq_true h5) (of_decide_eq_true h7) (of_decide_eq_true h9) (of_decide_eq_true h11) (mEs_ok F es C _ h13 X G) h14
  · cases h
mutual
theorem mS_ok : ∀ (s : Ev.S) (C : Cm) (st : Stmt), mS S.tb C s st = true → ∀ X, Good S C n X → PS X st (tS S n s)
  | .asg t e, C, st, h, X, G => by
    cases st with
    | Assign ts x p =>
      match ts, h with
      | [tg], h =>
        rcases Bool.or_eq_true_iff.mp h with h | h
        · exact mAsg_ok F h X G
        · exact mLcS_ok F h X G
      | [], h => cases h
      | _ :: _ :: _, h => cases h
    | _ => cases h
  | .par is es, C, st, h, X, G => by
    cases st with
    | Assign ts x p =>
      match ts, h with
      | [tg], h =>
        cases tg with
        | Tuple ts k q => cases x with
          | Tuple vs k2 q2 => exact mPar_ok F h X G
          | _ => cases h
        | _ => cases h
      | [], h => cases h
      | _ :: _ :: _, h => cases h
    | _ => cases h
  | .ex e, C, st, h, X, G => by
    cases st with
    | Expr x p =>
      obtain ⟨h1, h2⟩ := b2 h
      exact s_ex (mE_ok F e C x h2 X G) (nB_of h1)
    | _ => cases h
  | .ret e, C, st, h, X, G => by
    cases st with
    | Return x p =>
      cases x with
      | none => cases h
      | some x => exact s_ret (mE_ok F e C x h X G)
    | _ => cases h
  | .retN, C, st, h, X, G => by
    cases st with
    | Return x p =>
      cases x with
      | none => exact s_retN
      | some x => cases h
    | _ => cases h
  | .ite c a b, C, st, h, X, G => by
    cases st with
    | If x as bs p =>
      obtain ⟨h1, h2⟩ := b2 h
      obtain ⟨h3, h4⟩ := b2 h2
      exact s_ite (mCd_ok F c C x h1 X G) (mSs_ok a C as h3 X G) (mSs_ok b C bs h4 X G)
    | _ => cases h
  | .for_ t it b, C, st, h, X, G => by
    cases st with
    | For tg x bs os p =>
      cases os with
      | cons _ _ => cases h
      | nil =>
        obtain ⟨h1, h2⟩ := b2 h
        obtain ⟨h3, h4⟩ := b2 h2
        obtain ⟨h5, h6⟩ := b2 h4
        exact s_for G (mI_ok F it C tg x h3 X G) (mT_ok F t C tg _ h5 (stp_all.imp fun _ _ => trivial) X G) (mSs_ok b C bs h6 X G) (nB_of h1)
    | _ => cases h
  | .while_ c b, C, st, h, X, G => by
    cases st with
    | While x bs os p =>
      cases os with
      | cons _ _ => cases h
      | nil =>
        obtain ⟨h1, h2⟩ := b2 h
        exact s_while G (mCd_ok F c C x h1 X G) (mSs_ok b C bs h2 X G)
    | _ => cases h
  | .pass, C, st, h, X, G => by
    cases st with
    | Pass p => exact s_pass
    | Expr x p =>
      cases x with
      | Constant v k q =>
        cases v with
        | str z => exact s_doc
        | _ => cases h
      | _ => cases h
    | _ => cases h
  | .brk, C, st, h, X, G => by
    cases st with
    | Break p => exact s_brk
    | _ => cases h
  | .cnt, C, st, h, X, G => by
    cases st with
    | Continue p => exact s_cnt
    | _ => cases h
  | .aug _ _ _, C, st, h, X, G => by cases h
  | .never, C, st, h, X, G => s_never
theorem mSs_ok : ∀ (ss : Ev.Ss) (C : Cm) (sts : List Stmt), mSs S.tb C ss sts = true → ∀ X, Good S C n X → PSs X sts (tSs S n ss)
  | .nil, C, sts, h, X, G => by
    cases sts with
    | nil => exact ss_nil
    | cons _ _ => cases h
  | .cons s r, C, sts, h, X, G => by
    cases sts with
    | nil => cases h
    | cons y ys =>
      obtain ⟨h1, h2⟩ := b2 h
      exact ss_cons (mS_ok s C y h1 X G) (mSs_ok r C ys h2 X G)
end
end
end Ev
namespace Ev
open PySem PySem.Spec PyProof.Rows L2

/-! ### the defs -/
def scopeC (N P : List Str) (sc : Scope) : Bool := (match sc.kind with | .function => true | _ => false) && (nB sc.isCoroutine && (nB sc.isGenerator && (decide N.Nodup && (decide (N.take P.length = P) &&
  ((P.all fun x => decide (sc.names.lookup x = some .local) || decide (sc.names.lookup x = some .cell)) && sc.names.all fun y => decide (y.2 ≠ .free))))))
theorem scopeC_of {N P : List Str} {sc : Scope} (h : scopeC N P sc = true) : FnScope N P sc := by
  obtain ⟨h1, h⟩ := b2 h
  obtain ⟨h2, h⟩ := b2 h
  obtain ⟨h3, h⟩ := b2 h
  obtain ⟨h4, h⟩ := b2 h
  obtain ⟨h5, h⟩ := b2 h
  obtain ⟨h6, h7⟩ := b2 h
  refine ⟨?_, nB_of h2, nB_of h3, of_decide_eq_true h4, of_decide_eq_true h5, fun x hx => ?_, fun y hy => of_decide_eq_true (List.all_eq_true.mp h7 y hy)⟩
  · cases q : sc.kind with
    | function => rfl
    | _ =>
      rw [q] at h1
      cases h1
  · have := List.all_eq_true.mp h6 x hx
    rcases Bool.or_eq_true_iff.mp this with q | q
    · exact .inl (of_decide_eq_true q)
    · exact .inr (of_decide_eq_true q)
/-- a def's parameters: plain ones -/
def parsC (ps : List Str) (p : Arguments) : Bool := p.posonlyargs.isEmpty && (p.vararg.isNone && (p.kwonlyargs.isEmpty && (p.kw_defaults.isEmpty && (p.kwarg.isNone && decide (p.args.map (·.arg) = ps)))))
theorem parsC_of {ps : List Str} {p : Arguments} (h : parsC ps p = true) : p = ⟨[], p.args, none, [], [], none, p.defaults⟩ ∧ p.args.map (·.arg) = ps := by
  obtain ⟨a, b, c, d, e, f, g⟩ := p
  obtain ⟨h1, h⟩ := b2 h
  obtain ⟨h2, h⟩ := b2 h
  obtain ⟨h3, h⟩ := b2 h
  obtain ⟨h4, h⟩ := b2 h
  obtain ⟨h5, h6⟩ := b2 h
  refine ⟨?_, of_decide_eq_true h6⟩
  cases a with
  | cons _ _ => cases h1
  | nil => cases c with
    | some _ => cases h2
    | none => cases d with
      | cons _ _ => cases h3
      | nil => cases e with
        | cons _ _ => cases h4
        | nil => cases f with
          | some _ => cases h5
          | none => rfl
def dvB : D → He.Dv → Bool
  | .non, .non => true
  | .bl b, .bl c => b == c
  | .int i, .int j => decide (i = j)
  | .str x, .str y => decide (x = y)
  | .ty t, .ty u => decide (t = u)
  | _, _ => false
theorem dvB_of {K : PySem.W.Frag} {FA : Nat → Addr} {ρ : List Addr} {H : Hp} {d : D} {v : He.Dv} (h : dvB d v = true) : RelD K FA ρ H d (v.v K) := by
  unfold dvB at h
  split at h
  · rfl
  · rename_i b c
    rw [show b = c from eq_of_beq h]
    rfl
  · rename_i i j
    rw [show i = j from of_decide_eq_true h]
    rfl
  · rename_i x y
    rw [show x = y from of_decide_eq_true h]
    rfl
  · rename_i x y
    rw [show x = y from of_decide_eq_true h]
    rfl
  · cases h
def dvsB : List D → List He.Dv → Bool
  | [], [] => true
  | d :: ds, v :: vs => dvB d v && dvsB ds vs
  | _, _ => false
theorem dvsB_of {K : PySem.W.Frag} {FA : Nat → Addr} {ρ : List Addr} {H : Hp} : ∀ {ds : List D} {vs : List He.Dv}, dvsB ds vs = true → RelDs K FA ρ H ds (vs.map (He.Dv.v K))
  | [], [], _ => rfl
  | [], _ :: _, h => by cases h
  | _ :: _, [], h => by cases h
  | d :: ds, v :: vs, h => by
    obtain ⟨h1, h2⟩ := b2 h
    exact ⟨_, _, rfl, dvB_of h1, dvsB_of h2⟩
/-- a def of the text beside its form for the evaluator -/
def defOk (tb : Tb) (fd : Fd) (d : He.DefD) : Bool := decide (fd.name = d.name) && (parsC fd.ps d.params && (scopeC fd.N fd.ps d.scope && (dvsB fd.dfl d.dfl && mSs tb ⟨fd.N, d.scope, fun _ => true⟩ fd.body d.body)))
theorem RelS.start {K : PySem.W.Frag} {FA : Nat → Addr} {ρ : List Addr} {H : Hp} : ∀ {ds : List D} {vs : List V} (k : Nat), RelDs K FA ρ H ds vs → RelS K FA ρ H (ds.map some ++ List.replicate k none) (vs.map some ++ List.replicate k none)
  | [], vs, k, h => by
    obtain rfl : vs = [] := h
    induction k with
    | zero => rfl
    | succ k ih => exact ⟨none, _, rfl, trivial, ih⟩
  | d :: ds, vs, k, h => by
    obtain ⟨v, r, rfl, h1, h2⟩ := h
    exact ⟨some v, _, rfl, ⟨v, rfl, h1⟩, RelS.start k h2⟩
section
variable {S : Sta}
theorem fn_zero {f : Nat} {fd : Fd} {fdata : FuncData} : FnK S.P S.w S.K S.mg S.base 0 (S.FA f) fdata fd.ps (spF S 0 f) :=
  ⟨fun vs H Q E h => by obtain ⟨_, _, _, _, _, h⟩ := h; exact h.elim, fun _ _ _ _ _ _ _ _ _ _ _ _ _ _ h => by obtain ⟨_, _, _, _, _, h⟩ := h; exact h.elim⟩
theorem fn_body {n f : Nat} {fd : Fd} (hf : S.T[f]? = some fd) {vs : List V} {H : Hp} {Q : VK} {E : XK} (h : spF S (n + 1) f vs H Q E) :
    vs.length = fd.ps.length ∧ tSs S n fd.body { nx := fun _ H' => Q .non H', rt := Q } (start fd.N vs) H := by
  obtain ⟨ρ, M, ds, r, rd, h⟩ := h
  have h1 : PostD S.K S.FA (match S.T[f]? with
    | some fd => if ds.length = fd.ps.length then
        (exs (S.cfg n) fd.body (ds.map some ++ List.replicate (fd.N.length - ds.length) none) M).bind fun fl M => match fl with
          | .rt d => .ok d M
          | .nx _ => .ok .non M
          | _ => .bad
      else .bad
    | none => .bad) ρ H Q := h
  rw [hf] at h1
  dsimp only at h1
  by_cases hl : ds.length = fd.ps.length
  · rw [if_pos hl] at h1
    refine ⟨by rw [rd.length, hl], ρ, M, ds.map some ++ List.replicate (fd.N.length - ds.length) none, r, ?_, ?_⟩
    · unfold L2.start
      rw [rd.length]
      exact RelS.start _ rd
    · cases q : exs (S.cfg n) fd.body (ds.map some ++ List.replicate (fd.N.length - ds.length) none) M with
      | bad =>
        rw [q] at h1
        exact h1.elim
      | exc c p M =>
        rw [q] at h1
        exact h1.elim
      | ok fl M' =>
        rw [q] at h1
        cases fl with
        | nx τ => exact fun ρ' H' σ e r _ => h1 ρ' H' .non e r rfl
        | rt d => exact fun ρ' H' v e r q => h1 ρ' H' v e r q
        | bk τ => exact h1.elim
        | ct τ => exact h1.elim
  · rw [if_neg hl] at h1
    exact h1.elim
/-- all defs keep their promise -/
theorem fns_all (top : Top S) (hd : ∀ (f : Nat) (fd : Fd), S.T[f]? = some fd → ∃ (d : He.DefD) (fdata : FuncData), FunD S.K d.name d.qual d.params d.body d.scope (d.dvs S.K) (d.kws S.K) (S.FA f) fdata ∧ defOk S.tb fd d = true) : ∀ n, Fns S n := by
  intro n
  induction n with
  | zero =>
    refine ⟨top, fun f fd hf => ?_⟩
    obtain ⟨d, fdata, F, ok⟩ := hd f fd hf
    obtain ⟨_, h⟩ := b2 ok
    obtain ⟨h2, h⟩ := b2 h
    obtain ⟨_, h⟩ := b2 h
    obtain ⟨h4, _⟩ := b2 h
    obtain ⟨p1, p2⟩ := parsC_of h2
    obtain ⟨oc, od, dV, kV, doc, pm, an, cdv, ct, osl, e, lk, hcd, dv, _⟩ := F.ex
    subst e
    exact ⟨PySem.W.fnOf d.name d.qual d.params d.body d.scope dV kV doc pm an cdv ct, d.params.args, d.params.defaults, _, fn_zero, p1, p2, dv, fun ρ H => dvsB_of h4, _, _, _, lk⟩
  | succ n ih =>
    refine ⟨top, fun f fd hf => ?_⟩
    obtain ⟨d, fdata, F, ok⟩ := hd f fd hf
    obtain ⟨_, h⟩ := b2 ok
    obtain ⟨h2, h⟩ := b2 h
    obtain ⟨h3, h⟩ := b2 h
    obtain ⟨h4, h5⟩ := b2 h
    obtain ⟨p1, p2⟩ := parsC_of h2
    have sc := scopeC_of h3
    have fk : FnK S.P S.w S.K S.mg S.base (n + 1) (S.FA f) fdata fd.ps (spF S (n + 1) f) := by
      refine fnK_of F sc (fun vs H Q E h => (fn_body hf h).1) fun cdv A outer s H vs Q E room gd hp => ⟨tSs S n fd.body, PSs.nox ?_, (fn_body hf hp).2⟩
      refine mSs_ok ih fd.body ⟨fd.N, d.scope, fun _ => true⟩ d.body h5 _ ?_
      exact ⟨rfl, rfl, rfl, rfl, rfl, rfl, rfl, rfl, sc.nd, room, gd, PassesOwn.never, fun _ _ => rfl, sc.kind⟩
    obtain ⟨oc, od, dV, kV, doc, pm, an, cdv, ct, osl, e, lk, hcd, dv, _⟩ := F.ex
    subst e
    exact ⟨PySem.W.fnOf d.name d.qual d.params d.body d.scope dV kV doc pm an cdv ct, d.params.args, d.params.defaults, _, fk, p1, p2, dv, fun ρ H => dvsB_of h4, _, _, _, lk⟩
end
end Ev
namespace Ev
open PySem PySem.Spec PyProof.Rows L2

/-! ### the law's call -/
/-- no list stands in the told part of the heap -/
def NoL (K : PySem.W.Frag) : Prop := ∀ a o, K.lookup a = some o → o.cls ≠ .type "list"
theorem run_law {P : Program} {w : World} {K : PySem.W.Frag} {mg mb : Str → Option Value} {k : Nat} {fa a : Addr} {fd : FuncData} {x : Str} {sp : Sp} {s1 : Shared} {us : List Value} {ns : List Int}
    (kin : K.In s1.heap) (nl : NoL K) (gm : s1.heap.Ns mainGlobals mg) (gb : s1.heap.Ns builtinsNs mb) (bb : ∀ x : Str, x ≠ "__name__" → mb x = bootBuiltins x) (lim : s1.heap.NoLimit) (gen : s1.gens = #[])
    (at_ : s1.heap.get? a = some { cls := .type "list", data := .seq us.toArray }) (are : IntsAre us ns) (few : ns.length ≤ sizeLine) (room : Room k callerA)
    (F : ∀ base : Heap, K.In base → base.Ns mainGlobals mg → FnK P w K mg base k fa fd [x] sp) (bind : ∀ (s : Shared) (u : Value), BindsTo s fd ⟨[u], []⟩ [(x, u)])
    (law : ∀ (H : Hp) (o : Obj), H a = some (.frz o (.lst (ns.map V.int))) → sp [.ref a] H (fun v _ => v = .bl true) E0) :
    codeAny (model P w) callerA (.call (.ref fa) ⟨[.ref a], []⟩) (fun r s' => r = .ok (.ret (.bool true)) ∧ OldK s1.heap s'.heap ∧ s'.os = s1.os ∧ AllBare s'.gens) s1 := by
  have rv : Vals (ns.map V.int) us := vals_ints are
  have nk : K.lookup a = none := by
    cases q : K.lookup a with
    | none => rfl
    | some o =>
      have e := kin a o q
      rw [at_] at e
      cases e
      exact absurd rfl (nl a _ q)
  let H : Hp := fun b => if b = a then some (.frz { cls := .type "list", data := .seq us.toArray } (.lst (ns.map V.int))) else none
  have Ha : H a = some (.frz { cls := .type "list", data := .seq us.toArray } (.lst (ns.map V.int))) := if_pos rfl
  have Hb : ∀ b, b ≠ a → H b = none := fun b hb => if_neg hb
  have hok : HOk P w H s1.heap := fun b u z => by
    by_cases hb : b = a
    · subst hb
      rw [Ha] at z
      cases z
      exact ⟨at_, by rw [List.length_map]; exact few, us, _, rv, at_⟩
    · rw [Hb b hb] at z
      cases z
  have other : ∀ {b : Addr} {o : Obj} {m : Str → Option Value}, s1.heap.Ns b m → (hidT s1.heap H).Ns b m := fun {b o m} z => by
    obtain ⟨o, es, ep, e, d, r⟩ := z
    refine ⟨o, es, ep, hidT_get e (Hb b fun hb => ?_), d, r⟩
    subst hb
    rw [at_] at e
    cases e
    cases d
  have kb : K.In (hidT s1.heap H) := fun b o e => hidT_get (kin b o e) (Hb b fun hb => by
    subst hb
    rw [nk] at e
    cases e)
  have md : Mod K mg (hidT s1.heap H) := by
    obtain ⟨mc, l1, l2⟩ := lim
    exact ⟨kb, other (o := default) gm, ⟨mb, other (o := default) gb, bb⟩, mc, other (o := default) l1, l2⟩
  have e0 : Env0 P w K mg (hidT s1.heap H) callerA [] s1 H := {
    frames := rfl
    mod := md
    bs := fun b o e => of_hidT e
    bsz := Nat.le_of_eq (hidT_size _ _)
    funs := trivial
    frf := fun b hb => by cases hb
    hok := hok
    bare := .of_eq gen }
  have main := (F (hidT s1.heap H) kb (other (o := default) gm)).run callerA [] s1 H ⟨[.ref a], []⟩ [.ref a] [.ref a] _ E0 room rfl e0 (bind s1 (.ref a)) (.cons rfl .nil) (law H _ Ha)
  refine codeAny_mono main fun r s' q => ?_
  cases r with
  | error e =>
    obtain ⟨_, _, _, _, _, _, _, _, _, _, _, _, z⟩ := (show L2.CX P w [] H s1 E0 e s' from q)
    exact z.elim
  | ok fl =>
    cases fl with
    | next => exact False.elim q
    | brk => exact False.elim q
    | cont => exact False.elim q
    | ret u =>
      obtain ⟨v, H', os, bare, un, hok', r', q'⟩ := q
      obtain rfl : v = .bl true := q'
      obtain rfl : u = Value.bool true := r'
      refine ⟨rfl, OldK.of_keep fun b o e => ?_, os, bare⟩
      by_cases hb : b = a
      · subst hb
        obtain ⟨k1, _⟩ := hok' b _ (un.frzs b _ _ Ha)
        rw [at_] at e
        cases e
        exact k1
      · exact un.keep b o e (Hb b hb) (fun z => by cases z) (fun z => by cases z)

/-! ### what the program's top has left -/
def relDB (K : PySem.W.Frag) : D → Value → Bool
  | .non, .none => true
  | .bl b, .bool c => b == c
  | .int i, .int j _ => decide (i = j)
  | .str x, .str y _ => decide (x = y)
  | .ty n, .type m => decide (n = m)
  | _, _ => false
theorem relDB_of {K : PySem.W.Frag} {FA : Nat → Addr} {d : D} {u : Value} (h : relDB K d u = true) : ∃ v, RelV v u ∧ ∀ ρ H, RelD K FA ρ H d v := by
  unfold relDB at h
  split at h
  · exact ⟨.non, rfl, fun _ _ => rfl⟩
  · rename_i b c
    rw [show b = c from eq_of_beq h]
    exact ⟨.bl c, rfl, fun _ _ => rfl⟩
  · rename_i i j t
    rw [show i = j from of_decide_eq_true h]
    exact ⟨.int j, ⟨t, rfl⟩, fun _ _ => rfl⟩
  · rename_i x y t
    rw [show x = y from of_decide_eq_true h]
    exact ⟨.str y, ⟨t, rfl⟩, fun _ _ => rfl⟩
  · rename_i x y
    rw [show x = y from of_decide_eq_true h]
    exact ⟨.ty y, rfl, fun _ _ => rfl⟩
  · cases h
/-- a program, for the evaluator and the check -/
structure Pg where
  T : List Fd
  ds : List He.DefD
  gl : List (Str × D)
  free : List Str
  bfn : List (Str × String)
def Pg.tb (p : Pg) : Tb := ⟨p.T, p.gl, p.free, p.bfn⟩
def glB (K : PySem.W.Frag) (p : Str × D) : Bool := match PySem.W.nsIn K mainGlobals p.1 with
  | some (some u) => relDB K p.2 u
  | _ => false
def bfB (K : PySem.W.Frag) (p : Str × String) : Bool := He.eqO (PySem.W.nsIn K mainGlobals p.1) (some (some (bfV p.2)))
def Pg.ok (p : Pg) (K : PySem.W.Frag) : Bool := (p.ds.all fun d => (He.Fa.glo d.name).ok K) && ((p.free.all fun x => (He.Fa.free x).ok K) && (p.gl.all (glB K) && (p.bfn.all (bfB K) && p.ds.all fun d => d.ok K)))
def Pg.obs (p : Pg) (K : PySem.W.Frag) : He.AlD := (p.ok K, p.ds.map fun d => He.fnW K d.at_)
def Pg.val (p : Pg) : He.AlD := (true, p.ds.map He.DefD.val)
def noL (g : Addr → Option Obj) : Addr → Option Obj := fun a => match g a with
  | some o => if o.cls = .type "list" then none else some o
  | none => none
theorem noL_of {g : Addr → Option Obj} {a : Addr} {o : Obj} (h : noL g a = some o) : g a = some o ∧ o.cls ≠ .type "list" := by
  unfold noL at h
  cases q : g a with
  | none =>
    rw [q] at h
    cases h
  | some o' =>
    rw [q] at h
    dsimp only at h
    by_cases hl : o'.cls = .type "list"
    · rw [if_pos hl] at h
      cases h
    · rw [if_neg hl] at h
      cases h
      exact ⟨rfl, hl⟩
def Pg.obsG (p : Pg) (n : Nat) (g : Addr → Option Obj) : He.AlD := p.obs (He.frG (noL g) (He.asD g n))
def Pg.Says (p : Pg) (K : PySem.W.Frag) : Prop := p.obs K = p.val
def Pg.hook (p : Pg) (n : Nat) : PySem.W.Hook where
  α := He.AlD
  obs := fun s => p.obsG n s.heap.get?
  val := fun _ => p.val
  says := fun _ h => ∃ K : PySem.W.Frag, K.In h ∧ NoL K ∧ p.Says K
  of := fun _ s e => ⟨He.frG (noL s.heap.get?) (He.asD s.heap.get? n), fun a o h => (noL_of (He.frG_at _ h)).1, fun a o h => (noL_of (He.frG_at _ h)).2, e⟩
  keeps := fun _ _ _ ⟨K, hK, nl, c⟩ k => ⟨K, PySem.W.Frag.In.keeps hK k, nl, c⟩
theorem Pg.obsG_eq {p : Pg} {n : Nat} {g : Addr → Option Obj} {s : Shared} (h : ∀ a, g a = s.heap.get? a) : p.obsG n g = (p.hook n).obs s := by
  have e : g = s.heap.get? := funext h
  rw [e] <;> rfl
/-- the defs of the text beside their forms -/
def Pg.good (p : Pg) : Bool := decide (p.T.length = p.ds.length) && (((List.range p.T.length).all fun i => match p.T[i]?, p.ds[i]? with
  | some fd, some d => defOk p.tb fd d
  | _, _ => false) && p.ds.all fun d => decide (d.at_ = (d.name, none)))
def Pg.sta (p : Pg) (P : Program) (w : World) (K : PySem.W.Frag) (mg : Str → Option Value) (base : Heap) (wf : Nat) : Sta :=
  { P := P, w := w, K := K, mg := mg, base := base, FA := fun f => (match p.ds[f]? with | some d => He.ga K d.name | none => 0), T := p.T, gl := p.gl, free := p.free, bfn := p.bfn, wf := wf }
theorem Pg.fns {p : Pg} (good : p.good = true) {P : Program} {w : World} {K : PySem.W.Frag} {mg : Str → Option Value} {base h : Heap} {wf : Nat} (X : K.In h) (G : h.Ns mainGlobals mg) (says : p.Says K) (n : Nat) : Fns (p.sta P w K mg base wf) n := by
  obtain ⟨g1, g2⟩ := b2 good
  obtain ⟨g2, g3⟩ := b2 g2
  have g1 := of_decide_eq_true g1
  have c1 : p.ok K = true := congrArg (fun z : He.AlD => z.1) says
  have c2 : (p.ds.map fun d => He.fnW K d.at_) = p.ds.map He.DefD.val := congrArg (fun z : He.AlD => z.2) says
  obtain ⟨f1, c1⟩ := b2 c1
  obtain ⟨f2, c1⟩ := b2 c1
  obtain ⟨f3, c1⟩ := b2 c1
  obtain ⟨f4, f5⟩ := b2 c1
  have pair : ∀ (f : Nat) (fd : Fd), p.T[f]? = some fd → ∃ d, p.ds[f]? = some d ∧ defOk p.tb fd d = true := fun f fd hf => by
    have hl : f < p.T.length := getElem?_len hf
    have z := List.all_eq_true.mp g2 f (List.mem_range.mpr hl)
    rw [hf] at z
    cases q : p.ds[f]? with
    | none =>
      rw [q] at z
      cases z
    | some d =>
      rw [q] at z
      exact ⟨d, rfl, z⟩
  have fun_ : ∀ (f : Nat) (d : He.DefD), p.ds[f]? = some d → ∃ fdata, FunD K d.name d.qual d.params d.body d.scope (d.dvs K) (d.kws K) (He.ga K d.name) fdata := fun f d hf => by
    have e2 : (p.ds.map fun d => He.fnW K d.at_)[f]? = (p.ds.map He.DefD.val)[f]? := by rw [c2]
    rw [List.getElem?_map, List.getElem?_map, hf] at e2
    obtain ⟨fdata, F⟩ := He.DefD.funD (Option.some.inj e2) (List.all_eq_true.mp f5 d (List.mem_of_getElem? hf))
    have ea : d.at_ = (d.name, none) := of_decide_eq_true (List.all_eq_true.mp g3 d (List.mem_of_getElem? hf))
    rw [ea] at F
    exact ⟨fdata, F⟩
  have fa : ∀ (f : Nat) (d : He.DefD), p.ds[f]? = some d → (p.sta P w K mg base wf).FA f = He.ga K d.name := fun f d hf => by
    show (match p.ds[f]? with | some d => He.ga K d.name | none => 0) = _
    rw [hf]
  refine fns_all ⟨fun f fd hf => ?_, fun i x d hi => ?_, fun x hx => ?_, fun q hq => ?_⟩ (fun f fd hf => ?_) n
  · obtain ⟨d, hd, ok⟩ := pair f fd hf
    obtain ⟨n1, _⟩ := b2 ok
    have n1 : fd.name = d.name := of_decide_eq_true n1
    obtain ⟨fdata, F⟩ := fun_ f d hd
    rw [fa f d hd, n1]
    exact ⟨He.glo_ok X G (List.all_eq_true.mp f1 d (List.mem_of_getElem? hd)), F.kp⟩
  · have z := List.all_eq_true.mp f3 (x, d) (List.mem_of_getElem? hi)
    unfold glB at z
    cases q : PySem.W.nsIn K mainGlobals x with
    | none =>
      rw [q] at z
      cases z
    | some o =>
      cases o with
      | none =>
        rw [q] at z
        cases z
      | some u =>
        rw [q] at z
        obtain ⟨v, r1, r2⟩ := relDB_of (FA := (p.sta P w K mg base wf).FA) z
        exact ⟨u, v, PySem.W.mg_of X G q, r1, r2⟩
  · exact He.free_ok X G (List.all_eq_true.mp f2 x hx)
  · exact PySem.W.mg_of X G (He.eqO_ok (List.all_eq_true.mp f4 q hq))
  · obtain ⟨d, hd, ok⟩ := pair f fd hf
    obtain ⟨fdata, F⟩ := fun_ f d hd
    rw [fa f d hd]
    exact ⟨d, fdata, F, ok⟩
/-- the law, by the evaluator -/
theorem walk_ev {p : Pg} {l : PySem.W.OpenLaw} {m n lw wf k : Nat} {q : Program} {loose : List Str} {XP : (Str → Option Value) → Heap → Prop} {d : DefRec} {fd : Fd}
    (hn : l.most = some m) (hm : m ≤ sizeLine) (hdf : d.params.defaults = []) (room : Room n callerA) (good : p.good = true) (hl : p.T[lw]? = some fd) (hname : d.name = fd.name) (hps : ∃ x, fd.ps = [x]) (hdl : fd.dfl = [])
    (law : ∀ ns : List Int, ns.length ≤ m → ∃ M', callN p.T (p.gl.map (·.2)) wf n lw [.loc 0] [.rol (ns.map D.int)] = .ok (.bl true) M') :
    PySem.W.WalkO q loose XP (p.hook k).says l.row.toRowW d [] (fun f vs => PySem.call f vs) := by
  refine Att.attach_call hn hdf fun w s0 s1 mg mb fa o pm cd doc a us ns G Y ho hd hcd hmg hobj hints hlen hg => ?_
  obtain ⟨K, KX, nl, says⟩ := Y
  obtain ⟨x, hx⟩ := hps
  have F0 : ∀ base, Fns (p.sta l.prog w K mg base wf) n := fun base => Pg.fns good KX G.T.g says n
  obtain ⟨fdata, args, dx, dvs, hk0, hp, hpa, hdv, hrd, oc, od, osl, lk⟩ := ((F0 s1.heap).is lw fd hl).ex
  have e1 : (p.sta l.prog w K mg s1.heap wf).FA lw = fa := by
    have z := ((F0 s1.heap).top.fn lw fd hl).1
    have z' : mg fd.name = some (.ref ((p.sta l.prog w K mg s1.heap wf).FA lw)) := z
    rw [← hname, hmg] at z'
    cases z'
    rfl
  have fns : ∀ base, FnK l.prog w K mg base n fa fdata [x] (spF (p.sta l.prog w K mg base wf) n lw) := fun base => by
    obtain ⟨fdata2, _, _, _, hk2, _, _, _, _, oc2, od2, osl2, lk2⟩ := ((F0 base).is lw fd hl).ex
    have lk3 : K.lookup ((p.sta l.prog w K mg s1.heap wf).FA lw) = some ⟨oc2, od2, .func fdata2, osl2⟩ := lk2
    have lk1 : K.lookup ((p.sta l.prog w K mg s1.heap wf).FA lw) = some ⟨oc, od, .func fdata, osl⟩ := lk
    rw [lk1] at lk3
    cases lk3
    have hk3 : FnK l.prog w K mg base n ((p.sta l.prog w K mg s1.heap wf).FA lw) fdata fd.ps (spF (p.sta l.prog w K mg base wf) n lw) := hk2
    rw [e1, hx] at hk3
    exact hk3
  have dn : dvs = [] := by
    have z := hrd [] (fun _ => none)
    rw [hdl] at z
    exact z
  have hdd : fdata.defaults = .none ∧ ([] : List Value) = [] := by
    rcases hdv with ⟨_, e⟩ | ⟨e, _⟩
    · exact ⟨e, rfl⟩
    · exact absurd dn e
  refine run_law (sp := spF (p.sta l.prog w K mg s1.heap wf) n lw) (x := x) KX nl G.T.g G.T.b G.T.builtins G.T.nolimit hg hobj hints (Nat.le_trans hlen hm) room (fun base _ _ => fns base) (fun s u => ?_) fun H o hH => ?_
  · have hb : bindP [x] [u] [] [] [] = some [u] := by
      unfold bindP
      simp [foldO, kwG, dfG, optAll]
    exact bind_gen (ks := []) (ws := []) hp (by rw [hpa, hx]) (.inl hdd) hb
  · obtain ⟨M', hlaw⟩ := law ns hlen
    refine ⟨[a], [.rol (ns.map D.int)], [.loc 0], ⟨rfl, fun i j b c d h1 h2 h3 h4 => ?_, fun i c b h1 h2 => ?_⟩, ⟨.ref a, [], rfl, ⟨a, rfl, rfl⟩, rfl⟩, ?_⟩
    · have hi := getElem?_len h3
      have hj := getElem?_len h4
      simp at hi hj
      omega
    · have hi := getElem?_len h2
      simp at hi
      subst hi
      cases h1
      cases h2
      exact ⟨ns.map V.int, .inr ⟨o, hH⟩, RelDs.of_ints ns⟩
    · have z : callN p.T (p.gl.map (·.2)) wf n lw [.loc 0] [.rol (ns.map D.int)] = .ok (.bl true) M' := hlaw
      show PostD K _ (callN p.T (p.gl.map (·.2)) wf n lw [.loc 0] [.rol (ns.map D.int)]) [a] H _
      rw [z]
      exact fun ρ' H' b e r q => q
end Ev
namespace Ev
open PySem L2

/-! ### calls, for the laws -/
def fin : Fl → Mem → R D := fun fl M => match fl with
  | .rt d => .ok d M
  | .nx _ => .ok .non M
  | _ => .bad
theorem call_eq {T : List Fd} {gl : List D} {wf n f : Nat} {fd : Fd} {ds : List D} {M : Mem} (h : T[f]? = some fd) (hl : ds.length = fd.ps.length) :
    callN T gl wf (n + 1) f ds M = (exs (cfg T gl wf n) fd.body (ds.map some ++ List.replicate (fd.N.length - ds.length) none) M).bind fin := by
  show (match T[f]? with
    | some fd => if ds.length = fd.ps.length then (exs (cfg T gl wf n) fd.body (ds.map some ++ List.replicate (fd.N.length - ds.length) none) M).bind fin else .bad
    | none => .bad) = _
  rw [h]
  dsimp only
  rw [if_pos hl]
theorem cfg_call {T : List Fd} {gl : List D} {wf n f : Nat} {ds : List D} {M : Mem} : (cfg T gl wf n).call f ds M = callN T gl wf n f ds M := rfl
theorem cfg_gl {T : List Fd} {gl : List D} {wf n : Nat} : (cfg T gl wf n).gl = gl := rfl
/-! ### the evaluator's steps -/
section
variable {C : Cfg} {σ : Sl} {M : Mem} {a b c : E} {cd ca cb : Cd} {es : Es} {d : D} {ds : List D} {i j k : Nat}
theorem q_ok {α β : Type} {x : α} {f : α → Mem → R β} : (R.ok x M).bind f = f x M := rfl
theorem q_bad {α β : Type} {f : α → Mem → R β} : (R.bad : R α).bind f = .bad := rfl
theorem q_ofO {α : Type} {x : α} : R.ofO (some x) M = .ok x M := rfl
theorem q_rt : fin (.rt d) M = .ok d M := rfl
theorem q_nx : fin (.nx σ) M = .ok .non M := rfl
theorem q_var : ev C (.var i) σ M = (match σ[i]? with | some (some d) => .ok d M | _ => .bad) := rfl
theorem q_con : ev C (.con d) σ M = .ok d M := rfl
theorem q_glo : ev C (.glo i) σ M = .ofO C.gl[i]? M := rfl
theorem q_tup : ev C (.tup es) σ M = (evs C es σ M).bind fun ds M => .ok (.tup ds) M := rfl
theorem q_lst : ev C (.lst es) σ M = (evs C es σ M).bind fun ds M => new ds M := rfl
theorem q_op {o : Op2} : ev C (.op o a b) σ M = (ev C a σ M).bind fun x M => (ev C b σ M).bind fun y M => op2 o x y M := rfl
theorem q_neg : ev C (.neg a) σ M = (ev C a σ M).bind fun x M => match x with | .int i => .ok (.int (-i)) M | _ => .bad := rfl
theorem q_not : ev C (.not a) σ M = (ev C a σ M).bind fun x M => match truth M x with | some b => .ok (.bl (!b)) M | none => .bad := rfl
theorem q_chain {o p : Op2} : ev C (.chain o p a b c) σ M = (ev C a σ M).bind fun x M => (ev C b σ M).bind fun y M => (op2 o x y M).bind fun z M => match z with
    | .bl true => (ev C c σ M).bind fun v M => op2 p y v M
    | .bl false => .ok (.bl false) M
    | _ => .bad := rfl
theorem q_and : ev C (.and a b) σ M = (ev C a σ M).bind fun x M => match truth M x with
    | some true => ev C b σ M
    | some false => .ok x M
    | none => .bad := rfl
theorem q_or : ev C (.or a b) σ M = (ev C a σ M).bind fun x M => match truth M x with
    | some true => .ok x M
    | some false => ev C b σ M
    | none => .bad := rfl
theorem q_ite : ev C (.ite cd a b) σ M = (evB C cd σ M).bind fun k M => match k with
    | true => ev C a σ M
    | false => ev C b σ M := rfl
theorem q_call : ev C (.call i es) σ M = (evs C es σ M).bind fun ds M => C.call i ds M := rfl
theorem q_callk {ks : Es} {arr : List Arr} : ev C (.callk i es ks arr) σ M = (evs C es σ M).bind fun ds M => (evs C ks σ M).bind fun zs M => match arrD (ds ++ zs) (C.dfl i) arr with
    | some as => C.call i as M
    | none => .bad := rfl
theorem q_blt {o : B} : ev C (.blt o es) σ M = (evs C es σ M).bind fun ds M => blt o ds M := rfl
theorem q_meth {m : Mt} : ev C (.meth m a es) σ M = (ev C a σ M).bind fun x M => (evs C es σ M).bind fun ds M => mtd m x ds M := rfl
theorem q_sub : ev C (.sub a b) σ M = (ev C a σ M).bind fun x M => (ev C b σ M).bind fun y M => itemAt M x y := rfl
theorem q_slice {lo hi st : Po} : ev C (.slice a lo hi st) σ M = (ev C a σ M).bind fun x M => (evP C lo σ M).bind fun l M => (evP C hi σ M).bind fun h M => (evP C st σ M).bind fun t M => sliceD M x l h t := rfl
theorem q_no : evP C .no σ M = .ok none M := rfl
theorem q_yes : evP C (.yes a) σ M = (ev C a σ M).bind fun x M => match x with | .int i => .ok (some i) M | _ => .bad := rfl
theorem q_nil : evs C .nil σ M = .ok [] M := rfl
theorem q_cons : evs C (.cons a es) σ M = (ev C a σ M).bind fun x M => (evs C es σ M).bind fun xs M => .ok (x :: xs) M := rfl
theorem q_tt : evB C .tt σ M = .ok true M := rfl
theorem q_val : evB C (.val a) σ M = (ev C a σ M).bind fun x M => .ofO (truth M x) M := rfl
theorem q_bnot : evB C (.not ca) σ M = (evB C ca σ M).bind fun b M => .ok (!b) M := rfl
theorem q_band : evB C (.and ca cb) σ M = (evB C ca σ M).bind fun k M => match k with
    | true => evB C cb σ M
    | false => .ok false M := rfl
theorem q_bor : evB C (.or ca cb) σ M = (evB C ca σ M).bind fun k M => match k with
    | true => .ok true M
    | false => evB C cb σ M := rfl
theorem q_seq : evI C (.seq a) σ M = (ev C a σ M).bind fun x M => .ofO (srcOf M x) M := rfl
theorem q_rng : evI C (.rng es) σ M = (evs C es σ M).bind fun ds M => .ofO (rngOf ds) M := rfl
theorem q_zip {p q : I} : evI C (.zip p q) σ M = (evI C p σ M).bind fun x M => (evI C q σ M).bind fun y M => .ofO (zipSrc x y) M := rfl
theorem q_nm : asg C (.nm i) d σ M = .ok (σ.set i (some d)) M := rfl
theorem q_tupT {ts : Ts} : asg C (.tup ts) (.tup ds) σ M = asgs C ts ds σ M := rfl
theorem q_subT : asg C (.sub a b) d σ M = (ev C a σ M).bind fun x M => (ev C b σ M).bind fun y M => match setAt M x y d with | some M => .ok σ M | none => .bad := rfl
theorem q_nilT : asgs C .nil [] σ M = .ok σ M := rfl
theorem q_consT {t : T} {ts : Ts} : asgs C (.cons t ts) (d :: ds) σ M = (asg C t d σ M).bind fun σ M => asgs C ts ds σ M := rfl
theorem q_asg {t : T} : ex C (.asg t a) σ M = (ev C a σ M).bind fun d M => (asg C t d σ M).bind fun σ M => .ok (.nx σ) M := rfl
theorem q_par {is : List Nat} : ex C (.par is es) σ M = (evs C es σ M).bind fun ds M => .ofO ((parD is ds σ).map .nx) M := rfl
theorem q_ex : ex C (.ex a) σ M = (ev C a σ M).bind fun _ M => .ok (.nx σ) M := rfl
theorem q_ret : ex C (.ret a) σ M = (ev C a σ M).bind fun d M => .ok (.rt d) M := rfl
theorem q_if {A B : Ss} : ex C (.ite cd A B) σ M = (evB C cd σ M).bind fun k M => match k with
    | true => exs C A σ M
    | false => exs C B σ M := rfl
theorem q_end : exs C .nil σ M = .ok (.nx σ) M := rfl
theorem q_then {s : Ev.S} {r : Ss} : exs C (.cons s r) σ M = (ex C s σ M).bind fun fl M => match fl with
    | .nx σ => exs C r σ M
    | .rt d => .ok (.rt d) M
    | .bk σ => .ok (.bk σ) M
    | .ct σ => .ok (.ct σ) M := rfl
theorem q_add {x y : Int} : op2 .add (.int x) (.int y) M = .ok (.int (x + y)) M := rfl
theorem q_sub2 {x y : Int} : op2 .sub (.int x) (.int y) M = .ok (.int (x - y)) M := rfl
theorem q_lt {x y : Int} : op2 .lt (.int x) (.int y) M = .ok (.bl (decide (x < y))) M := rfl
theorem q_le {x y : Int} : op2 .le (.int x) (.int y) M = .ok (.bl (decide (x ≤ y))) M := rfl
theorem q_gt {x y : Int} : op2 .gt (.int x) (.int y) M = .ok (.bl (decide (y < x))) M := rfl
theorem q_ge {x y : Int} : op2 .ge (.int x) (.int y) M = .ok (.bl (decide (y ≤ x))) M := rfl
theorem q_eqI {x y : Int} : op2 .eq (.int x) (.int y) M = .ok (.bl (decide (x = y))) M := rfl
theorem q_neI {x y : Int} : op2 .ne (.int x) (.int y) M = .ok (.bl (!decide (x = y))) M := rfl
theorem q_eqS {x y : Str} : op2 .eq (.str x) (.str y) M = .ok (.bl (decide (x = y))) M := rfl
theorem q_neS {x y : Str} : op2 .ne (.str x) (.str y) M = .ok (.bl (!decide (x = y))) M := rfl
theorem q_mul {x y : Int} (h : mulOk x y = true) : op2 .mul (.int x) (.int y) M = .ok (.int (x * y)) M := if_pos h
theorem q_mod {x y : Int} (h : 0 < y) : op2 .mod (.int x) (.int y) M = .ok (.int (x % y)) M := if_pos h
theorem q_fdiv {x y : Int} (h : 0 < y ∧ y.natAbs.log2 < 9000) : op2 .fdiv (.int x) (.int y) M = .ok (.int (x / y)) M := if_pos h
theorem q_trB {x : Bool} : truth M (.bl x) = some x := rfl
end
/-! ### loops, for the laws -/
theorem goF_inv {src : Src} {f : D → Sl → Mem → R Fl} (Inv : Nat → Sl → Mem → Prop) : ∀ (k i : Nat) (σ : Sl) (M : Mem), Inv i σ M →
    (∀ j σ M, i ≤ j → j < i + k → Inv j σ M → ∃ d, src.get j M = some d ∧ ∃ σ' M', f d σ M = R.ok (Fl.nx σ') M' ∧ Inv (j + 1) σ' M') → (∀ σ M, Inv (i + k) σ M → src.done (i + k) M = true) →
    ∃ σ' M', goF src f k i σ M = R.ok (Fl.nx σ') M' ∧ Inv (i + k) σ' M'
  | 0, i, σ, M, h, hs, hd => by
    refine ⟨σ, M, ?_, h⟩
    show (if src.done i M = true then R.ok (Fl.nx σ) M else R.bad) = _
    rw [if_pos (show src.done i M = true from hd σ M h)]
  | k + 1, i, σ, M, h, hs, hd => by
    obtain ⟨d, e1, σ1, M1, e2, h1⟩ := hs i σ M (Nat.le_refl _) (by omega) h
    obtain ⟨σ2, M2, e3, h2⟩ := goF_inv Inv k (i + 1) σ1 M1 h1 (fun j σ M a b => hs j σ M (by omega) (by omega)) (fun σ M a => by
      have := hd σ M (by rw [show i + (k + 1) = i + 1 + k by omega]; exact a)
      rw [show i + (k + 1) = i + 1 + k by omega] at this
      exact this)
    refine ⟨σ2, M2, ?_, by rw [show i + (k + 1) = i + 1 + k by omega]; exact h2⟩
    show (match src.get i M with
      | some d => (f d σ M).bind fun fl M => match fl with
        | .nx σ => goF src f k (i + 1) σ M
        | .ct σ => goF src f k (i + 1) σ M
        | .bk σ => .ok (.nx σ) M
        | .rt d => .ok (.rt d) M
      | none => .bad) = _
    rw [e1]
    dsimp only
    rw [e2]
    exact e3
/-- a loop whose body hands on the names (or goes on with the next turn) -/
theorem for_inv {C : Cfg} {t : T} {it : I} {b : Ss} {σ : Sl} {M M1 : Mem} {src : Src} (Inv : Nat → Sl → Mem → Prop) (hi : evI C it σ M = .ok src M1) (h0 : Inv 0 σ M1)
    (hs : ∀ j σ M, j < src.len → Inv j σ M → ∃ d, src.get j M = some d ∧ ∃ σ' M', ((asg C t d σ M).bind fun σ M => exs C b σ M) = R.ok (Fl.nx σ') M' ∧ Inv (j + 1) σ' M') (hd : ∀ σ M, Inv src.len σ M → src.done src.len M = true) :
    ∃ σ' M', ex C (.for_ t it b) σ M = R.ok (Fl.nx σ') M' ∧ Inv src.len σ' M' := by
  obtain ⟨σ2, M2, e, h⟩ := goF_inv (src := src) (f := fun d σ M => (asg C t d σ M).bind fun σ M => exs C b σ M) Inv src.len 0 σ M1 h0 (fun j σ M _ b => hs j σ M (by omega)) (fun σ M a => by
    rw [Nat.zero_add] at a ⊢
    exact hd σ M a)
  rw [Nat.zero_add] at h
  refine ⟨σ2, M2, ?_, h⟩
  show ((evI C it σ M).bind fun src M => goF src (fun d σ M => (asg C t d σ M).bind fun σ M => exs C b σ M) src.len 0 σ M) = _
  rw [hi]
  exact e
theorem goD_flat {src : Src} {f : D → List D → Mem → R (List D)} {xs : List D} {M : Mem} {B L : Nat} {acc0 : List D} (g : D → List D) (hg : ∀ d ∈ xs, (g d).length ≤ L) (hs : ∀ i, i < xs.length → src.get i M = xs[i]?) (hd : src.done xs.length M = true)
    (hf : ∀ d ∈ xs, ∀ acc, acc.length + L ≤ B → f d acc M = .ok (acc ++ g d) M) (hB : acc0.length + xs.length * L ≤ B) : goD src f xs.length 0 acc0 M = .ok (acc0 ++ xs.flatMap g) M := by
  have gen : ∀ (k i : Nat) (acc : List D), i + k = xs.length → acc.length + k * L ≤ B → goD src f k i acc M = .ok (acc ++ (xs.drop i).flatMap g) M := by
    intro k
    induction k with
    | zero =>
      intro i acc hi ha
      show (if src.done i M = true then R.ok acc M else .bad) = _
      rw [show i = xs.length by omega, if_pos hd, List.drop_length]
      simp
    | succ k ih =>
      intro i acc hi ha
      have hlt : i < xs.length := by omega
      have e : src.get i M = some xs[i] := by rw [hs i hlt, List.getElem?_eq_getElem hlt]
      show (match src.get i M with
        | some d => (f d acc M).bind fun a M => goD src f k (i + 1) a M
        | none => .bad) = _
      rw [e]
      dsimp only
      have hm : (k + 1) * L = k * L + L := Nat.succ_mul k L
      rw [hf _ (List.getElem_mem hlt) acc (by omega)]
      show goD src f k (i + 1) (acc ++ g xs[i]) M = _
      rw [ih (i + 1) _ (by omega) (by rw [List.length_append]; have := hg _ (List.getElem_mem hlt); omega), List.drop_eq_getElem_cons hlt, List.flatMap_cons, List.append_assoc]
  have := gen xs.length 0 acc0 (by omega) hB
  simpa using this
theorem flat_one {α β : Type} (h : α → β) : ∀ xs : List α, (xs.flatMap fun d => [h d]) = xs.map h
  | [] => rfl
  | x :: r => by
    rw [List.flatMap_cons, flat_one h r] <;> rfl
theorem flat_if {α β : Type} (p : α → Bool) (h : α → β) : ∀ xs : List α, (xs.flatMap fun d => if p d = true then [h d] else []) = (xs.filter p).map h
  | [] => rfl
  | x :: r => by
    rw [List.flatMap_cons, flat_if p h r]
    cases q : p x with
    | true => rw [List.filter_cons_of_pos q] <;> rfl
    | false => rw [List.filter_cons_of_neg (by rw [q]; decide)] <;> rfl
/-- a comprehension whose turns leave the memory as it is -/
theorem lc_flat {C : Cfg} {e : E} {t : T} {it : I} {c : Cd} {own : List Nat} {σ : Sl} {M0 M : Mem} {src : Src} {xs : List D} (g : D → List D) (hg : ∀ d, (g d).length ≤ 1) (hi : evI C it σ M0 = .ok src M) (hl : src.len = xs.length) (hs : ∀ i, i < xs.length → src.get i M = xs[i]?) (hd : src.done xs.length M = true) (hn : xs.length ≤ line)
    (step : ∀ d ∈ xs, ∀ acc : List D, acc.length < line → stepD C e t c own σ d acc M = .ok (acc ++ g d) M) : ev C (.comp e t it c own) σ M0 = .ok (.loc M.length) (M ++ [.lst (xs.flatMap g)]) := by
  show ((evI C it σ M0).bind fun src M => (goD src (stepD C e t c own σ) src.len 0 [] M).bind fun acc M => new acc M) = _
  rw [hi]
  show ((goD src (stepD C e t c own σ) src.len 0 [] M).bind fun acc M => new acc M) = _
  rw [hl, goD_flat (B := line) (L := 1) g (fun d _ => hg d) hs hd (fun d hm acc ha => step d hm acc (by omega)) (by simpa using hn)]
  rfl
theorem lc_map {C : Cfg} {e : E} {t : T} {it : I} {c : Cd} {own : List Nat} {σ : Sl} {M0 M : Mem} {src : Src} {xs : List D} (h : D → D) (hi : evI C it σ M0 = .ok src M) (hl : src.len = xs.length) (hs : ∀ i, i < xs.length → src.get i M = xs[i]?) (hd : src.done xs.length M = true) (hn : xs.length ≤ line)
    (step : ∀ d ∈ xs, ∀ acc : List D, acc.length < line → stepD C e t c own σ d acc M = .ok (acc ++ [h d]) M) : ev C (.comp e t it c own) σ M0 = .ok (.loc M.length) (M ++ [.lst (xs.map h)]) := by
  rw [lc_flat (fun d => [h d]) (fun _ => Nat.le_refl _) hi hl hs hd hn step, flat_one]
theorem lc_filt {C : Cfg} {e : E} {t : T} {it : I} {c : Cd} {own : List Nat} {σ : Sl} {M0 M : Mem} {src : Src} {xs : List D} (p : D → Bool) (h : D → D) (hi : evI C it σ M0 = .ok src M) (hl : src.len = xs.length) (hs : ∀ i, i < xs.length → src.get i M = xs[i]?) (hd : src.done xs.length M = true) (hn : xs.length ≤ line)
    (step : ∀ d ∈ xs, ∀ acc : List D, acc.length < line → stepD C e t c own σ d acc M = .ok (if p d = true then acc ++ [h d] else acc) M) : ev C (.comp e t it c own) σ M0 = .ok (.loc M.length) (M ++ [.lst ((xs.filter p).map h)]) := by
  rw [lc_flat (fun d => if p d = true then [h d] else []) (fun d => by split <;> simp) hi hl hs hd hn (fun d hm acc ha => by
    rw [step d hm acc ha]
    cases p d <;> simp), flat_if]
/-- two clauses -/
theorem lc2_flat {C : Cfg} {e : E} {t t1 : T} {it it1 : I} {c c1 : Cd} {own own1 : List Nat} {σ : Sl} {M0 M : Mem} {src : Src} {xs : List D} {L : Nat} (g : D → List D) (hg : ∀ d ∈ xs, (g d).length ≤ L) (hi : evI C it σ M0 = .ok src M) (hl : src.len = xs.length) (hs : ∀ i, i < xs.length → src.get i M = xs[i]?) (hd : src.done xs.length M = true) (hn : xs.length * L ≤ line)
    (step : ∀ d ∈ xs, ∀ acc : List D, acc.length + L ≤ line → stepD2 C e t c t1 it1 c1 own own1 σ d acc M = .ok (acc ++ g d) M) : ev C (.comp2 e t it c t1 it1 c1 own own1) σ M0 = .ok (.loc M.length) (M ++ [.lst (xs.flatMap g)]) := by
  show ((evI C it σ M0).bind fun src M => (goD src (stepD2 C e t c t1 it1 c1 own own1 σ) src.len 0 [] M).bind fun acc M => new acc M) = _
  rw [hi]
  show ((goD src (stepD2 C e t c t1 it1 c1 own own1 σ) src.len 0 [] M).bind fun acc M => new acc M) = _
  rw [hl, goD_flat (B := line) (L := L) g hg hs hd step (by simpa using hn)]
  rfl
theorem rng_get {lo : Int} {n i : Nat} {M : Mem} (h : i < n) : (Src.rng lo n).get i M = some (.int (lo + i)) := if_pos h
theorem rng_done {lo : Int} {n : Nat} {M : Mem} : (Src.rng lo n).done n M = true := decide_eq_true (Nat.le_refl _)
theorem rng2 {i j : Int} (h : -(2 ^ 62) ≤ i ∧ i < 2 ^ 62 ∧ -(2 ^ 62) ≤ j ∧ j < 2 ^ 62) : rngOf [.int i, .int j] = some (.rng i (j - i).toNat) := by
  simp only [rngOf]
  rw [if_pos h]
theorem rng1 {j : Int} (h : -(2 ^ 62) ≤ j ∧ j < 2 ^ 62) : rngOf [.int j] = some (.rng 0 j.toNat) := by
  simp only [rngOf]
  rw [if_pos h]
theorem rng_ok {C : Cfg} {es : Es} {σ : Sl} {M M' : Mem} {ds : List D} {src : Src} (h1 : evs C es σ M = .ok ds M') (h2 : rngOf ds = some src) : evI C (.rng es) σ M = .ok src M' := by
  rw [q_rng, h1, q_ok, h2, q_ofO]
theorem seq_ok {C : Cfg} {a : E} {σ : Sl} {M M' : Mem} {d : D} {src : Src} (h1 : ev C a σ M = .ok d M') (h2 : srcOf M' d = some src) : evI C (.seq a) σ M = .ok src M' := by
  rw [q_seq, h1, q_ok, h2, q_ofO]
theorem stepD2_ok {C : Cfg} {e : E} {t t1 : T} {it1 : I} {c c1 : Cd} {own own1 : List Nat} {σ σ2 : Sl} {d : D} {acc : List D} {M M' : Mem} {src1 : Src} (h1 : asg C t d (wipeD σ own) M = .ok σ2 M) (h2 : evB C c σ2 M = .ok true M) (h3 : evI C it1 σ2 M = .ok src1 M') :
    stepD2 C e t c t1 it1 c1 own own1 σ d acc M = goD src1 (stepD C e t1 c1 own1 σ2) src1.len 0 acc M' := by
  unfold stepD2
  rw [h1, q_ok, h2, q_ok]
  dsimp only
  rw [h3, q_ok]
theorem cut_drop {xs : List D} {k : Nat} : cutD xs (some (k : Int)) none = xs.drop k := by
  unfold cutD
  rw [HT.sIx_nat, HT.sIx_none]
  by_cases h : k ≤ xs.length
  · rw [Nat.min_eq_left h, List.take_of_length_le (by rw [List.length_drop]; omega)]
  · rw [Nat.min_eq_right (by omega), Nat.sub_self, List.take_zero, List.drop_eq_nil_of_le (by omega)]
theorem cut_take {xs : List D} {k : Nat} : cutD xs none (some (k : Int)) = xs.take k := by
  unfold cutD
  rw [HT.sIx_nat, HT.sIx_none, List.drop_zero, Nat.sub_zero]
  by_cases h : k ≤ xs.length
  · rw [Nat.min_eq_left h]
  · rw [Nat.min_eq_right (by omega), List.take_of_length_le (by omega), List.take_of_length_le (by omega)]
/-- the same over a list of anything, by its form -/
theorem goD_flatM {α : Type} {src : Src} {f : D → List D → Mem → R (List D)} {ps : List α} {fm : α → D} {M : Mem} {B L : Nat} {acc0 : List D} (g : α → List D) (hg : ∀ d ∈ ps, (g d).length ≤ L) (hs : ∀ i, i < ps.length → src.get i M = (ps[i]?).map fm) (hd : src.done ps.length M = true)
    (hf : ∀ d ∈ ps, ∀ acc, acc.length + L ≤ B → f (fm d) acc M = .ok (acc ++ g d) M) (hB : acc0.length + ps.length * L ≤ B) : goD src f ps.length 0 acc0 M = .ok (acc0 ++ ps.flatMap g) M := by
  have gen : ∀ (k i : Nat) (acc : List D), i + k = ps.length → acc.length + k * L ≤ B → goD src f k i acc M = .ok (acc ++ (ps.drop i).flatMap g) M := by
    intro k
    induction k with
    | zero =>
      intro i acc hi ha
      show (if src.done i M = true then R.ok acc M else .bad) = _
      rw [show i = ps.length by omega, if_pos hd, List.drop_length]
      simp
    | succ k ih =>
      intro i acc hi ha
      have hlt : i < ps.length := by omega
      have e : src.get i M = some (fm ps[i]) := by
        rw [hs i hlt, List.getElem?_eq_getElem hlt]
        rfl
      show (match src.get i M with
        | some d => (f d acc M).bind fun a M => goD src f k (i + 1) a M
        | none => .bad) = _
      rw [e]
      dsimp only
      have hm : (k + 1) * L = k * L + L := Nat.succ_mul k L
      rw [hf _ (List.getElem_mem hlt) acc (by omega)]
      show goD src f k (i + 1) (acc ++ g ps[i]) M = _
      rw [ih (i + 1) _ (by omega) (by rw [List.length_append]; have := hg _ (List.getElem_mem hlt); omega), List.drop_eq_getElem_cons hlt, List.flatMap_cons, List.append_assoc]
  have := gen ps.length 0 acc0 (by omega) hB
  simpa using this
theorem lc_filtM {α : Type} {C : Cfg} {e : E} {t : T} {it : I} {c : Cd} {own : List Nat} {σ : Sl} {M0 M : Mem} {src : Src} {ps : List α} {fm : α → D} (p : α → Bool) (h : α → D) (hi : evI C it σ M0 = .ok src M) (hl : src.len = ps.length) (hs : ∀ i, i < ps.length → src.get i M = (ps[i]?).map fm) (hd : src.done ps.length M = true) (hn : ps.length ≤ line)
    (step : ∀ d ∈ ps, ∀ acc : List D, acc.length < line → stepD C e t c own σ (fm d) acc M = .ok (if p d = true then acc ++ [h d] else acc) M) : ev C (.comp e t it c own) σ M0 = .ok (.loc M.length) (M ++ [.lst ((ps.filter p).map h)]) := by
  show ((evI C it σ M0).bind fun src M => (goD src (stepD C e t c own σ) src.len 0 [] M).bind fun acc M => new acc M) = _
  rw [hi]
  show ((goD src (stepD C e t c own σ) src.len 0 [] M).bind fun acc M => new acc M) = _
  rw [hl, goD_flatM (fm := fm) (B := line) (L := 1) (fun d => if p d = true then [h d] else []) (fun d _ => by split <;> simp) hs hd (fun d hm acc ha => by
    rw [step d hm acc (by omega)]
    cases p d <;> simp) (by simpa using hn), flat_if]
  rfl
theorem done_tup {xs : List D} {M : Mem} : (Src.tup xs).done xs.length M = true := decide_eq_true (Nat.le_refl _)
theorem push_ok {acc : List D} {y : D} {M : Mem} (h : acc.length < line) : pushD acc y M = .ok (acc ++ [y]) M := if_pos h
theorem optAll_of {α β : Type} (f : α → Option β) (g : β → α) (h : ∀ b, f (g b) = some b) : ∀ bs : List β, optAll ((bs.map g).map f) = some bs
  | [] => rfl
  | b :: r => by
    show optAll (f (g b) :: (r.map g).map f) = _
    rw [h b]
    show (optAll ((r.map g).map f)).map (b :: ·) = _
    rw [optAll_of f g h r] <;> rfl
theorem optAll_k {α β γ : Type} (f : α → Option γ) (g : β → α) (k : β → γ) (h : ∀ b, f (g b) = some (k b)) : ∀ bs : List β, optAll ((bs.map g).map f) = some (bs.map k)
  | [] => rfl
  | b :: r => by
    show optAll (f (g b) :: (r.map g).map f) = _
    rw [h b]
    show (optAll ((r.map g).map f)).map (k b :: ·) = _
    rw [optAll_k f g k h r] <;> rfl
theorem mul_small {x y : Int} {M : Mem} (h : -18446744073709551616 < x ∧ x < 18446744073709551616) : op2 .mul (.int x) (.int y) M = .ok (.int (x * y)) M :=
  q_mul (by
    unfold mulOk
    rw [decide_eq_true h] <;> rfl)
theorem intsOf_map (ns : List Int) : intsOf (ns.map D.int) = some ns := optAll_of intOf D.int (fun _ => rfl) ns
theorem blsOf_map (bs : List Bool) : blsOf (bs.map D.bl) = some bs := optAll_of blOf D.bl (fun _ => rfl) bs
theorem lstAt_new (M : Mem) (xs : List D) : lstAt (M ++ [.lst xs]) M.length = some xs := by
  unfold lstAt
  rw [List.getElem?_append_right (Nat.le_refl _), Nat.sub_self]
  rfl
theorem lstAt_old {M X : Mem} {l : Nat} (h : l < M.length) : lstAt (M ++ X) l = lstAt M l := by
  unfold lstAt
  rw [List.getElem?_append_left h]
theorem atI_nat {α : Type} (xs : List α) (k : Nat) : L2.atI xs (k : Int) = xs[k]? := by
  unfold L2.atI L2.ixN
  rw [if_pos (Int.natCast_nonneg k)]
  by_cases h : k < xs.length
  · rw [if_pos (by omega)]
    rfl
  · rw [if_neg (by omega), List.getElem?_eq_none (by omega)] <;> rfl
theorem item_ints {xs : List Int} {k : Nat} {M : Mem} (h : k < xs.length) : itemAt M (.tup (xs.map D.int)) (.int (k : Int)) = .ok (.int (xs.getD k 0)) M := by
  show R.ofO (L2.atI (xs.map D.int) (k : Int)) M = _
  rw [atI_nat, List.getElem?_map, List.getElem?_eq_getElem h, List.getD_eq_getElem?_getD, List.getElem?_eq_getElem h]
  rfl
theorem ixN_nat {n k : Nat} (h : k < n) : L2.ixN n (k : Int) = some k := by
  unfold L2.ixN
  rw [if_pos (Int.natCast_nonneg k), if_pos (by omega)] <;> rfl
end Ev
namespace Ev
open PySem L2

/-! ### drawing from a pool, for the laws -/
def Pool (M : Mem) (p : Nat) : Prop := ∃ a b c : Int, M[p]? = some (.lst [.int a, .int b, .int c])
/-- all but the pool stands as it stood -/
structure Keep (p : Nat) (M M' : Mem) : Prop where
  pool : Pool M' p
  len : M.length ≤ M'.length
  old : ∀ l, l ≠ p → l < M.length → M'[l]? = M[l]?
theorem Pool.lt {M : Mem} {p : Nat} (h : Pool M p) : p < M.length := by
  obtain ⟨a, b, c, e⟩ := h
  exact getElem?_len e
theorem Keep.refl {p : Nat} {M : Mem} (h : Pool M p) : Keep p M M := ⟨h, Nat.le_refl _, fun _ _ _ => rfl⟩
theorem Keep.trans {p : Nat} {M M' M2 : Mem} (x : Keep p M M') (y : Keep p M' M2) : Keep p M M2 :=
  ⟨y.pool, Nat.le_trans x.len y.len, fun l h1 h2 => (y.old l h1 (Nat.lt_of_lt_of_le h2 x.len)).trans (x.old l h1 h2)⟩
theorem Keep.push {p : Nat} {M : Mem} (h : Pool M p) (Z : Mem) : Keep p M (M ++ Z) := by
  refine ⟨?_, by rw [List.length_append]; omega, fun l _ hl => List.getElem?_append_left hl⟩
  obtain ⟨a, b, c, e⟩ := h
  exact ⟨a, b, c, by rw [List.getElem?_append_left (getElem?_len e)]; exact e⟩
theorem Keep.write {p l : Nat} {M M' : Mem} {X : Cell} (x : Keep p M M') (hl : M.length ≤ l) (hp : p < M.length) : Keep p M (M'.set l X) := by
  refine ⟨?_, by rw [List.length_set]; exact x.len, fun k h1 h2 => ?_⟩
  · obtain ⟨a, b, c, e⟩ := x.pool
    exact ⟨a, b, c, by rw [List.getElem?_set_ne (by omega)]; exact e⟩
  · rw [List.getElem?_set_ne (by omega)]
    exact x.old k h1 h2
theorem Keep.lstAt {p l : Nat} {M M' : Mem} (x : Keep p M M') (h1 : l ≠ p) (h2 : l < M.length) : lstAt M' l = lstAt M l := by
  unfold Ev.lstAt
  rw [x.old l h1 h2]
theorem lstAt_lst {M : Mem} {l : Nat} {xs : List D} (h : M[l]? = some (.lst xs)) : lstAt M l = some xs := by
  unfold lstAt
  rw [h]
theorem mutAt_lst {M : Mem} {l : Nat} {xs : List D} (h : M[l]? = some (.lst xs)) : mutAt M l = some xs := by
  unfold mutAt
  rw [h]
theorem item_loc {M : Mem} {l k : Nat} {xs : List D} (h : lstAt M l = some xs) : itemAt M (.loc l) (.int (k : Int)) = .ofO (xs[k]?) M := by
  show R.ofO ((lstAt M l).bind fun xs => L2.atI xs (k : Int)) M = _
  rw [h, Option.bind_some, atI_nat]
theorem set_loc {M : Mem} {l k : Nat} {xs : List D} {v : D} (h : M[l]? = some (.lst xs)) (hk : k < xs.length) : setAt M (.loc l) (.int (k : Int)) v = some (M.set l (.lst (xs.set k v))) := by
  show (match mutAt M l with
    | some xs => (L2.ixN xs.length (k : Int)).map fun j => M.set l (.lst (xs.set j v))
    | none => none) = _
  rw [mutAt_lst h]
  dsimp only
  rw [ixN_nat hk] <;> rfl
theorem mul_smallR {x y : Int} {M : Mem} (h : -18446744073709551616 < y ∧ y < 18446744073709551616) : op2 .mul (.int x) (.int y) M = .ok (.int (x * y)) M :=
  q_mul (by
    unfold mulOk
    rw [decide_eq_true h]
    cases decide (-18446744073709551616 < x ∧ x < 18446744073709551616) <;> rfl)
def bTake : Ss :=
  (.cons (.ite (.val (.op .gt (.sub (.var 0) (.con (.int 0))) (.con (.int 0)))) (.cons (.asg (.tup (.cons (.sub (.var 0) (.con (.int 0))) (.cons (.nm 3) .nil))) (.blt .divmod (.cons (.sub (.var 0) (.con (.int 0))) (.cons (.var 1) .nil))))
    (.cons (.ret (.var 3))
    .nil)) .nil)
    (.cons (.asg (.sub (.var 0) (.con (.int 2))) (.op .add (.sub (.var 0) (.con (.int 2))) (.con (.int 1))))
    (.cons (.asg (.nm 2) (.op .mod (.op .add (.sub (.var 0) (.con (.int 1))) (.op .mul (.con (.int 28657)) (.sub (.var 0) (.con (.int 2))))) (.con (.int 2147483399))))
    (.cons (.asg (.sub (.var 0) (.con (.int 1))) (.op .mod (.op .add (.op .mul (.var 2) (.op .add (.op .mod (.var 2) (.con (.int 5003))) (.con (.int 48271)))) (.op .mul (.con (.int 17)) (.sub (.var 0) (.con (.int 2))))) (.con (.int 2147483399))))
    (.cons (.ret (.op .mod (.op .fdiv (.sub (.var 0) (.con (.int 1))) (.con (.int 613))) (.var 1)))
    .nil)))))
theorem it0 {M : Mem} {p : Nat} {a b c : Int} (h : M[p]? = some (.lst [.int a, .int b, .int c])) : itemAt M (.loc p) (.int 0) = .ok (.int a) M := item_loc (k := 0) (lstAt_lst h)
theorem it1 {M : Mem} {p : Nat} {a b c : Int} (h : M[p]? = some (.lst [.int a, .int b, .int c])) : itemAt M (.loc p) (.int 1) = .ok (.int b) M := item_loc (k := 1) (lstAt_lst h)
theorem it2 {M : Mem} {p : Nat} {a b c : Int} (h : M[p]? = some (.lst [.int a, .int b, .int c])) : itemAt M (.loc p) (.int 2) = .ok (.int c) M := item_loc (k := 2) (lstAt_lst h)
theorem st0 {M : Mem} {p : Nat} {a b c v : Int} (h : M[p]? = some (.lst [.int a, .int b, .int c])) : setAt M (.loc p) (.int 0) (.int v) = some (M.set p (.lst [.int v, .int b, .int c])) := set_loc (k := 0) h (by simp)
theorem st1 {M : Mem} {p : Nat} {a b c v : Int} (h : M[p]? = some (.lst [.int a, .int b, .int c])) : setAt M (.loc p) (.int 1) (.int v) = some (M.set p (.lst [.int a, .int v, .int c])) := set_loc (k := 1) h (by simp)
theorem st2 {M : Mem} {p : Nat} {a b c v : Int} (h : M[p]? = some (.lst [.int a, .int b, .int c])) : setAt M (.loc p) (.int 2) (.int v) = some (M.set p (.lst [.int a, .int b, .int v])) := set_loc (k := 2) h (by simp)
theorem set_at {M : Mem} {p : Nat} {X : Cell} (h : p < M.length) : (M.set p X)[p]? = some X := List.getElem?_set_self h
theorem Keep.set3 {M : Mem} {p : Nat} {a b c : Int} (h : p < M.length) : Keep p M (M.set p (.lst [.int a, .int b, .int c])) :=
  ⟨⟨a, b, c, set_at h⟩, by rw [List.length_set]; exact Nat.le_refl _, fun l h1 h2 => List.getElem?_set_ne (fun e => h1 e.symm)⟩
theorem divmod_ok' {M : Mem} {a m : Int} (h : 0 < m ∧ m < 1073741824) : blt .divmod [.int a, .int m] M = .ok (.tup [.int (a / m), .int (a % m)]) M := if_pos h
/-- _law_take, whatever its names -/
theorem take_ok {T : List Fd} {G : List D} {wf n f : Nat} {fd : Fd} {M : Mem} {p : Nat} {m : Int} (hf : T[f]? = some fd) (hb : fd.body = bTake) (hps : fd.ps.length = 2) (hN : fd.N.length = 4) (hp : Pool M p) (hm : 0 < m ∧ m < 1073741824) :
    ∃ d M', callN T G wf (n + 1) f [.loc p, .int m] M = .ok (.int d) M' ∧ Keep p M M' ∧ 0 ≤ d ∧ d < m := by
  obtain ⟨a, b, c, h⟩ := id hp
  have hl := hp.lt
  rw [call_eq hf (by rw [hps]; rfl), hb, hN]
  by_cases ha : 0 < a
  · refine ⟨a % m, M.set p (.lst [.int (a / m), .int b, .int c]), ?_, Keep.set3 hl, Int.emod_nonneg _ (by omega), Int.emod_lt_of_pos _ hm.1⟩
    simp only [bTake, q_ok, q_bad, q_ofO, q_rt, q_nx, q_var, q_con, q_glo, q_tup, q_lst, q_op, q_neg, q_not, q_chain, q_and, q_or, q_ite, q_call, q_callk, q_blt, q_meth, q_sub, q_slice, q_no, q_yes, q_nil, q_cons, q_tt, q_val, q_bnot, q_band, q_bor, q_nm, q_tupT, q_subT, q_nilT, q_consT, q_asg, q_par, q_ex, q_ret, q_if, q_end, q_then, q_add, q_sub2, q_lt, q_le, q_gt, q_ge, q_eqI, q_neI, q_eqS, q_neS, q_trB, cfg_call, cfg_gl, parD, Option.map_some, List.map_cons, List.map_nil, List.cons_append, List.nil_append, List.getElem?_cons_zero, List.getElem?_cons_succ, List.set_cons_zero, List.set_cons_succ, List.length_cons, List.length_nil, List.replicate_succ, List.replicate_zero, it0 h, decide_eq_true ha, divmod_ok' hm, st0 h]
  · have k1 : ∀ {x y z : Int}, (M.set p (.lst [.int x, .int y, .int z]))[p]? = some (.lst [.int x, .int y, .int z]) := set_at hl
    refine ⟨((((b + 28657 * (c + 1)) % 2147483399 * ((b + 28657 * (c + 1)) % 2147483399 % 5003 + 48271) + 17 * (c + 1)) % 2147483399) / 613) % m, M.set p (.lst [.int a, .int (((b + 28657 * (c + 1)) % 2147483399 * ((b + 28657 * (c + 1)) % 2147483399 % 5003 + 48271) + 17 * (c + 1)) % 2147483399), .int (c + 1)]), ?_, Keep.set3 hl, Int.emod_nonneg _ (by omega), Int.emod_lt_of_pos _ hm.1⟩
    have s1 : 0 ≤ (b + 28657 * (c + 1)) % 2147483399 := Int.emod_nonneg _ (by decide)
    have s2 : (b + 28657 * (c + 1)) % 2147483399 < 2147483399 := Int.emod_lt_of_pos _ (by decide)
    have m1 : ∀ {M : Mem}, op2 .mul (.int 28657) (.int (c + 1)) M = .ok (.int (28657 * (c + 1))) M := mul_small (by decide)
    have m2 : ∀ {M : Mem}, op2 .mul (.int 17) (.int (c + 1)) M = .ok (.int (17 * (c + 1))) M := mul_small (by decide)
    have m3 : ∀ {y : Int} {M : Mem}, op2 .mul (.int ((b + 28657 * (c + 1)) % 2147483399)) (.int y) M = .ok (.int ((b + 28657 * (c + 1)) % 2147483399 * y)) M := mul_small (by omega)
    have q1 : ∀ {x : Int} {M : Mem}, op2 .mod (.int x) (.int 2147483399) M = .ok (.int (x % 2147483399)) M := q_mod (by decide)
    have q2 : ∀ {x : Int} {M : Mem}, op2 .mod (.int x) (.int 5003) M = .ok (.int (x % 5003)) M := q_mod (by decide)
    have q3 : ∀ {x : Int} {M : Mem}, op2 .mod (.int x) (.int m) M = .ok (.int (x % m)) M := q_mod hm.1
    have q4 : ∀ {x : Int} {M : Mem}, op2 .fdiv (.int x) (.int 613) M = .ok (.int (x / 613)) M := q_fdiv (by decide)
    simp only [bTake, q_ok, q_bad, q_ofO, q_rt, q_nx, q_var, q_con, q_glo, q_tup, q_lst, q_op, q_neg, q_not, q_chain, q_and, q_or, q_ite, q_call, q_callk, q_blt, q_meth, q_sub, q_slice, q_no, q_yes, q_nil, q_cons, q_tt, q_val, q_bnot, q_band, q_bor, q_nm, q_tupT, q_subT, q_nilT, q_consT, q_asg, q_par, q_ex, q_ret, q_if, q_end, q_then, q_add, q_sub2, q_lt, q_le, q_gt, q_ge, q_eqI, q_neI, q_eqS, q_neS, q_trB, cfg_call, cfg_gl, parD, Option.map_some, List.map_cons, List.map_nil, List.cons_append, List.nil_append, List.getElem?_cons_zero, List.getElem?_cons_succ, List.set_cons_zero, List.set_cons_succ, List.length_cons, List.length_nil, List.replicate_succ, List.replicate_zero, it0 h, decide_eq_false ha, it2 h, st2 h, it1 k1, it2 k1, st1 k1, m1, m2, m3, q1, q2, q3, q4, List.set_set]
def bOf (i : Nat) : Ss := (.cons (.ret (.sub (.var 1) (.call i (.cons (.var 0) (.cons (.blt .len (.cons (.var 1) .nil)) .nil))))) .nil)
theorem len_loc {M : Mem} {l : Nat} {xs : List D} (h : lstAt M l = some xs) : blt .len [.loc l] M = .ok (.int xs.length) M := by
  show R.ofO ((lstAt M l).map fun xs => D.int xs.length) M = _
  rw [h] <;> rfl
/-- _law_of -/
theorem of_ok {T : List Fd} {G : List D} {wf n f g : Nat} {fd ft : Fd} {M : Mem} {p q : Nat} {xs : List D} (hf : T[f]? = some fd) (hb : fd.body = bOf g) (hps : fd.ps.length = 2) (hN : fd.N.length = 2) (hg : T[g]? = some ft) (gb : ft.body = bTake) (gps : ft.ps.length = 2) (gN : ft.N.length = 4)
    (hp : Pool M p) (hq : lstAt M q = some xs) (ne : q ≠ p) (hx : 0 < xs.length ∧ xs.length < 1000) : ∃ x M', x ∈ xs ∧ callN T G wf (n + 2) f [.loc p, .loc q] M = .ok x M' ∧ Keep p M M' := by
  obtain ⟨d, M', e, kp, d1, d2⟩ := take_ok (T := T) (G := G) (wf := wf) (n := n) (m := xs.length) hg gb gps gN hp (by omega)
  have hqM : q < M.length := by
    unfold lstAt at hq
    cases z : M[q]? with
    | none =>
      rw [z] at hq
      cases hq
    | some c => exact getElem?_len z
  have hq' : lstAt M' q = some xs := by rw [kp.lstAt ne hqM, hq]
  obtain ⟨k, rfl⟩ := Int.eq_ofNat_of_zero_le d1
  have hk : k < xs.length := by omega
  refine ⟨xs[k], M', List.getElem_mem hk, ?_, kp⟩
  rw [call_eq hf (by rw [hps]; rfl), hb, hN]
  have hi := item_loc (k := k) hq'
  rw [List.getElem?_eq_getElem hk] at hi
  simp only [bOf, q_ok, q_bad, q_ofO, q_rt, q_nx, q_var, q_con, q_glo, q_tup, q_lst, q_op, q_neg, q_not, q_chain, q_and, q_or, q_ite, q_call, q_callk, q_blt, q_meth, q_sub, q_slice, q_no, q_yes, q_nil, q_cons, q_tt, q_val, q_bnot, q_band, q_bor, q_nm, q_tupT, q_subT, q_nilT, q_consT, q_asg, q_par, q_ex, q_ret, q_if, q_end, q_then, q_add, q_sub2, q_lt, q_le, q_gt, q_ge, q_eqI, q_neI, q_eqS, q_neS, q_trB, cfg_call, cfg_gl, parD, Option.map_some, List.map_cons, List.map_nil, List.cons_append, List.nil_append, List.getElem?_cons_zero, List.getElem?_cons_succ, List.set_cons_zero, List.set_cons_succ, List.length_cons, List.length_nil, List.replicate_succ, List.replicate_zero, len_loc hq, e, hi]
end Ev
namespace Ev
open PySem L2
/-! ### the pool is made -/
def bPool : Ss :=
  (.cons (.par [4, 5] (.cons (.blt .sum (.cons (.slice (.var 0) (.yes (.var 1)) (.yes (.op .add (.var 1) (.con (.int 1)))) .no) .nil)) (.cons (.op .add (.con (.int 50021)) (.op .mul (.con (.int 977)) (.var 1))) .nil)))
    (.cons (.asg (.nm 2) (.op .mul (.op .mul (.op .mul (.op .mul (.op .mul (.op .pow (.con (.int 10)) (.con (.int 64))) (.op .pow (.con (.int 10)) (.con (.int 64)))) (.op .pow (.con (.int 10)) (.con (.int 64)))) (.op .pow (.con (.int 10)) (.con (.int 64)))) (.op .pow (.con (.int 10)) (.con (.int 64)))) (.op .pow (.con (.int 10)) (.con (.int 64)))))
    (.cons (.for_ (.nm 3) (.seq (.slice (.var 0) .no (.yes (.con (.int 12))) .no)) (.cons (.asg (.nm 5) (.op .mod (.op .add (.op .add (.op .mul (.var 5) (.con (.int 48271))) (.op .mul (.op .mod (.var 3) (.con (.int 2147483399))) (.con (.int 19)))) (.con (.int 7))) (.con (.int 2147483399))))
    .nil))
    (.cons (.ret (.lst (.cons (.ite (.or (.val (.op .lt (.var 4) (.con (.int 0)))) (.val (.op .ge (.var 4) (.op .pow (.con (.int 10)) (.con (.int 18)))))) (.op .mod (.blt .abs (.cons (.var 4) .nil)) (.var 2)) (.con (.int 0))) (.cons (.var 5) (.cons (.con (.int 0)) .nil)))))
    .nil))))
theorem cut_map {ns : List Int} {lo hi : Option Int} : cutD (ns.map D.int) lo hi = ((ns.drop (HT.sIx ns.length 0 lo)).take (HT.sIx ns.length ns.length hi - HT.sIx ns.length 0 lo)).map D.int := by
  unfold cutD
  rw [List.length_map, List.map_take, List.map_drop]
def w64 : Int := 10 ^ (64 : Int).toNat
theorem q_pow {x y : Int} {M : Mem} (h : 0 ≤ y ∧ y ≤ 1000000 ∧ x.natAbs < 18446744073709551616) : op2 .pow (.int x) (.int y) M = .ok (.int (x ^ y.toNat)) M := by
  show (if 0 ≤ y ∧ y ≤ 1000000 ∧ x.natAbs < 18446744073709551616 then R.ok (D.int (x ^ y.toNat)) M else .bad) = _
  rw [if_pos h]
theorem q_pow64 {M : Mem} : op2 .pow (.int 10) (.int 64) M = .ok (.int w64) M := q_pow (by decide)
theorem q_pow18 {M : Mem} : op2 .pow (.int 10) (.int 18) M = .ok (.int (10 ^ (18 : Int).toNat)) M := q_pow (by decide)
theorem mk1 : mulOk w64 w64 = true := by decide +kernel
theorem mk2 : mulOk (w64 * w64) w64 = true := by decide +kernel
theorem mk3 : mulOk (w64 * w64 * w64) w64 = true := by decide +kernel
theorem mk4 : mulOk (w64 * w64 * w64 * w64) w64 = true := by decide +kernel
theorem mk5 : mulOk (w64 * w64 * w64 * w64 * w64) w64 = true := by decide +kernel
theorem mkp : 0 < w64 * w64 * w64 * w64 * w64 * w64 := by decide +kernel
theorem slice_loc {M : Mem} {l : Nat} {xs : List D} {lo hi : Option Int} (h : lstAt M l = some xs) : sliceD M (.loc l) lo hi none = .ok (.loc M.length) (M ++ [.lst (cutD xs lo hi)]) := by
  show (match lstAt M l with | some xs => new (cutD xs lo hi) M | none => R.bad) = _
  rw [h]
  rfl
theorem sum_loc {M : Mem} {l : Nat} {ns : List Int} (h : lstAt M l = some (ns.map D.int)) : blt .sum [.loc l] M = .ok (.int ns.sum) M := by
  show R.ofO (((lstAt M l).bind intsOf).map fun ns => D.int ns.sum) M = _
  rw [h, Option.bind_some, intsOf_map] <;> rfl
theorem lt_of_lstAt {M : Mem} {l : Nat} {xs : List D} (h : lstAt M l = some xs) : l < M.length := by
  unfold lstAt at h
  cases z : M[l]? with
  | none =>
    rw [z] at h
    cases h
  | some c => exact getElem?_len z
theorem pool_ok {T : List Fd} {G : List D} {wf n f : Nat} {fd : Fd} {M : Mem} {s : Nat} {ns : List Int} {k : Int} (hf : T[f]? = some fd) (hb : fd.body = bPool) (hps : fd.ps.length = 2) (hN : fd.N.length = 6) (hs : lstAt M s = some (ns.map D.int)) :
    ∃ q Z, callN T G wf (n + 1) f [.loc s, .int k] M = .ok (.loc q) (M ++ Z) ∧ Pool (M ++ Z) q ∧ M.length ≤ q := by
  have hsl := lt_of_lstAt hs
  rw [call_eq hf (by rw [hps]; rfl), hb, hN]
  generalize hc1 : (ns.drop (HT.sIx ns.length 0 (some k))).take (HT.sIx ns.length ns.length (some (k + 1)) - HT.sIx ns.length 0 (some k)) = c1
  generalize hc2 : (ns.drop (HT.sIx ns.length 0 none)).take (HT.sIx ns.length ns.length (some 12) - HT.sIx ns.length 0 none) = c2
  have e1 : sliceD M (.loc s) (some k) (some (k + 1)) none = .ok (.loc M.length) (M ++ [.lst (c1.map D.int)]) := by
    rw [slice_loc hs, cut_map, hc1]
  have e2 : blt .sum [.loc M.length] (M ++ [.lst (c1.map D.int)]) = .ok (.int c1.sum) (M ++ [.lst (c1.map D.int)]) := sum_loc (lstAt_new _ _)
  have e3 : op2 .mul (.int 977) (.int k) (M ++ [.lst (c1.map D.int)]) = .ok (.int (977 * k)) (M ++ [.lst (c1.map D.int)]) := mul_small (by decide)
  have hs2 : lstAt (M ++ [Cell.lst (c1.map D.int)]) s = some (ns.map D.int) := by rw [lstAt_old hsl, hs]
  have e4 : sliceD (M ++ [.lst (c1.map D.int)]) (.loc s) none (some 12) none = .ok (.loc (M ++ [Cell.lst (c1.map D.int)]).length) ((M ++ [.lst (c1.map D.int)]) ++ [.lst (c2.map D.int)]) := by
    rw [slice_loc hs2, cut_map, hc2]
  have loop : ∃ e c, ex (cfg T G wf n) (.for_ (.nm 3) (.seq (.slice (.var 0) .no (.yes (.con (.int 12))) .no)) (.cons (.asg (.nm 5) (.op .mod (.op .add (.op .add (.op .mul (.var 5) (.con (.int 48271))) (.op .mul (.op .mod (.var 3) (.con (.int 2147483399))) (.con (.int 19)))) (.con (.int 7))) (.con (.int 2147483399)))) .nil))
      [some (.loc s), some (.int k), some (.int (w64 * w64 * w64 * w64 * w64 * w64)), none, some (.int c1.sum), some (.int (50021 + 977 * k))] (M ++ [.lst (c1.map D.int)]) =
      R.ok (Fl.nx [some (.loc s), some (.int k), some (.int (w64 * w64 * w64 * w64 * w64 * w64)), e, some (.int c1.sum), some (.int c)]) ((M ++ [.lst (c1.map D.int)]) ++ [.lst (c2.map D.int)]) := by
    suffices key : ∃ σ' M', ex (cfg T G wf n) (.for_ (.nm 3) (.seq (.slice (.var 0) .no (.yes (.con (.int 12))) .no)) (.cons (.asg (.nm 5) (.op .mod (.op .add (.op .add (.op .mul (.var 5) (.con (.int 48271))) (.op .mul (.op .mod (.var 3) (.con (.int 2147483399))) (.con (.int 19)))) (.con (.int 7))) (.con (.int 2147483399)))) .nil)) [some (.loc s), some (.int k), some (.int (w64 * w64 * w64 * w64 * w64 * w64)), none, some (.int c1.sum), some (.int (50021 + 977 * k))] (M ++ [.lst (c1.map D.int)]) = R.ok (Fl.nx σ') M' ∧
        (∃ e c, σ' = [some (.loc s), some (.int k), some (.int (w64 * w64 * w64 * w64 * w64 * w64)), e, some (.int c1.sum), some (.int c)] ∧ M' = (M ++ [.lst (c1.map D.int)]) ++ [.lst (c2.map D.int)]) by
      obtain ⟨σ', M', h1, e, c, rfl, rfl⟩ := key
      exact ⟨e, c, h1⟩
    refine for_inv (C := cfg T G wf n) (t := .nm 3) (it := .seq (.slice (.var 0) .no (.yes (.con (.int 12))) .no)) (b := (.cons (.asg (.nm 5) (.op .mod (.op .add (.op .add (.op .mul (.var 5) (.con (.int 48271))) (.op .mul (.op .mod (.var 3) (.con (.int 2147483399))) (.con (.int 19)))) (.con (.int 7))) (.con (.int 2147483399)))) .nil))
      (σ := [some (.loc s), some (.int k), some (.int (w64 * w64 * w64 * w64 * w64 * w64)), none, some (.int c1.sum), some (.int (50021 + 977 * k))]) (M := M ++ [.lst (c1.map D.int)]) (M1 := (M ++ [.lst (c1.map D.int)]) ++ [.lst (c2.map D.int)]) (src := .lst (M ++ [Cell.lst (c1.map D.int)]).length c2.length)
      (fun j σ M' => ∃ e c, σ = [some (.loc s), some (.int k), some (.int (w64 * w64 * w64 * w64 * w64 * w64)), e, some (.int c1.sum), some (.int c)] ∧ M' = (M ++ [.lst (c1.map D.int)]) ++ [.lst (c2.map D.int)])
      ?_ ⟨none, _, rfl, rfl⟩ ?_ ?_
    · refine seq_ok (d := .loc (M ++ [Cell.lst (c1.map D.int)]).length) ?_ ?_
      · rw [q_slice, q_var]
        simp only [q_ok, q_bad, q_ofO, q_rt, q_nx, q_var, q_con, q_glo, q_tup, q_lst, q_op, q_neg, q_not, q_chain, q_and, q_or, q_ite, q_call, q_callk, q_blt, q_meth, q_sub, q_slice, q_no, q_yes, q_nil, q_cons, q_tt, q_val, q_bnot, q_band, q_bor, q_nm, q_tupT, q_subT, q_nilT, q_consT, q_asg, q_par, q_ex, q_ret, q_if, q_end, q_then, q_add, q_sub2, q_lt, q_le, q_gt, q_ge, q_eqI, q_neI, q_eqS, q_neS, q_trB, cfg_call, cfg_gl, parD, Option.map_some, List.map_cons, List.map_nil, List.cons_append, List.nil_append, List.getElem?_cons_zero, List.getElem?_cons_succ, List.set_cons_zero, List.set_cons_succ, List.length_cons, List.length_nil, List.replicate_succ, List.replicate_zero, e4]
      · show (lstAt _ _).map (fun xs => Src.lst _ xs.length) = _
        rw [lstAt_new, Option.map_some, List.length_map]
    · rintro j σ M' hj ⟨e, c, rfl, rfl⟩
      have hj' : j < c2.length := hj
      refine ⟨.int c2[j], ?_, _, _, ?_, some (.int c2[j]), (c * 48271 + c2[j] % 2147483399 * 19 + 7) % 2147483399, rfl, rfl⟩
      · show ((lstAt _ _).bind fun xs => xs[j]?) = _
        rw [lstAt_new, Option.bind_some, List.getElem?_map, List.getElem?_eq_getElem hj']
        rfl
      · have m1 : ∀ {x : Int} {M : Mem}, op2 .mul (.int x) (.int 48271) M = .ok (.int (x * 48271)) M := mul_smallR (by decide)
        have m2 : ∀ {x : Int} {M : Mem}, op2 .mul (.int x) (.int 19) M = .ok (.int (x * 19)) M := mul_smallR (by decide)
        have q1 : ∀ {x : Int} {M : Mem}, op2 .mod (.int x) (.int 2147483399) M = .ok (.int (x % 2147483399)) M := q_mod (by decide)
        simp only [q_ok, q_bad, q_ofO, q_rt, q_nx, q_var, q_con, q_glo, q_tup, q_lst, q_op, q_neg, q_not, q_chain, q_and, q_or, q_ite, q_call, q_callk, q_blt, q_meth, q_sub, q_slice, q_no, q_yes, q_nil, q_cons, q_tt, q_val, q_bnot, q_band, q_bor, q_nm, q_tupT, q_subT, q_nilT, q_consT, q_asg, q_par, q_ex, q_ret, q_if, q_end, q_then, q_add, q_sub2, q_lt, q_le, q_gt, q_ge, q_eqI, q_neI, q_eqS, q_neS, q_trB, cfg_call, cfg_gl, parD, Option.map_some, List.map_cons, List.map_nil, List.cons_append, List.nil_append, List.getElem?_cons_zero, List.getElem?_cons_succ, List.set_cons_zero, List.set_cons_succ, List.length_cons, List.length_nil, List.replicate_succ, List.replicate_zero, m1, m2, q1]
    · rintro σ M' ⟨e, c, rfl, rfl⟩
      show (match lstAt _ _ with | some xs => decide (xs.length ≤ c2.length) | none => false) = true
      rw [lstAt_new]
      simp
  obtain ⟨e, c, hloop⟩ := loop
  have hab : ∀ {M : Mem}, blt .abs [.int c1.sum] M = .ok (.int (if c1.sum < 0 then -c1.sum else c1.sum)) M := rfl
  have hmd : ∀ {x : Int} {M : Mem}, op2 .mod (.int x) (.int (w64 * w64 * w64 * w64 * w64 * w64)) M = .ok (.int (x % (w64 * w64 * w64 * w64 * w64 * w64))) M := q_mod mkp
  have fin' : ∃ x : Int, ev (cfg T G wf n) (.ite (.or (.val (.op .lt (.var 4) (.con (.int 0)))) (.val (.op .ge (.var 4) (.op .pow (.con (.int 10)) (.con (.int 18)))))) (.op .mod (.blt .abs (.cons (.var 4) .nil)) (.var 2)) (.con (.int 0))) [some (.loc s), some (.int k), some (.int (w64 * w64 * w64 * w64 * w64 * w64)), e, some (.int c1.sum), some (.int c)] ((M ++ [.lst (c1.map D.int)]) ++ [.lst (c2.map D.int)]) = .ok (.int x) ((M ++ [.lst (c1.map D.int)]) ++ [.lst (c2.map D.int)]) := by
    simp only [q_ok, q_bad, q_ofO, q_rt, q_nx, q_var, q_con, q_glo, q_tup, q_lst, q_op, q_neg, q_not, q_chain, q_and, q_or, q_ite, q_call, q_callk, q_blt, q_meth, q_sub, q_slice, q_no, q_yes, q_nil, q_cons, q_tt, q_val, q_bnot, q_band, q_bor, q_nm, q_tupT, q_subT, q_nilT, q_consT, q_asg, q_par, q_ex, q_ret, q_if, q_end, q_then, q_add, q_sub2, q_lt, q_le, q_gt, q_ge, q_eqI, q_neI, q_eqS, q_neS, q_trB, cfg_call, cfg_gl, parD, Option.map_some, List.map_cons, List.map_nil, List.cons_append, List.nil_append, List.getElem?_cons_zero, List.getElem?_cons_succ, List.set_cons_zero, List.set_cons_succ, List.length_cons, List.length_nil, List.replicate_succ, List.replicate_zero, hab, hmd, q_pow18]
    cases decide (c1.sum < 0) with
    | true => exact ⟨_, rfl⟩
    | false =>
      simp only [q_ok, q_bad, q_ofO, q_rt, q_nx, q_var, q_con, q_glo, q_tup, q_lst, q_op, q_neg, q_not, q_chain, q_and, q_or, q_ite, q_call, q_callk, q_blt, q_meth, q_sub, q_slice, q_no, q_yes, q_nil, q_cons, q_tt, q_val, q_bnot, q_band, q_bor, q_nm, q_tupT, q_subT, q_nilT, q_consT, q_asg, q_par, q_ex, q_ret, q_if, q_end, q_then, q_add, q_sub2, q_lt, q_le, q_gt, q_ge, q_eqI, q_neI, q_eqS, q_neS, q_trB, cfg_call, cfg_gl, parD, Option.map_some, List.map_cons, List.map_nil, List.cons_append, List.nil_append, List.getElem?_cons_zero, List.getElem?_cons_succ, List.set_cons_zero, List.set_cons_succ, List.length_cons, List.length_nil, List.replicate_succ, List.replicate_zero]
      cases decide ((10 : Int) ^ (18 : Int).toNat ≤ c1.sum) with
      | true => exact ⟨_, rfl⟩
      | false => exact ⟨_, rfl⟩
  obtain ⟨x, hfin⟩ := fin'
  refine ⟨((M ++ [Cell.lst (c1.map D.int)]) ++ [Cell.lst (c2.map D.int)]).length, [.lst (c1.map D.int), .lst (c2.map D.int), .lst [.int x, .int c, .int 0]], ?_, ⟨x, c, 0, ?_⟩, by simp⟩
  · have hw : ∀ {M : Mem}, ev (cfg T G wf n) (.op .mul (.op .mul (.op .mul (.op .mul (.op .mul (.op .pow (.con (.int 10)) (.con (.int 64))) (.op .pow (.con (.int 10)) (.con (.int 64)))) (.op .pow (.con (.int 10)) (.con (.int 64)))) (.op .pow (.con (.int 10)) (.con (.int 64)))) (.op .pow (.con (.int 10)) (.con (.int 64)))) (.op .pow (.con (.int 10)) (.con (.int 64)))) [some (.loc s), some (.int k), none, none, some (.int c1.sum), some (.int (50021 + 977 * k))] M = .ok (.int (w64 * w64 * w64 * w64 * w64 * w64)) M := fun {M} => by
      simp only [q_ok, q_bad, q_ofO, q_rt, q_nx, q_var, q_con, q_glo, q_tup, q_lst, q_op, q_neg, q_not, q_chain, q_and, q_or, q_ite, q_call, q_callk, q_blt, q_meth, q_sub, q_slice, q_no, q_yes, q_nil, q_cons, q_tt, q_val, q_bnot, q_band, q_bor, q_nm, q_tupT, q_subT, q_nilT, q_consT, q_asg, q_par, q_ex, q_ret, q_if, q_end, q_then, q_add, q_sub2, q_lt, q_le, q_gt, q_ge, q_eqI, q_neI, q_eqS, q_neS, q_trB, cfg_call, cfg_gl, parD, Option.map_some, List.map_cons, List.map_nil, List.cons_append, List.nil_append, List.getElem?_cons_zero, List.getElem?_cons_succ, List.set_cons_zero, List.set_cons_succ, List.length_cons, List.length_nil, List.replicate_succ, List.replicate_zero, q_pow64, q_mul mk1, q_mul mk2, q_mul mk3, q_mul mk4, q_mul mk5]
    have hnew : ∀ (xs : List D) (M : Mem), new xs M = .ok (.loc M.length) (M ++ [.lst xs]) := fun _ _ => rfl
    have hpar : exs (cfg T G wf n) bPool ([D.loc s, D.int k].map some ++ List.replicate (6 - [D.loc s, D.int k].length) none) M = R.ok (Fl.rt (.loc ((M ++ [Cell.lst (c1.map D.int)]) ++ [Cell.lst (c2.map D.int)]).length)) (((M ++ [.lst (c1.map D.int)]) ++ [.lst (c2.map D.int)]) ++ [.lst [.int x, .int c, .int 0]]) := by
      have r4 : List.replicate (6 - [D.loc s, D.int k].length) (none : Option D) = [none, none, none, none] := rfl
      rw [r4]
      have z1 : ex (cfg T G wf n) (.par [4, 5] (.cons (.blt .sum (.cons (.slice (.var 0) (.yes (.var 1)) (.yes (.op .add (.var 1) (.con (.int 1)))) .no) .nil)) (.cons (.op .add (.con (.int 50021)) (.op .mul (.con (.int 977)) (.var 1))) .nil))) [some (.loc s), some (.int k), none, none, none, none] M =
          .ok (.nx [some (.loc s), some (.int k), none, none, some (.int c1.sum), some (.int (50021 + 977 * k))]) (M ++ [.lst (c1.map D.int)]) := by
        simp only [q_ok, q_bad, q_ofO, q_rt, q_nx, q_var, q_con, q_glo, q_tup, q_lst, q_op, q_neg, q_not, q_chain, q_and, q_or, q_ite, q_call, q_callk, q_blt, q_meth, q_sub, q_slice, q_no, q_yes, q_nil, q_cons, q_tt, q_val, q_bnot, q_band, q_bor, q_nm, q_tupT, q_subT, q_nilT, q_consT, q_asg, q_par, q_ex, q_ret, q_if, q_end, q_then, q_add, q_sub2, q_lt, q_le, q_gt, q_ge, q_eqI, q_neI, q_eqS, q_neS, q_trB, cfg_call, cfg_gl, parD, Option.map_some, List.map_cons, List.map_nil, List.cons_append, List.nil_append, List.getElem?_cons_zero, List.getElem?_cons_succ, List.set_cons_zero, List.set_cons_succ, List.length_cons, List.length_nil, List.replicate_succ, List.replicate_zero, e1, e2, e3]
      have z2 : ∀ {M : Mem}, ex (cfg T G wf n) (.asg (.nm 2) (.op .mul (.op .mul (.op .mul (.op .mul (.op .mul (.op .pow (.con (.int 10)) (.con (.int 64))) (.op .pow (.con (.int 10)) (.con (.int 64)))) (.op .pow (.con (.int 10)) (.con (.int 64)))) (.op .pow (.con (.int 10)) (.con (.int 64)))) (.op .pow (.con (.int 10)) (.con (.int 64)))) (.op .pow (.con (.int 10)) (.con (.int 64))))) [some (.loc s), some (.int k), none, none, some (.int c1.sum), some (.int (50021 + 977 * k))] M =
          .ok (.nx [some (.loc s), some (.int k), some (.int (w64 * w64 * w64 * w64 * w64 * w64)), none, some (.int c1.sum), some (.int (50021 + 977 * k))]) M := fun {M} => by
        rw [q_asg, hw]
        rfl
      have z4 : ex (cfg T G wf n) (.ret (.lst (.cons (.ite (.or (.val (.op .lt (.var 4) (.con (.int 0)))) (.val (.op .ge (.var 4) (.op .pow (.con (.int 10)) (.con (.int 18)))))) (.op .mod (.blt .abs (.cons (.var 4) .nil)) (.var 2)) (.con (.int 0))) (.cons (.var 5) (.cons (.con (.int 0)) .nil))))) [some (.loc s), some (.int k), some (.int (w64 * w64 * w64 * w64 * w64 * w64)), e, some (.int c1.sum), some (.int c)] ((M ++ [.lst (c1.map D.int)]) ++ [.lst (c2.map D.int)]) =
          .ok (.rt (.loc ((M ++ [Cell.lst (c1.map D.int)]) ++ [Cell.lst (c2.map D.int)]).length)) (((M ++ [.lst (c1.map D.int)]) ++ [.lst (c2.map D.int)]) ++ [.lst [.int x, .int c, .int 0]]) := by
        rw [q_ret, q_lst, q_cons, hfin, q_ok, q_cons]
        rfl
      rw [bPool, q_then, show [D.loc s, D.int k].map some ++ [none, none, none, none] = [some (.loc s), some (.int k), none, none, none, none] from rfl, z1, q_ok]
      dsimp only
      rw [q_then, z2, q_ok]
      dsimp only
      rw [q_then, hloop, q_ok]
      dsimp only
      rw [q_then, z4, q_ok]
    rw [hpar, q_ok, q_rt]
    simp
  · rw [show M ++ [Cell.lst (c1.map D.int), .lst (c2.map D.int), .lst [.int x, .int c, .int 0]] = ((M ++ [Cell.lst (c1.map D.int)]) ++ [Cell.lst (c2.map D.int)]) ++ [.lst [.int x, .int c, .int 0]] by simp, List.getElem?_append_right (Nat.le_refl _), Nat.sub_self]
    rfl
end Ev
namespace Ev
open PySem L2
/-! ### a loop that returns at the first hit -/
theorem for_findL {α : Type} {C : Cfg} {t : T} {it : I} {b : Ss} {σ : Sl} {M0 M : Mem} {src : Src} {ps : List α} {fm : α → D} (out : α → Option D) (Inv : Sl → Mem → Prop) (J : Mem → Prop) (hi : evI C it σ M0 = .ok src M) (hl : src.len = ps.length) (h0 : Inv σ M)
    (hget : ∀ j σ M, j < ps.length → Inv σ M → src.get j M = (ps[j]?).map fm) (hdone : ∀ σ M, Inv σ M → src.done ps.length M = true)
    (hit : ∀ a ∈ ps, ∀ d, out a = some d → ∀ σ M, Inv σ M → ∃ M', ((asg C t (fm a) σ M).bind fun σ M => exs C b σ M) = R.ok (Fl.rt d) M' ∧ J M')
    (miss : ∀ a ∈ ps, out a = none → ∀ σ M, Inv σ M → ∃ σ' M', ((asg C t (fm a) σ M).bind fun σ M => exs C b σ M) = R.ok (Fl.nx σ') M' ∧ Inv σ' M') :
    (∀ d, ps.findSome? out = some d → ∃ M', ex C (.for_ t it b) σ M0 = R.ok (Fl.rt d) M' ∧ J M') ∧ (ps.findSome? out = none → ∃ σ' M', ex C (.for_ t it b) σ M0 = R.ok (Fl.nx σ') M' ∧ Inv σ' M') := by
  have gen : ∀ (k i : Nat) (σ : Sl) (M : Mem), i + k = ps.length → Inv σ M →
      (∀ d, (ps.drop i).findSome? out = some d → ∃ M', goF src (fun d σ M => (asg C t d σ M).bind fun σ M => exs C b σ M) k i σ M = R.ok (Fl.rt d) M' ∧ J M') ∧
      ((ps.drop i).findSome? out = none → ∃ σ' M', goF src (fun d σ M => (asg C t d σ M).bind fun σ M => exs C b σ M) k i σ M = R.ok (Fl.nx σ') M' ∧ Inv σ' M') := by
    intro k
    induction k with
    | zero =>
      intro i σ M hk hI
      rw [show i = ps.length by omega, List.drop_length]
      refine ⟨fun d h => (by cases h), fun _ => ⟨σ, M, ?_, hI⟩⟩
      show (if src.done ps.length M = true then R.ok (Fl.nx σ) M else R.bad) = _
      rw [if_pos (hdone σ M hI)]
    | succ k ih =>
      intro i σ M hk hI
      have hlt : i < ps.length := by omega
      have eg : src.get i M = some (fm ps[i]) := by
        rw [hget i σ M hlt hI, List.getElem?_eq_getElem hlt]
        rfl
      have unf : goF src (fun d σ M => (asg C t d σ M).bind fun σ M => exs C b σ M) (k + 1) i σ M = (((asg C t (fm ps[i]) σ M).bind fun σ M => exs C b σ M).bind fun fl M => match fl with
        | .nx σ => goF src (fun d σ M => (asg C t d σ M).bind fun σ M => exs C b σ M) k (i + 1) σ M
        | .ct σ => goF src (fun d σ M => (asg C t d σ M).bind fun σ M => exs C b σ M) k (i + 1) σ M
        | .bk σ => .ok (.nx σ) M
        | .rt d => .ok (.rt d) M) := by
        show (match src.get i M with
          | some d => (((asg C t d σ M).bind fun σ M => exs C b σ M).bind fun fl M => match fl with
            | .nx σ => goF src (fun d σ M => (asg C t d σ M).bind fun σ M => exs C b σ M) k (i + 1) σ M
            | .ct σ => goF src (fun d σ M => (asg C t d σ M).bind fun σ M => exs C b σ M) k (i + 1) σ M
            | .bk σ => .ok (.nx σ) M
            | .rt d => .ok (.rt d) M)
          | none => R.bad) = _
        rw [eg]
      rw [List.drop_eq_getElem_cons hlt, List.findSome?_cons]
      cases ho : out ps[i] with
      | some d =>
        obtain ⟨M', e, j⟩ := hit _ (List.getElem_mem hlt) d ho σ M hI
        refine ⟨fun d' hd => ?_, fun h => by cases h⟩
        cases hd
        exact ⟨M', by rw [unf, e]; rfl, j⟩
      | none =>
        obtain ⟨σ', M', e, hI'⟩ := miss _ (List.getElem_mem hlt) ho σ M hI
        obtain ⟨z1, z2⟩ := ih (i + 1) σ' M' (by omega) hI'
        rw [unf, e]
        exact ⟨z1, z2⟩
  obtain ⟨z1, z2⟩ := gen ps.length 0 σ M (by omega) h0
  rw [List.drop_zero] at z1 z2
  have unf : ex C (.for_ t it b) σ M0 = goF src (fun d σ M => (asg C t d σ M).bind fun σ M => exs C b σ M) ps.length 0 σ M := by
    show ((evI C it σ M0).bind fun src M => goF src (fun d σ M => (asg C t d σ M).bind fun σ M => exs C b σ M) src.len 0 σ M) = _
    rw [hi, q_ok, hl]
  rw [unf]
  exact ⟨z1, z2⟩
/-- a comprehension that draws -/
theorem lc_draw {C : Cfg} {e : E} {t : T} {it : I} {own : List Nat} {σ : Sl} {M0 M : Mem} {lo : Int} {n : Nat} (Inv : Mem → Prop) (Q : Int → Prop) (hi : evI C it σ M0 = .ok (.rng lo n) M) (h0 : Inv M) (hn : n ≤ line)
    (step : ∀ (d : D) (acc : List D) M, Inv M → acc.length < line → ∃ v M', stepD C e t .tt own σ d acc M = .ok (acc ++ [.int v]) M' ∧ Q v ∧ Inv M') :
    ∃ (vs : List Int) (M' : Mem), ev C (.comp e t it .tt own) σ M0 = .ok (.loc M'.length) (M' ++ [.lst (vs.map D.int)]) ∧ vs.length = n ∧ (∀ v ∈ vs, Q v) ∧ Inv M' := by
  have gen : ∀ (k i : Nat) (acc : List Int) (M : Mem), i + k = n → acc.length = i → (∀ v ∈ acc, Q v) → Inv M → ∃ (vs : List Int) (M' : Mem), goD (.rng lo n) (stepD C e t .tt own σ) k i (acc.map D.int) M = .ok (vs.map D.int) M' ∧ vs.length = n ∧ (∀ v ∈ vs, Q v) ∧ Inv M' := by
    intro k
    induction k with
    | zero =>
      intro i acc M hk ha hq hI
      refine ⟨acc, M, ?_, by omega, hq, hI⟩
      show (if (Src.rng lo n).done i M = true then R.ok (acc.map D.int) M else R.bad) = _
      rw [show i = n by omega, if_pos rng_done]
    | succ k ih =>
      intro i acc M hk ha hq hI
      obtain ⟨v, M', e1, qv, hI'⟩ := step (.int (lo + i)) (acc.map D.int) M hI (by rw [List.length_map]; omega)
      obtain ⟨vs, M2, e2, l2, q2, hI2⟩ := ih (i + 1) (acc ++ [v]) M' (by omega) (by simp [ha]) (fun w hw => by
        rcases List.mem_append.mp hw with h | h
        · exact hq w h
        · rw [List.mem_singleton.mp h]
          exact qv) hI'
      refine ⟨vs, M2, ?_, l2, q2, hI2⟩
      show (match (Src.rng lo n).get i M with
        | some d => (stepD C e t .tt own σ d (acc.map D.int) M).bind fun a M => goD (.rng lo n) (stepD C e t .tt own σ) k (i + 1) a M
        | none => R.bad) = _
      rw [rng_get (by omega)]
      dsimp only
      rw [e1, q_ok, ← e2, List.map_append]
      rfl
  obtain ⟨vs, M', e1, l1, q1, hI⟩ := gen n 0 [] M (by omega) rfl (fun v hv => absurd hv List.not_mem_nil) h0
  refine ⟨vs, M', ?_, l1, q1, hI⟩
  show ((evI C it σ M0).bind fun src M => (goD src (stepD C e t .tt own σ) src.len 0 [] M).bind fun acc M => new acc M) = _
  rw [hi, q_ok]
  show ((goD (.rng lo n) (stepD C e t .tt own σ) n 0 [] M).bind fun acc M => new acc M) = _
  rw [show ([] : List D) = ([] : List Int).map D.int from rfl, e1]
  rfl
theorem sortI_mem' (l : List Int) (y : Int) : y ∈ sortI l ↔ y ∈ l := (sortI_perm l).mem_iff
theorem sortI_len' (l : List Int) : (sortI l).length = l.length := (sortI_perm l).length_eq
end Ev
namespace Ev
open PySem L2
/-! ### a drawn tax -/
def x1 : Ev.S := .asg (.nm 7) (.op .add (.op .mul (.var 3) (.var 1)) (.var 5))
def x2 : Ev.S := .ite (.and (.val (.op .eq (.var 2) (.con (.int 1)))) (.val (.op .gt (.var 1) (.var 6)))) (.cons (.asg (.nm 7) (.op .add (.op .add (.op .mul (.var 3) (.var 6)) (.var 5)) (.op .fdiv (.op .sub (.var 1) (.var 6)) (.con (.int 2))))) .nil) .nil
def x3 : Ev.S := .ite (.val (.op .eq (.var 2) (.con (.int 2)))) (.cons (.asg (.nm 7) (.blt .max (.cons (.con (.int 0)) (.cons (.op .sub (.var 1) (.var 6)) .nil)))) .nil) .nil
def x4 : Ev.S := .ite (.val (.op .eq (.var 2) (.con (.int 3)))) (.cons (.asg (.nm 7) (.op .add (.op .fdiv (.op .mul (.var 1) (.op .add (.con (.int 3)) (.var 3))) (.con (.int 4))) (.var 5))) .nil) .nil
def x5 : Ev.S := .ex (.meth .append (.var 4) (.cons (.blt .min (.cons (.con (.int 99)) (.cons (.var 7) .nil))) .nil))
def xLoop : Ev.S := .for_ (.nm 1) (.rng (.cons (.con (.int 31)) .nil)) (.cons x1 (.cons x2 (.cons x3 (.cons x4 (.cons x5 .nil)))))
def xa (i : Nat) : Ev.S := .par [2, 3, 4] (.cons (.call i (.cons (.var 0) (.cons (.con (.int 5)) .nil))) (.cons (.op .add (.con (.int 1)) (.call i (.cons (.var 0) (.cons (.con (.int 3)) .nil)))) (.cons (.lst .nil) .nil)))
def xb (i o : Nat) : Ev.S := .par [5, 6] (.cons (.call o (.cons (.var 0) (.cons (.lst (.cons (.con (.int 0)) (.cons (.con (.int 0)) (.cons (.con (.int 3)) (.cons (.con (.int 9)) .nil))))) .nil))) (.cons (.call i (.cons (.var 0) (.cons (.con (.int 31)) .nil))) .nil))
def xc (i : Nat) : Ev.S := .ite (.val (.op .eq (.var 2) (.con (.int 4)))) (.cons (.asg (.nm 4) (.blt .sorted (.cons (.comp (.call i (.cons (.var 0) (.cons (.con (.int 100)) .nil))) (.nm 1) (.rng (.cons (.con (.int 31)) .nil)) .tt [1]) .nil))) .nil) .nil
def xd (i : Nat) : Ev.S := .ite (.val (.op .eq (.call i (.cons (.var 0) (.cons (.con (.int 3)) .nil))) (.con (.int 0)))) (.cons (.asg (.sub (.var 4) (.call i (.cons (.var 0) (.cons (.con (.int 31)) .nil)))) (.call i (.cons (.var 0) (.cons (.con (.int 100)) .nil)))) .nil) .nil
def bTax (i o : Nat) : Ss := .cons (xa i) (.cons (xb i o) (.cons xLoop (.cons (xc i) (.cons (xd i) (.cons (.ret (.blt .tuple (.cons (.var 4) .nil))) .nil)))))
section
variable {C : Cfg} {M : Mem} {s0 s4 : Option D} {k sort rate lump edge v : Int}
theorem do_x2 (hk : 0 ≤ k) (hr : 0 ≤ rate ∧ rate ≤ 3) (hl : 0 ≤ lump) (he : 0 ≤ edge) (hv : 0 ≤ v) : ∃ w, 0 ≤ w ∧ ex C x2 [s0, some (.int k), some (.int sort), some (.int rate), s4, some (.int lump), some (.int edge), some (.int v)] M = .ok (.nx [s0, some (.int k), some (.int sort), some (.int rate), s4, some (.int lump), some (.int edge), some (.int w)]) M := by
  have hb : evB C (.and (.val (.op .eq (.var 2) (.con (.int 1)))) (.val (.op .gt (.var 1) (.var 6)))) [s0, some (.int k), some (.int sort), some (.int rate), s4, some (.int lump), some (.int edge), some (.int v)] M = .ok (decide (sort = 1) && decide (edge < k)) M := by
    simp only [q_ok, q_bad, q_ofO, q_rt, q_nx, q_var, q_con, q_glo, q_tup, q_lst, q_op, q_neg, q_not, q_chain, q_and, q_or, q_ite, q_call, q_callk, q_blt, q_meth, q_sub, q_slice, q_no, q_yes, q_nil, q_cons, q_tt, q_val, q_bnot, q_band, q_bor, q_nm, q_tupT, q_subT, q_nilT, q_consT, q_asg, q_par, q_ex, q_ret, q_if, q_end, q_then, q_add, q_sub2, q_lt, q_le, q_gt, q_ge, q_eqI, q_neI, q_eqS, q_neS, q_trB, cfg_call, cfg_gl, parD, Option.map_some, List.map_cons, List.map_nil, List.cons_append, List.nil_append, List.getElem?_cons_zero, List.getElem?_cons_succ, List.set_cons_zero, List.set_cons_succ, List.length_cons, List.length_nil, List.replicate_succ, List.replicate_zero]
    cases decide (sort = 1) with
    | true => simp only [q_ok, q_bad, q_ofO, q_rt, q_nx, q_var, q_con, q_glo, q_tup, q_lst, q_op, q_neg, q_not, q_chain, q_and, q_or, q_ite, q_call, q_callk, q_blt, q_meth, q_sub, q_slice, q_no, q_yes, q_nil, q_cons, q_tt, q_val, q_bnot, q_band, q_bor, q_nm, q_tupT, q_subT, q_nilT, q_consT, q_asg, q_par, q_ex, q_ret, q_if, q_end, q_then, q_add, q_sub2, q_lt, q_le, q_gt, q_ge, q_eqI, q_neI, q_eqS, q_neS, q_trB, cfg_call, cfg_gl, parD, Option.map_some, List.map_cons, List.map_nil, List.cons_append, List.nil_append, List.getElem?_cons_zero, List.getElem?_cons_succ, List.set_cons_zero, List.set_cons_succ, List.length_cons, List.length_nil, List.replicate_succ, List.replicate_zero, Bool.true_and]
    | false => rfl
  cases h : decide (sort = 1) && decide (edge < k) with
  | false =>
    refine ⟨v, hv, ?_⟩
    rw [x2, q_if, hb, h, q_ok]
    rfl
  | true =>
    have h2 : edge < k := of_decide_eq_true (Bool.and_eq_true_iff.mp h).2
    have m1 : op2 .mul (.int rate) (.int edge) M = .ok (.int (rate * edge)) M := mul_small (by omega)
    have m2 : op2 .fdiv (.int (k - edge)) (.int 2) M = .ok (.int ((k - edge) / 2)) M := q_fdiv (by decide)
    refine ⟨rate * edge + lump + (k - edge) / 2, ?_, ?_⟩
    · have := Int.mul_nonneg hr.1 he
      have := Int.ediv_nonneg (a := k - edge) (b := 2) (by omega) (by decide)
      omega
    · rw [x2, q_if, hb, h, q_ok]
      simp only [q_ok, q_bad, q_ofO, q_rt, q_nx, q_var, q_con, q_glo, q_tup, q_lst, q_op, q_neg, q_not, q_chain, q_and, q_or, q_ite, q_call, q_callk, q_blt, q_meth, q_sub, q_slice, q_no, q_yes, q_nil, q_cons, q_tt, q_val, q_bnot, q_band, q_bor, q_nm, q_tupT, q_subT, q_nilT, q_consT, q_asg, q_par, q_ex, q_ret, q_if, q_end, q_then, q_add, q_sub2, q_lt, q_le, q_gt, q_ge, q_eqI, q_neI, q_eqS, q_neS, q_trB, cfg_call, cfg_gl, parD, Option.map_some, List.map_cons, List.map_nil, List.cons_append, List.nil_append, List.getElem?_cons_zero, List.getElem?_cons_succ, List.set_cons_zero, List.set_cons_succ, List.length_cons, List.length_nil, List.replicate_succ, List.replicate_zero, m1, m2]
theorem do_x3 (hv : 0 ≤ v) : ∃ w, 0 ≤ w ∧ ex C x3 [s0, some (.int k), some (.int sort), some (.int rate), s4, some (.int lump), some (.int edge), some (.int v)] M = .ok (.nx [s0, some (.int k), some (.int sort), some (.int rate), s4, some (.int lump), some (.int edge), some (.int w)]) M := by
  have hm : blt .max [.int 0, .int (k - edge)] M = .ok (.int (if k - edge > 0 then k - edge else 0)) M := rfl
  by_cases h : sort = 2
  · refine ⟨if k - edge > 0 then k - edge else 0, by split <;> omega, ?_⟩
    simp only [x3, q_ok, q_bad, q_ofO, q_rt, q_nx, q_var, q_con, q_glo, q_tup, q_lst, q_op, q_neg, q_not, q_chain, q_and, q_or, q_ite, q_call, q_callk, q_blt, q_meth, q_sub, q_slice, q_no, q_yes, q_nil, q_cons, q_tt, q_val, q_bnot, q_band, q_bor, q_nm, q_tupT, q_subT, q_nilT, q_consT, q_asg, q_par, q_ex, q_ret, q_if, q_end, q_then, q_add, q_sub2, q_lt, q_le, q_gt, q_ge, q_eqI, q_neI, q_eqS, q_neS, q_trB, cfg_call, cfg_gl, parD, Option.map_some, List.map_cons, List.map_nil, List.cons_append, List.nil_append, List.getElem?_cons_zero, List.getElem?_cons_succ, List.set_cons_zero, List.set_cons_succ, List.length_cons, List.length_nil, List.replicate_succ, List.replicate_zero, h, decide_true, hm]
  · refine ⟨v, hv, ?_⟩
    simp only [x3, q_ok, q_bad, q_ofO, q_rt, q_nx, q_var, q_con, q_glo, q_tup, q_lst, q_op, q_neg, q_not, q_chain, q_and, q_or, q_ite, q_call, q_callk, q_blt, q_meth, q_sub, q_slice, q_no, q_yes, q_nil, q_cons, q_tt, q_val, q_bnot, q_band, q_bor, q_nm, q_tupT, q_subT, q_nilT, q_consT, q_asg, q_par, q_ex, q_ret, q_if, q_end, q_then, q_add, q_sub2, q_lt, q_le, q_gt, q_ge, q_eqI, q_neI, q_eqS, q_neS, q_trB, cfg_call, cfg_gl, parD, Option.map_some, List.map_cons, List.map_nil, List.cons_append, List.nil_append, List.getElem?_cons_zero, List.getElem?_cons_succ, List.set_cons_zero, List.set_cons_succ, List.length_cons, List.length_nil, List.replicate_succ, List.replicate_zero, h, decide_false]
theorem do_x4 (hk : 0 ≤ k ∧ k < 31) (hr : 0 ≤ rate ∧ rate ≤ 3) (hl : 0 ≤ lump) (hv : 0 ≤ v) : ∃ w, 0 ≤ w ∧ ex C x4 [s0, some (.int k), some (.int sort), some (.int rate), s4, some (.int lump), some (.int edge), some (.int v)] M = .ok (.nx [s0, some (.int k), some (.int sort), some (.int rate), s4, some (.int lump), some (.int edge), some (.int w)]) M := by
  have m1 : op2 .mul (.int k) (.int (3 + rate)) M = .ok (.int (k * (3 + rate))) M := mul_small (by omega)
  have m2 : op2 .fdiv (.int (k * (3 + rate))) (.int 4) M = .ok (.int (k * (3 + rate) / 4)) M := q_fdiv (by decide)
  by_cases h : sort = 3
  · refine ⟨k * (3 + rate) / 4 + lump, ?_, ?_⟩
    · have := Int.ediv_nonneg (a := k * (3 + rate)) (b := 4) (Int.mul_nonneg hk.1 (by omega)) (by decide)
      omega
    · simp only [x4, q_ok, q_bad, q_ofO, q_rt, q_nx, q_var, q_con, q_glo, q_tup, q_lst, q_op, q_neg, q_not, q_chain, q_and, q_or, q_ite, q_call, q_callk, q_blt, q_meth, q_sub, q_slice, q_no, q_yes, q_nil, q_cons, q_tt, q_val, q_bnot, q_band, q_bor, q_nm, q_tupT, q_subT, q_nilT, q_consT, q_asg, q_par, q_ex, q_ret, q_if, q_end, q_then, q_add, q_sub2, q_lt, q_le, q_gt, q_ge, q_eqI, q_neI, q_eqS, q_neS, q_trB, cfg_call, cfg_gl, parD, Option.map_some, List.map_cons, List.map_nil, List.cons_append, List.nil_append, List.getElem?_cons_zero, List.getElem?_cons_succ, List.set_cons_zero, List.set_cons_succ, List.length_cons, List.length_nil, List.replicate_succ, List.replicate_zero, h, decide_true, m1, m2]
  · refine ⟨v, hv, ?_⟩
    simp only [x4, q_ok, q_bad, q_ofO, q_rt, q_nx, q_var, q_con, q_glo, q_tup, q_lst, q_op, q_neg, q_not, q_chain, q_and, q_or, q_ite, q_call, q_callk, q_blt, q_meth, q_sub, q_slice, q_no, q_yes, q_nil, q_cons, q_tt, q_val, q_bnot, q_band, q_bor, q_nm, q_tupT, q_subT, q_nilT, q_consT, q_asg, q_par, q_ex, q_ret, q_if, q_end, q_then, q_add, q_sub2, q_lt, q_le, q_gt, q_ge, q_eqI, q_neI, q_eqS, q_neS, q_trB, cfg_call, cfg_gl, parD, Option.map_some, List.map_cons, List.map_nil, List.cons_append, List.nil_append, List.getElem?_cons_zero, List.getElem?_cons_succ, List.set_cons_zero, List.set_cons_succ, List.length_cons, List.length_nil, List.replicate_succ, List.replicate_zero, h, decide_false]
end
def TI (p : Nat) (M0 : Mem) (sort rate lump edge : Int) (j : Nat) (σ : Sl) (M : Mem) : Prop := ∃ (xs : List Int) (e kept : Option D), σ = [some (.loc p), e, some (.int sort), some (.int rate), some (.loc M0.length), some (.int lump), some (.int edge), kept] ∧ M[M0.length]? = some (.lst (xs.map D.int)) ∧ Keep p M0 M ∧ xs.length = j ∧ ∀ x ∈ xs, 0 ≤ x ∧ x ≤ 99
theorem tax_step {C : Cfg} {p : Nat} {M0 : Mem} {sort rate lump edge : Int} (hpl : p < M0.length) (hr : 1 ≤ rate ∧ rate ≤ 3) (hl : 0 ≤ lump) (he : 0 ≤ edge) {j : Nat} (hj : j < 31) {σ : Sl} {M : Mem} (h : TI p M0 sort rate lump edge j σ M) :
    ∃ σ' M', ((asg C (.nm 1) (.int (0 + (j : Int))) σ M).bind fun σ M => exs C (.cons x1 (.cons x2 (.cons x3 (.cons x4 (.cons x5 .nil))))) σ M) = R.ok (Fl.nx σ') M' ∧ TI p M0 sort rate lump edge (j + 1) σ' M' := by
  obtain ⟨xs, e, kept, rfl, hc, kp, hlen, hb⟩ := h
  have hlt := getElem?_len hc
  have m1 : op2 .mul (.int rate) (.int (0 + (j : Int))) M = .ok (.int (rate * (0 + (j : Int)))) M := mul_small (by omega)
  have h1 : ex C x1 [some (.loc p), some (.int (0 + (j : Int))), some (.int sort), some (.int rate), some (.loc M0.length), some (.int lump), some (.int edge), kept] M = .ok (.nx [some (.loc p), some (.int (0 + (j : Int))), some (.int sort), some (.int rate), some (.loc M0.length), some (.int lump), some (.int edge), some (.int (rate * (0 + (j : Int)) + lump))]) M := by
    simp only [x1, q_ok, q_bad, q_ofO, q_rt, q_nx, q_var, q_con, q_glo, q_tup, q_lst, q_op, q_neg, q_not, q_chain, q_and, q_or, q_ite, q_call, q_callk, q_blt, q_meth, q_sub, q_slice, q_no, q_yes, q_nil, q_cons, q_tt, q_val, q_bnot, q_band, q_bor, q_nm, q_tupT, q_subT, q_nilT, q_consT, q_asg, q_par, q_ex, q_ret, q_if, q_end, q_then, q_add, q_sub2, q_lt, q_le, q_gt, q_ge, q_eqI, q_neI, q_eqS, q_neS, q_trB, cfg_call, cfg_gl, parD, Option.map_some, List.map_cons, List.map_nil, List.cons_append, List.nil_append, List.getElem?_cons_zero, List.getElem?_cons_succ, List.set_cons_zero, List.set_cons_succ, List.length_cons, List.length_nil, List.replicate_succ, List.replicate_zero, m1]
  have v0 : 0 ≤ rate * (0 + (j : Int)) + lump := by
    have := Int.mul_nonneg (a := rate) (b := 0 + (j : Int)) (by omega) (by omega)
    omega
  obtain ⟨w2, hw2, h2⟩ := do_x2 (C := C) (M := M) (s0 := some (.loc p)) (s4 := some (.loc M0.length)) (k := 0 + (j : Int)) (sort := sort) (by omega) ⟨by omega, hr.2⟩ hl he v0
  obtain ⟨w3, hw3, h3⟩ := do_x3 (C := C) (M := M) (s0 := some (.loc p)) (s4 := some (.loc M0.length)) (k := 0 + (j : Int)) (sort := sort) (rate := rate) (lump := lump) (edge := edge) hw2
  obtain ⟨w4, hw4, h4⟩ := do_x4 (C := C) (M := M) (s0 := some (.loc p)) (s4 := some (.loc M0.length)) (k := 0 + (j : Int)) (sort := sort) (rate := rate) (edge := edge) ⟨by omega, by omega⟩ ⟨by omega, hr.2⟩ hl hw3
  have hmin : blt .min [.int 99, .int w4] M = .ok (.int (if w4 < 99 then w4 else 99)) M := rfl
  generalize hz : (if w4 < 99 then w4 else (99 : Int)) = z at hmin
  have hz1 : 0 ≤ z ∧ z ≤ 99 := by
    rw [← hz]
    split <;> omega
  have ha : mtd .append (.loc M0.length) [.int z] M = .ok .non (M.set M0.length (.lst ((xs ++ [z]).map D.int))) := by
    show (match mutAt M M0.length with | some xs => if xs.length < line then R.ok D.non (M.set M0.length (.lst (xs ++ [D.int z]))) else R.bad | none => R.bad) = _
    rw [mutAt_lst hc]
    dsimp only
    rw [if_pos (by rw [List.length_map, hlen]; unfold line; omega), List.map_append]
    rfl
  have h5 : ex C x5 [some (.loc p), some (.int (0 + (j : Int))), some (.int sort), some (.int rate), some (.loc M0.length), some (.int lump), some (.int edge), some (.int w4)] M = .ok (.nx [some (.loc p), some (.int (0 + (j : Int))), some (.int sort), some (.int rate), some (.loc M0.length), some (.int lump), some (.int edge), some (.int w4)]) (M.set M0.length (.lst ((xs ++ [z]).map D.int))) := by
    simp only [x5, q_ok, q_bad, q_ofO, q_rt, q_nx, q_var, q_con, q_glo, q_tup, q_lst, q_op, q_neg, q_not, q_chain, q_and, q_or, q_ite, q_call, q_callk, q_blt, q_meth, q_sub, q_slice, q_no, q_yes, q_nil, q_cons, q_tt, q_val, q_bnot, q_band, q_bor, q_nm, q_tupT, q_subT, q_nilT, q_consT, q_asg, q_par, q_ex, q_ret, q_if, q_end, q_then, q_add, q_sub2, q_lt, q_le, q_gt, q_ge, q_eqI, q_neI, q_eqS, q_neS, q_trB, cfg_call, cfg_gl, parD, Option.map_some, List.map_cons, List.map_nil, List.cons_append, List.nil_append, List.getElem?_cons_zero, List.getElem?_cons_succ, List.set_cons_zero, List.set_cons_succ, List.length_cons, List.length_nil, List.replicate_succ, List.replicate_zero, hmin, ha]
  refine ⟨[some (.loc p), some (.int (0 + (j : Int))), some (.int sort), some (.int rate), some (.loc M0.length), some (.int lump), some (.int edge), some (.int w4)], M.set M0.length (.lst ((xs ++ [z]).map D.int)), ?_, xs ++ [z], _, _, rfl, set_at hlt, kp.write (Nat.le_refl _) hpl, by simp [hlen], fun x hx => ?_⟩
  · rw [q_nm, q_ok, show [some (D.loc p), e, some (.int sort), some (.int rate), some (.loc M0.length), some (.int lump), some (.int edge), kept].set 1 (some (.int (0 + (j : Int)))) = [some (.loc p), some (.int (0 + (j : Int))), some (.int sort), some (.int rate), some (.loc M0.length), some (.int lump), some (.int edge), kept] from rfl, q_then, h1, q_ok]
    dsimp only
    rw [q_then, h2, q_ok]
    dsimp only
    rw [q_then, h3, q_ok]
    dsimp only
    rw [q_then, h4, q_ok]
    dsimp only
    rw [q_then, h5, q_ok]
    rfl
  · rcases List.mem_append.mp hx with hx | hx
    · exact hb x hx
    · rw [List.mem_singleton.mp hx]
      exact hz1
end Ev
namespace Ev
open PySem L2
theorem new_eq (xs : List D) (M : Mem) : new xs M = .ok (.loc M.length) (M ++ [.lst xs]) := rfl
theorem at_new (M : Mem) (X : Cell) : (M ++ [X])[M.length]? = some X := by
  rw [List.getElem?_append_right (Nat.le_refl _), Nat.sub_self]
  rfl
theorem tuple_loc {M : Mem} {l : Nat} {xs : List Int} (h : M[l]? = some (.lst (xs.map D.int))) : blt .tuple [.loc l] M = .ok (.tup (xs.map D.int)) M := by
  show R.ofO ((lstAt M l).map D.tup) M = _
  rw [lstAt_lst h]
  rfl
theorem sorted_loc {M : Mem} {l : Nat} {xs : List Int} (h : M[l]? = some (.lst (xs.map D.int))) : blt .sorted [.loc l] M = .ok (.loc M.length) (M ++ [.lst ((sortI xs).map D.int)]) := by
  show (match seqInts M (.loc l) with | some ns => new ((sortI ns).map D.int) M | none => sortL M (.loc l)) = _
  have e : seqInts M (.loc l) = some xs := by
    show (lstAt M l).bind intsOf = _
    rw [lstAt_lst h, Option.bind_some, intsOf_map]
  rw [e]
  rfl
def B99 (xs : List Int) : Prop := xs.length = 31 ∧ ∀ x ∈ xs, 0 ≤ x ∧ x ≤ 99
/-- where the list that is found stands -/
structure Fd0 (p : Nat) (M0 M : Mem) (l : Nat) (xs : List Int) : Prop where
  at_ : M[l]? = some (.lst (xs.map D.int))
  ge : M0.length ≤ l
  kp : Keep p M0 M
  ok : B99 xs
section
variable {T : List Fd} {G : List D} {wf n f i o p : Nat} {ft fo fd : Fd} {M0 M : Mem} {l : Nat} {xs : List Int}
theorem do_xc (hi : T[i]? = some ft) (ib : ft.body = bTake) (ip : ft.ps.length = 2) (iN : ft.N.length = 4) (hpl : p < M0.length) (h : Fd0 p M0 M l xs) {e : Option D} {sort : Int} {s3 s5 s6 s7 : Option D} :
    ∃ l' xs' M', ex (cfg T G wf (n + 2)) (xc i) [some (.loc p), e, some (.int sort), s3, some (.loc l), s5, s6, s7] M = .ok (.nx [some (.loc p), e, some (.int sort), s3, some (.loc l'), s5, s6, s7]) M' ∧ Fd0 p M0 M' l' xs' := by
  by_cases hs : sort = 4
  · subst hs
    have take := fun {M : Mem} (hp : Pool M p) => take_ok (T := T) (G := G) (wf := wf) (n := n + 1) (m := 100) hi ib ip iN hp (by omega)
    obtain ⟨vs, M7, e7, l7, q7, k7⟩ := lc_draw (C := cfg T G wf (n + 2)) (e := .call i (.cons (.var 0) (.cons (.con (.int 100)) .nil))) (t := .nm 1) (it := .rng (.cons (.con (.int 31)) .nil)) (own := [1]) (σ := [some (.loc p), e, some (.int 4), s3, some (.loc l), s5, s6, s7]) (M0 := M) (M := M) (lo := 0) (n := 31) (fun N => Keep p M0 N) (fun v => 0 ≤ v ∧ v ≤ 99) (rng_ok (ds := [.int 31]) rfl (rng1 (j := 31) (by omega))) h.kp (by decide) (fun d acc N hN ha => by
      obtain ⟨v, N', e1, k1, v0, v1⟩ := take hN.pool
      refine ⟨v, N', ?_, ⟨v0, by omega⟩, hN.trans k1⟩
      show ((callN T G wf (n + 2) i [.loc p, .int 100] N).bind fun y M => pushD acc y M) = _
      rw [e1]
      exact push_ok ha)
    have kk : Keep p M0 (M7 ++ [.lst (vs.map D.int)] ++ [.lst ((sortI vs).map D.int)]) := by
      rw [List.append_assoc]
      exact k7.trans (Keep.push k7.pool _)
    refine ⟨(M7 ++ [Cell.lst (vs.map D.int)]).length, sortI vs, M7 ++ [.lst (vs.map D.int)] ++ [.lst ((sortI vs).map D.int)], ?_, at_new _ _, by rw [List.length_append]; have := k7.len; omega, kk, by rw [sortI_len', l7], fun x hx => q7 x ((sortI_mem' vs x).mp hx)⟩
    simp only [xc, q_ok, q_bad, q_ofO, q_rt, q_nx, q_var, q_con, q_glo, q_tup, q_lst, q_op, q_neg, q_not, q_chain, q_and, q_or, q_ite, q_call, q_callk, q_blt, q_meth, q_sub, q_slice, q_no, q_yes, q_nil, q_cons, q_tt, q_val, q_bnot, q_band, q_bor, q_nm, q_tupT, q_subT, q_nilT, q_consT, q_asg, q_par, q_ex, q_ret, q_if, q_end, q_then, q_add, q_sub2, q_lt, q_le, q_gt, q_ge, q_eqI, q_neI, q_eqS, q_neS, q_trB, cfg_call, cfg_gl, parD, Option.map_some, List.map_cons, List.map_nil, List.cons_append, List.nil_append, List.getElem?_cons_zero, List.getElem?_cons_succ, List.set_cons_zero, List.set_cons_succ, List.length_cons, List.length_nil, List.replicate_succ, List.replicate_zero, decide_true, e7, sorted_loc (at_new M7 (.lst (vs.map D.int)))]
  · refine ⟨l, xs, M, ?_, h⟩
    simp only [xc, q_ok, q_bad, q_ofO, q_rt, q_nx, q_var, q_con, q_glo, q_tup, q_lst, q_op, q_neg, q_not, q_chain, q_and, q_or, q_ite, q_call, q_callk, q_blt, q_meth, q_sub, q_slice, q_no, q_yes, q_nil, q_cons, q_tt, q_val, q_bnot, q_band, q_bor, q_nm, q_tupT, q_subT, q_nilT, q_consT, q_asg, q_par, q_ex, q_ret, q_if, q_end, q_then, q_add, q_sub2, q_lt, q_le, q_gt, q_ge, q_eqI, q_neI, q_eqS, q_neS, q_trB, cfg_call, cfg_gl, parD, Option.map_some, List.map_cons, List.map_nil, List.cons_append, List.nil_append, List.getElem?_cons_zero, List.getElem?_cons_succ, List.set_cons_zero, List.set_cons_succ, List.length_cons, List.length_nil, List.replicate_succ, List.replicate_zero, hs, decide_false]
theorem do_xd (hi : T[i]? = some ft) (ib : ft.body = bTake) (ip : ft.ps.length = 2) (iN : ft.N.length = 4) (hpl : p < M0.length) (h : Fd0 p M0 M l xs) {s1 s2 s3 s5 s6 s7 : Option D} :
    ∃ xs' M', ex (cfg T G wf (n + 2)) (xd i) [some (.loc p), s1, s2, s3, some (.loc l), s5, s6, s7] M = .ok (.nx [some (.loc p), s1, s2, s3, some (.loc l), s5, s6, s7]) M' ∧ Fd0 p M0 M' l xs' := by
  have ne : l ≠ p := by have := h.ge; omega
  obtain ⟨d, M1, e1, k1, d0, d1⟩ := take_ok (T := T) (G := G) (wf := wf) (n := n + 1) (m := 3) hi ib ip iN h.kp.pool (by omega)
  have a1 : M1[l]? = some (.lst (xs.map D.int)) := by rw [k1.old l ne (getElem?_len h.at_), h.at_]
  by_cases hd : d = 0
  · obtain ⟨v, M2, e2, k2, v0, v1⟩ := take_ok (T := T) (G := G) (wf := wf) (n := n + 1) (m := 100) hi ib ip iN k1.pool (by omega)
    obtain ⟨j, M3, e3, k3, j0, j1⟩ := take_ok (T := T) (G := G) (wf := wf) (n := n + 1) (m := 31) hi ib ip iN k2.pool (by omega)
    have a2 : M2[l]? = some (.lst (xs.map D.int)) := by rw [k2.old l ne (getElem?_len a1), a1]
    have a3 : M3[l]? = some (.lst (xs.map D.int)) := by rw [k3.old l ne (getElem?_len a2), a2]
    obtain ⟨j, rfl⟩ := Int.eq_ofNat_of_zero_le j0
    have hset := set_loc (k := j) (v := .int v) a3 (by rw [List.length_map, h.ok.1]; omega)
    rw [← List.map_set] at hset
    have e3' : callN T G wf (n + 2) i [.loc p, .int 31] M2 = .ok (.int (j : Int)) M3 := e3
    refine ⟨xs.set j v, M3.set l (.lst ((xs.set j v).map D.int)), ?_, set_at (getElem?_len a3), h.ge, (((h.kp.trans k1).trans k2).trans k3).write h.ge hpl, by rw [List.length_set]; exact h.ok.1, fun x hx => ?_⟩
    · simp only [xd, q_ok, q_bad, q_ofO, q_rt, q_nx, q_var, q_con, q_glo, q_tup, q_lst, q_op, q_neg, q_not, q_chain, q_and, q_or, q_ite, q_call, q_callk, q_blt, q_meth, q_sub, q_slice, q_no, q_yes, q_nil, q_cons, q_tt, q_val, q_bnot, q_band, q_bor, q_nm, q_tupT, q_subT, q_nilT, q_consT, q_asg, q_par, q_ex, q_ret, q_if, q_end, q_then, q_add, q_sub2, q_lt, q_le, q_gt, q_ge, q_eqI, q_neI, q_eqS, q_neS, q_trB, cfg_call, cfg_gl, parD, Option.map_some, List.map_cons, List.map_nil, List.cons_append, List.nil_append, List.getElem?_cons_zero, List.getElem?_cons_succ, List.set_cons_zero, List.set_cons_succ, List.length_cons, List.length_nil, List.replicate_succ, List.replicate_zero, e1, hd, decide_true, e2, e3', hset]
    · rcases List.mem_or_eq_of_mem_set hx with hx | rfl
      · exact h.ok.2 x hx
      · omega
  · refine ⟨xs, M1, ?_, a1, h.ge, h.kp.trans k1, h.ok⟩
    simp only [xd, q_ok, q_bad, q_ofO, q_rt, q_nx, q_var, q_con, q_glo, q_tup, q_lst, q_op, q_neg, q_not, q_chain, q_and, q_or, q_ite, q_call, q_callk, q_blt, q_meth, q_sub, q_slice, q_no, q_yes, q_nil, q_cons, q_tt, q_val, q_bnot, q_band, q_bor, q_nm, q_tupT, q_subT, q_nilT, q_consT, q_asg, q_par, q_ex, q_ret, q_if, q_end, q_then, q_add, q_sub2, q_lt, q_le, q_gt, q_ge, q_eqI, q_neI, q_eqS, q_neS, q_trB, cfg_call, cfg_gl, parD, Option.map_some, List.map_cons, List.map_nil, List.cons_append, List.nil_append, List.getElem?_cons_zero, List.getElem?_cons_succ, List.set_cons_zero, List.set_cons_succ, List.length_cons, List.length_nil, List.replicate_succ, List.replicate_zero, e1, hd, decide_false]
/-- a drawn tax -/
theorem tax_ok (hf : T[f]? = some fd) (fb : fd.body = bTax i o) (fp : fd.ps.length = 1) (fN : fd.N.length = 8) (hi : T[i]? = some ft) (ib : ft.body = bTake) (ip : ft.ps.length = 2) (iN : ft.N.length = 4)
    (ho : T[o]? = some fo) (ob : fo.body = bOf i) (op : fo.ps.length = 2) (oN : fo.N.length = 2) (hp : Pool M p) : ∃ (xs : List Int) (M' : Mem), callN T G wf (n + 3) f [.loc p] M = .ok (.tup (xs.map D.int)) M' ∧ Keep p M M' ∧ B99 xs := by
  obtain ⟨sort, M1, e1, k1, _, _⟩ := take_ok (T := T) (G := G) (wf := wf) (n := n + 1) (m := 5) hi ib ip iN hp (by omega)
  obtain ⟨r, M2, e2, k2, r0, r1⟩ := take_ok (T := T) (G := G) (wf := wf) (n := n + 1) (m := 3) hi ib ip iN k1.pool (by omega)
  have hpl := k2.pool.lt
  have p3 : Pool (M2 ++ [.lst []]) p := (Keep.push k2.pool _).pool
  have p4 : Pool (M2 ++ [.lst []] ++ [.lst [.int 0, .int 0, .int 3, .int 9]]) p := (Keep.push p3 _).pool
  obtain ⟨y, M4, hy, e4, k4⟩ := of_ok (T := T) (G := G) (wf := wf) (n := n) (q := (M2 ++ [Cell.lst []]).length) (xs := [.int 0, .int 0, .int 3, .int 9]) ho ob op oN hi ib ip iN p4 (lstAt_new _ _) (by rw [List.length_append]; omega) (by simp)
  have hv : ∃ v : Int, y = .int v ∧ 0 ≤ v := by
    simp only [List.mem_cons, List.not_mem_nil, or_false] at hy
    rcases hy with rfl | rfl | rfl | rfl <;> exact ⟨_, rfl, by decide⟩
  obtain ⟨lump, rfl, hl⟩ := hv
  obtain ⟨edge, M5, e5, k5, g0, g1⟩ := take_ok (T := T) (G := G) (wf := wf) (n := n + 1) (m := 31) hi ib ip iN k4.pool (by omega)
  have a3 : (M2 ++ [Cell.lst []])[M2.length]? = some (.lst (([] : List Int).map D.int)) := at_new _ _
  have a4 : (M2 ++ [Cell.lst []] ++ [Cell.lst [.int 0, .int 0, .int 3, .int 9]])[M2.length]? = some (.lst (([] : List Int).map D.int)) := by
    rw [List.getElem?_append_left (getElem?_len a3), a3]
  have a5 : M4[M2.length]? = some (.lst (([] : List Int).map D.int)) := by rw [k4.old _ (by omega) (getElem?_len a4), a4]
  have a6 : M5[M2.length]? = some (.lst (([] : List Int).map D.int)) := by rw [k5.old _ (by omega) (getElem?_len a5), a5]
  have kk : Keep p M2 M5 := (((Keep.push k2.pool _).trans (Keep.push p3 _)).trans k4).trans k5
  have key : ∃ σ' M', ex (cfg T G wf (n + 2)) xLoop [some (.loc p), none, some (.int sort), some (.int (1 + r)), some (.loc M2.length), some (.int lump), some (.int edge), none] M5 = R.ok (Fl.nx σ') M' ∧ TI p M2 sort (1 + r) lump edge 31 σ' M' := by
    refine for_inv (src := .rng 0 31) (TI p M2 sort (1 + r) lump edge) (rng_ok (ds := [.int 31]) rfl (rng1 (j := 31) (by omega))) ⟨[], none, none, rfl, a6, kk, rfl, fun x hx => absurd hx List.not_mem_nil⟩ (fun j σ M hj hI => ?_) (fun _ _ _ => rng_done)
    exact ⟨_, rng_get hj, tax_step hpl ⟨by omega, by omega⟩ hl g0 hj hI⟩
  obtain ⟨σ', M6, e6, xs, e, kept, rfl, a7, k7, l7, b7⟩ := key
  obtain ⟨l8, xs8, M8, e8, f8⟩ := do_xc (T := T) (G := G) (wf := wf) (n := n) (e := e) (sort := sort) (s3 := some (.int (1 + r))) (s5 := some (.int lump)) (s6 := some (.int edge)) (s7 := kept) hi ib ip iN hpl (⟨a7, Nat.le_refl _, k7, l7, b7⟩ : Fd0 p M2 M6 M2.length xs)
  obtain ⟨xs9, M9, e9, f9⟩ := do_xd (T := T) (G := G) (wf := wf) (n := n) (s1 := e) (s2 := some (.int sort)) (s3 := some (.int (1 + r))) (s5 := some (.int lump)) (s6 := some (.int edge)) (s7 := kept) hi ib ip iN hpl f8
  refine ⟨xs9, M9, ?_, (k1.trans k2).trans f9.kp, f9.ok⟩
  have ha : ex (cfg T G wf (n + 2)) (xa i) [some (.loc p), none, none, none, none, none, none, none] M = .ok (.nx [some (.loc p), none, some (.int sort), some (.int (1 + r)), some (.loc M2.length), none, none, none]) (M2 ++ [.lst []]) := by
    simp only [xa, q_ok, q_bad, q_ofO, q_rt, q_nx, q_var, q_con, q_glo, q_tup, q_lst, q_op, q_neg, q_not, q_chain, q_and, q_or, q_ite, q_call, q_callk, q_blt, q_meth, q_sub, q_slice, q_no, q_yes, q_nil, q_cons, q_tt, q_val, q_bnot, q_band, q_bor, q_nm, q_tupT, q_subT, q_nilT, q_consT, q_asg, q_par, q_ex, q_ret, q_if, q_end, q_then, q_add, q_sub2, q_lt, q_le, q_gt, q_ge, q_eqI, q_neI, q_eqS, q_neS, q_trB, cfg_call, cfg_gl, parD, Option.map_some, List.map_cons, List.map_nil, List.cons_append, List.nil_append, List.getElem?_cons_zero, List.getElem?_cons_succ, List.set_cons_zero, List.set_cons_succ, List.length_cons, List.length_nil, List.replicate_succ, List.replicate_zero, e1, e2, new_eq]
  have hb : ex (cfg T G wf (n + 2)) (xb i o) [some (.loc p), none, some (.int sort), some (.int (1 + r)), some (.loc M2.length), none, none, none] (M2 ++ [.lst []]) = .ok (.nx [some (.loc p), none, some (.int sort), some (.int (1 + r)), some (.loc M2.length), some (.int lump), some (.int edge), none]) M5 := by
    simp only [xb, q_ok, q_bad, q_ofO, q_rt, q_nx, q_var, q_con, q_glo, q_tup, q_lst, q_op, q_neg, q_not, q_chain, q_and, q_or, q_ite, q_call, q_callk, q_blt, q_meth, q_sub, q_slice, q_no, q_yes, q_nil, q_cons, q_tt, q_val, q_bnot, q_band, q_bor, q_nm, q_tupT, q_subT, q_nilT, q_consT, q_asg, q_par, q_ex, q_ret, q_if, q_end, q_then, q_add, q_sub2, q_lt, q_le, q_gt, q_ge, q_eqI, q_neI, q_eqS, q_neS, q_trB, cfg_call, cfg_gl, parD, Option.map_some, List.map_cons, List.map_nil, List.cons_append, List.nil_append, List.getElem?_cons_zero, List.getElem?_cons_succ, List.set_cons_zero, List.set_cons_succ, List.length_cons, List.length_nil, List.replicate_succ, List.replicate_zero, new_eq, e4, e5]
  rw [call_eq hf (by rw [fp]; rfl), fb, fN]
  have hs : exs (cfg T G wf (n + 2)) (bTax i o) ([D.loc p].map some ++ List.replicate (8 - [D.loc p].length) none) M = .ok (.rt (.tup (xs9.map D.int))) M9 := by
    show exs (cfg T G wf (n + 2)) (bTax i o) [some (.loc p), none, none, none, none, none, none, none] M = _
    rw [bTax, q_then, ha, q_ok]
    dsimp only
    rw [q_then, hb, q_ok]
    dsimp only
    rw [q_then, e6, q_ok]
    dsimp only
    rw [q_then, e8, q_ok]
    dsimp only
    rw [q_then, e9, q_ok]
    dsimp only
    simp only [q_ok, q_bad, q_ofO, q_rt, q_nx, q_var, q_con, q_glo, q_tup, q_lst, q_op, q_neg, q_not, q_chain, q_and, q_or, q_ite, q_call, q_callk, q_blt, q_meth, q_sub, q_slice, q_no, q_yes, q_nil, q_cons, q_tt, q_val, q_bnot, q_band, q_bor, q_nm, q_tupT, q_subT, q_nilT, q_consT, q_asg, q_par, q_ex, q_ret, q_if, q_end, q_then, q_add, q_sub2, q_lt, q_le, q_gt, q_ge, q_eqI, q_neI, q_eqS, q_neS, q_trB, cfg_call, cfg_gl, parD, Option.map_some, List.map_cons, List.map_nil, List.cons_append, List.nil_append, List.getElem?_cons_zero, List.getElem?_cons_succ, List.set_cons_zero, List.set_cons_succ, List.length_cons, List.length_nil, List.replicate_succ, List.replicate_zero, tuple_loc f9.at_]
  rw [hs]
  rfl
end
end Ev
namespace Ev
open PySem L2
/-! ### falls, in plain Lean: which of two lists is as even as the other -/
def pos (y : Int) : Int := if y > 0 then y else 0
theorem pos_nn (y : Int) : 0 ≤ pos y := by unfold pos; split <;> omega
theorem pos_ge (y : Int) : y ≤ pos y := by unfold pos; split <;> omega
def fl (xs : List Int) : List Int := (sortI xs).reverse
def pre (s : List Int) (k : Nat) : Int := (s.take k).sum
def ms (xs : List Int) (t : Int) : Int := (xs.map fun x => pos (x - t)).sum
theorem sum_perm {a b : List Int} (h : a.Perm b) : a.sum = b.sum := by
  induction h with
  | nil => rfl
  | cons x _ ih => simp only [List.sum_cons, ih]
  | swap x y l => simp only [List.sum_cons]; omega
  | trans _ _ h1 h2 => rw [h1, h2]
theorem fl_perm (xs : List Int) : (fl xs).Perm xs := (List.reverse_perm _).trans (sortI_perm xs)
theorem fl_len (xs : List Int) : (fl xs).length = xs.length := (fl_perm xs).length_eq
theorem fl_sum (xs : List Int) : (fl xs).sum = xs.sum := sum_perm (fl_perm xs)
theorem fl_mem {xs : List Int} {x : Int} : x ∈ fl xs ↔ x ∈ xs := (fl_perm xs).mem_iff
theorem ms_perm {a b : List Int} (h : a.Perm b) (t : Int) : ms a t = ms b t := sum_perm (h.map _)
theorem ms_fl (xs : List Int) (t : Int) : ms (fl xs) t = ms xs t := ms_perm (fl_perm xs) t
theorem ms_append (a b : List Int) (t : Int) : ms (a ++ b) t = ms a t + ms b t := by
  unfold ms
  rw [List.map_append, List.sum_append]
theorem ms_nn (a : List Int) (t : Int) : 0 ≤ ms a t := by
  unfold ms
  induction a with
  | nil => exact Int.le_refl 0
  | cons x r ih =>
    rw [List.map_cons, List.sum_cons]
    have := pos_nn (x - t)
    omega
theorem ms_cons (x : Int) (r : List Int) (t : Int) : ms (x :: r) t = pos (x - t) + ms r t := rfl
theorem pre_zero (s : List Int) : pre s 0 = 0 := rfl
theorem pre_all {s : List Int} {k : Nat} (h : s.length ≤ k) : pre s k = s.sum := by
  unfold pre
  rw [List.take_of_length_le h]
theorem pre_succ (s : List Int) (k : Nat) : pre s (k + 1) = pre s k + s.getD k 0 := by
  unfold pre
  rw [List.take_add_one, List.sum_append, List.getD_eq_getElem?_getD]
  cases s[k]? with
  | none => rfl
  | some x => simp
/-- falling, with nothing below 0 -/
def Desc (s : List Int) : Prop := ∀ i j, i ≤ j → s.getD j 0 ≤ s.getD i 0
theorem getD_nn {s : List Int} (h : ∀ x ∈ s, 0 ≤ x) (k : Nat) : 0 ≤ s.getD k 0 := by
  rw [List.getD_eq_getElem?_getD]
  by_cases hk : k < s.length
  · rw [List.getElem?_eq_getElem hk]
    exact h _ (List.getElem_mem hk)
  · rw [List.getElem?_eq_none (by omega)]
    exact Int.le_refl 0
theorem desc_step {s : List Int} (h : ∀ k, s.getD (k + 1) 0 ≤ s.getD k 0) : Desc s := by
  intro i j hij
  induction j with
  | zero => rw [show i = 0 by omega]; exact Int.le_refl _
  | succ j ih =>
    by_cases e : i = j + 1
    · rw [e]; exact Int.le_refl _
    · exact Int.le_trans (h j) (ih (by omega))
theorem desc_fl {xs : List Int} (h : ∀ x ∈ xs, 0 ≤ x) : Desc (fl xs) := by
  have hp : (fl xs).Pairwise (· ≥ ·) := List.pairwise_reverse.mpr (sortI_sorted xs)
  refine desc_step fun k => ?_
  by_cases hk : k + 1 < (fl xs).length
  · have := List.pairwise_iff_getElem.mp hp k (k + 1) (by omega) hk (by omega)
    rw [List.getD_eq_getElem?_getD, List.getElem?_eq_getElem hk, List.getD_eq_getElem?_getD, List.getElem?_eq_getElem (show k < (fl xs).length by omega)]
    exact this
  · rw [List.getD_eq_getElem?_getD (i := k + 1), List.getElem?_eq_none (by omega)]
    exact getD_nn (fun x hx => h x (fl_mem.mp hx)) k
theorem pre_mono {s : List Int} (h : ∀ x ∈ s, 0 ≤ x) (k : Nat) : pre s k ≤ pre s (k + 1) := by
  rw [pre_succ]
  have := getD_nn h k
  omega
theorem pre_conc {s : List Int} (h : Desc s) (k : Nat) : pre s (k + 1 + 1) + pre s k ≤ 2 * pre s (k + 1) := by
  have e1 := pre_succ s (k + 1)
  have e2 := pre_succ s k
  have := h k (k + 1) (by omega)
  rw [e1]
  omega
/-- A: what the first j have above t -/
theorem msA (t : Int) : ∀ (s : List Int) (j : Nat), j ≤ s.length → pre s j - j * t ≤ ms s t
  | [], j, h => by
    have : j = 0 := by simpa using h
    subst this
    simp [pre, ms]
  | x :: r, 0, h => by
    have := ms_nn (x :: r) t
    simp only [pre_zero]
    omega
  | x :: r, j + 1, h => by
    have ih := msA t r j (by simpa using h)
    have e1 : pre (x :: r) (j + 1) = x + pre r j := by simp [pre]
    have := pos_ge (x - t)
    rw [e1, ms_cons, Int.natCast_add, Int.add_mul]
    omega
theorem ms_zero {r : List Int} {t : Int} (h : ∀ x ∈ r, x ≤ t) : ms r t = 0 := by
  induction r with
  | nil => rfl
  | cons x r ih =>
    rw [ms_cons, ih fun y hy => h y (List.mem_cons_of_mem _ hy)]
    have := h x List.mem_cons_self
    unfold pos
    split <;> omega
/-- B: at a turning point -/
theorem msB {t : Int} : ∀ (s : List Int) (j : Nat), j ≤ s.length → (∀ x ∈ s.take j, t ≤ x) → (∀ x ∈ s.drop j, x ≤ t) → ms s t = pre s j - j * t
  | s, 0, h, _, h2 => by
    rw [ms_zero (by simpa using h2), pre_zero]
    omega
  | [], j + 1, h, _, _ => by simp at h
  | x :: r, j + 1, h, h1, h2 => by
    have ih := msB r j (by simpa using h) (fun y hy => h1 y (by rw [List.take_succ_cons]; exact List.mem_cons_of_mem _ hy)) (fun y hy => h2 y (by rw [List.drop_succ_cons]; exact hy))
    have e1 : pre (x :: r) (j + 1) = x + pre r j := by simp [pre]
    have e2 : pos (x - t) = x - t := by
      have := h1 x (by rw [List.take_succ_cons]; exact List.mem_cons_self)
      unfold pos
      split <;> omega
    rw [e1, ms_cons, ih, e2, Int.natCast_add, Int.add_mul]
    omega
theorem mem_take_getD {s : List Int} {j : Nat} {x : Int} (h : x ∈ s.take j) : ∃ i, i < j ∧ s.getD i 0 = x := by
  obtain ⟨i, hi⟩ := List.mem_iff_getElem?.mp h
  rw [List.getElem?_take] at hi
  by_cases hj : i < j
  · rw [if_pos hj] at hi
    exact ⟨i, hj, by rw [List.getD_eq_getElem?_getD, hi] <;> rfl⟩
  · rw [if_neg hj] at hi
    cases hi
theorem mem_drop_getD {s : List Int} {j : Nat} {x : Int} (h : x ∈ s.drop j) : ∃ i, j ≤ i ∧ s.getD i 0 = x := by
  obtain ⟨i, hi⟩ := List.mem_iff_getElem?.mp h
  rw [List.getElem?_drop] at hi
  exact ⟨j + i, by omega, by rw [List.getD_eq_getElem?_getD, hi] <;> rfl⟩
/-- at the j-th item of a falling list -/
theorem msB' {s : List Int} (hs : Desc s) {j : Nat} (hj : j + 1 ≤ s.length) : ms s (s.getD j 0) = pre s (j + 1) - ((j + 1 : Nat) : Int) * s.getD j 0 := by
  refine msB s (j + 1) hj (fun x hx => ?_) (fun x hx => ?_)
  · obtain ⟨i, hi, e⟩ := mem_take_getD hx
    have := hs i j (by omega)
    omega
  · obtain ⟨i, hi, e⟩ := mem_drop_getD hx
    have := hs j i (by omega)
    omega
/-- each t has its turning point -/
theorem turning {s : List Int} (hs : Desc s) (t : Int) : ∃ j, j ≤ s.length ∧ ms s t = pre s j - j * t := by
  have key : ∀ n, n ≤ s.length → (∀ i, i < n → t ≤ s.getD i 0) → ∃ j, j ≤ s.length ∧ ms s t = pre s j - j * t := by
    intro n
    induction h : s.length - n generalizing n with
    | zero =>
      intro hn hp
      refine ⟨n, hn, msB s n hn (fun x hx => ?_) (fun x hx => ?_)⟩
      · obtain ⟨i, hi, e⟩ := mem_take_getD hx
        have := hp i hi
        omega
      · rw [List.drop_eq_nil_of_le (by omega)] at hx
        cases hx
    | succ m ih =>
      intro hn hp
      by_cases q : t ≤ s.getD n 0
      · exact ih (n + 1) (by omega) (by omega) fun i hi => by
          by_cases e : i = n
          · rw [e]; exact q
          · exact hp i (by omega)
      · refine ⟨n, hn, msB s n hn (fun x hx => ?_) (fun x hx => ?_)⟩
        · obtain ⟨i, hi, e⟩ := mem_take_getD hx
          have := hp i hi
          omega
        · obtain ⟨i, hi, e⟩ := mem_drop_getD hx
          have := hs n i hi
          omega
  exact key 0 (Nat.zero_le _) fun i hi => absurd hi (Nat.not_lt_zero _)
/-- a lies as even as b: by what is above each number -/
def Lo (a b : List Int) : Prop := ∀ t, ms a t ≤ ms b t
theorem Lo.refl (a : List Int) : Lo a a := fun _ => Int.le_refl _
theorem Lo.trans {a b c : List Int} (h : Lo a b) (k : Lo b c) : Lo a c := fun t => Int.le_trans (h t) (k t)
theorem Lo.app {a b : List Int} (h : Lo a b) (c : List Int) : Lo (a ++ c) (b ++ c) := fun t => by
  rw [ms_append, ms_append]
  have := h t
  omega
theorem Lo.appL {a b : List Int} (h : Lo a b) (c : List Int) : Lo (c ++ a) (c ++ b) := fun t => by
  rw [ms_append, ms_append]
  have := h t
  omega
/-- D: the greatest j have no less than the first j -/
theorem pre_fl {s : List Int} (hn : ∀ x ∈ s, 0 ≤ x) {j : Nat} (hj : j ≤ s.length) : pre s j ≤ pre (fl s) j := by
  cases j with
  | zero => exact Int.le_refl _
  | succ j =>
    have h1 := msA ((fl s).getD j 0) s (j + 1) hj
    rw [← ms_fl, msB' (desc_fl hn) (by rw [fl_len]; exact hj)] at h1
    omega
theorem lo_of {s b : List Int} (hs : Desc s) (hl : s.length = b.length) (h : ∀ j, j ≤ s.length → pre s j ≤ pre (fl b) j) : Lo s b := by
  intro t
  obtain ⟨j, hj, e⟩ := turning hs t
  have h1 := msA t (fl b) j (by rw [fl_len]; omega)
  rw [ms_fl] at h1
  have := h j hj
  omega
theorem lo_fl {a b : List Int} (hn : ∀ x ∈ a, 0 ≤ x) (hl : a.length = b.length) (h : ∀ j, j ≤ a.length → pre (fl a) j ≤ pre (fl b) j) : Lo a b := by
  intro t
  have := lo_of (desc_fl hn) (by rw [fl_len]; exact hl) (fun j hj => h j (by rw [fl_len] at hj; exact hj)) t
  rw [ms_fl] at this
  exact this
theorem fl_of_lo {a b : List Int} (hb : ∀ x ∈ b, 0 ≤ x) (hl : a.length = b.length) (h : Lo a b) {j : Nat} (hj : j ≤ a.length) : pre (fl a) j ≤ pre (fl b) j := by
  cases j with
  | zero => exact Int.le_refl _
  | succ j =>
    have h1 := msA ((fl b).getD j 0) (fl a) (j + 1) (by rw [fl_len]; exact hj)
    have h2 := msB' (desc_fl hb) (j := j) (by rw [fl_len]; omega)
    have h3 := h ((fl b).getD j 0)
    rw [ms_fl] at h1 h2
    omega
/-- the test, as a truth -/
def evn (a b : List Int) : Bool := (List.range (a.length + 1)).all fun k => decide (pre (fl a) k ≤ pre (fl b) k)
theorem evn_lo {a b : List Int} (ha : ∀ x ∈ a, 0 ≤ x) (hb : ∀ x ∈ b, 0 ≤ x) (hl : a.length = b.length) : evn a b = true ↔ Lo a b := by
  unfold evn
  rw [List.all_eq_true]
  constructor
  · exact fun h => lo_fl ha hl fun j hj => of_decide_eq_true (h j (List.mem_range.mpr (by omega)))
  · exact fun h k hk => decide_eq_true (fl_of_lo hb hl h (by have := List.mem_range.mp hk; omega))
/-! ### below both: by the lesser tops -/
def mn (a b : List Int) (k : Nat) : Int := min (pre (fl a) k) (pre (fl b) k)
def meetL (a b : List Int) : List Int := (List.range a.length).map fun k => mn a b (k + 1) - mn a b k
theorem meet_len (a b : List Int) : (meetL a b).length = a.length := by simp [meetL]
theorem pre_tele (f : Nat → Int) : ∀ (n k : Nat), k ≤ n → pre ((List.range n).map fun k => f (k + 1) - f k) k = f k - f 0
  | n, 0, h => by simp [pre]
  | n, k + 1, h => by
    rw [pre_succ, pre_tele f n k (by omega), List.getD_eq_getElem?_getD, List.getElem?_map, List.getElem?_range (by omega)]
    simp
    omega
theorem pre_meet (a b : List Int) {k : Nat} (h : k ≤ a.length) : pre (meetL a b) k = mn a b k := by
  rw [meetL, pre_tele (mn a b) _ _ h]
  have : mn a b 0 = 0 := by simp [mn, pre_zero]
  omega
section
variable {a b : List Int} (ha : ∀ x ∈ a, 0 ≤ x) (hb : ∀ x ∈ b, 0 ≤ x) (hl : a.length = b.length) (hs : a.sum = b.sum)
include ha hb hl hs
theorem meet_nn : ∀ x ∈ meetL a b, 0 ≤ x := by
  intro x hx
  obtain ⟨k, hk, rfl⟩ := List.mem_map.mp hx
  have h1 := pre_mono (s := fl a) (fun x hx => ha x (fl_mem.mp hx)) k
  have h2 := pre_mono (s := fl b) (fun x hx => hb x (fl_mem.mp hx)) k
  simp only [mn]
  omega
theorem meet_desc : Desc (meetL a b) := by
  have nn := meet_nn ha hb hl hs
  refine desc_step fun k => ?_
  by_cases hk : k + 1 < a.length
  · have e : ∀ i, i < a.length → (meetL a b).getD i 0 = mn a b (i + 1) - mn a b i := fun i hi => by
      rw [meetL, List.getD_eq_getElem?_getD, List.getElem?_map, List.getElem?_range hi]
      rfl
    rw [e _ hk, e k (by omega)]
    have h1 := pre_conc (desc_fl ha) k
    have h2 := pre_conc (desc_fl hb) k
    simp only [mn]
    omega
  · rw [List.getD_eq_getElem?_getD (i := k + 1), List.getElem?_eq_none (by rw [meet_len]; omega)]
    exact getD_nn nn k
theorem meet_sum : (meetL a b).sum = a.sum := by
  rw [← pre_all (Nat.le_refl _), meet_len, pre_meet a b (Nat.le_refl _), mn, pre_all (by rw [fl_len]; omega), pre_all (by rw [fl_len]; omega), fl_sum, fl_sum]
  omega
theorem meet_lo1 : Lo (meetL a b) a := lo_of (meet_desc ha hb hl hs) (meet_len a b) fun j hj => by
  rw [meet_len] at hj
  rw [pre_meet a b hj, mn]
  omega
theorem meet_lo2 : Lo (meetL a b) b := lo_of (meet_desc ha hb hl hs) ((meet_len a b).trans hl) fun j hj => by
  rw [meet_len] at hj
  rw [pre_meet a b hj, mn]
  omega
end
/-- no item above t -/
theorem ms_le_zero {r : List Int} {t : Int} (h : ms r t ≤ 0) : ∀ x ∈ r, x ≤ t := by
  induction r with
  | nil => intro x hx; cases hx
  | cons x r ih =>
    rw [ms_cons] at h
    have h1 := pos_nn (x - t)
    have h2 := ms_nn r t
    have h3 := pos_ge (x - t)
    intro y hy
    rcases List.mem_cons.mp hy with e | hy
    · omega
    · exact ih (by omega) y hy
theorem lo_top {a b : List Int} {t : Int} (h : Lo a b) (hb : ∀ x ∈ b, x ≤ t) : ∀ x ∈ a, x ≤ t := ms_le_zero (by
  have := h t
  rw [ms_zero hb] at this
  exact this)
/-! ### turned -/
def cnt (s : List Int) (t : Int) : Nat := (s.filter fun x => decide (t ≤ x)).length
def trn (s : List Int) (m : Nat) : List Int := (List.range m).map fun t : Nat => (cnt s ((1 : Int) + t) : Int)
theorem trn_len (s : List Int) (m : Nat) : (trn s m).length = m := by simp [trn]
theorem trn_nn (s : List Int) (m : Nat) : ∀ x ∈ trn s m, 0 ≤ x := by
  intro x hx
  obtain ⟨t, _, rfl⟩ := List.mem_map.mp hx
  omega
theorem trn_le (s : List Int) (m : Nat) : ∀ x ∈ trn s m, x ≤ s.length := by
  intro x hx
  obtain ⟨t, _, rfl⟩ := List.mem_map.mp hx
  have : cnt s (1 + t) ≤ s.length := List.length_filter_le _ _
  omega
theorem cnt_cons (x : Int) (r : List Int) (t : Int) : (cnt (x :: r) t : Int) = (if t ≤ x then 1 else 0) + cnt r t := by
  unfold cnt
  rw [List.filter_cons]
  by_cases h : t ≤ x
  · rw [if_pos (decide_eq_true h), if_pos h, List.length_cons]
    omega
  · rw [if_neg (by rw [decide_eq_false h]; decide), if_neg h]
    omega
theorem trn_cons (x : Int) (r : List Int) : ∀ m, (trn (x :: r) m).sum = ((List.range m).map fun t : Nat => if (1 : Int) + t ≤ x then (1 : Int) else 0).sum + (trn r m).sum := by
  intro m
  induction m with
  | zero => rfl
  | succ m ih =>
    unfold trn at ih ⊢
    rw [List.range_succ, List.map_append, List.sum_append, List.map_append, List.sum_append, List.map_append, List.sum_append, ih]
    simp only [List.map_cons, List.map_nil, List.sum_cons, List.sum_nil, cnt_cons]
    omega
theorem ones_sum (x : Int) (h0 : 0 ≤ x) : ∀ m : Nat, ((List.range m).map fun t : Nat => if (1 : Int) + t ≤ x then (1 : Int) else 0).sum = min x m
  | 0 => by simp; omega
  | m + 1 => by
    rw [List.range_succ, List.map_append, List.sum_append, ones_sum x h0 m]
    simp only [List.map_cons, List.map_nil, List.sum_cons, List.sum_nil]
    split <;> omega
/-- the first k of the turned list -/
theorem trn_sum {s : List Int} (h : ∀ x ∈ s, 0 ≤ x) (k : Nat) : (trn s k).sum = (s.map fun x => min x (k : Int)).sum := by
  induction s with
  | nil =>
    unfold trn
    have : ((List.range k).map fun t : Nat => (cnt [] (1 + (t : Int)) : Int)) = (List.range k).map fun _ => (0 : Int) := rfl
    rw [this]
    clear this
    induction k with
    | zero => rfl
    | succ k ih =>
      rw [List.range_succ, List.map_append, List.sum_append, ih]
      rfl
  | cons x r ih =>
    rw [trn_cons, ones_sum x (h x List.mem_cons_self), ih fun y hy => h y (List.mem_cons_of_mem _ hy), List.map_cons, List.sum_cons]
theorem trn_pre (s : List Int) {n k : Nat} (h : k ≤ n) : pre (trn s n) k = (trn s k).sum := by
  unfold pre trn
  rw [← List.map_take, List.take_range, Nat.min_eq_left h]
theorem min_ms (s : List Int) (k : Int) : (s.map fun x => min x k).sum = s.sum - ms s k := by
  induction s with
  | nil => rfl
  | cons x r ih =>
    rw [List.map_cons, List.sum_cons, ih, List.sum_cons, ms_cons]
    unfold pos
    split <;> omega
theorem cnt_take {t : Int} (h0 : 0 < t) : ∀ {s : List Int} (k : Nat), Desc s → (cnt (s.take k) t : Int) = min (cnt s t : Int) (k : Int)
  | [], k, h => by simp [cnt]; omega
  | x :: r, 0, h => by simp [cnt]; omega
  | x :: r, k + 1, h => by
    have hr : Desc r := fun i j hij => by
      have := h (i + 1) (j + 1) (by omega)
      simpa using this
    rw [List.take_succ_cons, cnt_cons, cnt_cons, cnt_take h0 k hr]
    by_cases hx : t ≤ x
    · rw [if_pos hx]
      omega
    · rw [if_neg hx]
      have z : cnt r t = 0 := by
        unfold cnt
        rw [List.length_eq_zero_iff, List.filter_eq_nil_iff]
        intro y hy
        obtain ⟨i, hi⟩ := List.mem_iff_getElem?.mp hy
        have := h 0 (i + 1) (by omega)
        simp [List.getD_eq_getElem?_getD, hi] at this
        simp
        omega
      rw [z]
      omega
theorem le_sum_top {l : List Int} {m : Nat} (h : ∀ x ∈ l, 0 ≤ x ∧ x ≤ m) : (trn l m).sum = l.sum := by
  rw [trn_sum (fun x hx => (h x hx).1)]
  congr 1
  conv => rhs; rw [← List.map_id l]
  refine List.map_congr_left fun x hx => ?_
  have := (h x hx).2
  simp only [id]
  omega
/-- the first k of a falling list, by its turned one -/
theorem pre_trn {s : List Int} {m : Nat} (hs : Desc s) (h : ∀ x ∈ s, 0 ≤ x ∧ x ≤ m) (k : Nat) : pre s k = ((trn s m).map fun c => min c (k : Int)).sum := by
  have h1 : (trn (s.take k) m).sum = (s.take k).sum := le_sum_top fun x hx => h x (List.mem_of_mem_take hx)
  unfold pre
  rw [← h1]
  congr 1
  unfold trn
  rw [List.map_map]
  refine List.map_congr_left fun t _ => ?_
  simp only [Function.comp]
  rw [cnt_take (by omega) k hs]
/-! ### above both -/
def joinW (a b : List Int) (m : Nat) : List Int := meetL (trn (fl a) m) (trn (fl b) m)
def joinM (a b : List Int) (m : Nat) : List Int := trn (joinW a b m) a.length
section
variable {a b : List Int} {m : Nat} (ha : ∀ x ∈ a, 0 ≤ x ∧ x ≤ m) (hb : ∀ x ∈ b, 0 ≤ x ∧ x ≤ m) (hl : a.length = b.length) (hs : a.sum = b.sum)
include ha hb hl hs
theorem c_sum : (trn (fl a) m).sum = a.sum ∧ (trn (fl b) m).sum = a.sum := by
  refine ⟨?_, ?_⟩
  · rw [le_sum_top fun x hx => ha x (fl_mem.mp hx), fl_sum]
  · rw [le_sum_top fun x hx => hb x (fl_mem.mp hx), fl_sum, hs]
theorem w_facts : (∀ x ∈ joinW a b m, 0 ≤ x) ∧ (joinW a b m).sum = a.sum ∧ Lo (joinW a b m) (trn (fl a) m) ∧ Lo (joinW a b m) (trn (fl b) m) ∧ (joinW a b m).length = m := by
  obtain ⟨e1, e2⟩ := c_sum ha hb hl hs
  have n1 := trn_nn (fl a) m
  have n2 := trn_nn (fl b) m
  have l1 : (trn (fl a) m).length = (trn (fl b) m).length := by rw [trn_len, trn_len]
  have s1 : (trn (fl a) m).sum = (trn (fl b) m).sum := by rw [e1, e2]
  exact ⟨meet_nn n1 n2 l1 s1, by rw [joinW, meet_sum n1 n2 l1 s1, e1], meet_lo1 n1 n2 l1 s1, meet_lo2 n1 n2 l1 s1, by rw [joinW, meet_len, trn_len]⟩
theorem join_len : (joinM a b m).length = a.length := trn_len _ _
theorem join_nn : ∀ x ∈ joinM a b m, 0 ≤ x ∧ x ≤ m := fun x hx => by
  have h1 := trn_nn _ _ x hx
  have h2 := trn_le _ _ x hx
  rw [(w_facts ha hb hl hs).2.2.2.2] at h2
  exact ⟨h1, h2⟩
theorem join_pre {k : Nat} (hk : k ≤ a.length) : pre (joinM a b m) k = a.sum - ms (joinW a b m) k := by
  obtain ⟨w1, w2, w3, w4, w5⟩ := w_facts ha hb hl hs
  rw [joinM, trn_pre _ hk, trn_sum w1, min_ms, w2]
theorem join_sum : (joinM a b m).sum = a.sum := by
  obtain ⟨w1, w2, w3, w4, w5⟩ := w_facts ha hb hl hs
  rw [← pre_all (Nat.le_refl _), join_len ha hb hl hs, join_pre ha hb hl hs (Nat.le_refl _)]
  have h1 := w3 (a.length : Int)
  rw [ms_zero (r := trn (fl a) m) (fun x hx => by have := trn_le _ _ x hx; rw [fl_len] at this; exact this)] at h1
  have := ms_nn (joinW a b m) (a.length : Int)
  omega
theorem join_lo1 : Lo a (joinM a b m) := by
  obtain ⟨w1, w2, w3, w4, w5⟩ := w_facts ha hb hl hs
  obtain ⟨e1, e2⟩ := c_sum ha hb hl hs
  have jn := join_nn ha hb hl hs
  refine lo_fl (fun x hx => (ha x hx).1) (join_len ha hb hl hs).symm fun j hj => ?_
  refine Int.le_trans ?_ (pre_fl (fun x hx => (jn x hx).1) (by rw [join_len ha hb hl hs]; exact hj))
  rw [join_pre ha hb hl hs hj, pre_trn (desc_fl fun x hx => (ha x hx).1) (fun x hx => ha x (fl_mem.mp hx)) j, min_ms, e1]
  have := w3 (j : Int)
  omega
theorem join_lo2 : Lo b (joinM a b m) := by
  obtain ⟨w1, w2, w3, w4, w5⟩ := w_facts ha hb hl hs
  obtain ⟨e1, e2⟩ := c_sum ha hb hl hs
  have jn := join_nn ha hb hl hs
  refine lo_fl (fun x hx => (hb x hx).1) (hl.symm.trans (join_len ha hb hl hs).symm) fun j hj => ?_
  refine Int.le_trans ?_ (pre_fl (fun x hx => (jn x hx).1) (by rw [join_len ha hb hl hs]; omega))
  rw [join_pre ha hb hl hs (by omega), pre_trn (desc_fl fun x hx => (hb x hx).1) (fun x hx => hb x (fl_mem.mp hx)) j, min_ms, e2]
  have := w4 (j : Int)
  omega
end
end Ev
namespace Ev
open PySem L2
/-! ### what a piece comes to, step by step -/
def W {α : Type} (r : R α) (Q : α → Mem → Prop) : Prop := ∃ v M', r = .ok v M' ∧ Q v M'
theorem W.bind {α β : Type} {r : R α} {f : α → Mem → R β} {P : α → Mem → Prop} {Q : β → Mem → Prop} (h : W r P) (g : ∀ v M', P v M' → W (f v M') Q) : W (r.bind f) Q := by
  obtain ⟨v, M', e, p⟩ := h
  rw [e]
  exact g v M' p
theorem W.ok {α : Type} {v : α} {M : Mem} {Q : α → Mem → Prop} (h : Q v M) : W (.ok v M) Q := ⟨v, M, rfl, h⟩
theorem W.mono {α : Type} {r : R α} {P Q : α → Mem → Prop} (h : W r P) (g : ∀ v M', P v M' → Q v M') : W r Q := by
  obtain ⟨v, M', e, p⟩ := h
  exact ⟨v, M', e, g v M' p⟩
theorem W.eq {α : Type} {r r' : R α} {Q : α → Mem → Prop} (h : W r Q) (e : r' = r) : W r' Q := by rw [e]; exact h
theorem W.call {T : List Fd} {gl : List D} {wf n f : Nat} {fd : Fd} {ds : List D} {M : Mem} {Q : D → Mem → Prop} (h : T[f]? = some fd) (hl : ds.length = fd.ps.length)
    (w : W ((exs (cfg T gl wf n) fd.body (ds.map some ++ List.replicate (fd.N.length - ds.length) none) M).bind fin) Q) : W (callN T gl wf (n + 1) f ds M) Q := w.eq (call_eq h hl)
theorem Keep.cell {p l : Nat} {M M' : Mem} {c : Cell} (k : Keep p M M') (h : M[l]? = some c) (n : l ≠ p) : M'[l]? = some c := (k.old l n (getElem?_len h)).trans h
theorem Keep.pushed {p : Nat} {M M' : Mem} (k : Keep p M M') (Z : Mem) : Keep p M (M' ++ Z) := k.trans (Keep.push k.pool Z)
theorem Keep.poolM {p : Nat} {M M' : Mem} (k : Keep p M M') (h : Pool M p) : p < M.length := h.lt
theorem new_at {M : Mem} {xs : List D} : (M ++ [Cell.lst xs])[M.length]? = some (.lst xs) := by
  rw [List.getElem?_append_right (Nat.le_refl _), Nat.sub_self] <;> rfl
theorem fresh_ne {p : Nat} {M : Mem} (h : Pool M p) : M.length ≠ p := fun e => absurd h.lt (by omega)
/-- what a walk yields, whatever memory stands (of J) -/
structure Walks {α : Type} (src : Src) (ps : List α) (fm : α → D) (J : Mem → Prop) : Prop where
  len : src.len = ps.length
  get : ∀ M, J M → ∀ i a, ps[i]? = some a → src.get i M = some (fm a)
  done : ∀ M, J M → src.done ps.length M = true
theorem walks_tup {α : Type} {ps : List α} {fm : α → D} {J : Mem → Prop} : Walks (.tup (ps.map fm)) ps fm J :=
  ⟨by simp [Src.len], fun M _ i a h => by simp [Src.get, h], fun M _ => by simp [Src.done]⟩
theorem walks_rng {lo : Int} {n : Nat} {J : Mem → Prop} : Walks (.rng lo n) (List.range n) (fun k : Nat => .int (lo + k)) J :=
  ⟨by simp [Src.len], fun M _ i a h => by
    obtain ⟨hi, e⟩ := List.getElem?_eq_some_iff.mp h
    rw [List.length_range] at hi
    rw [List.getElem_range] at e
    subst e
    exact rng_get hi, fun M _ => by rw [List.length_range]; exact rng_done⟩
theorem walks_lst {α : Type} {l : Nat} {ps : List α} {fm : α → D} {J : Mem → Prop} (h : ∀ M, J M → M[l]? = some (.lst (ps.map fm))) : Walks (.lst l ps.length) ps fm J :=
  ⟨rfl, fun M j i a e => by
    show ((lstAt M l).bind fun xs => xs[i]?) = _
    rw [lstAt_lst (h M j), Option.bind_some, List.getElem?_map, e] <;> rfl, fun M j => by
    show (match lstAt M l with | some xs => decide (xs.length ≤ ps.length) | none => false) = true
    rw [lstAt_lst (h M j)]
    simp⟩
theorem walks_zip {α β : Type} {s1 s2 : Src} {ps : List α} {qs : List β} {f : α → D} {g : β → D} {J : Mem → Prop} (h1 : Walks s1 ps f J) (h2 : Walks s2 qs g J) (hl : ps.length = qs.length) :
    Walks (.zip s1 s2) (ps.zip qs) (fun x => .tup [f x.1, g x.2]) J :=
  ⟨by show min s1.len s2.len = _; rw [h1.len, h2.len, List.length_zip], fun M j i a e => by
    obtain ⟨e1, e2⟩ := List.getElem?_zip_eq_some.mp e
    show (match s1.get i M, s2.get i M with | some x, some y => some (D.tup [x, y]) | _, _ => none) = _
    rw [h1.get M j i _ e1, h2.get M j i _ e2], fun M j => by
    show (s1.done _ M || ((s1.get _ M).isSome && s2.done _ M)) = true
    have e : (ps.zip qs).length = ps.length := by rw [List.length_zip, hl, Nat.min_self]
    rw [e, h1.done M j] <;> rfl⟩
/-- the second is shorter by one -/
theorem walks_zip1 {α β : Type} {s1 s2 : Src} {ps : List α} {qs : List β} {f : α → D} {g : β → D} {J : Mem → Prop} (h1 : Walks s1 ps f J) (h2 : Walks s2 qs g J) (hl : qs.length ≤ ps.length) :
    Walks (.zip s1 s2) (ps.zip qs) (fun x => .tup [f x.1, g x.2]) J :=
  ⟨by show min s1.len s2.len = _; rw [h1.len, h2.len, List.length_zip], fun M j i a e => by
    obtain ⟨e1, e2⟩ := List.getElem?_zip_eq_some.mp e
    show (match s1.get i M, s2.get i M with | some x, some y => some (D.tup [x, y]) | _, _ => none) = _
    rw [h1.get M j i _ e1, h2.get M j i _ e2], fun M j => by
    show (s1.done _ M || ((s1.get _ M).isSome && s2.done _ M)) = true
    have e : (ps.zip qs).length = qs.length := by rw [List.length_zip, Nat.min_eq_right hl]
    rw [e, h2.done M j]
    by_cases q : qs.length = ps.length
    · rw [q, h1.done M j] <;> rfl
    · have hlt : qs.length < ps.length := by omega
      rw [h1.get M j qs.length _ (List.getElem?_eq_getElem hlt)]
      simp⟩
theorem walks_enum {α : Type} {s : Src} {ps : List α} {f : α → D} {J : Mem → Prop} (h : Walks s ps f J) : Walks (.enum s) ps.zipIdx (fun x => .tup [.int (x.2 : Nat), f x.1]) J :=
  ⟨by show s.len = _; rw [h.len, List.length_zipIdx], fun M j i a e => by
    show (s.get i M).map (fun x => D.tup [.int i, x]) = _
    rw [List.getElem?_zipIdx] at e
    cases q : ps[i]? with
    | none => rw [q] at e; cases e
    | some b =>
      rw [q] at e
      cases e
      rw [h.get M j i _ q, Nat.zero_add] <;> rfl, fun M j => by
    show s.done _ M = true
    rw [List.length_zipIdx]
    exact h.done M j⟩
theorem q_for {C : Cfg} {t : T} {it : I} {b : Ss} {σ : Sl} {M : Mem} : ex C (.for_ t it b) σ M = (evI C it σ M).bind fun src M => goF src (fun d σ M => (asg C t d σ M).bind fun σ M => exs C b σ M) src.len 0 σ M := rfl
theorem q_comp {C : Cfg} {e : E} {t : T} {it : I} {c : Cd} {own : List Nat} {σ : Sl} {M : Mem} : ev C (.comp e t it c own) σ M = (evI C it σ M).bind fun src M => (goD src (stepD C e t c own σ) src.len 0 [] M).bind fun acc M => new acc M := rfl
theorem q_enum {C : Cfg} {a : I} {σ : Sl} {M : Mem} : evI C (.enum a) σ M = (evI C a σ M).bind fun x M => .ofO (enumSrc x) M := rfl
/-- a loop that may return -/
theorem W_find0 {α : Type} {C : Cfg} {t : T} {b : Ss} {σ : Sl} {M : Mem} {src : Src} {ps : List α} {fm : α → D} {J : Mem → Prop} (out : α → Option D) (Inv : Nat → Sl → Mem → Prop) (E : Mem → Prop)
    (wk : Walks src ps fm J) (h0 : Inv 0 σ M) (hJ : ∀ i σ M, Inv i σ M → J M)
    (step : ∀ M i a σ, ps[i]? = some a → Inv i σ M → W ((asg C t (fm a) σ M).bind fun σ M => exs C b σ M) fun fl M' => (∀ d, out a = some d → fl = .rt d ∧ E M') ∧ (out a = none → ∃ σ', (fl = .nx σ' ∨ fl = .ct σ') ∧ Inv (i + 1) σ' M')) :
    W (goF src (fun d σ M => (asg C t d σ M).bind fun σ M => exs C b σ M) src.len 0 σ M) fun fl M' => (∀ d, ps.findSome? out = some d → fl = .rt d ∧ E M') ∧ (ps.findSome? out = none → ∃ σ', fl = .nx σ' ∧ Inv ps.length σ' M') := by
  rw [wk.len]
  have gen : ∀ (k i : Nat) (σ : Sl) (M : Mem), i + k = ps.length → Inv i σ M →
      W (goF src (fun d σ M => (asg C t d σ M).bind fun σ M => exs C b σ M) k i σ M) fun fl M' => (∀ d, (ps.drop i).findSome? out = some d → fl = .rt d ∧ E M') ∧ ((ps.drop i).findSome? out = none → ∃ σ', fl = .nx σ' ∧ Inv ps.length σ' M') := by
    intro k
    induction k with
    | zero =>
      intro i σ M hk hI
      have hi : i = ps.length := by omega
      subst hi
      rw [List.drop_length]
      refine ⟨.nx σ, M, ?_, fun d h => (by cases h), fun _ => ⟨σ, rfl, hI⟩⟩
      show (if src.done ps.length M = true then R.ok (Fl.nx σ) M else R.bad) = _
      rw [if_pos (wk.done M (hJ _ _ _ hI))]
    | succ k ih =>
      intro i σ M hk hI
      have hlt : i < ps.length := by omega
      have eg := wk.get M (hJ _ _ _ hI) i _ (List.getElem?_eq_getElem hlt)
      show W (match src.get i M with
          | some d => (((asg C t d σ M).bind fun σ M => exs C b σ M).bind fun fl M => match fl with
            | .nx σ => goF src (fun d σ M => (asg C t d σ M).bind fun σ M => exs C b σ M) k (i + 1) σ M
            | .ct σ => goF src (fun d σ M => (asg C t d σ M).bind fun σ M => exs C b σ M) k (i + 1) σ M
            | .bk σ => .ok (.nx σ) M
            | .rt d => .ok (.rt d) M)
          | none => R.bad) _
      rw [eg]
      refine (step M i _ σ (List.getElem?_eq_getElem hlt) hI).bind fun fl M' ⟨q1, q2⟩ => ?_
      rw [List.drop_eq_getElem_cons hlt, List.findSome?_cons]
      cases ho : out ps[i] with
      | some d =>
        obtain ⟨rfl, e⟩ := q1 d ho
        exact W.ok ⟨fun d' h => (by cases h; exact ⟨rfl, e⟩), fun h => (by cases h)⟩
      | none =>
        obtain ⟨σ', hf, hI'⟩ := q2 ho
        rcases hf with rfl | rfl
        · exact ih (i + 1) σ' M' (by omega) hI'
        · exact ih (i + 1) σ' M' (by omega) hI'
  have := gen ps.length 0 σ M (by omega) h0
  rwa [List.drop_zero] at this
theorem W_find {α : Type} {C : Cfg} {t : T} {it : I} {b : Ss} {σ : Sl} {M0 : Mem} {ps : List α} {fm : α → D} {J : Mem → Prop} (out : α → Option D) (Inv : Nat → Sl → Mem → Prop) (E : Mem → Prop)
    (hi : W (evI C it σ M0) fun src M => Walks src ps fm J ∧ Inv 0 σ M) (hJ : ∀ i σ M, Inv i σ M → J M)
    (step : ∀ M i a σ, ps[i]? = some a → Inv i σ M → W ((asg C t (fm a) σ M).bind fun σ M => exs C b σ M) fun fl M' => (∀ d, out a = some d → fl = .rt d ∧ E M') ∧ (out a = none → ∃ σ', (fl = .nx σ' ∨ fl = .ct σ') ∧ Inv (i + 1) σ' M')) :
    W (ex C (.for_ t it b) σ M0) fun fl M' => (∀ d, ps.findSome? out = some d → fl = .rt d ∧ E M') ∧ (ps.findSome? out = none → ∃ σ', fl = .nx σ' ∧ Inv ps.length σ' M') :=
  hi.bind fun _ _ h => W_find0 out Inv E h.1 h.2 hJ step
theorem find_none {α : Type} : ∀ ps : List α, ps.findSome? (fun _ => (none : Option D)) = none
  | [] => rfl
  | x :: r => find_none r
theorem W_for0 {α : Type} {C : Cfg} {t : T} {b : Ss} {σ : Sl} {M : Mem} {src : Src} {ps : List α} {fm : α → D} {J : Mem → Prop} (Inv : Nat → Sl → Mem → Prop)
    (wk : Walks src ps fm J) (h0 : Inv 0 σ M) (hJ : ∀ i σ M, Inv i σ M → J M)
    (step : ∀ M i a σ, ps[i]? = some a → Inv i σ M → W ((asg C t (fm a) σ M).bind fun σ M => exs C b σ M) fun fl M' => ∃ σ', (fl = .nx σ' ∨ fl = .ct σ') ∧ Inv (i + 1) σ' M') :
    W (goF src (fun d σ M => (asg C t d σ M).bind fun σ M => exs C b σ M) src.len 0 σ M) fun fl M' => ∃ σ', fl = .nx σ' ∧ Inv ps.length σ' M' :=
  (W_find0 (fun _ => none) Inv (fun _ => True) wk h0 hJ fun M i a σ h hI => (step M i a σ h hI).mono fun fl M' q => ⟨fun d h => (by cases h), fun _ => q⟩).mono fun fl M' q => q.2 (find_none ps)
theorem W_for {α : Type} {C : Cfg} {t : T} {it : I} {b : Ss} {σ : Sl} {M0 : Mem} {ps : List α} {fm : α → D} {J : Mem → Prop} (Inv : Nat → Sl → Mem → Prop)
    (hi : W (evI C it σ M0) fun src M => Walks src ps fm J ∧ Inv 0 σ M) (hJ : ∀ i σ M, Inv i σ M → J M)
    (step : ∀ M i a σ, ps[i]? = some a → Inv i σ M → W ((asg C t (fm a) σ M).bind fun σ M => exs C b σ M) fun fl M' => ∃ σ', (fl = .nx σ' ∨ fl = .ct σ') ∧ Inv (i + 1) σ' M') :
    W (ex C (.for_ t it b) σ M0) fun fl M' => ∃ σ', fl = .nx σ' ∧ Inv ps.length σ' M' :=
  (W_find (fun _ => none) Inv (fun _ => True) hi hJ fun M i a σ h hI => (step M i a σ h hI).mono fun fl M' q => ⟨fun d h => (by cases h), fun _ => q⟩).mono fun fl M' q => q.2 (find_none ps)
/-- a comprehension -/
theorem W_comp0 {α : Type} {C : Cfg} {e : E} {t : T} {c : Cd} {own : List Nat} {σ : Sl} {M : Mem} {src : Src} {ps : List α} {fm : α → D} {J : Mem → Prop} (Inv : Nat → List D → Prop)
    (wk : Walks src ps fm J) (hj : J M) (h0 : Inv 0 []) (hn : ps.length ≤ line) (hlen : ∀ i acc, Inv i acc → acc.length ≤ i)
    (step : ∀ M i a acc, ps[i]? = some a → J M → Inv i acc → acc.length < line → W (stepD C e t c own σ (fm a) acc M) fun acc' M' => J M' ∧ Inv (i + 1) acc') :
    W ((goD src (stepD C e t c own σ) src.len 0 [] M).bind fun acc M => new acc M) fun v M' => ∃ M1 xs, J M1 ∧ v = .loc M1.length ∧ M' = M1 ++ [.lst xs] ∧ Inv ps.length xs := by
  rw [wk.len]
  have gen : ∀ (k i : Nat) (acc : List D) (M : Mem), i + k = ps.length → Inv i acc → J M → W (goD src (stepD C e t c own σ) k i acc M) fun xs M' => J M' ∧ Inv ps.length xs := by
    intro k
    induction k with
    | zero =>
      intro i acc M hk hI hj
      have hi : i = ps.length := by omega
      subst hi
      refine ⟨acc, M, ?_, hj, hI⟩
      show (if src.done ps.length M = true then R.ok acc M else R.bad) = _
      rw [if_pos (wk.done M hj)]
    | succ k ih =>
      intro i acc M hk hI hj
      have hlt : i < ps.length := by omega
      have eg := wk.get M hj i _ (List.getElem?_eq_getElem hlt)
      show W (match src.get i M with
        | some d => (stepD C e t c own σ d acc M).bind fun a M => goD src (stepD C e t c own σ) k (i + 1) a M
        | none => R.bad) _
      rw [eg]
      refine (step M i _ acc (List.getElem?_eq_getElem hlt) hj hI (by have := hlen i acc hI; omega)).bind fun acc' M' ⟨hj', hI'⟩ => ?_
      exact ih (i + 1) acc' M' (by omega) hI' hj'
  exact (gen ps.length 0 [] M (by omega) h0 hj).bind fun xs M' ⟨hj', hI'⟩ => ⟨_, _, rfl, M', xs, hj', rfl, rfl, hI'⟩
theorem W_comp {α : Type} {C : Cfg} {e : E} {t : T} {it : I} {c : Cd} {own : List Nat} {σ : Sl} {M0 : Mem} {ps : List α} {fm : α → D} {J : Mem → Prop} (Inv : Nat → List D → Prop)
    (hi : W (evI C it σ M0) fun src M => Walks src ps fm J ∧ J M) (h0 : Inv 0 []) (hn : ps.length ≤ line) (hlen : ∀ i acc, Inv i acc → acc.length ≤ i)
    (step : ∀ M i a acc, ps[i]? = some a → J M → Inv i acc → acc.length < line → W (stepD C e t c own σ (fm a) acc M) fun acc' M' => J M' ∧ Inv (i + 1) acc') :
    W (ev C (.comp e t it c own) σ M0) fun v M' => ∃ M1 xs, J M1 ∧ v = .loc M1.length ∧ M' = M1 ++ [.lst xs] ∧ Inv ps.length xs :=
  hi.bind fun _ _ h => W_comp0 Inv h.1 h.2 h0 hn hlen step
/-- .. each item its own list -/
theorem W_map0 {α : Type} {C : Cfg} {e : E} {t : T} {c : Cd} {own : List Nat} {σ : Sl} {M : Mem} {src : Src} {ps : List α} {fm : α → D} {J : Mem → Prop} (g : α → List D)
    (wk : Walks src ps fm J) (hj : J M) (hn : ps.length ≤ line) (hg : ∀ a, (g a).length ≤ 1)
    (step : ∀ M a acc, a ∈ ps → J M → acc.length < line → W (stepD C e t c own σ (fm a) acc M) fun acc' M' => J M' ∧ acc' = acc ++ g a) :
    W ((goD src (stepD C e t c own σ) src.len 0 [] M).bind fun acc M => new acc M) fun v M' => ∃ M1, J M1 ∧ v = .loc M1.length ∧ M' = M1 ++ [.lst (ps.flatMap g)] := by
  refine (W_comp0 (fun i acc => acc = (ps.take i).flatMap g ∧ i ≤ ps.length) wk hj ⟨rfl, Nat.zero_le _⟩ hn (fun i acc h => ?_) fun M i a acc e hj hI hl => ?_).mono fun v M' ⟨M1, xs, h1, h2, h3, h4, _⟩ => ?_
  · have key : ∀ l : List α, (l.flatMap g).length ≤ l.length := fun l => by
      induction l with
      | nil => exact Nat.le_refl _
      | cons x r ih =>
        rw [List.flatMap_cons, List.length_append, List.length_cons]
        have := hg x
        omega
    have := key (ps.take i)
    rw [h.1]
    rw [List.length_take] at this
    omega
  · refine (step M a acc (List.mem_of_getElem? e) hj hl).mono fun acc' M' ⟨q1, q2⟩ => ⟨q1, ?_, getElem?_len e⟩
    rw [q2, hI.1, List.take_add_one, e, List.flatMap_append]
    simp
  · refine ⟨M1, h1, h2, ?_⟩
    rw [h3, h4, List.take_length]
theorem W_map1' {α : Type} {C : Cfg} {e : E} {t : T} {c : Cd} {own : List Nat} {σ : Sl} {M : Mem} {src : Src} {ps : List α} {fm : α → D} {J : Mem → Prop} (h : α → D)
    (wk : Walks src ps fm J) (hj : J M) (hn : ps.length ≤ line)
    (step : ∀ M a acc, a ∈ ps → J M → acc.length < line → W (stepD C e t c own σ (fm a) acc M) fun acc' M' => J M' ∧ acc' = acc ++ [h a]) :
    W ((goD src (stepD C e t c own σ) src.len 0 [] M).bind fun acc M => new acc M) fun v M' => ∃ M1, J M1 ∧ v = .loc M1.length ∧ M' = M1 ++ [.lst (ps.map h)] := by
  have := W_map0 (g := fun a => [h a]) wk hj hn (fun _ => Nat.le_refl _) step
  rwa [flat_one] at this
theorem W_map1 {α : Type} {C : Cfg} {e : E} {t : T} {it : I} {c : Cd} {own : List Nat} {σ : Sl} {M0 : Mem} {ps : List α} {fm : α → D} {J : Mem → Prop} (h : α → D)
    (hi : W (evI C it σ M0) fun src M => Walks src ps fm J ∧ J M) (hn : ps.length ≤ line)
    (step : ∀ M a acc, a ∈ ps → J M → acc.length < line → W (stepD C e t c own σ (fm a) acc M) fun acc' M' => J M' ∧ acc' = acc ++ [h a]) :
    W (ev C (.comp e t it c own) σ M0) fun v M' => ∃ M1, J M1 ∧ v = .loc M1.length ∧ M' = M1 ++ [.lst (ps.map h)] :=
  hi.bind fun _ _ q => W_map1' h q.1 q.2 hn step
theorem W_filt' {α : Type} {C : Cfg} {e : E} {t : T} {c : Cd} {own : List Nat} {σ : Sl} {M : Mem} {src : Src} {ps : List α} {fm : α → D} {J : Mem → Prop} (p : α → Bool) (h : α → D)
    (wk : Walks src ps fm J) (hj : J M) (hn : ps.length ≤ line)
    (step : ∀ M a acc, a ∈ ps → J M → acc.length < line → W (stepD C e t c own σ (fm a) acc M) fun acc' M' => J M' ∧ acc' = if p a = true then acc ++ [h a] else acc) :
    W ((goD src (stepD C e t c own σ) src.len 0 [] M).bind fun acc M => new acc M) fun v M' => ∃ M1, J M1 ∧ v = .loc M1.length ∧ M' = M1 ++ [.lst ((ps.filter p).map h)] := by
  have := W_map0 (g := fun a => if p a = true then [h a] else []) wk hj hn (fun a => by split <;> simp) fun M a acc h1 h2 h3 => (step M a acc h1 h2 h3).mono fun acc' M' ⟨q1, q2⟩ => ⟨q1, by rw [q2]; split <;> simp⟩
  rwa [flat_if] at this
theorem W_filt {α : Type} {C : Cfg} {e : E} {t : T} {it : I} {c : Cd} {own : List Nat} {σ : Sl} {M0 : Mem} {ps : List α} {fm : α → D} {J : Mem → Prop} (p : α → Bool) (h : α → D)
    (hi : W (evI C it σ M0) fun src M => Walks src ps fm J ∧ J M) (hn : ps.length ≤ line)
    (step : ∀ M a acc, a ∈ ps → J M → acc.length < line → W (stepD C e t c own σ (fm a) acc M) fun acc' M' => J M' ∧ acc' = if p a = true then acc ++ [h a] else acc) :
    W (ev C (.comp e t it c own) σ M0) fun v M' => ∃ M1, J M1 ∧ v = .loc M1.length ∧ M' = M1 ++ [.lst ((ps.filter p).map h)] :=
  hi.bind fun _ _ q => W_filt' p h q.1 q.2 hn step
/-- the same, what stands is known when the walk begins -/
theorem W_map1e {α : Type} {C : Cfg} {e : E} {t : T} {it : I} {c : Cd} {own : List Nat} {σ : Sl} {M0 : Mem} {ps : List α} {fm : α → D} (RR : Mem → Prop) (h : α → D) (hn : ps.length ≤ line)
    (hi : W (evI C it σ M0) fun src M => ∃ J : Mem → Prop, Walks src ps fm J ∧ J M ∧ (∀ M', J M' → RR M') ∧ ∀ M a acc, a ∈ ps → J M → acc.length < line → W (stepD C e t c own σ (fm a) acc M) fun acc' M' => J M' ∧ acc' = acc ++ [h a]) :
    W (ev C (.comp e t it c own) σ M0) fun v M' => ∃ M1, RR M1 ∧ v = .loc M1.length ∧ M' = M1 ++ [.lst (ps.map h)] :=
  hi.bind fun _ _ ⟨_, wk, hj, hr, st⟩ => (W_map1' h wk hj hn st).mono fun v M' ⟨M1, j, q⟩ => ⟨M1, hr _ j, q⟩
theorem W_finde {α : Type} {C : Cfg} {t : T} {it : I} {b : Ss} {σ : Sl} {M0 : Mem} {ps : List α} {fm : α → D} (out : α → Option D) (RR : Sl → Mem → Prop) (E : Mem → Prop)
    (hi : W (evI C it σ M0) fun src M => ∃ (J : Mem → Prop) (Inv : Nat → Sl → Mem → Prop), Walks src ps fm J ∧ Inv 0 σ M ∧ (∀ i σ M, Inv i σ M → J M) ∧ (∀ i σ M', Inv i σ M' → RR σ M') ∧
      ∀ M i a σ, ps[i]? = some a → Inv i σ M → W ((asg C t (fm a) σ M).bind fun σ M => exs C b σ M) fun fl M' => (∀ d, out a = some d → fl = .rt d ∧ E M') ∧ (out a = none → ∃ σ', (fl = .nx σ' ∨ fl = .ct σ') ∧ Inv (i + 1) σ' M')) :
    W (ex C (.for_ t it b) σ M0) fun fl M' => (∀ d, ps.findSome? out = some d → fl = .rt d ∧ E M') ∧ (ps.findSome? out = none → ∃ σ', fl = .nx σ' ∧ RR σ' M') :=
  hi.bind fun _ _ ⟨_, I0, wk, h0, hJ, hr, st⟩ => (W_find0 out I0 E wk h0 hJ st).mono fun fl M' ⟨q1, q2⟩ => ⟨q1, fun h => by
    obtain ⟨σ', e, q⟩ := q2 h
    exact ⟨σ', e, hr _ _ _ q⟩⟩
/-- over a range whose length is drawn -/
theorem W_compR {C : Cfg} {e : E} {t : T} {it : I} {c : Cd} {own : List Nat} {σ : Sl} {M0 : Mem} (RR : List D → Mem → Prop)
    (hi : W (evI C it σ M0) fun src M => ∃ (n : Nat) (lo : Int) (J : Mem → Prop) (I0 : Nat → List D → Prop), src = .rng lo n ∧ J M ∧ I0 0 [] ∧ n ≤ line ∧ (∀ i acc, I0 i acc → acc.length ≤ i) ∧ (∀ M1 xs, J M1 → I0 n xs → RR xs M1) ∧
      ∀ M (i : Nat) acc, i < n → J M → I0 i acc → acc.length < line → W (stepD C e t c own σ (.int (lo + i)) acc M) fun acc' M' => J M' ∧ I0 (i + 1) acc') :
    W (ev C (.comp e t it c own) σ M0) fun v M' => ∃ M1 xs, RR xs M1 ∧ v = .loc M1.length ∧ M' = M1 ++ [.lst xs] := by
  refine hi.bind fun src M ⟨n, lo, J, I0, e, hj, h0, hn, hl, hr, st⟩ => ?_
  subst e
  refine (W_comp0 (ps := List.range n) (fm := fun k : Nat => .int (lo + k)) (J := J) I0 walks_rng hj h0 (by rw [List.length_range]; exact hn) hl fun M i a acc ha hj hI hacc => ?_).mono fun v M' ⟨M1, xs, q1, q2, q3, q4⟩ => ⟨M1, xs, hr _ _ q1 (by rw [List.length_range] at q4; exact q4), q2, q3⟩
  obtain ⟨h1, h2⟩ := List.getElem?_eq_some_iff.mp ha
  rw [List.length_range] at h1
  rw [List.getElem_range] at h2
  subst h2
  exact st M i acc h1 hj hI hacc
theorem W_forR {C : Cfg} {t : T} {it : I} {b : Ss} {σ : Sl} {M0 : Mem} (RR : Sl → Mem → Prop)
    (hi : W (evI C it σ M0) fun src M => ∃ (n : Nat) (lo : Int) (I0 : Nat → Sl → Mem → Prop), src = .rng lo n ∧ I0 0 σ M ∧ (∀ σ M, I0 n σ M → RR σ M) ∧
      ∀ M (i : Nat) σ, i < n → I0 i σ M → W ((asg C t (.int (lo + i)) σ M).bind fun σ M => exs C b σ M) fun fl M' => ∃ σ', (fl = .nx σ' ∨ fl = .ct σ') ∧ I0 (i + 1) σ' M') :
    W (ex C (.for_ t it b) σ M0) fun fl M' => ∃ σ', fl = .nx σ' ∧ RR σ' M' := by
  refine hi.bind fun src M ⟨n, lo, I0, e, h0, hr, st⟩ => ?_
  subst e
  refine (W_for0 (ps := List.range n) (fm := fun k : Nat => .int (lo + k)) (J := fun _ => True) I0 walks_rng h0 (fun _ _ _ _ => trivial) fun M i a σ ha hI => ?_).mono fun fl M' ⟨σ', q1, q2⟩ => ⟨σ', q1, hr _ _ (by rw [List.length_range] at q2; exact q2)⟩
  obtain ⟨h1, h2⟩ := List.getElem?_eq_some_iff.mp ha
  rw [List.length_range] at h1
  rw [List.getElem_range] at h2
  subst h2
  exact st M i σ h1 hI
theorem eqv_empty {M : Mem} {a b : Nat} {xs : List Int} (h1 : M[a]? = some (.lst (xs.map D.int))) (h2 : M[b]? = some (.lst [])) : pyEqD M (.loc a) (.loc b) = some xs.isEmpty := by
  have e1 : optAll ((xs.map D.int).map (toPy 29 M)) = some (xs.map PyData.int) := optAll_k (toPy 29 M) D.int PyData.int (fun p => rfl) xs
  have e2 : toPy 30 M (.loc a) = some (.list (xs.map PyData.int)) := by
    show (match lstAt M a with | some xs => (optAll (xs.map (toPy 29 M))).map PyData.list | none => none) = _
    rw [lstAt_lst h1]
    dsimp only
    rw [e1] <;> rfl
  have e3 : toPy 30 M (.loc b) = some (.list []) := by
    show (match lstAt M b with | some xs => (optAll (xs.map (toPy 29 M))).map PyData.list | none => none) = _
    rw [lstAt_lst h2]
    rfl
  unfold pyEqD
  rw [e2, e3]
  cases xs <;> rfl
theorem ne_empty {M : Mem} {a b : Nat} {xs : List Int} (h1 : M[a]? = some (.lst (xs.map D.int))) (h2 : M[b]? = some (.lst [])) : op2 .ne (.loc a) (.loc b) M = .ok (.bl (!xs.isEmpty)) M := by
  show R.ofO ((pyEqD M (.loc a) (.loc b)).map fun b => D.bl (!b)) M = _
  rw [eqv_empty h1 h2] <;> rfl
theorem eq_empty {M : Mem} {a b : Nat} {xs : List Int} (h1 : M[a]? = some (.lst (xs.map D.int))) (h2 : M[b]? = some (.lst [])) : op2 .eq (.loc a) (.loc b) M = .ok (.bl xs.isEmpty) M := by
  show R.ofO ((pyEqD M (.loc a) (.loc b)).map D.bl) M = _
  rw [eqv_empty h1 h2] <;> rfl
theorem sum_set : ∀ (xs : List Int) (i : Nat) (v : Int), i < xs.length → (xs.set i v).sum = xs.sum - xs.getD i 0 + v
  | [], i, v, h => by simp at h
  | x :: r, 0, v, h => by simp; omega
  | x :: r, i + 1, v, h => by
    have ih := sum_set r i v (by simpa using h)
    rw [List.set_cons_succ, List.sum_cons, ih, List.sum_cons, List.getD_cons_succ]
    omega
theorem item_at {M : Mem} {l k : Nat} {xs : List Int} (h : M[l]? = some (.lst (xs.map D.int))) (hk : k < xs.length) : itemAt M (.loc l) (.int (k : Int)) = .ok (.int (xs.getD k 0)) M := by
  rw [item_loc (lstAt_lst h), List.getElem?_map, List.getElem?_eq_getElem hk, List.getD_eq_getElem?_getD, List.getElem?_eq_getElem hk] <;> rfl
theorem set_at' {M : Mem} {l k : Nat} {xs : List Int} {v : Int} (h : M[l]? = some (.lst (xs.map D.int))) (hk : k < xs.length) : setAt M (.loc l) (.int (k : Int)) (.int v) = some (M.set l (.lst ((xs.set k v).map D.int))) := by
  rw [set_loc h (by rw [List.length_map]; exact hk), List.map_set]
/-! ### memory that only grows -/
def Gr (M M' : Mem) : Prop := ∃ Z, M' = M ++ Z
theorem Gr.refl (M : Mem) : Gr M M := ⟨[], (List.append_nil M).symm⟩
theorem Gr.trans {M M' M2 : Mem} (a : Gr M M') (b : Gr M' M2) : Gr M M2 := by
  obtain ⟨Z, rfl⟩ := a
  obtain ⟨Y, rfl⟩ := b
  exact ⟨Z ++ Y, List.append_assoc ..⟩
theorem Gr.push {M M' : Mem} (a : Gr M M') (Z : Mem) : Gr M (M' ++ Z) := a.trans ⟨Z, rfl⟩
theorem Gr.cell {M M' : Mem} {l : Nat} {c : Cell} (a : Gr M M') (h : M[l]? = some c) : M'[l]? = some c := by
  obtain ⟨Z, rfl⟩ := a
  rw [List.getElem?_append_left (getElem?_len h)]
  exact h
theorem Gr.keep {M M' : Mem} {p : Nat} (a : Gr M M') (h : Pool M p) : Keep p M M' := by
  obtain ⟨Z, rfl⟩ := a
  exact Keep.push h Z
theorem Gr.le {M M' : Mem} (a : Gr M M') : M.length ≤ M'.length := by
  obtain ⟨Z, rfl⟩ := a
  rw [List.length_append]
  omega
theorem W_iseq {C : Cfg} {a : E} {σ : Sl} {M : Mem} {α : Type} {ps : List α} {fm : α → D} {J : Mem → Prop} {Q : D → Mem → Prop} (h : W (ev C a σ M) Q) (hq : ∀ v M', Q v M' → J M' ∧ ((v = .tup (ps.map fm)) ∨ ∃ l, v = .loc l ∧ ∀ M'', J M'' → M''[l]? = some (.lst (ps.map fm)))) :
    W (evI C (.seq a) σ M) fun src M => Walks src ps fm J ∧ J M := by
  rw [q_seq]
  refine h.bind fun v M' q => ?_
  obtain ⟨j, e | ⟨l, e, hl⟩⟩ := hq v M' q
  · subst e
    exact W.ok ⟨walks_tup, j⟩
  · subst e
    have e2 : srcOf M' (.loc l) = some (.lst l ps.length) := by
      show (lstAt M' l).map (fun xs => Src.lst l xs.length) = _
      rw [lstAt_lst (hl M' j), Option.map_some, List.length_map]
    rw [e2]
    exact W.ok ⟨walks_lst hl, j⟩
theorem W_irng {C : Cfg} {es : Es} {σ : Sl} {M M' : Mem} {J : Mem → Prop} {ds : List D} {lo : Int} {n : Nat} (h1 : evs C es σ M = .ok ds M') (h2 : rngOf ds = some (.rng lo n)) (j : J M') :
    W (evI C (.rng es) σ M) fun src M => Walks src (List.range n) (fun k : Nat => .int (lo + k)) J ∧ J M := by
  rw [rng_ok h1 h2]
  exact W.ok ⟨walks_rng, j⟩
/-- one step of a comprehension into one plain name, without a test -/
theorem stepD_nm {C : Cfg} {e : E} {i : Nat} {own : List Nat} {σ : Sl} {d : D} {acc : List D} {M : Mem} : stepD C e (.nm i) .tt own σ d acc M = (ev C e ((wipeD σ own).set i (some d)) M).bind fun y M => pushD acc y M := rfl
theorem stepD_if {C : Cfg} {e : E} {i : Nat} {c : Cd} {own : List Nat} {σ : Sl} {d : D} {acc : List D} {M : Mem} : stepD C e (.nm i) c own σ d acc M = (evB C c ((wipeD σ own).set i (some d)) M).bind fun k M => match k with
    | true => (ev C e ((wipeD σ own).set i (some d)) M).bind fun y M => pushD acc y M
    | false => .ok acc M := rfl
theorem stepD_t {C : Cfg} {e : E} {t : T} {own : List Nat} {σ σ2 : Sl} {d : D} {acc : List D} {M : Mem} (h : asg C t d (wipeD σ own) M = .ok σ2 M) : stepD C e t .tt own σ d acc M = (ev C e σ2 M).bind fun y M => pushD acc y M := by
  unfold stepD
  rw [h]
  rfl
/-! ### tuples of numbers -/
abbrev tp (xs : List Int) : D := .tup (xs.map D.int)
theorem len_tup {xs : List D} {M : Mem} : blt .len [.tup xs] M = .ok (.int xs.length) M := rfl
theorem sum_tp {xs : List Int} {M : Mem} : blt .sum [tp xs] M = .ok (.int xs.sum) M := by
  show R.ofO ((intsOf (xs.map D.int)).map fun ns => D.int ns.sum) M = _
  rw [intsOf_map] <;> rfl
theorem sum_new {xs : List Int} {M : Mem} : blt .sum [.loc M.length] (M ++ [.lst (xs.map D.int)]) = .ok (.int xs.sum) (M ++ [.lst (xs.map D.int)]) := by
  show R.ofO (((lstAt _ M.length).bind intsOf).map fun ns => D.int ns.sum) _ = _
  rw [lstAt_new, Option.bind_some, intsOf_map] <;> rfl
theorem tuple_new {xs : List D} {M : Mem} : blt .tuple [.loc M.length] (M ++ [.lst xs]) = .ok (.tup xs) (M ++ [.lst xs]) := by
  show R.ofO ((lstAt _ M.length).map D.tup) _ = _
  rw [lstAt_new] <;> rfl
theorem tuple_at {l : Nat} {xs : List D} {M : Mem} (h : M[l]? = some (.lst xs)) : blt .tuple [.loc l] M = .ok (.tup xs) M := by
  show R.ofO ((lstAt M l).map D.tup) _ = _
  rw [lstAt_lst h] <;> rfl
theorem len_new {xs : List D} {M : Mem} : blt .len [.loc M.length] (M ++ [.lst xs]) = .ok (.int xs.length) (M ++ [.lst xs]) := by
  show R.ofO ((lstAt _ M.length).map fun xs => D.int xs.length) _ = _
  rw [lstAt_new] <;> rfl
theorem len_at {l : Nat} {xs : List D} {M : Mem} (h : M[l]? = some (.lst xs)) : blt .len [.loc l] M = .ok (.int xs.length) M := by
  show R.ofO ((lstAt _ _).map fun xs => D.int xs.length) _ = _
  rw [lstAt_lst h] <;> rfl
theorem all_new {bs : List Bool} {M : Mem} : blt .all [.loc M.length] (M ++ [.lst (bs.map D.bl)]) = .ok (.bl (bs.all id)) (M ++ [.lst (bs.map D.bl)]) := by
  show R.ofO (((lstAt _ M.length).bind blsOf).map fun bs => D.bl (bs.all id)) _ = _
  rw [lstAt_new, Option.bind_some, blsOf_map] <;> rfl
theorem sortedR_tp {xs : List Int} {M : Mem} : blt .sortedR [tp xs] M = .ok (.loc M.length) (M ++ [.lst ((fl xs).map D.int)]) := by
  show (match (intsOf (xs.map D.int)) with | some ns => new ((sortI ns).reverse.map D.int) M | none => R.bad) = _
  rw [intsOf_map] <;> rfl
theorem max_tp {xs : List Int} {m : Int} {M : Mem} (h : greatestOf xs = some m) : blt .max [tp xs] M = .ok (.int m) M := by
  show R.ofO (((intsOf (xs.map D.int)).bind greatestOf).map D.int) M = _
  rw [intsOf_map, Option.bind_some, h] <;> rfl
theorem add_tp {a b : List Int} {M : Mem} (h : a.length + b.length ≤ line) : op2 .add (tp a) (tp b) M = .ok (tp (a ++ b)) M := by
  show (if (a.map D.int).length + (b.map D.int).length ≤ line then R.ok (D.tup (a.map D.int ++ b.map D.int)) M else .bad) = _
  rw [List.length_map, List.length_map, if_pos h, ← List.map_append]
theorem slice_tp {xs : List Int} {k : Nat} {M : Mem} : sliceD M (tp xs) none (some (k : Int)) none = .ok (tp (xs.take k)) M := by
  show R.ok (D.tup (cutD (xs.map D.int) none (some (k : Int)))) M = _
  rw [cut_take, ← List.map_take]
theorem isi_tup {xs : List D} {M : Mem} : blt .isi [.tup xs, .ty "tuple"] M = .ok (.bl true) M := rfl
theorem isi_int {i : Int} {M : Mem} : blt .isi [.int i, .ty "int"] M = .ok (.bl true) M := rfl
theorem isi_bool {i : Int} {M : Mem} : blt .isi [.int i, .ty "bool"] M = .ok (.bl false) M := rfl
theorem max2 {i j : Int} {M : Mem} : blt .max [.int i, .int j] M = .ok (.int (if j > i then j else i)) M := rfl
theorem int1 {i : Int} {M : Mem} : blt .int [.int i] M = .ok (.int i) M := rfl
theorem new_q {xs : List D} {M : Mem} : new xs M = .ok (.loc M.length) (M ++ [.lst xs]) := rfl
theorem is_none_int {i : Int} {M : Mem} : op2 .is (.int i) .non M = .ok (.bl false) M := rfl
theorem is_none_none {M : Mem} : op2 .is .non .non M = .ok (.bl true) M := rfl
theorem isn_tt {b : Bool} {M : Mem} : op2 .isn (.bl b) (.bl true) M = .ok (.bl (!b)) M := by cases b <;> rfl
theorem is_tt {b : Bool} {M : Mem} : op2 .is (.bl b) (.bl true) M = .ok (.bl b) M := by cases b <;> rfl
end Ev
namespace Ev
open PySem L2
/-! ### webs of ties, in plain Lean: which rows of numbers are the ties of a web -/
abbrev Pr := Nat × Nat
def prs (n : Nat) : List Pr := (List.range n).flatMap fun a => (List.range (n - 1 - a)).map fun j => (a, a + 1 + j)
def has (v : Nat) (q : Pr) : Bool := decide (q.1 = v) || decide (q.2 = v)
def tieN (g : List Pr) (v : Nat) : Nat := (g.filter (has v)).length
def tiesN (n : Nat) (g : List Pr) : List Nat := (List.range n).map (tieN g)
def tiesL (n : Nat) (g : List Pr) : List Int := (List.range n).map fun v => (tieN g v : Int)
theorem tieN_app (g h : List Pr) (v : Nat) : tieN (g ++ h) v = tieN g v + tieN h v := by
  unfold tieN
  rw [List.filter_append, List.length_append]
theorem tieN_one (q : Pr) (v : Nat) : tieN [q] v = if has v q = true then 1 else 0 := by
  unfold tieN
  rw [List.filter_cons]
  cases has v q <;> rfl
theorem tieN_cons (q : Pr) (g : List Pr) (v : Nat) : tieN (q :: g) v = (if has v q = true then 1 else 0) + tieN g v := by
  rw [← tieN_one, ← tieN_app]
  rfl
theorem tiesL_len (n : Nat) (g : List Pr) : (tiesL n g).length = n := by simp [tiesL]
theorem tiesL_get {n : Nat} {g : List Pr} {v : Nat} (h : v < n) : (tiesL n g).getD v 0 = tieN g v := by
  rw [tiesL, List.getD_eq_getElem?_getD, List.getElem?_map, List.getElem?_range h]
  rfl
/-! ### where the greatest ones are too much -/
def tm (p : List Int) (k : Nat) : Bool := decide (((k : Int) * ((k : Int) - 1) + (((fl p).drop k).map fun x => min x (k : Int)).sum) < pre (fl p) k)
def wbar (p : List Int) : Option Nat := if p.sum % 2 = 1 then some 0 else ((List.range p.length).map (· + 1)).find? (tm p)
theorem wbar_fl (p : List Int) : wbar (fl p) = wbar p := by
  have e : fl (fl p) = fl p := by
    have h1 : (fl p).Perm (fl p) := List.Perm.refl _
    have h2 : (fl p).Pairwise (· ≥ ·) := List.pairwise_reverse.mpr (sortI_sorted p)
    exact (sortR_is h1 h2).symm
  unfold wbar
  rw [fl_sum, fl_len]
  have e2 : tm (fl p) = tm p := by
    funext k
    unfold tm
    rw [e]
  rw [e2]
theorem wbar_none {p : List Int} : wbar p = none ↔ ¬ p.sum % 2 = 1 ∧ ∀ k, k < p.length → tm p (k + 1) = false := by
  unfold wbar
  by_cases h : p.sum % 2 = 1
  · rw [if_pos h]
    exact ⟨fun e => (by cases e), fun e => absurd h e.1⟩
  · rw [if_neg h, List.find?_eq_none]
    refine ⟨fun e => ⟨h, fun k hk => ?_⟩, fun e x hx => ?_⟩
    · have := e (k + 1) (List.mem_map.mpr ⟨k, List.mem_range.mpr hk, rfl⟩)
      simpa using this
    · obtain ⟨k, hk, rfl⟩ := List.mem_map.mp hx
      rw [e.2 k (List.mem_range.mp hk)]
      decide
/-- then nobody has more than all the others -/
theorem wbar_small {p : List Int} (h : wbar p = none) : ∀ x ∈ p, x ≤ (p.length : Int) - 1 := by
  intro x hx
  obtain ⟨_, h2⟩ := wbar_none.mp h
  have hpos : 0 < p.length := List.length_pos_of_mem hx
  have h1 := h2 0 hpos
  unfold tm at h1
  have h1 := of_decide_eq_false h1
  have hd : (fl p).Pairwise (· ≥ ·) := List.pairwise_reverse.mpr (sortI_sorted p)
  cases e : fl p with
  | nil =>
    have := fl_len p
    rw [e] at this
    simp at this
    omega
  | cons y r =>
    rw [e] at h1 hd
    have hr : r.length = p.length - 1 := by
      have := fl_len p
      rw [e] at this
      simp at this
      omega
    have hm : x ≤ y := by
      have : x ∈ y :: r := by rw [← e]; exact fl_mem.mpr hx
      rcases List.mem_cons.mp this with q | q
      · omega
      · exact (List.pairwise_cons.mp hd).1 x q
    have hs : (r.map fun x => min x ((0 + 1 : Nat) : Int)).sum ≤ r.length := by
      clear hd h1 e hm hr
      induction r with
      | nil => exact Int.le_refl 0
      | cons z r ih =>
        rw [List.map_cons, List.sum_cons, List.length_cons]
        omega
    simp [pre] at h1
    simp at hs
    omega
/-- somebody with nothing more changes nothing -/
theorem fl_zero {p : List Int} (hp : ∀ x ∈ p, 0 ≤ x) : fl (p ++ [0]) = fl p ++ [0] := by
  refine (sortR_is ((fl_perm p).append_right [0]) ?_).symm
  rw [List.pairwise_append]
  refine ⟨List.pairwise_reverse.mpr (sortI_sorted p), List.pairwise_singleton _ _, fun a ha b hb => ?_⟩
  rw [List.mem_singleton.mp hb]
  exact hp a (fl_mem.mp ha)
theorem tm_zero {p : List Int} (hp : ∀ x ∈ p, 0 ≤ x) {k : Nat} (hk : k ≤ p.length) : tm (p ++ [0]) k = tm p k := by
  unfold tm
  rw [fl_zero hp, List.drop_append_of_le_length (by rw [fl_len]; exact hk), List.map_append, List.sum_append]
  have e : pre (fl p ++ [0]) k = pre (fl p) k := by
    unfold pre
    rw [List.take_append_of_le_length (by rw [fl_len]; exact hk)]
  rw [e]
  have e2 : ([0].map fun x : Int => min x (k : Int)).sum = 0 := by simp; omega
  rw [e2, Int.add_zero]
theorem wbar_zero {p : List Int} (hp : ∀ x ∈ p, 0 ≤ x) (h1 : 1 ≤ p.length) : wbar (p ++ [0]) = none ↔ wbar p = none := by
  rw [wbar_none, wbar_none, List.sum_append, List.length_append]
  simp only [List.sum_cons, List.sum_nil, Int.add_zero, List.length_cons, List.length_nil]
  constructor
  · exact fun ⟨a, b⟩ => ⟨a, fun k hk => by rw [← tm_zero hp (by omega)]; exact b k (by omega)⟩
  · refine fun ⟨a, b⟩ => ⟨a, fun k hk => ?_⟩
    by_cases hk' : k < p.length
    · rw [tm_zero hp (by omega)]
      exact b k hk'
    · have ek : k = p.length := by omega
      subst ek
      have hb := of_decide_eq_false (b (p.length - 1) (by omega))
      refine decide_eq_false ?_
      rw [fl_zero hp, pre_all (by rw [List.length_append, fl_len]; exact Nat.le_refl _), List.drop_eq_nil_of_le (by rw [List.length_append, fl_len]; exact Nat.le_refl _), List.sum_append, fl_sum]
      have e3 : p.length - 1 + 1 = p.length := by omega
      rw [e3, List.drop_eq_nil_of_le (by rw [fl_len]; exact Nat.le_refl _), pre_all (by rw [fl_len]; exact Nat.le_refl _), fl_sum] at hb
      simp at hb ⊢
      have e4 : ((p.length : Int) + 1) * (p.length : Int) = (p.length : Int) * ((p.length : Int) - 1) + 2 * (p.length : Int) := by
        rw [Int.add_mul, Int.mul_sub, Int.one_mul, Int.mul_one]
        omega
      omega
/-! ### all webs at once, as a row of bits -/
def val : List Nat → Nat
  | [] => 0
  | x :: r => x + 8 * val r
def wt (q : Pr) : Nat := 8 ^ q.1 + 8 ^ q.2
def code (g : List Pr) : Nat := (g.map wt).sum
def bits : List Pr → Nat
  | [] => 1
  | q :: r => bits r ||| (bits r <<< wt q)
theorem bits_out : ∀ (l : List Pr) (c : Nat), (bits l).testBit c = true → ∃ g, g.Sublist l ∧ code g = c
  | [], c, h => by
    have : c = 0 := by
      have h' : (1 : Nat).testBit c = true := h
      rw [Nat.testBit_one_eq_true_iff_self_eq_zero] at h'
      exact h'
    subst this
    exact ⟨[], List.Sublist.slnil, rfl⟩
  | q :: r, c, h => by
    have h' : ((bits r) ||| (bits r <<< wt q)).testBit c = true := h
    rw [Nat.testBit_or, Bool.or_eq_true] at h'
    rcases h' with h' | h'
    · obtain ⟨g, s, e⟩ := bits_out r c h'
      exact ⟨g, s.cons q, e⟩
    · rw [Nat.testBit_shiftLeft, Bool.and_eq_true, decide_eq_true_eq] at h'
      obtain ⟨g, s, e⟩ := bits_out r _ h'.2
      refine ⟨q :: g, s.cons_cons q, ?_⟩
      show wt q + code g = c
      omega
theorem bits_in : ∀ {l g : List Pr}, g.Sublist l → (bits l).testBit (code g) = true
  | _, _, .slnil => rfl
  | _, _, .cons q s => by
    show (bits _ ||| _).testBit _ = true
    rw [Nat.testBit_or, bits_in s, Bool.true_or]
  | _, _, .cons_cons q s => by
    rename_i g l
    show (bits l ||| (bits l <<< wt q)).testBit (wt q + code g) = true
    rw [Nat.testBit_or, Nat.testBit_shiftLeft, show wt q + code g - wt q = code g by omega, bits_in s, decide_eq_true (by omega)]
    simp
theorem val_add : ∀ (f g : Nat → Nat) (m n : Nat), val ((List.range' m n).map fun v => f v + g v) = val ((List.range' m n).map f) + val ((List.range' m n).map g)
  | f, g, m, 0 => rfl
  | f, g, m, n + 1 => by
    rw [List.range'_succ, List.map_cons, List.map_cons, List.map_cons]
    show f m + g m + 8 * val _ = f m + 8 * val _ + (g m + 8 * val _)
    rw [val_add f g (m + 1) n]
    omega
theorem val_unit (a : Nat) : ∀ (m n : Nat), val ((List.range' m n).map fun v => if a = v then 1 else 0) = if m ≤ a ∧ a < m + n then 8 ^ (a - m) else 0
  | m, 0 => by
    rw [if_neg (by omega)]
    rfl
  | m, n + 1 => by
    rw [List.range'_succ, List.map_cons]
    show (if a = m then 1 else 0) + 8 * val _ = _
    rw [val_unit a (m + 1) n]
    by_cases h : a = m
    · subst h
      rw [if_pos rfl, if_neg (by omega), if_pos (by omega), Nat.sub_self]
    · rw [if_neg h]
      by_cases h2 : m + 1 ≤ a ∧ a < m + 1 + n
      · rw [if_pos h2, if_pos (by omega), show a - m = (a - (m + 1)) + 1 by omega, Nat.pow_succ, Nat.zero_add, Nat.mul_comm]
      · rw [if_neg h2, if_neg (by omega)]
theorem val_ties {n : Nat} : ∀ {g : List Pr}, (∀ q ∈ g, q.1 < n ∧ q.2 < n ∧ q.1 ≠ q.2) → val (tiesN n g) = code g
  | [], _ => by
    have : ∀ m k, val ((List.range' m k).map fun _ => 0) = 0 := fun m k => by
      induction k generalizing m with
      | zero => rfl
      | succ k ih =>
        rw [List.range'_succ, List.map_cons]
        show 0 + 8 * val _ = 0
        rw [ih]
    rw [tiesN, List.range_eq_range']
    exact this 0 n
  | q :: g, h => by
    have ih := val_ties (n := n) (g := g) fun r hr => h r (List.mem_cons_of_mem _ hr)
    obtain ⟨h1, h2, h3⟩ := h q List.mem_cons_self
    have e : tiesN n (q :: g) = (List.range' 0 n).map fun v => ((if q.1 = v then 1 else 0) + (if q.2 = v then 1 else 0)) + tieN g v := by
      rw [tiesN, List.range_eq_range']
      refine List.map_congr_left fun v _ => ?_
      rw [tieN_cons]
      congr 1
      unfold has
      by_cases a : q.1 = v
      · have b : ¬ q.2 = v := fun b => h3 (a.trans b.symm)
        simp [a, b]
      · by_cases b : q.2 = v
        · simp [a, b]
        · simp [a, b]
    rw [e, val_add (fun v => (if q.1 = v then 1 else 0) + (if q.2 = v then 1 else 0)) (tieN g), val_add (fun v => if q.1 = v then 1 else 0) (fun v => if q.2 = v then 1 else 0), val_unit, val_unit, if_pos (by omega), if_pos (by omega)]
    have e2 : val ((List.range' 0 n).map (tieN g)) = code g := by
      rw [← List.range_eq_range']
      exact ih
    rw [e2]
    show _ = wt q + code g
    rw [wt, Nat.sub_zero, Nat.sub_zero]
theorem val_inj : ∀ {a b : List Nat}, a.length = b.length → (∀ x ∈ a, x < 8) → (∀ x ∈ b, x < 8) → val a = val b → a = b
  | [], [], _, _, _, _ => rfl
  | [], _ :: _, h, _, _, _ => by cases h
  | _ :: _, [], h, _, _, _ => by cases h
  | x :: a, y :: b, hl, ha, hb, h => by
    have h1 := ha x List.mem_cons_self
    have h2 := hb y List.mem_cons_self
    have h3 : x + 8 * val a = y + 8 * val b := h
    have e1 : x = y := by omega
    rw [e1, val_inj (by simpa using hl) (fun z hz => ha z (List.mem_cons_of_mem _ hz)) (fun z hz => hb z (List.mem_cons_of_mem _ hz)) (by omega)]
theorem val_lt : ∀ {a : List Nat}, (∀ x ∈ a, x < 8) → val a < 8 ^ a.length
  | [], _ => by decide
  | x :: a, h => by
    have h1 := h x List.mem_cons_self
    have h2 := val_lt fun z hz => h z (List.mem_cons_of_mem _ hz)
    show x + 8 * val a < 8 ^ (a.length + 1)
    rw [Nat.pow_succ]
    omega
/-! ### five people at most: all of them gone through -/
def digs : Nat → Nat → List Nat
  | 0, _ => []
  | n + 1, c => c % 8 :: digs n (c / 8)
theorem digs_val : ∀ {a : List Nat}, (∀ x ∈ a, x < 8) → digs a.length (val a) = a
  | [], _ => rfl
  | x :: a, h => by
    have h1 := h x List.mem_cons_self
    show (x + 8 * val a) % 8 :: digs a.length ((x + 8 * val a) / 8) = x :: a
    rw [show (x + 8 * val a) % 8 = x by omega, show (x + 8 * val a) / 8 = val a by omega, digs_val fun z hz => h z (List.mem_cons_of_mem _ hz)]
abbrev zi (p : List Nat) : List Int := p.map fun x : Nat => (x : Int)
def chk1 (n : Nat) : Bool := (List.range (8 ^ n)).all fun c => !((bits (prs n)).testBit c) || (wbar (zi (digs n c))).isNone
theorem chk1_1 : chk1 1 = true := by decide +kernel
theorem chk1_2 : chk1 2 = true := by decide +kernel
theorem chk1_3 : chk1 3 = true := by decide +kernel
theorem chk1_4 : chk1 4 = true := by decide +kernel
theorem chk1_5 : chk1 5 = true := by decide +kernel
def allL : Nat → List (List Nat)
  | 0 => [[]]
  | n + 1 => (List.range 5).flatMap fun x => (allL n).map (x :: ·)
theorem mem_allL : ∀ {p : List Nat}, (∀ x ∈ p, x < 5) → p ∈ allL p.length
  | [], _ => List.mem_singleton.mpr rfl
  | x :: p, h => List.mem_flatMap.mpr ⟨x, List.mem_range.mpr (h x List.mem_cons_self), List.mem_map.mpr ⟨p, mem_allL fun y hy => h y (List.mem_cons_of_mem _ hy), rfl⟩⟩
def chk2 (n : Nat) : Bool := (allL n).all fun p => (wbar (zi p)).isSome || (bits (prs n)).testBit (val p)
theorem chk2_1 : chk2 1 = true := by decide +kernel
theorem chk2_2 : chk2 2 = true := by decide +kernel
theorem chk2_3 : chk2 3 = true := by decide +kernel
theorem chk2_4 : chk2 4 = true := by decide +kernel
theorem chk2_5 : chk2 5 = true := by decide +kernel
/-- falling rows of numbers up to b -/
def dsc : Nat → Nat → List (List Nat)
  | 0, _ => [[]]
  | n + 1, b => (List.range (b + 1)).flatMap fun x => (dsc n x).map (x :: ·)
theorem mem_dsc : ∀ {p : List Nat} {b : Nat}, p.Pairwise (· ≥ ·) → (∀ x ∈ p, x ≤ b) → p ∈ dsc p.length b
  | [], b, _, _ => List.mem_singleton.mpr rfl
  | x :: p, b, h, hb => List.mem_flatMap.mpr ⟨x, List.mem_range.mpr (by have := hb x List.mem_cons_self; omega), List.mem_map.mpr ⟨p, mem_dsc (List.pairwise_cons.mp h).2 fun y hy => (List.pairwise_cons.mp h).1 y hy, rfl⟩⟩
def chk3 (n : Nat) : Bool := ((dsc n 4).filter fun e => (wbar (zi e)).isNone).all fun e => (dsc n 4).all fun d => !(decide ((zi d).sum = (zi e).sum) && evn (zi d) (zi e)) || (wbar (zi d)).isNone
theorem chk3_1 : chk3 1 = true := by decide +kernel
theorem chk3_2 : chk3 2 = true := by decide +kernel
theorem chk3_3 : chk3 3 = true := by decide +kernel
theorem chk3_4 : chk3 4 = true := by decide +kernel
theorem chk3_5 : chk3 5 = true := by decide +kernel
end Ev
namespace Ev
open PySem L2
theorem chks {n : Nat} (h1 : 1 ≤ n) (h5 : n ≤ 5) : chk1 n = true ∧ chk2 n = true ∧ chk3 n = true := by
  rcases (show n = 1 ∨ n = 2 ∨ n = 3 ∨ n = 4 ∨ n = 5 by omega) with rfl | rfl | rfl | rfl | rfl
  · exact ⟨chk1_1, chk2_1, chk3_1⟩
  · exact ⟨chk1_2, chk2_2, chk3_2⟩
  · exact ⟨chk1_3, chk2_3, chk3_3⟩
  · exact ⟨chk1_4, chk2_4, chk3_4⟩
  · exact ⟨chk1_5, chk2_5, chk3_5⟩
theorem prs_lt {n : Nat} {q : Pr} (h : q ∈ prs n) : q.1 < q.2 ∧ q.2 < n := by
  obtain ⟨a, ha, h⟩ := List.mem_flatMap.mp h
  obtain ⟨j, hj, rfl⟩ := List.mem_map.mp h
  have := List.mem_range.mp ha
  have := List.mem_range.mp hj
  exact ⟨by show a < a + 1 + j; omega, by show a + 1 + j < n; omega⟩
theorem prs_few {n : Nat} (h5 : n ≤ 5) : (prs n).length ≤ 10 := by
  rcases (show n = 0 ∨ n = 1 ∨ n = 2 ∨ n = 3 ∨ n = 4 ∨ n = 5 by omega) with rfl | rfl | rfl | rfl | rfl | rfl <;> decide
theorem tie_few {n v : Nat} (h5 : n ≤ 5) : tieN (prs n) v < 8 := by
  by_cases hv : v < n
  · rcases (show n = 0 ∨ n = 1 ∨ n = 2 ∨ n = 3 ∨ n = 4 ∨ n = 5 by omega) with rfl | rfl | rfl | rfl | rfl | rfl
    all_goals rcases (show v = 0 ∨ v = 1 ∨ v = 2 ∨ v = 3 ∨ v = 4 by omega) with rfl | rfl | rfl | rfl | rfl
    all_goals decide
  · have : tieN (prs n) v = 0 := by
      unfold tieN
      rw [List.length_eq_zero_iff, List.filter_eq_nil_iff]
      intro q hq
      have := prs_lt hq
      unfold has
      simp
      omega
    omega
theorem ties_zi (n : Nat) (g : List Pr) : tiesL n g = zi (tiesN n g) := by
  rw [zi, tiesN, tiesL, List.map_map]
  rfl
theorem sub_ties {n : Nat} {g : List Pr} (h5 : n ≤ 5) (hs : g.Sublist (prs n)) : ∀ x ∈ tiesN n g, x < 8 := fun x hx => by
  obtain ⟨v, _, rfl⟩ := List.mem_map.mp hx
  have h1 := tie_few (n := n) (v := v) h5
  have h2 := (hs.filter (has v)).length_le
  unfold tieN at *
  omega
theorem subl_ok {n : Nat} {g : List Pr} (hs : g.Sublist (prs n)) : ∀ q ∈ g, q.1 < n ∧ q.2 < n ∧ q.1 ≠ q.2 := fun q hq => by
  have := prs_lt (hs.subset hq)
  omega
theorem eg1 {n : Nat} {g : List Pr} (h1 : 1 ≤ n) (h5 : n ≤ 5) (hs : g.Sublist (prs n)) : wbar (tiesL n g) = none := by
  have hlt := sub_ties h5 hs
  have e := val_ties (n := n) (subl_ok hs)
  have b := bits_in hs
  have hl : (tiesN n g).length = n := by simp [tiesN]
  have hc : code g < 8 ^ n := by
    rw [← e]
    have := val_lt hlt
    rwa [hl] at this
  have z := List.all_eq_true.mp (chks h1 h5).1 (code g) (List.mem_range.mpr hc)
  rw [b, Bool.not_true, Bool.false_or, Option.isNone_iff_eq_none] at z
  have d := digs_val hlt
  rw [hl, e] at d
  rw [d] at z
  rw [ties_zi]
  exact z
theorem zi_of {p : List Int} (hp : ∀ x ∈ p, 0 ≤ x) : p = zi (p.map Int.toNat) := by
  rw [zi, List.map_map]
  conv => lhs; rw [← List.map_id p]
  refine List.map_congr_left fun x hx => ?_
  have := hp x hx
  simp only [id, Function.comp]
  omega
theorem eg2 {n : Nat} {p : List Int} (h1 : 1 ≤ n) (h5 : n ≤ 5) (hp : ∀ x ∈ p, 0 ≤ x) (hl : p.length = n) (h : wbar p = none) : ∃ g, g.Sublist (prs n) ∧ tiesL n g = p := by
  have sm := wbar_small h
  have ez := zi_of hp
  have hlt : ∀ x ∈ p.map Int.toNat, x < 5 := fun x hx => by
    obtain ⟨y, hy, rfl⟩ := List.mem_map.mp hx
    have := sm y hy
    have := hp y hy
    omega
  have hm := mem_allL hlt
  rw [List.length_map, hl] at hm
  have z := List.all_eq_true.mp (chks h1 h5).2.1 _ hm
  rw [← ez, h] at z
  have z' : (bits (prs n)).testBit (val (p.map Int.toNat)) = true := by simpa using z
  obtain ⟨g, hs, hc⟩ := bits_out _ _ z'
  refine ⟨g, hs, ?_⟩
  have e := val_ties (n := n) (subl_ok hs)
  have e2 : tiesN n g = p.map Int.toNat := val_inj (by simp [tiesN, hl]) (sub_ties h5 hs) (fun x hx => by have := hlt x hx; omega) (e.trans hc)
  rw [ties_zi, e2, ← ez]
theorem fl_fl (p : List Int) : fl (fl p) = fl p := (sortR_is (List.Perm.refl _) (List.pairwise_reverse.mpr (sortI_sorted p))).symm
theorem eg3 {n : Nat} {d e : List Int} (h1 : 1 ≤ n) (h5 : n ≤ 5) (hd : ∀ x ∈ d, 0 ≤ x) (he : ∀ x ∈ e, 0 ≤ x) (ld : d.length = n) (le : e.length = n) (hs : d.sum = e.sum) (hev : evn d e = true) (h : wbar e = none) : wbar d = none := by
  have sme : ∀ x ∈ e, x ≤ 4 := fun x hx => by have := wbar_small h x hx; omega
  have smd : ∀ x ∈ d, x ≤ 4 := lo_top ((evn_lo hd he (by omega)).mp hev) sme
  have key : ∀ p : List Int, (∀ x ∈ p, 0 ≤ x) → (∀ x ∈ p, x ≤ 4) → p.length = n → ∃ q, q ∈ dsc n 4 ∧ zi q = fl p := fun p hp hq hl => by
    have hp' : ∀ x ∈ fl p, 0 ≤ x := fun x hx => hp x (fl_mem.mp hx)
    refine ⟨(fl p).map Int.toNat, ?_, (zi_of hp').symm⟩
    have hpw : (fl p).Pairwise (· ≥ ·) := List.pairwise_reverse.mpr (sortI_sorted p)
    have := mem_dsc (p := (fl p).map Int.toNat) (b := 4) (List.pairwise_map.mpr (hpw.imp fun {a b} h => by show b.toNat ≤ a.toNat; omega)) (fun x hx => by
      obtain ⟨y, hy, rfl⟩ := List.mem_map.mp hx
      have := hq y (fl_mem.mp hy)
      omega)
    rwa [List.length_map, fl_len, hl] at this
  obtain ⟨qd, md, ed⟩ := key d hd smd ld
  obtain ⟨qe, me, ee⟩ := key e he sme le
  have z := List.all_eq_true.mp (List.all_eq_true.mp (chks h1 h5).2.2 qe (List.mem_filter.mpr ⟨me, by rw [ee, wbar_fl, h]; rfl⟩)) qd md
  rw [ed, ee, wbar_fl] at z
  have e1 : evn (fl d) (fl e) = true := by
    unfold evn at hev ⊢
    rw [fl_fl, fl_fl, fl_len]
    exact hev
  rw [fl_sum, fl_sum, hs, e1] at z
  simpa using z
/-! ### the webs, gone through -/
def stepW (n : Nat) (p : List Int) (gs : List (List Pr)) (q : Pr) : List (List Pr) :=
  if q.2 + 1 = n then (gs.flatMap fun g => if (tieN g q.1 : Int) < p.getD q.1 0 ∧ (tieN g q.2 : Int) < p.getD q.2 0 then [g, g ++ [q]] else [g]).filter fun g => decide ((tieN g q.1 : Int) = p.getD q.1 0)
  else gs.flatMap fun g => if (tieN g q.1 : Int) < p.getD q.1 0 ∧ (tieN g q.2 : Int) < p.getD q.2 0 then [g, g ++ [q]] else [g]
def webs0 (n : Nat) (p : List Int) : List (List Pr) := (prs n).foldl (stepW n p) [[]]
def websL (n : Nat) (p : List Int) : List (List Pr) := (webs0 n p).filter fun g => decide (tiesL n g = p)
theorem mem_ext {p : List Int} {gs : List (List Pr)} {q : Pr} {x : List Pr} : x ∈ (gs.flatMap fun g => if (tieN g q.1 : Int) < p.getD q.1 0 ∧ (tieN g q.2 : Int) < p.getD q.2 0 then [g, g ++ [q]] else [g]) ↔
    x ∈ gs ∨ ∃ g ∈ gs, x = g ++ [q] ∧ (tieN g q.1 : Int) < p.getD q.1 0 ∧ (tieN g q.2 : Int) < p.getD q.2 0 := by
  rw [List.mem_flatMap]
  constructor
  · rintro ⟨g, hg, hx⟩
    split at hx
    · rename_i c
      rcases List.mem_cons.mp hx with e | hx
      · exact .inl (by rw [e]; exact hg)
      · exact .inr ⟨g, hg, List.mem_singleton.mp hx, c⟩
    · exact .inl (by rw [List.mem_singleton.mp hx]; exact hg)
  · rintro (h | ⟨g, hg, e, c⟩)
    · refine ⟨x, h, ?_⟩
      split
      · exact List.mem_cons_self
      · exact List.mem_cons_self
    · refine ⟨g, hg, ?_⟩
      rw [if_pos c, e]
      exact List.mem_cons_of_mem _ List.mem_cons_self
theorem webs_sound {n : Nat} {p : List Int} : ∀ (rest : List Pr) (gs : List (List Pr)) (x : List Pr), x ∈ rest.foldl (stepW n p) gs → ∃ h ∈ gs, ∃ g, g.Sublist rest ∧ x = h ++ g
  | [], gs, x, hx => ⟨x, hx, [], List.Sublist.slnil, (List.append_nil x).symm⟩
  | q :: rest, gs, x, hx => by
    obtain ⟨h, hh, g, hs, e⟩ := webs_sound rest _ x hx
    have hh' : h ∈ (gs.flatMap fun g => if (tieN g q.1 : Int) < p.getD q.1 0 ∧ (tieN g q.2 : Int) < p.getD q.2 0 then [g, g ++ [q]] else [g]) := by
      unfold stepW at hh
      split at hh
      · exact (List.mem_filter.mp hh).1
      · exact hh
    rcases mem_ext.mp hh' with h1 | ⟨k, hk, e2, _⟩
    · exact ⟨h, h1, g, hs.cons q, e⟩
    · exact ⟨k, hk, q :: g, hs.cons_cons q, by rw [e, e2, List.append_assoc]; rfl⟩
/-- behind a row's last pair its first one comes no more -/
def Rl (n : Nat) (q r : Pr) : Prop := q.2 + 1 = n → r.1 ≠ q.1 ∧ r.2 ≠ q.1
instance (n : Nat) (q r : Pr) : Decidable (Rl n q r) := by unfold Rl; infer_instance
theorem prs_rl {n : Nat} (h5 : n ≤ 5) : (prs n).Pairwise (Rl n) := by
  rcases (show n = 0 ∨ n = 1 ∨ n = 2 ∨ n = 3 ∨ n = 4 ∨ n = 5 by omega) with rfl | rfl | rfl | rfl | rfl | rfl <;> decide
theorem tieN_none {g : List Pr} {v : Nat} (h : ∀ r ∈ g, r.1 ≠ v ∧ r.2 ≠ v) : tieN g v = 0 := by
  unfold tieN
  rw [List.length_eq_zero_iff, List.filter_eq_nil_iff]
  intro r hr
  have := h r hr
  unfold has
  simp
  exact this
theorem webs_compl {n : Nat} {p : List Int} : ∀ (rest : List Pr) (gs : List (List Pr)) (h g : List Pr), rest.Pairwise (Rl n) → (∀ q ∈ rest, q.1 < q.2 ∧ q.2 < n) → h ∈ gs → g.Sublist rest → (∀ v, v < n → (tieN (h ++ g) v : Int) = p.getD v 0) → h ++ g ∈ rest.foldl (stepW n p) gs
  | [], gs, h, g, _, _, hh, hs, _ => by
    rw [List.sublist_nil.mp hs, List.append_nil]
    exact hh
  | q :: rest, gs, h, g, hr, hlt, hh, hs, ht => by
    obtain ⟨r1, r2⟩ := List.pairwise_cons.mp hr
    obtain ⟨q1, q2⟩ := hlt q List.mem_cons_self
    have hlt' : ∀ q ∈ rest, q.1 < q.2 ∧ q.2 < n := fun q hq => hlt q (List.mem_cons_of_mem _ hq)
    have step : ∀ k : List Pr, ∀ g' : List Pr, g'.Sublist rest → k ++ g' = h ++ g → k ∈ (gs.flatMap fun g => if (tieN g q.1 : Int) < p.getD q.1 0 ∧ (tieN g q.2 : Int) < p.getD q.2 0 then [g, g ++ [q]] else [g]) → k ++ g' ∈ (q :: rest).foldl (stepW n p) gs := fun k g' hs' e hk => by
      rw [List.foldl_cons]
      refine webs_compl rest _ k g' r2 hlt' ?_ hs' (by rw [e]; exact ht)
      unfold stepW
      split
      · rename_i c
        refine List.mem_filter.mpr ⟨hk, decide_eq_true ?_⟩
        have t := ht q.1 (by omega)
        rw [← e, tieN_app, tieN_none (g := g') (fun r hr => r1 r (hs'.subset hr) c), Nat.add_zero] at t
        exact t
      · exact hk
    cases hs with
    | cons _ hs' =>
      refine step h g hs' rfl (mem_ext.mpr (.inl hh))
    | cons_cons _ hs' =>
      rename_i g'
      have e : (h ++ [q]) ++ g' = h ++ q :: g' := by rw [List.append_assoc]; rfl
      rw [← e]
      refine step (h ++ [q]) g' hs' e (mem_ext.mpr (.inr ⟨h, hh, rfl, ?_, ?_⟩))
      · have t := ht q.1 (by omega)
        rw [tieN_app, tieN_cons, if_pos (by unfold has; simp)] at t
        omega
      · have t := ht q.2 (by omega)
        rw [tieN_app, tieN_cons, if_pos (by unfold has; simp)] at t
        omega
theorem websL_sub {n : Nat} {p : List Int} {g : List Pr} (h : g ∈ websL n p) : g.Sublist (prs n) ∧ tiesL n g = p := by
  obtain ⟨h1, h2⟩ := List.mem_filter.mp h
  obtain ⟨k, hk, g', hs, e⟩ := webs_sound _ _ _ h1
  rw [List.mem_singleton.mp hk, List.nil_append] at e
  rw [e]
  rw [e] at h2
  exact ⟨hs, of_decide_eq_true h2⟩
theorem websL_all {n : Nat} {p : List Int} {g : List Pr} (h5 : n ≤ 5) (hs : g.Sublist (prs n)) (h : tiesL n g = p) : g ∈ websL n p := by
  refine List.mem_filter.mpr ⟨?_, decide_eq_true h⟩
  have := webs_compl (n := n) (p := p) (prs n) [[]] [] g (prs_rl h5) (fun q hq => prs_lt hq) (List.mem_singleton.mpr rfl) hs fun v hv => by
    rw [List.nil_append, ← h, tiesL_get hv]
  exact this
/-- there is a web just where the greatest ones are not too much -/
theorem webs_iff {n : Nat} {p : List Int} (h1 : 1 ≤ n) (h5 : n ≤ 5) (hp : ∀ x ∈ p, 0 ≤ x) (hl : p.length = n) : (websL n p).isEmpty = (wbar p).isSome := by
  cases e : wbar p with
  | none =>
    obtain ⟨g, hs, ht⟩ := eg2 h1 h5 hp hl e
    have := websL_all h5 hs ht
    cases q : websL n p with
    | nil => rw [q] at this; cases this
    | cons _ _ => rfl
  | some k =>
    cases q : websL n p with
    | nil => rfl
    | cons g r =>
      obtain ⟨hs, ht⟩ := websL_sub (n := n) (p := p) (g := g) (by rw [q]; exact List.mem_cons_self)
      have := eg1 h1 h5 hs
      rw [ht, e] at this
      cases this
theorem ext_len {p : List Int} {gs : List (List Pr)} {q : Pr} : (gs.flatMap fun g => if (tieN g q.1 : Int) < p.getD q.1 0 ∧ (tieN g q.2 : Int) < p.getD q.2 0 then [g, g ++ [q]] else [g]).length ≤ 2 * gs.length := by
  induction gs with
  | nil => simp
  | cons g gs ih =>
    rw [List.flatMap_cons, List.length_append, List.length_cons]
    split <;> (simp only [List.length_cons, List.length_nil]; omega)
theorem step_len {n : Nat} {p : List Int} {gs : List (List Pr)} {q : Pr} : (stepW n p gs q).length ≤ 2 * gs.length := by
  unfold stepW
  split
  · exact Nat.le_trans (List.length_filter_le _ _) ext_len
  · exact ext_len
theorem fold_len {n : Nat} {p : List Int} : ∀ (rest : List Pr) (gs : List (List Pr)), (rest.foldl (stepW n p) gs).length ≤ 2 ^ rest.length * gs.length
  | [], gs => by simp
  | q :: rest, gs => by
    rw [List.foldl_cons]
    refine Nat.le_trans (fold_len rest _) ?_
    have := step_len (n := n) (p := p) (gs := gs) (q := q)
    rw [List.length_cons, Nat.pow_succ, Nat.mul_assoc]
    exact Nat.mul_le_mul_left _ this
/-- one web at most, or none without ties -/
theorem webs_one {n : Nat} {p : List Int} (hl : p.length = n) : (websL n p).length ≤ 1 ∨ ∀ g ∈ websL n p, g ≠ [] := by
  by_cases h : [] ∈ websL n p
  · refine .inl (Nat.le_trans (List.length_filter_le _ _) ?_)
    obtain ⟨_, ht⟩ := websL_sub h
    have hz : ∀ v, p.getD v 0 = 0 := fun v => by
      by_cases hv : v < n
      · rw [← ht, tiesL_get hv]
        rfl
      · rw [List.getD_eq_getElem?_getD, List.getElem?_eq_none (by omega)]
        rfl
    have key : ∀ (rest : List Pr) (gs : List (List Pr)), (rest.foldl (stepW n p) gs).length ≤ gs.length := fun rest => by
      induction rest with
      | nil => exact fun gs => Nat.le_refl _
      | cons q rest ih =>
        intro gs
        rw [List.foldl_cons]
        refine Nat.le_trans (ih _) ?_
        have e : (gs.flatMap fun g => if (tieN g q.1 : Int) < p.getD q.1 0 ∧ (tieN g q.2 : Int) < p.getD q.2 0 then [g, g ++ [q]] else [g]).length ≤ gs.length := by
          clear ih h ht
          induction gs with
          | nil => simp
          | cons g gs ih =>
            rw [List.flatMap_cons, List.length_append, List.length_cons, if_neg (by rw [hz]; omega)]
            simp only [List.length_cons, List.length_nil]
            omega
        unfold stepW
        split
        · exact Nat.le_trans (List.length_filter_le _ _) e
        · exact e
    exact key (prs n) [[]]
  · exact .inr fun g hg e => h (by rw [← e]; exact hg)
end Ev
namespace Ev
open PySem
/-! ### more of rows, for the laws to come -/
theorem slice_tpd {xs : List Int} {k : Nat} {M : Mem} : sliceD M (tp xs) (some (k : Int)) none none = .ok (tp (xs.drop k)) M := by
  show R.ok (D.tup (cutD (xs.map D.int) (some (k : Int)) none)) M = _
  rw [cut_drop, ← List.map_drop]
theorem min2 {i j : Int} {M : Mem} : blt .min [.int i, .int j] M = .ok (.int (if j < i then j else i)) M := rfl
theorem min_is (x k : Int) : (if k < x then k else x) = min x k := by
  rw [Int.min_def]
  split <;> split <;> omega
theorem mins_D (l : List Int) (k : Int) : (l.map fun x => D.int (if k < x then k else x)) = (l.map fun x => min x k).map D.int := by
  rw [List.map_map]
  refine List.map_congr_left fun x _ => ?_
  rw [min_is]
  rfl
theorem minD_new {ns : List Int} {M : Mem} : blt .minD [.loc M.length] (M ++ [.lst (ns.map D.int)]) = .ok (match leastOf ns with | some i => .int i | none => .non) (M ++ [.lst (ns.map D.int)]) := by
  show (match (lstAt _ M.length).bind intsOf with | some ns => R.ok (match leastOf ns with | some i => D.int i | none => .non) _ | none => minL _ _) = _
  rw [lstAt_new, Option.bind_some, intsOf_map]
theorem find_if {α β : Type} (c : α → Bool) (f : α → β) : ∀ l : List α, l.findSome? (fun x => if c x = true then some (f x) else none) = (l.find? c).map f
  | [] => rfl
  | x :: l => by
    rw [List.findSome?_cons, List.find?_cons]
    cases h : c x with
    | true => rfl
    | false =>
      show l.findSome? _ = _
      exact find_if c f l
theorem src_of {M : Mem} {l : Nat} {xs : List D} (h : M[l]? = some (.lst xs)) : srcOf M (.loc l) = some (.lst l xs.length) := by
  show (lstAt M l).map (fun xs => Src.lst l xs.length) = _
  rw [lstAt_lst h, Option.map_some]
theorem slice_at {M : Mem} {l : Nat} {xs : List Int} {k : Nat} (h : M[l]? = some (.lst (xs.map D.int))) : sliceD M (.loc l) none (some (k : Int)) none = .ok (.loc M.length) (M ++ [.lst ((xs.take k).map D.int)]) := by
  rw [slice_loc (lstAt_lst h), cut_take, List.map_take]
theorem slice_atd {M : Mem} {l : Nat} {xs : List Int} {k : Nat} (h : M[l]? = some (.lst (xs.map D.int))) : sliceD M (.loc l) (some (k : Int)) none none = .ok (.loc M.length) (M ++ [.lst ((xs.drop k).map D.int)]) := by
  rw [slice_loc (lstAt_lst h), cut_drop, List.map_drop]
def optD : Option Nat → D
  | none => .non
  | some k => .int (k : Int)
theorem Gr.setN {M M' : Mem} {l : Nat} {c : Cell} (a : Gr M M') (h : M.length ≤ l) : Gr M (M'.set l c) := by
  obtain ⟨Z, rfl⟩ := a
  rw [List.set_append_right _ _ h]
  exact ⟨_, rfl⟩
theorem append_at {M : Mem} {l : Nat} {xs : List D} {x : D} (h : M[l]? = some (.lst xs)) (hl : xs.length < line) : mtd .append (.loc l) [x] M = .ok .non (M.set l (.lst (xs ++ [x]))) := by
  show (match mutAt M l with | some xs => if xs.length < line then R.ok D.non (M.set l (.lst (xs ++ [x]))) else .bad | none => .bad) = _
  rw [mutAt_lst h]
  dsimp only
  rw [if_pos hl]
theorem add_at {M : Mem} {l k : Nat} {xs ys : List D} (h1 : M[l]? = some (.lst xs)) (h2 : M[k]? = some (.lst ys)) (hl : xs.length + ys.length ≤ line) : op2 .add (.loc l) (.loc k) M = .ok (.loc M.length) (M ++ [.lst (xs ++ ys)]) := by
  show (match mutAt M l, mutAt M k with
    | some a, some b => newS (a ++ b) M
    | _, _ => R.bad) = _
  rw [mutAt_lst h1, mutAt_lst h2]
  dsimp only
  unfold newS
  rw [if_pos (by rw [List.length_append]; exact hl)]
  rfl
abbrev pairD (q : Pr) : D := .tup [.int (q.1 : Int), .int (q.2 : Int)]
abbrev webD (g : List Pr) : D := .tup (g.map pairD)
def prow (n a : Nat) : List Pr := (List.range (n - 1 - a)).map fun j => (a, a + 1 + j)
theorem isin_pair {v : Nat} {q : Pr} {M : Mem} : op2 .isin (.int (v : Int)) (pairD q) M = .ok (.bl (has v q)) M := by
  have e : op2 .isin (.int (v : Int)) (pairD q) M = .ok (.bl (PyData.eqv (.int (q.1 : Int)) (.int (v : Int)) || (PyData.eqv (.int (q.2 : Int)) (.int (v : Int)) || false))) M := rfl
  rw [e, Bool.or_false]
  unfold has
  have e1 : ∀ a : Nat, PyData.eqv (.int (a : Int)) (.int (v : Int)) = decide (a = v) := fun a => by
    show decide (((a : Nat) : Int) = (v : Int)) = decide (a = v)
    rw [decide_eq_decide]
    omega
  rw [e1, e1]
/-- data as a row, in memory or by value -/
def Row (M : Mem) (v : D) (xs : List D) : Prop := v = .tup xs ∨ ∃ l, v = .loc l ∧ M[l]? = some (.lst xs)
theorem Row.gr {M M' : Mem} {v : D} {xs : List D} (h : Row M v xs) (g : Gr M M') : Row M' v xs := by
  rcases h with e | ⟨l, e, c⟩
  · exact .inl e
  · exact .inr ⟨l, e, g.cell c⟩
def extW (p : List Int) (q : Pr) (g : List Pr) : List (List Pr) := if (tieN g q.1 : Int) < p.getD q.1 0 ∧ (tieN g q.2 : Int) < p.getD q.2 0 then [g, g ++ [q]] else [g]
theorem stepW_ext (n : Nat) (p : List Int) (gs : List (List Pr)) (q : Pr) : stepW n p gs q = if q.2 + 1 = n then (gs.flatMap (extW p q)).filter fun g => decide ((tieN g q.1 : Int) = p.getD q.1 0) else gs.flatMap (extW p q) := rfl
theorem ext_bound {p : List Int} {q : Pr} : ∀ gs : List (List Pr), (gs.flatMap (extW p q)).length ≤ 2 * gs.length := fun gs => ext_len
theorem addW {M : Mem} {g : List Pr} {q : Pr} (h : g.length ≤ 100) : op2 .add (webD g) (.tup [pairD q]) M = .ok (webD (g ++ [q])) M := by
  show (if (g.map pairD).length + 1 ≤ line then R.ok (D.tup (g.map pairD ++ [pairD q])) M else .bad) = _
  rw [if_pos (by rw [List.length_map, line]; omega)]
  show R.ok (D.tup (g.map pairD ++ [q].map pairD)) M = _
  rw [← List.map_append]
theorem item_ties {m v : Nat} {g : List Pr} {M : Mem} (h : v < m) : itemAt M (tp (tiesL m g)) (.int (v : Int)) = .ok (.int (tieN g v : Int)) M := by
  rw [item_ints (by rw [tiesL_len]; exact h), tiesL_get h]
theorem toPy_tp {M : Mem} (k : Nat) (a : List Int) : toPy (k + 2) M (tp a) = some (.tuple (a.map PyData.int)) := by
  show (optAll ((a.map D.int).map (toPy (k + 1) M))).map PyData.tuple = _
  rw [optAll_k (toPy (k + 1) M) D.int PyData.int (fun i => rfl) a] <;> rfl
theorem eq_tp {a b : List Int} {M : Mem} : op2 .eq (tp a) (tp b) M = .ok (.bl (decide (a = b))) M := by
  show R.ofO ((pyEqD M (tp a) (tp b)).map D.bl) M = _
  unfold pyEqD
  rw [toPy_tp, toPy_tp]
  show R.ok (D.bl (PyData.eqvAll (a.map PyData.int) (b.map PyData.int))) M = _
  rw [PySem.W.ked_eqvAll]
theorem ne_tp {a b : List Int} {M : Mem} : op2 .ne (tp a) (tp b) M = .ok (.bl (!decide (a = b))) M := by
  show R.ofO ((pyEqD M (tp a) (tp b)).map fun b => D.bl (!b)) M = _
  unfold pyEqD
  rw [toPy_tp, toPy_tp]
  show R.ok (D.bl (!PyData.eqvAll (a.map PyData.int) (b.map PyData.int))) M = _
  rw [PySem.W.ked_eqvAll]
abbrev pairP (q : Pr) : PyData := .tuple [.int (q.1 : Int), .int (q.2 : Int)]
abbrev webP (g : List Pr) : PyData := .tuple (g.map pairP)
theorem toPy_web {M : Mem} (k : Nat) (g : List Pr) : toPy (k + 3) M (webD g) = some (webP g) := by
  show (optAll ((g.map pairD).map (toPy (k + 2) M))).map PyData.tuple = _
  rw [optAll_k (toPy (k + 2) M) pairD pairP (fun i => rfl) g] <;> rfl
theorem toPy_webs {M : Mem} (k : Nat) (L : List (List Pr)) : optAll ((L.map webD).map (toPy (k + 3) M)) = some (L.map webP) :=
  optAll_k (toPy (k + 3) M) webD webP (fun g => toPy_web k g) L
theorem alike_pairs : ∀ a b : List Pr, PySem.W.alikeAll (a.map pairP) (b.map pairP) = true
  | [], [] => by simp [PySem.W.alikeAll]
  | [], _ :: _ => by simp [PySem.W.alikeAll]
  | _ :: _, [] => by simp [PySem.W.alikeAll]
  | x :: a, y :: b => by
    rw [List.map_cons, List.map_cons, PySem.W.alikeAll, alike_pairs a b]
    simp [pairP, PySem.W.alike, PySem.W.alikeAll]
theorem alike_web (a b : List Pr) : PySem.W.alike (webP a) (webP b) = true := by
  rw [PySem.W.alike]
  exact alike_pairs a b
def wle (a b : List Pr) : Bool := dLe (webD a, webP a) (webD b, webP b)
def sortW (L : List (List Pr)) : List (List Pr) := if L.length ≤ 1 then L else L.mergeSort wle
theorem sortW_perm (L : List (List Pr)) : (sortW L).Perm L := by
  unfold sortW
  split
  · exact List.Perm.refl _
  · exact List.mergeSort_perm _ _
theorem zip_self {α β γ : Type} (f : α → β) (g : α → γ) : ∀ L : List α, (L.map f).zip (L.map g) = L.map fun x => (f x, g x)
  | [] => rfl
  | x :: L => by rw [List.map_cons, List.map_cons, List.zip_cons_cons, zip_self f g L] <;> rfl
theorem sorted_webs {M : Mem} {l : Nat} {L : List (List Pr)} (h : M[l]? = some (.lst (L.map webD))) (h1 : L.length ≤ 1 ∨ ∀ g ∈ L, g ≠ []) : blt .sorted [.loc l] M = .ok (.loc M.length) (M ++ [.lst ((sortW L).map webD)]) := by
  have eL : (lstAt M l) = some (L.map webD) := lstAt_lst h
  cases L with
  | nil =>
    show (match (lstAt M l).bind intsOf with | some ns => new ((sortI ns).map .int) M | none => sortL M (.loc l)) = _
    rw [eL]
    rfl
  | cons g r =>
    show (match (lstAt M l).bind intsOf with | some ns => new ((sortI ns).map .int) M | none => sortL M (.loc l)) = _
    rw [eL]
    show sortL M (.loc l) = _
    show (match (lstAt M l).bind (sortD M) with | some ys => new ys M | none => .bad) = _
    rw [eL]
    show (match sortD M ((g :: r).map webD) with | some ys => new ys M | none => .bad) = _
    generalize hL : g :: r = L at *
    unfold sortD sortW
    by_cases hl : L.length ≤ 1
    · rw [if_pos (by rw [List.length_map]; exact hl), if_pos hl] <;> rfl
    · rw [if_neg (by rw [List.length_map]; exact hl), if_neg hl, toPy_webs 27 L]
      have hne := h1.resolve_left hl
      dsimp only
      rw [if_pos, zip_self]
      · dsimp only
        have e := List.map_mergeSort (r := wle) (s := dLe) (f := fun g => (webD g, webP g)) (l := L) fun _ _ _ _ => rfl
        rw [← e, List.map_map]
        rfl
      · rw [Bool.and_eq_true, Bool.or_eq_true]
        refine ⟨?_, .inl ?_⟩
        · rw [List.all_eq_true]
          intro a ha
          rw [List.all_eq_true]
          intro b hb
          obtain ⟨u, _, rfl⟩ := List.mem_map.mp ha
          obtain ⟨w, _, rfl⟩ := List.mem_map.mp hb
          exact alike_web u w
        · rw [List.all_eq_true]
          intro a ha
          obtain ⟨u, hu, rfl⟩ := List.mem_map.mp ha
          have := hne u hu
          cases u with
          | nil => exact absurd rfl this
          | cons _ _ => rfl
theorem ne_webs {M : Mem} {a b : Nat} {L : List (List Pr)} (h1 : M[a]? = some (.lst (L.map webD))) (h2 : M[b]? = some (.lst [])) : op2 .ne (.loc a) (.loc b) M = .ok (.bl (!L.isEmpty)) M := by
  have e2 : toPy 30 M (.loc a) = some (.list (L.map webP)) := by
    show (match lstAt M a with | some xs => (optAll (xs.map (toPy 29 M))).map PyData.list | none => none) = _
    rw [lstAt_lst h1]
    dsimp only
    rw [toPy_webs 26 L] <;> rfl
  have e3 : toPy 30 M (.loc b) = some (.list []) := by
    show (match lstAt M b with | some xs => (optAll (xs.map (toPy 29 M))).map PyData.list | none => none) = _
    rw [lstAt_lst h2]
    rfl
  show R.ofO ((pyEqD M (.loc a) (.loc b)).map fun b => D.bl (!b)) M = _
  unfold pyEqD
  rw [e2, e3]
  cases L <;> rfl
theorem W_fore {α : Type} {C : Cfg} {t : T} {it : I} {b : Ss} {σ : Sl} {M0 : Mem} {ps : List α} {fm : α → D} (RR : Sl → Mem → Prop)
    (hi : W (evI C it σ M0) fun src M => ∃ (J : Mem → Prop) (I0 : Nat → Sl → Mem → Prop), Walks src ps fm J ∧ I0 0 σ M ∧ (∀ i σ M, I0 i σ M → J M) ∧ (∀ σ M', I0 ps.length σ M' → RR σ M') ∧
      ∀ M i a σ, ps[i]? = some a → I0 i σ M → W ((asg C t (fm a) σ M).bind fun σ M => exs C b σ M) fun fl M' => ∃ σ', (fl = .nx σ' ∨ fl = .ct σ') ∧ I0 (i + 1) σ' M') :
    W (ex C (.for_ t it b) σ M0) fun fl M' => ∃ σ', fl = .nx σ' ∧ RR σ' M' :=
  hi.bind fun _ _ ⟨_, I0, wk, h0, hJ, hr, st⟩ => (W_for0 I0 wk h0 hJ st).mono fun fl M' ⟨σ', e, q⟩ => ⟨σ', e, hr _ _ q⟩
/-- one statement after the other -/
theorem W_seq {C : Cfg} {s : Ev.S} {r : Ss} {σ : Sl} {M : Mem} {P : Sl → Mem → Prop} {Q : D → Mem → Prop} (h : W (ex C s σ M) fun fl M' => ∃ σ', fl = .nx σ' ∧ P σ' M') (g : ∀ σ' M', P σ' M' → W ((exs C r σ' M').bind fin) Q) : W ((exs C (.cons s r) σ M).bind fin) Q := by
  rw [q_then, Ev.bind_assoc]
  refine h.bind fun fl M' ⟨σ', e, p⟩ => ?_
  subst e
  exact g σ' M' p
theorem W_compe {α : Type} {C : Cfg} {e : E} {t : T} {it : I} {c : Cd} {own : List Nat} {σ : Sl} {M0 : Mem} {ps : List α} {fm : α → D} (RR : List D → Mem → Prop) (hn : ps.length ≤ line)
    (hi : W (evI C it σ M0) fun src M => ∃ (J : Mem → Prop) (I0 : Nat → List D → Prop), Walks src ps fm J ∧ J M ∧ I0 0 [] ∧ (∀ i acc, I0 i acc → acc.length ≤ i) ∧ (∀ M1 xs, J M1 → I0 ps.length xs → RR xs M1) ∧
      ∀ M i a acc, ps[i]? = some a → J M → I0 i acc → acc.length < line → W (stepD C e t c own σ (fm a) acc M) fun acc' M' => J M' ∧ I0 (i + 1) acc') :
    W (ev C (.comp e t it c own) σ M0) fun v M' => ∃ M1 xs, RR xs M1 ∧ v = .loc M1.length ∧ M' = M1 ++ [.lst xs] :=
  hi.bind fun src M ⟨J, I0, wk, hj, h0, hl, hr, st⟩ => (W_comp0 I0 wk hj h0 hn hl st).mono fun v M' ⟨M1, xs, q1, q2, q3, q4⟩ => ⟨M1, xs, hr _ _ q1 q4, q2, q3⟩
theorem list_tp {xs : List Int} {M : Mem} : blt .list [tp xs] M = .ok (.loc M.length) (M ++ [.lst (xs.map D.int)]) := rfl
theorem getD_mem {xs : List Int} {k : Nat} (h : k < xs.length) : xs.getD k 0 ∈ xs := by
  rw [List.getD_eq_getElem?_getD, List.getElem?_eq_getElem h]
  exact List.getElem_mem h
end Ev
namespace Ev
open PySem L2
/-! ### the webs as the program goes through them -/
theorem pairs_prs (n : Nat) : pairsN n = prs n := rfl
def needL (n : Nat) (p : List Int) (w : List Pr) : List Int := (List.range n).map fun v => p.getD v 0 - (tieN w v : Int)
theorem needL_len (n : Nat) (p : List Int) (w : List Pr) : (needL n p w).length = n := by simp [needL]
theorem needL_nil {p : List Int} : needL p.length p [] = p := by
  refine List.ext_getElem? fun i => ?_
  rw [needL, List.getElem?_map]
  by_cases hi : i < p.length
  · rw [List.getElem?_range hi, Option.map_some, List.getElem?_eq_getElem hi, List.getD_eq_getElem?_getD, List.getElem?_eq_getElem hi]
    show some (p[i] - ((0 : Nat) : Int)) = _
    congr 1
    omega
  · rw [List.getElem?_eq_none (by rw [List.length_range]; omega), List.getElem?_eq_none (by omega)]
    rfl
def lessL (nd : List Int) (q : Pr) : List Int := nd.zipIdx.map fun x => x.1 - (if has x.2 q = true then 1 else 0)
theorem less_need (n : Nat) (p : List Int) (w : List Pr) (q : Pr) : lessL (needL n p w) q = needL n p (w ++ [q]) := by
  refine List.ext_getElem? fun i => ?_
  rw [lessL, List.getElem?_map, List.getElem?_zipIdx, needL, List.getElem?_map, needL, List.getElem?_map]
  by_cases hi : i < n
  · rw [List.getElem?_range hi]
    simp only [Option.map_some, Nat.zero_add]
    rw [tieN_app, tieN_one]
    congr 1
    split <;> omega
  · rw [List.getElem?_eq_none (by rw [List.length_range]; omega)]
    rfl
def canL (nd rest : List Int) : Bool := (nd.zip rest).all fun x => decide (0 ≤ x.1) && decide (x.1 ≤ x.2)
theorem canL_of {n : Nat} {p : List Int} {w rest : List Pr} (h : ∀ v, v < n → 0 ≤ p.getD v 0 - (tieN w v : Int) ∧ p.getD v 0 - (tieN w v : Int) ≤ (tieN rest v : Int)) : canL (needL n p w) (tiesL n rest) = true := by
  unfold canL
  rw [List.all_eq_true]
  intro x hx
  obtain ⟨i, hi⟩ := List.mem_iff_getElem?.mp hx
  obtain ⟨e1, e2⟩ := List.getElem?_zip_eq_some.mp hi
  rw [needL, List.getElem?_map] at e1
  rw [tiesL, List.getElem?_map] at e2
  by_cases hn : i < n
  · rw [List.getElem?_range hn] at e1 e2
    have f1 := Option.some.inj e1
    have f2 := Option.some.inj e2
    have := h i hn
    rw [← f1, ← f2, Bool.and_eq_true, decide_eq_true_eq, decide_eq_true_eq]
    exact this
  · rw [List.getElem?_eq_none (by rw [List.length_range]; omega)] at e1
    cases e1
def stepP (n : Nat) (p : List Int) (rest : List Pr) (gs : List (List Pr)) (q : Pr) : List (List Pr) := gs.flatMap fun g => [g ++ [q], g].filter fun h => canL (needL n p h) (tiesL n rest)
def goP (n : Nat) (p : List Int) : List Pr → List (List Pr) → List (List Pr)
  | [], gs => gs
  | q :: rest, gs => goP n p rest (stepP n p rest gs q)
def websP (n : Nat) (p : List Int) : List (List Pr) := (goP n p (prs n) [[]]).filter fun g => !((needL n p g).any fun i => i != 0)
theorem mem_stepP {n : Nat} {p : List Int} {rest : List Pr} {gs : List (List Pr)} {q : Pr} {x : List Pr} : x ∈ stepP n p rest gs q ↔ (x ∈ gs ∨ ∃ g ∈ gs, x = g ++ [q]) ∧ canL (needL n p x) (tiesL n rest) = true := by
  unfold stepP
  rw [List.mem_flatMap]
  constructor
  · rintro ⟨g, hg, hx⟩
    obtain ⟨h1, h2⟩ := List.mem_filter.mp hx
    refine ⟨?_, h2⟩
    rcases List.mem_cons.mp h1 with e | h1
    · exact .inr ⟨g, hg, e⟩
    · rw [List.mem_singleton.mp h1]; exact .inl hg
  · rintro ⟨h | ⟨g, hg, e⟩, h2⟩
    · exact ⟨x, h, List.mem_filter.mpr ⟨List.mem_cons_of_mem _ List.mem_cons_self, h2⟩⟩
    · exact ⟨g, hg, List.mem_filter.mpr ⟨by rw [e]; exact List.mem_cons_self, h2⟩⟩
theorem goP_sound {n : Nat} {p : List Int} : ∀ (rest : List Pr) (gs : List (List Pr)) (x : List Pr), x ∈ goP n p rest gs → ∃ h ∈ gs, ∃ g, g.Sublist rest ∧ x = h ++ g
  | [], gs, x, hx => ⟨x, hx, [], List.Sublist.slnil, (List.append_nil x).symm⟩
  | q :: rest, gs, x, hx => by
    obtain ⟨h, hh, g, hs, e⟩ := goP_sound rest _ x hx
    rcases (mem_stepP.mp hh).1 with h1 | ⟨k, hk, e2⟩
    · exact ⟨h, h1, g, hs.cons q, e⟩
    · exact ⟨k, hk, q :: g, hs.cons_cons q, by rw [e, e2, List.append_assoc]; rfl⟩
theorem tieN_sub {g l : List Pr} (h : g.Sublist l) (v : Nat) : tieN g v ≤ tieN l v := (h.filter _).length_le
theorem goP_compl {n : Nat} {p : List Int} : ∀ (rest : List Pr) (gs : List (List Pr)) (h g : List Pr), h ∈ gs → g.Sublist rest → (∀ v, v < n → (tieN (h ++ g) v : Int) = p.getD v 0) → h ++ g ∈ goP n p rest gs
  | [], gs, h, g, hh, hs, _ => by
    rw [List.sublist_nil.mp hs, List.append_nil]
    exact hh
  | q :: rest, gs, h, g, hh, hs, ht => by
    have step : ∀ k g' : List Pr, g'.Sublist rest → k ++ g' = h ++ g → (k ∈ gs ∨ ∃ g ∈ gs, k = g ++ [q]) → k ++ g' ∈ goP n p (q :: rest) gs := fun k g' hs' e hk => by
      refine goP_compl rest _ k g' (mem_stepP.mpr ⟨hk, canL_of fun v hv => ?_⟩) hs' (by rw [e]; exact ht)
      have t := ht v hv
      rw [← e, tieN_app] at t
      have := tieN_sub hs' v
      omega
    cases hs with
    | cons _ hs' => exact step h g hs' rfl (.inl hh)
    | cons_cons _ hs' =>
      rename_i g'
      have e : (h ++ [q]) ++ g' = h ++ q :: g' := by rw [List.append_assoc]; rfl
      rw [← e]
      exact step (h ++ [q]) g' hs' e (.inr ⟨h, hh, rfl⟩)
theorem need_zero {n : Nat} {p : List Int} {g : List Pr} (hl : p.length = n) : (!((needL n p g).any fun i => i != 0)) = true ↔ tiesL n g = p := by
  rw [Bool.not_eq_true', List.any_eq_false]
  constructor
  · intro h
    refine List.ext_getElem? fun i => ?_
    by_cases hi : i < n
    · have := h (p.getD i 0 - (tieN g i : Int)) (List.mem_map.mpr ⟨i, List.mem_range.mpr hi, rfl⟩)
      have e : p.getD i 0 - (tieN g i : Int) = 0 := by simpa using this
      rw [List.getD_eq_getElem?_getD, List.getElem?_eq_getElem (by omega)] at e
      rw [tiesL, List.getElem?_map, List.getElem?_range hi, List.getElem?_eq_getElem (by omega)]
      show some (tieN g i : Int) = _
      congr 1
      simp only [Option.getD_some] at e
      omega
    · rw [List.getElem?_eq_none (by rw [tiesL_len]; omega), List.getElem?_eq_none (by omega)]
  · intro h x hx
    obtain ⟨v, hv, rfl⟩ := List.mem_map.mp hx
    have hv := List.mem_range.mp hv
    have : p.getD v 0 = tieN g v := by rw [← h, tiesL_get hv]
    rw [this]
    simp
theorem websP_mem {n : Nat} {p : List Int} {g : List Pr} (hl : p.length = n) : g ∈ websP n p ↔ g.Sublist (prs n) ∧ tiesL n g = p := by
  unfold websP
  rw [List.mem_filter, need_zero hl]
  constructor
  · rintro ⟨h1, h2⟩
    obtain ⟨k, hk, g', hs, e⟩ := goP_sound _ _ _ h1
    rw [List.mem_singleton.mp hk, List.nil_append] at e
    exact ⟨by rw [e]; exact hs, h2⟩
  · rintro ⟨h1, h2⟩
    exact ⟨goP_compl (prs n) [[]] [] g (List.mem_singleton.mpr rfl) h1 fun v hv => by rw [List.nil_append, ← h2, tiesL_get hv], h2⟩
/-! ### each but once -/
theorem nodup_ext {gs : List (List Pr)} {q : Pr} {e : List Pr → List (List Pr)} (he : ∀ g, (e g).Nodup ∧ ∀ x ∈ e g, x = g ∨ x = g ++ [q]) (hn : gs.Nodup) (hq : ∀ g ∈ gs, q ∉ g) : (gs.flatMap e).Nodup := by
  refine List.pairwise_flatMap.mpr ⟨fun g _ => (he g).1, ?_⟩
  refine List.Pairwise.imp_of_mem (R := (· ≠ ·)) (fun {a b} ha hb hab x hx y hy exy => ?_) hn
  subst exy
  rcases (he a).2 x hx with e1 | e1 <;> rcases (he b).2 x hy with e2 | e2
  · exact hab (e1.symm.trans e2)
  · have : q ∈ a := by rw [← e1, e2]; exact List.mem_append_right _ (List.mem_singleton.mpr rfl)
    exact hq a ha this
  · have : q ∈ b := by rw [← e2, e1]; exact List.mem_append_right _ (List.mem_singleton.mpr rfl)
    exact hq b hb this
  · exact hab (List.append_cancel_right (e1.symm.trans e2))
theorem pair_nodup (g : List Pr) (q : Pr) : [g ++ [q], g].Nodup := by
  refine List.nodup_cons.mpr ⟨fun h => ?_, List.nodup_cons.mpr ⟨by simp, List.nodup_nil⟩⟩
  have := congrArg List.length (List.mem_singleton.mp h)
  simp at this
theorem pair_nodup' (g : List Pr) (q : Pr) : [g, g ++ [q]].Nodup := by
  refine List.nodup_cons.mpr ⟨fun h => ?_, List.nodup_cons.mpr ⟨by simp, List.nodup_nil⟩⟩
  have := congrArg List.length (List.mem_singleton.mp h)
  simp at this
theorem goP_nodup {n : Nat} {p : List Int} : ∀ (rest : List Pr) (gs : List (List Pr)), rest.Nodup → gs.Nodup → (∀ g ∈ gs, ∀ r ∈ rest, r ∉ g) → (goP n p rest gs).Nodup
  | [], gs, _, h, _ => h
  | q :: rest, gs, hr, h, hd => by
    obtain ⟨r1, r2⟩ := List.nodup_cons.mp hr
    refine goP_nodup rest _ r2 ?_ fun x hx r hr' hm => ?_
    · exact nodup_ext (q := q) (fun g => ⟨List.Nodup.sublist List.filter_sublist (pair_nodup g q), fun x hx => by
        rcases List.mem_cons.mp (List.mem_filter.mp hx).1 with e | e
        · exact .inr e
        · exact .inl (List.mem_singleton.mp e)⟩) h fun g hg => hd g hg q List.mem_cons_self
    · rcases (mem_stepP.mp hx).1 with h1 | ⟨g, hg, e⟩
      · exact hd x h1 r (List.mem_cons_of_mem _ hr') hm
      · rw [e] at hm
        rcases List.mem_append.mp hm with h2 | h2
        · exact hd g hg r (List.mem_cons_of_mem _ hr') h2
        · rw [List.mem_singleton.mp h2] at hr'
          exact r1 hr'
theorem stepW_nodup {n : Nat} {p : List Int} {gs : List (List Pr)} {q : Pr} (h : gs.Nodup) (hd : ∀ g ∈ gs, q ∉ g) : (stepW n p gs q).Nodup := by
  have base : (gs.flatMap fun g => if (tieN g q.1 : Int) < p.getD q.1 0 ∧ (tieN g q.2 : Int) < p.getD q.2 0 then [g, g ++ [q]] else [g]).Nodup := by
    refine nodup_ext (q := q) (fun g => ?_) h hd
    split
    · exact ⟨pair_nodup' g q, fun x hx => by
        rcases List.mem_cons.mp hx with e | e
        · exact .inl e
        · exact .inr (List.mem_singleton.mp e)⟩
    · exact ⟨by simp, fun x hx => .inl (List.mem_singleton.mp hx)⟩
  unfold stepW
  split
  · exact base.sublist List.filter_sublist
  · exact base
theorem stepW_mem {n : Nat} {p : List Int} {gs : List (List Pr)} {q : Pr} {x : List Pr} (h : x ∈ stepW n p gs q) : x ∈ gs ∨ ∃ g ∈ gs, x = g ++ [q] := by
  have hx : x ∈ (gs.flatMap fun g => if (tieN g q.1 : Int) < p.getD q.1 0 ∧ (tieN g q.2 : Int) < p.getD q.2 0 then [g, g ++ [q]] else [g]) := by
    unfold stepW at h
    split at h
    · exact (List.mem_filter.mp h).1
    · exact h
  rcases mem_ext.mp hx with h1 | ⟨g, hg, e, _⟩
  · exact .inl h1
  · exact .inr ⟨g, hg, e⟩
theorem foldW_nodup {n : Nat} {p : List Int} : ∀ (rest : List Pr) (gs : List (List Pr)), rest.Nodup → gs.Nodup → (∀ g ∈ gs, ∀ r ∈ rest, r ∉ g) → (rest.foldl (stepW n p) gs).Nodup
  | [], gs, _, h, _ => h
  | q :: rest, gs, hr, h, hd => by
    obtain ⟨r1, r2⟩ := List.nodup_cons.mp hr
    refine foldW_nodup rest _ r2 (stepW_nodup h fun g hg => hd g hg q List.mem_cons_self) fun x hx r hr' hm => ?_
    rcases stepW_mem hx with h1 | ⟨g, hg, e⟩
    · exact hd x h1 r (List.mem_cons_of_mem _ hr') hm
    · rw [e] at hm
      rcases List.mem_append.mp hm with h2 | h2
      · exact hd g hg r (List.mem_cons_of_mem _ hr') h2
      · rw [List.mem_singleton.mp h2] at hr'
        exact r1 hr'
theorem prs_nodup {n : Nat} (h : n ≤ 6) : (prs n).Nodup := by
  rcases (show n = 0 ∨ n = 1 ∨ n = 2 ∨ n = 3 ∨ n = 4 ∨ n = 5 ∨ n = 6 by omega) with rfl | rfl | rfl | rfl | rfl | rfl | rfl <;> decide
theorem websP_nodup {n : Nat} {p : List Int} (h : n ≤ 6) : (websP n p).Nodup :=
  (goP_nodup (prs n) [[]] (prs_nodup h) (by simp) fun g hg r _ hm => by rw [List.mem_singleton.mp hg] at hm; cases hm).sublist List.filter_sublist
theorem websL_nodup {n : Nat} {p : List Int} (h : n ≤ 6) : (websL n p).Nodup :=
  (foldW_nodup (prs n) [[]] (prs_nodup h) (by simp) fun g hg r _ hm => by rw [List.mem_singleton.mp hg] at hm; cases hm).sublist List.filter_sublist
/-- the program's webs are the law's -/
theorem websP_perm {n : Nat} {p : List Int} (h5 : n ≤ 5) (hl : p.length = n) : (websP n p).Perm (websL n p) :=
  (List.perm_ext_iff_of_nodup (websP_nodup (by omega)) (websL_nodup (by omega))).mpr fun g => by
    rw [websP_mem hl]
    exact ⟨fun ⟨h1, h2⟩ => websL_all h5 h1 h2, fun h => websL_sub h⟩
theorem websP_one {n : Nat} {p : List Int} (h6 : n ≤ 6) (hl : p.length = n) : (websP n p).length ≤ 1 ∨ ∀ g ∈ websP n p, g ≠ [] := by
  by_cases h : [] ∈ websP n p
  · left
    obtain ⟨_, ht⟩ := (websP_mem hl).mp h
    have key : ∀ g ∈ websP n p, g = [] := fun g hg => by
      obtain ⟨hs, ht'⟩ := (websP_mem hl).mp hg
      cases g with
      | nil => rfl
      | cons q r =>
        have hq := prs_lt (hs.subset List.mem_cons_self)
        have e : (tieN (q :: r) q.1 : Int) = (tieN [] q.1 : Int) := by
          rw [← tiesL_get (n := n) (g := q :: r) (by omega), ← tiesL_get (n := n) (g := []) (by omega), ht, ht']
        rw [tieN_cons, if_pos (by unfold has; simp)] at e
        have : tieN [] q.1 = 0 := rfl
        omega
    have hp := websP_nodup (p := p) h6
    match hw : websP n p, hp, key with
    | [], _, _ => exact Nat.zero_le _
    | [_], _, _ => exact Nat.le_refl _
    | a :: b :: r, hp, key =>
      have ea := key a List.mem_cons_self
      have eb := key b (List.mem_cons_of_mem _ List.mem_cons_self)
      have := (List.nodup_cons.mp hp).1
      rw [ea, eb] at this
      exact absurd List.mem_cons_self this
  · exact .inr fun g hg e => h (by rw [← e]; exact hg)
/-- turn by turn -/
def goT (n : Nat) (p : List Int) : Nat → List (List Pr)
  | 0 => [[]]
  | i + 1 => match (prs n)[i]? with
    | some q => stepP n p ((prs n).drop (i + 1)) (goT n p i) q
    | none => goT n p i
theorem goT_go (n : Nat) (p : List Int) : ∀ i, i ≤ (prs n).length → goP n p ((prs n).drop i) (goT n p i) = goP n p (prs n) [[]]
  | 0, _ => rfl
  | i + 1, h => by
    have ih := goT_go n p i (by omega)
    have hi : (prs n)[i]? = some (prs n)[i] := List.getElem?_eq_getElem h
    rw [List.drop_eq_getElem_cons h] at ih
    have e : goT n p (i + 1) = stepP n p ((prs n).drop (i + 1)) (goT n p i) (prs n)[i] := by
      show (match (prs n)[i]? with | some q => stepP n p ((prs n).drop (i + 1)) (goT n p i) q | none => goT n p i) = _
      rw [hi]
    rw [e]
    exact ih
theorem goT_all {n : Nat} {p : List Int} : goT n p (prs n).length = goP n p (prs n) [[]] := by
  have := goT_go n p (prs n).length (Nat.le_refl _)
  rwa [List.drop_length] at this
end Ev
namespace Ev
open PySem L2
/-! ### the least web -/
def wtk (g : List Pr) : List (Int ⊕ List Nat) := PySem.W.keyToks (webP g)
def wlt (a b : List Pr) : Bool := PySem.W.dataLt (webP a) (webP b)
theorem wle_eq (a b : List Pr) : wle a b = !wlt b a := rfl
theorem wtk_inj : ∀ {a b : List Pr}, wtk a = wtk b → a = b := by
  have key : ∀ a b : List Pr, PySem.W.keyToksAll (a.map pairP) = PySem.W.keyToksAll (b.map pairP) → a = b := fun a => by
    induction a with
    | nil =>
      intro b h
      cases b with
      | nil => rfl
      | cons y b =>
        rw [List.map_nil, List.map_cons, PySem.W.toks_all_cons] at h
        simp [PySem.W.keyToksAll] at h
    | cons x a ih =>
      intro b h
      cases b with
      | nil =>
        rw [List.map_nil, List.map_cons, PySem.W.toks_all_cons] at h
        simp [PySem.W.keyToksAll] at h
      | cons y b =>
        rw [List.map_cons, List.map_cons, PySem.W.toks_all_cons, PySem.W.toks_all_cons] at h
        simp [pairP, PySem.W.keyToks, PySem.W.keyToksAll] at h
        obtain ⟨h1, h2, h3⟩ := h
        rw [ih b h3]
        have e1 : x.1 = y.1 := by omega
        have e2 : x.2 = y.2 := by omega
        rw [show x = y from Prod.ext e1 e2]
  intro a b h
  refine key a b ?_
  have h' : PySem.W.keyToks (webP a) = PySem.W.keyToks (webP b) := h
  simpa [webP, PySem.W.keyToks] using h'
theorem wlt_irr (a : List Pr) : wlt a a = false := PyProof.Rows.lex_irrefl _
theorem wlt_trans {a b c : List Pr} (h : wlt a b = true) (k : wlt b c = true) : wlt a c = true := PyProof.Rows.lex_trans _ _ _ h k
theorem wlt_neg {a c : List Pr} (b : List Pr) (h : wlt a c = true) : wlt a b = true ∨ wlt b c = true := PyProof.Rows.lex_negTrans _ _ _ h
theorem wlt_anti {a b : List Pr} (h : wlt a b = false) (k : wlt b a = false) : a = b := wtk_inj (PyProof.Rows.lex_total _ _ h k)
def minW (g : List Pr) (r : List (List Pr)) : List Pr := r.foldl (fun a y => if wlt y a = true then y else a) g
theorem minW_spec : ∀ (r : List (List Pr)) (g : List Pr), minW g r ∈ g :: r ∧ ∀ y ∈ g :: r, wlt y (minW g r) = false
  | [], g => ⟨List.mem_cons_self, fun y hy => by rw [List.mem_singleton.mp hy]; exact wlt_irr g⟩
  | x :: r, g => by
    have e : minW g (x :: r) = minW (if wlt x g = true then x else g) r := rfl
    obtain ⟨h1, h2⟩ := minW_spec r (if wlt x g = true then x else g)
    rw [e]
    by_cases c : wlt x g = true
    · rw [if_pos c] at h1 h2 ⊢
      refine ⟨List.mem_cons_of_mem _ h1, fun y hy => ?_⟩
      rcases List.mem_cons.mp hy with ey | hy
      · rw [ey]
        cases q : wlt g (minW x r) with
        | false => rfl
        | true =>
          have := h2 x List.mem_cons_self
          rw [wlt_trans c q] at this
          cases this
      · exact h2 y hy
    · rw [if_neg c] at h1 h2 ⊢
      refine ⟨?_, fun y hy => ?_⟩
      · rcases List.mem_cons.mp h1 with e | h1
        · rw [e]; exact List.mem_cons_self
        · exact List.mem_cons_of_mem _ (List.mem_cons_of_mem _ h1)
      · rcases List.mem_cons.mp hy with ey | hy
        · rw [ey]; exact h2 g List.mem_cons_self
        · rcases List.mem_cons.mp hy with ey | hy
          · rw [ey]
            cases q : wlt x (minW g r) with
            | false => rfl
            | true =>
              rcases wlt_neg g q with z | z
              · exact absurd z c
              · rw [h2 g List.mem_cons_self] at z
                cases z
          · exact h2 y (List.mem_cons_of_mem _ hy)
theorem least_one {L L' : List (List Pr)} {m m' : List Pr} (h : L.Perm L') (hm : m ∈ L) (hm' : m' ∈ L') (k : ∀ y ∈ L, wlt y m = false) (k' : ∀ y ∈ L', wlt y m' = false) : m = m' :=
  wlt_anti (k' m (h.subset hm)) (k m' (h.symm.subset hm'))
/-- the first of the sorted ones is the least -/
theorem sortW_head {L r : List (List Pr)} {m : List Pr} (h : sortW L = m :: r) : ∀ y ∈ L, wlt y m = false := by
  intro y hy
  have hp := sortW_perm L
  have hy' : y ∈ m :: r := by rw [← h]; exact hp.symm.subset hy
  rcases List.mem_cons.mp hy' with e | hy'
  · rw [e]; exact wlt_irr m
  · unfold sortW at h
    split at h
    · rename_i hl
      rw [h] at hl
      have : r = [] := by
        cases r with
        | nil => rfl
        | cons _ _ => simp at hl
      rw [this] at hy'
      cases hy'
    · have hs := List.pairwise_mergeSort (le := wle) (fun a b c h1 h2 => by
        rw [wle_eq, Bool.not_eq_true'] at *
        cases q : wlt c a with
        | false => rfl
        | true =>
          rcases wlt_neg b q with z | z
          · rw [h2] at z; cases z
          · rw [h1] at z; cases z) (fun a b => by
        rw [wle_eq, wle_eq]
        cases q : wlt b a with
        | false => rfl
        | true =>
          cases q2 : wlt a b with
          | false => rfl
          | true =>
            have := wlt_trans q2 q
            rw [wlt_irr] at this
            cases this) L
      rw [h] at hs
      have := (List.pairwise_cons.mp hs).1 y hy'
      rw [wle_eq, Bool.not_eq_true'] at this
      exact this
theorem noListAll_of : ∀ {ps : List PyData}, (∀ p ∈ ps, noList p = true) → noListAll ps = true
  | [], _ => rfl
  | p :: r, h => by
    show (noList p && noListAll r) = true
    rw [h p List.mem_cons_self, noListAll_of fun q hq => h q (List.mem_cons_of_mem _ hq)]
    rfl
theorem noList_web (g : List Pr) : noList (webP g) = true := by
  show noListAll (g.map pairP) = true
  refine noListAll_of fun p hp => ?_
  obtain ⟨q, _, rfl⟩ := List.mem_map.mp hp
  rfl
theorem ofPy_web (g : List Pr) : ofPy (webP g) = webD g := by
  show D.tup (ofPyAll (g.map pairP)) = _
  rw [ofPyAll_map, List.map_map]
  rfl
theorem minD_web (r : List (List Pr)) : ∀ g, PySem.W.minD (webP g) (r.map webP) = webP (minW g r) := by
  induction r with
  | nil => exact fun g => rfl
  | cons x r ih =>
    intro g
    have e : PySem.W.minD (webP g) ((x :: r).map webP) = PySem.W.minD (if wlt x g = true then webP x else webP g) (r.map webP) := rfl
    have e2 : minW g (x :: r) = minW (if wlt x g = true then x else g) r := rfl
    rw [e, e2]
    by_cases c : wlt x g = true
    · rw [if_pos c, if_pos c, ih]
    · rw [if_neg c, if_neg c, ih]
def minO : List (List Pr) → D
  | [] => .non
  | g :: r => webD (minW g r)
theorem min_webs {M : Mem} {l : Nat} {L : List (List Pr)} (h : M[l]? = some (.lst (L.map webD))) : blt .minD [.loc l] M = .ok (minO L) M := by
  have eL : (lstAt M l) = some (L.map webD) := lstAt_lst h
  cases L with
  | nil =>
    show (match (lstAt M l).bind intsOf with | some ns => R.ok (match leastOf ns with | some i => D.int i | none => .non) M | none => minL M (.loc l)) = _
    rw [eL]
    rfl
  | cons g r =>
    show (match (lstAt M l).bind intsOf with | some ns => R.ok (match leastOf ns with | some i => D.int i | none => .non) M | none => minL M (.loc l)) = _
    rw [eL]
    show minL M (.loc l) = _
    show (match (lstAt M l).bind fun xs => optAll (xs.map (toPy 30 M)) with
      | some (p :: ps) => if (((p :: ps).all fun a => (p :: ps).all fun b => PySem.W.alike a b) && (((p :: ps).all fun a => !isNoneP a) && noListAll (p :: ps))) = true then R.ok (ofPy (PySem.W.minD p ps)) M else .bad
      | _ => .bad) = _
    rw [eL, Option.bind_some, toPy_webs 27 (g :: r)]
    show (if (((webP g :: r.map webP).all fun a => (webP g :: r.map webP).all fun b => PySem.W.alike a b) && (((webP g :: r.map webP).all fun a => !isNoneP a) && noListAll (webP g :: r.map webP))) = true then R.ok (ofPy (PySem.W.minD (webP g) (r.map webP))) M else .bad) = _
    rw [if_pos, minD_web, ofPy_web]
    · rfl
    · have e : webP g :: r.map webP = (g :: r).map webP := rfl
      rw [e, Bool.and_eq_true, Bool.and_eq_true]
      refine ⟨List.all_eq_true.mpr fun a ha => List.all_eq_true.mpr fun b hb => ?_, List.all_eq_true.mpr fun a ha => ?_, noListAll_of fun a ha => ?_⟩
      · obtain ⟨u, _, rfl⟩ := List.mem_map.mp ha
        obtain ⟨w, _, rfl⟩ := List.mem_map.mp hb
        exact alike_web u w
      · obtain ⟨u, _, rfl⟩ := List.mem_map.mp ha
        rfl
      · obtain ⟨u, _, rfl⟩ := List.mem_map.mp ha
        exact noList_web u
/-! ### two known rows -/
theorem code_le : ∀ {g l : List Pr}, g.Sublist l → code g ≤ code l
  | _, _, .slnil => Nat.le_refl _
  | _, _, .cons q s => by
    have := code_le s
    show _ ≤ wt q + code _
    omega
  | _, _, .cons_cons q s => by
    have := code_le s
    show wt q + code _ ≤ wt q + code _
    omega
theorem wt_pos (q : Pr) : 0 < wt q := by
  have h : 0 < 8 ^ q.1 := Nat.pow_pos (by decide)
  exact Nat.lt_of_lt_of_le h (Nat.le_add_right _ _)
theorem code_eq : ∀ {g l : List Pr}, g.Sublist l → code g = code l → g = l
  | _, _, .slnil, _ => rfl
  | _, _, .cons q s, h => by
    have h1 := code_le s
    have h2 : code _ = wt q + code _ := h
    have := wt_pos q
    omega
  | _, _, .cons_cons q s, h => by
    have h2 : wt q + code _ = wt q + code _ := h
    rw [code_eq s (by omega)]
theorem tiesN_of {n : Nat} {g h : List Pr} (e : tiesL n g = tiesL n h) : tiesN n g = tiesN n h := by
  rw [ties_zi, ties_zi] at e
  exact List.map_inj_right (fun a b h => by omega) |>.mp e
theorem subs_eq {n : Nat} {g h : List Pr} (hg : g.Sublist (prs n)) (hh : h.Sublist (prs n)) (hs : g.Sublist h) (e : tiesL n g = tiesL n h) : g = h := by
  have e2 := tiesN_of e
  refine code_eq hs ?_
  rw [← val_ties (n := n) (subl_ok hg), ← val_ties (n := n) (subl_ok hh), e2]
theorem websP_is {n : Nat} {p : List Int} {h : List Pr} (h6 : n ≤ 6) (hl : p.length = n) (hh : h.Sublist (prs n)) (ht : tiesL n h = p) (only : ∀ g, g.Sublist (prs n) → tiesL n g = p → g = h) : websP n p = [h] := by
  refine List.perm_singleton.mp ((List.perm_ext_iff_of_nodup (websP_nodup h6) (by simp)).mpr fun g => ?_)
  rw [websP_mem hl, List.mem_singleton]
  exact ⟨fun ⟨a, b⟩ => only g a b, fun e => by rw [e]; exact ⟨hh, ht⟩⟩
theorem websP_zero {n : Nat} (h6 : n ≤ 6) : websP n (List.replicate n 0) = [[]] := by
  have ht : tiesL n [] = List.replicate n 0 := by
    rcases (show n = 0 ∨ n = 1 ∨ n = 2 ∨ n = 3 ∨ n = 4 ∨ n = 5 ∨ n = 6 by omega) with rfl | rfl | rfl | rfl | rfl | rfl | rfl <;> rfl
  exact websP_is h6 (by simp) (List.nil_sublist _) ht fun g hg e => (subs_eq (List.nil_sublist _) hg (List.nil_sublist _) (ht.trans e.symm)).symm
theorem websP_full {n : Nat} (h6 : n ≤ 6) : websP n (List.replicate n ((n : Int) - 1)) = [prs n] := by
  have ht : tiesL n (prs n) = List.replicate n ((n : Int) - 1) := by
    rcases (show n = 0 ∨ n = 1 ∨ n = 2 ∨ n = 3 ∨ n = 4 ∨ n = 5 ∨ n = 6 by omega) with rfl | rfl | rfl | rfl | rfl | rfl | rfl <;> decide
  exact websP_is h6 (by simp) (List.Sublist.refl _) ht fun g hg e => subs_eq hg (List.Sublist.refl _) hg (e.trans ht.symm)
end Ev
namespace Ev
open PySem
/-! ### people numbered the other way round -/
def flipN (n : Nat) (q : Pr) : Pr := (n - 1 - q.2, n - 1 - q.1)
def phi (n : Nat) (g : List Pr) : List Pr := (prs n).filter fun q => decide (flipN n q ∈ g)
theorem flip_in {n : Nat} (h : n ≤ 6) : ∀ q ∈ prs n, flipN n q ∈ prs n ∧ flipN n (flipN n q) = q := by
  rcases (show n = 0 ∨ n = 1 ∨ n = 2 ∨ n = 3 ∨ n = 4 ∨ n = 5 ∨ n = 6 by omega) with rfl | rfl | rfl | rfl | rfl | rfl | rfl <;> decide
theorem sub_filter : ∀ {g l : List Pr}, g.Sublist l → l.Nodup → l.filter (fun q => decide (q ∈ g)) = g
  | _, _, .slnil, _ => rfl
  | g, _, .cons (l₂ := l) q s, h => by
    obtain ⟨h1, h2⟩ := List.nodup_cons.mp h
    rw [List.filter_cons_of_neg (by simp; exact fun hq => h1 (s.subset hq))]
    exact sub_filter s h2
  | _, _, .cons_cons (l₁ := g) (l₂ := l) q s, h => by
    obtain ⟨h1, h2⟩ := List.nodup_cons.mp h
    rw [List.filter_cons_of_pos (by simp)]
    congr 1
    refine Eq.trans (List.filter_congr fun x hx => ?_) (sub_filter s h2)
    rw [decide_eq_decide, List.mem_cons]
    exact ⟨fun e => e.resolve_left fun e2 => h1 (by rw [← e2]; exact hx), .inr⟩
theorem phi_sub (n : Nat) (g : List Pr) : (phi n g).Sublist (prs n) := List.filter_sublist
theorem phi_mem {n : Nat} {g : List Pr} {q : Pr} : q ∈ phi n g ↔ q ∈ prs n ∧ flipN n q ∈ g := by
  unfold phi
  rw [List.mem_filter, decide_eq_true_eq]
theorem phi_phi {n : Nat} {g : List Pr} (h : n ≤ 6) (hs : g.Sublist (prs n)) : phi n (phi n g) = g := by
  refine Eq.trans (List.filter_congr fun q hq => ?_) (sub_filter hs (prs_nodup h))
  rw [decide_eq_decide, phi_mem]
  obtain ⟨f1, f2⟩ := flip_in h q hq
  rw [f2]
  exact ⟨fun x => x.2, fun x => ⟨f1, x⟩⟩
theorem phi_tie {n : Nat} {g : List Pr} (h : n ≤ 6) (hs : g.Sublist (prs n)) {v : Nat} (hv : v < n) : tieN (phi n g) v = tieN g (n - 1 - v) := by
  have pm : ((phi n g).map (flipN n)).Perm g := by
    refine (List.perm_ext_iff_of_nodup ?_ ((prs_nodup h).sublist hs)).mpr fun q => ?_
    · refine List.pairwise_map.mpr (List.Pairwise.imp_of_mem (fun {a b} ha hb hab e => hab ?_) ((prs_nodup h).sublist (phi_sub n g)))
      have e1 := (flip_in h a (phi_mem.mp ha).1).2
      have e2 := (flip_in h b (phi_mem.mp hb).1).2
      rw [← e1, ← e2, e]
    · rw [List.mem_map]
      constructor
      · rintro ⟨r, hr, rfl⟩
        exact (phi_mem.mp hr).2
      · intro hq
        obtain ⟨f1, f2⟩ := flip_in h q (hs.subset hq)
        exact ⟨flipN n q, phi_mem.mpr ⟨f1, by rw [f2]; exact hq⟩, f2⟩
  have e : tieN g (n - 1 - v) = tieN ((phi n g).map (flipN n)) (n - 1 - v) := (pm.filter _).length_eq.symm
  rw [e]
  unfold tieN
  rw [List.filter_map, List.length_map]
  congr 1
  refine List.filter_congr fun q hq => ?_
  have hl := prs_lt (phi_mem.mp hq).1
  unfold has flipN
  simp only [Function.comp]
  rw [Bool.eq_iff_iff]
  simp only [Bool.or_eq_true, decide_eq_true_eq]
  omega
theorem phi_ties {n : Nat} {g : List Pr} (h : n ≤ 6) (hs : g.Sublist (prs n)) : tiesL n (phi n g) = (tiesL n g).reverse := by
  refine List.ext_getElem? fun i => ?_
  by_cases hi : i < n
  · rw [List.getElem?_reverse (by rw [tiesL_len]; exact hi), tiesL_len, tiesL, tiesL, List.getElem?_map, List.getElem?_map, List.getElem?_range hi, List.getElem?_range (by omega)]
    simp only [Option.map_some]
    rw [phi_tie h hs hi]
  · rw [List.getElem?_eq_none (by rw [tiesL_len]; omega), List.getElem?_eq_none (by rw [List.length_reverse, tiesL_len]; omega)]
theorem websP_rev {n : Nat} {p : List Int} (h : n ≤ 6) (hl : p.length = n) : (websP n p.reverse).length = (websP n p).length := by
  have pm : ((websP n p).map (phi n)).Perm (websP n p.reverse) := by
    refine (List.perm_ext_iff_of_nodup ?_ (websP_nodup h)).mpr fun x => ?_
    · refine List.pairwise_map.mpr (List.Pairwise.imp_of_mem (fun {a b} ha hb hab e => hab ?_) (websP_nodup (p := p) h))
      rw [← phi_phi h ((websP_mem hl).mp ha).1, ← phi_phi h ((websP_mem hl).mp hb).1, e]
    · rw [List.mem_map, websP_mem (by rw [List.length_reverse]; exact hl)]
      constructor
      · rintro ⟨g, hg, rfl⟩
        obtain ⟨h1, h2⟩ := (websP_mem hl).mp hg
        exact ⟨phi_sub n g, by rw [phi_ties h h1, h2]⟩
      · rintro ⟨h1, h2⟩
        exact ⟨phi n x, (websP_mem hl).mpr ⟨phi_sub n x, by rw [phi_ties h h1, h2, List.reverse_reverse]⟩, phi_phi h h1⟩
  rw [← pm.length_eq, List.length_map]
/-! ### what all webs have, what none has -/
def sureL (n : Nat) (L : List (List Pr)) : List Pr := (prs n).filter fun q => !L.isEmpty && L.all fun g => decide (q ∈ g)
def neverL (n : Nat) (L : List (List Pr)) : List Pr := (prs n).filter fun q => !(L.any fun g => decide (q ∈ g))
theorem empty_perm {α : Type} {L L' : List α} (h : L.Perm L') : L.isEmpty = L'.isEmpty := by
  rw [Bool.eq_iff_iff, List.isEmpty_iff_length_eq_zero, List.isEmpty_iff_length_eq_zero, h.length_eq]
theorem sure_perm {n : Nat} {L L' : List (List Pr)} (h : L.Perm L') : sureL n L = sureL n L' := by
  unfold sureL
  refine List.filter_congr fun q _ => ?_
  rw [empty_perm h, h.all_eq]
theorem never_perm {n : Nat} {L L' : List (List Pr)} (h : L.Perm L') : neverL n L = neverL n L' := by
  unfold neverL
  refine List.filter_congr fun q _ => ?_
  rw [h.any_eq]
theorem eqv_pair (a b : Pr) : PyData.eqv (pairP a) (pairP b) = decide (a = b) := by
  show PyData.eqvAll ([(a.1 : Int), (a.2 : Int)].map PyData.int) ([(b.1 : Int), (b.2 : Int)].map PyData.int) = _
  rw [PySem.W.ked_eqvAll, decide_eq_decide]
  constructor
  · intro h
    have h1 := (List.cons.inj h).1
    have h2 := (List.cons.inj (List.cons.inj h).2).1
    exact Prod.ext (by omega) (by omega)
  · intro h
    rw [h]
theorem isin_web {q : Pr} {g : List Pr} {M : Mem} : op2 .isin (pairD q) (webD g) M = .ok (.bl (decide (q ∈ g))) M := by
  have e1 : toPy 30 M (pairD q) = some (pairP q) := rfl
  have e2 : optAll ((g.map pairD).map (toPy 30 M)) = some (g.map pairP) := optAll_k (toPy 30 M) pairD pairP (fun i => rfl) g
  show R.ofO ((inB M (pairD q) (webD g)).map D.bl) M = _
  unfold inB
  rw [e1]
  show R.ofO (((optAll ((g.map pairD).map (toPy 30 M))).map fun bs : List PyData => bs.any fun b => PyData.eqv b (pairP q)).map D.bl) M = _
  rw [e2]
  show R.ok (D.bl ((g.map pairP).any fun b => PyData.eqv b (pairP q))) M = _
  congr 2
  rw [List.any_map, Bool.eq_iff_iff, List.any_eq_true, decide_eq_true_eq]
  constructor
  · rintro ⟨x, hx, e⟩
    have e' : PyData.eqv (pairP x) (pairP q) = true := e
    rw [eqv_pair, decide_eq_true_eq] at e'
    rw [← e']
    exact hx
  · intro h
    exact ⟨q, h, by show PyData.eqv (pairP q) (pairP q) = true; rw [eqv_pair]; exact decide_eq_true rfl⟩
/-- [pair in web for web in webs] -/
theorem W_ins {C : Cfg} {σ : Sl} {M : Mem} {q : Pr} {L : List (List Pr)} {l vi vl vw : Nat} (h1 : σ[vi]? = some (some (pairD q))) (h2 : σ[vl]? = some (some (.loc l))) (hl : M[l]? = some (.lst (L.map webD))) (n1 : vi ≠ vw) (hw : vw < σ.length) (hL : L.length ≤ line) :
    W (ev C (.comp (.op .isin (.var vi) (.var vw)) (.nm vw) (.seq (.var vl)) .tt [vw]) σ M) fun v M' => ∃ M1, Gr M M1 ∧ v = .loc M1.length ∧ M' = M1 ++ [Cell.lst ((L.map fun g => decide (q ∈ g)).map D.bl)] := by
  refine (W_map1 (ps := L) (fm := webD) (J := Gr M) (fun g => D.bl (decide (q ∈ g))) (W_iseq (Q := fun u X => u = .loc l ∧ X = M) ?_ ?_) hL fun M1 g acc _ hj hacc => ?_).mono ?_
  · rw [q_var, h2]
    exact W.ok ⟨rfl, rfl⟩
  · rintro u X ⟨rfl, rfl⟩
    exact ⟨Gr.refl _, .inr ⟨_, rfl, fun Y h => h.cell hl⟩⟩
  · have e1 : ((wipeD σ [vw]).set vw (some (webD g)))[vi]? = some (some (pairD q)) := by
      show ((σ.set vw none).set vw (some (webD g)))[vi]? = _
      rw [List.getElem?_set_ne (Ne.symm n1), List.getElem?_set_ne (Ne.symm n1)]
      exact h1
    have e2 : ((wipeD σ [vw]).set vw (some (webD g)))[vw]? = some (some (webD g)) := by
      show ((σ.set vw none).set vw (some (webD g)))[vw]? = _
      rw [List.getElem?_set_self (by rw [List.length_set]; exact hw)]
    rw [stepD_nm, q_op, q_var, e1, q_ok, q_var, e2, q_ok, isin_web, q_ok]
    exact ⟨_, _, push_ok hacc, hj, rfl⟩
  · rintro v M' ⟨M1, g1, rfl, rfl⟩
    refine ⟨M1, g1, rfl, ?_⟩
    rw [List.map_map]
    rfl
theorem any_new {bs : List Bool} {M : Mem} : blt .any [.loc M.length] (M ++ [.lst (bs.map D.bl)]) = .ok (.bl (bs.any id)) (M ++ [.lst (bs.map D.bl)]) := by
  show R.ofO (((lstAt _ M.length).bind blsOf).map fun bs => D.bl (bs.any id)) _ = _
  rw [lstAt_new, Option.bind_some, blsOf_map] <;> rfl
section
variable {C : Cfg} {σ : Sl} {M : Mem} {q : Pr} {L : List (List Pr)} {l vi vl vw : Nat} {acc : List D}
theorem slot_at (hv : vi < σ.length) (n2 : vl ≠ vi) (h2 : σ[vl]? = some (some (.loc l))) : ((wipeD σ [vi]).set vi (some (pairD q)))[vi]? = some (some (pairD q)) ∧ ((wipeD σ [vi]).set vi (some (pairD q)))[vl]? = some (some (.loc l)) ∧ ((wipeD σ [vi]).set vi (some (pairD q))).length = σ.length := by
  refine ⟨?_, ?_, ?_⟩
  · show ((σ.set vi none).set vi (some (pairD q)))[vi]? = _
    rw [List.getElem?_set_self (by rw [List.length_set]; exact hv)]
  · show ((σ.set vi none).set vi (some (pairD q)))[vl]? = _
    rw [List.getElem?_set_ne (Ne.symm n2), List.getElem?_set_ne (Ne.symm n2)]
    exact h2
  · show ((σ.set vi none).set vi (some (pairD q))).length = _
    rw [List.length_set, List.length_set]
theorem step_sure (h2 : σ[vl]? = some (some (.loc l))) (hl : M[l]? = some (.lst (L.map webD))) (n1 : vi ≠ vw) (n2 : vl ≠ vi) (hv : vi < σ.length) (hw : vw < σ.length) (hL : L.length ≤ line) (hacc : acc.length < line) :
    W (stepD C (.var vi) (.nm vi) (.and (.val (.op .ne (.var vl) (.lst .nil))) (.val (.blt .all (.cons (.comp (.op .isin (.var vi) (.var vw)) (.nm vw) (.seq (.var vl)) .tt [vw]) .nil)))) [vi] σ (pairD q) acc M) fun acc' M' => Gr M M' ∧ acc' = if (!L.isEmpty && L.all fun g => decide (q ∈ g)) = true then acc ++ [pairD q] else acc := by
  obtain ⟨e1, e2, e3⟩ := slot_at (q := q) hv n2 h2
  rw [stepD_if]
  generalize (wipeD σ [vi]).set vi (some (pairD q)) = σ' at *
  have c1 : (M ++ [Cell.lst []])[l]? = some (.lst (L.map webD)) := Gr.cell ⟨_, rfl⟩ hl
  have n0 : op2 .ne (.loc l) (.loc M.length) (M ++ [Cell.lst []]) = .ok (.bl (!L.isEmpty)) (M ++ [Cell.lst []]) := ne_webs c1 new_at
  rw [q_band, q_val, q_op, q_var, e2, q_ok, q_lst, q_nil, q_ok, new_q, q_ok, n0, q_ok]
  cases hE : L.isEmpty with
  | true => exact ⟨_, _, rfl, Gr.push (Gr.refl M) _, rfl⟩
  | false =>
    show W ((evB C (.val (.blt .all (.cons (.comp (.op .isin (.var vi) (.var vw)) (.nm vw) (.seq (.var vl)) .tt [vw]) .nil))) σ' (M ++ [Cell.lst []])).bind _) _
    rw [q_val, q_blt, q_cons, Ev.bind_assoc, Ev.bind_assoc, Ev.bind_assoc]
    refine W.bind (W_ins e1 e2 c1 n1 (by rw [e3]; exact hw) hL) ?_
    rintro v M2 ⟨M1, g1, rfl, rfl⟩
    have ea : (L.map fun g => decide (q ∈ g)).all id = L.all fun g => decide (q ∈ g) := by rw [List.all_map] <;> rfl
    rw [q_nil, q_ok, q_ok, all_new, ea, q_ok]
    show W ((R.ok (L.all fun g => decide (q ∈ g)) _).bind _) _
    rw [q_ok]
    have gg : Gr M (M1 ++ [Cell.lst ((L.map fun g => decide (q ∈ g)).map D.bl)]) := (Gr.trans ⟨_, rfl⟩ g1).push _
    cases L.all fun g => decide (q ∈ g) with
    | true =>
      show W ((ev C (.var vi) σ' _).bind _) _
      rw [q_var, e1, q_ok]
      exact ⟨_, _, push_ok hacc, gg, rfl⟩
    | false => exact ⟨_, _, rfl, gg, rfl⟩
theorem step_never (h2 : σ[vl]? = some (some (.loc l))) (hl : M[l]? = some (.lst (L.map webD))) (n1 : vi ≠ vw) (n2 : vl ≠ vi) (hv : vi < σ.length) (hw : vw < σ.length) (hL : L.length ≤ line) (hacc : acc.length < line) :
    W (stepD C (.var vi) (.nm vi) (.not (.val (.blt .any (.cons (.comp (.op .isin (.var vi) (.var vw)) (.nm vw) (.seq (.var vl)) .tt [vw]) .nil)))) [vi] σ (pairD q) acc M) fun acc' M' => Gr M M' ∧ acc' = if (!(L.any fun g => decide (q ∈ g))) = true then acc ++ [pairD q] else acc := by
  obtain ⟨e1, e2, e3⟩ := slot_at (q := q) hv n2 h2
  rw [stepD_if]
  generalize (wipeD σ [vi]).set vi (some (pairD q)) = σ' at *
  rw [q_bnot, q_val, q_blt, q_cons, Ev.bind_assoc, Ev.bind_assoc, Ev.bind_assoc, Ev.bind_assoc]
  refine W.bind (W_ins e1 e2 hl n1 (by rw [e3]; exact hw) hL) ?_
  rintro v M2 ⟨M1, g1, rfl, rfl⟩
  have ea : (L.map fun g => decide (q ∈ g)).any id = L.any fun g => decide (q ∈ g) := by rw [List.any_map] <;> rfl
  rw [q_nil, q_ok, q_ok, any_new, ea, q_ok]
  have gg : Gr M (M1 ++ [Cell.lst ((L.map fun g => decide (q ∈ g)).map D.bl)]) := g1.push _
  cases L.any fun g => decide (q ∈ g) with
  | true => exact ⟨_, _, rfl, gg, rfl⟩
  | false =>
    show W ((ev C (.var vi) σ' _).bind _) _
    rw [q_var, e1, q_ok]
    exact ⟨_, _, push_ok hacc, gg, rfl⟩
end
end Ev
namespace K71
open PySem PySem.Spec PyProof.Rows Ev
/-! ### the defs, for the evaluator (printed by gen.py) -/
def b0 : Ss :=
  (.cons (.ret (.and (.blt .isi (.cons (.var 0) (.cons (.con (.ty "int")) .nil))) (.not (.blt .isi (.cons (.var 0) (.cons (.con (.ty "bool")) .nil))))))
    .nil)
/-- is_whole -/
def f0 : Fd := ⟨"is_whole", ["value"], ["value"], [], b0⟩
def b1 : Ss :=
  (.cons (.ret (.and (.call 0 (.cons (.var 0) .nil)) (.chain .le .le (.var 1) (.var 0) (.var 2))))
    .nil)
/-- is_between -/
def f1 : Fd := ⟨"is_between", ["value", "least", "most"], ["value", "least", "most"], [], b1⟩
def b2 : Ss :=
  (.cons (.ret (.and (.blt .isi (.cons (.var 0) (.cons (.con (.ty "tuple")) .nil))) (.chain .le .le (.var 1) (.blt .len (.cons (.var 0) .nil)) (.var 2))))
    .nil)
/-- is_row -/
def f2 : Fd := ⟨"is_row", ["value", "least", "most"], ["value", "least", "most"], [], b2⟩
def b3 : Ss :=
  (.cons (.ret (.and (.call 2 (.cons (.var 0) (.cons (.con (.int 1)) (.cons (.glo 0) .nil)))) (.blt .all (.cons (.comp (.call 1 (.cons (.var 1) (.cons (.con (.int 0)) (.cons (.glo 1) .nil)))) (.nm 1) (.seq (.var 0)) .tt [1]) .nil))))
    .nil)
/-- is_purse -/
def f3 : Fd := ⟨"is_purse", ["value"], ["value", "number"], [], b3⟩
def b4 : Ss :=
  (.cons (.ite (.not (.val (.call 3 (.cons (.var 0) .nil)))) (.cons .never
    .nil) .nil)
    .nil)
/-- check_purse -/
def f4 : Fd := ⟨"check_purse", ["value"], ["value"], [], b4⟩
def b5 : Ss :=
  (.cons (.ret (.blt .tuple (.cons (.blt .sortedR (.cons (.var 0) .nil)) .nil)))
    .nil)
/-- fall_of -/
def f5 : Fd := ⟨"fall_of", ["purse"], ["purse"], [], b5⟩
def b6 : Ss :=
  (.cons (.asg (.nm 2) (.call 5 (.cons (.var 0) .nil)))
    (.cons (.ret (.op .gt (.blt .sum (.cons (.slice (.var 2) .no (.yes (.var 1)) .no) .nil)) (.op .add (.op .mul (.var 1) (.op .sub (.var 1) (.con (.int 1)))) (.blt .sum (.cons (.comp (.blt .min (.cons (.var 3) (.cons (.var 1) .nil))) (.nm 3) (.seq (.slice (.var 2) (.yes (.var 1)) .no .no)) .tt [3]) .nil)))))
    .nil))
/-- is_too_much -/
def f6 : Fd := ⟨"is_too_much", ["purse", "many"], ["purse", "many", "told", "own"], [], b6⟩
def b7 : Ss :=
  (.cons (.ite (.val (.op .eq (.op .mod (.blt .sum (.cons (.var 0) .nil)) (.con (.int 2))) (.con (.int 1)))) (.cons (.ret (.con (.int 0)))
    .nil) .nil)
    (.cons (.ret (.blt .minD (.cons (.comp (.var 1) (.nm 1) (.rng (.cons (.con (.int 1)) (.cons (.op .add (.blt .len (.cons (.var 0) .nil)) (.con (.int 1))) .nil))) (.val (.call 6 (.cons (.var 0) (.cons (.var 1) .nil)))) [1]) .nil)))
    .nil))
/-- web_bar_by -/
def f7 : Fd := ⟨"web_bar_by", ["purse"], ["purse", "many"], [], b7⟩
def b8 : Ss :=
  (.cons (.ret (.comp (.var 1) (.nm 1) (.comb (.var 0)) .tt [1]))
    .nil)
/-- all_pairs -/
def f8 : Fd := ⟨"all_pairs", ["people"], ["people", "pair"], [], b8⟩
def b9 : Ss :=
  (.cons (.ret (.blt .tuple (.cons (.comp (.blt .len (.cons (.comp (.con (.int 1)) (.nm 3) (.seq (.var 1)) (.val (.op .isin (.var 2) (.var 3))) [3]) .nil)) (.nm 2) (.rng (.cons (.var 0) .nil)) .tt [2]) .nil)))
    .nil)
/-- degrees_of -/
def f9 : Fd := ⟨"degrees_of", ["people", "web"], ["people", "web", "person", "pair"], [], b9⟩
def b10 : Ss :=
  (.cons (.ret (.blt .tuple (.cons (.comp (.op .sub (.var 3) (.blt .int (.cons (.op .isin (.var 2) (.var 1)) .nil))) (.tup (.cons (.nm 2) (.cons (.nm 3) .nil))) (.enum (.seq (.var 0))) .tt [2, 3]) .nil)))
    .nil)
/-- lessened -/
def f10 : Fd := ⟨"lessened", ["need", "pair"], ["need", "pair", "person", "own"], [], b10⟩
def b11 : Ss :=
  (.cons (.ret (.blt .all (.cons (.comp (.chain .le .le (.con (.int 0)) (.var 2) (.var 3)) (.tup (.cons (.nm 2) (.cons (.nm 3) .nil))) (.zip (.seq (.var 0)) (.seq (.var 1))) .tt [2, 3]) .nil)))
    .nil)
/-- can_be_tied -/
def f11 : Fd := ⟨"can_be_tied", ["need", "rest"], ["need", "rest", "own", "more"], [], b11⟩
def b12 : Ss :=
  (.cons (.par [1, 2] (.cons (.call 8 (.cons (.blt .len (.cons (.var 0) .nil)) .nil)) (.cons (.lst (.cons (.tup (.cons (.tup .nil) (.cons (.var 0) .nil))) .nil)) .nil)))
    (.cons (.for_ (.tup (.cons (.nm 3) (.cons (.nm 4) .nil))) (.enum (.seq (.var 1))) (.cons (.asg (.tup (.cons (.nm 5) (.cons (.nm 6) .nil))) (.tup (.cons (.call 9 (.cons (.blt .len (.cons (.var 0) .nil)) (.cons (.slice (.var 1) (.yes (.op .add (.var 3) (.con (.int 1)))) .no .no) .nil))) (.cons (.lst .nil) .nil))))
    (.cons (.for_ (.tup (.cons (.nm 7) (.cons (.nm 8) .nil))) (.seq (.var 2)) (.cons (.asg (.nm 9) (.lst (.cons (.tup (.cons (.disp true (.cons true (.var 7) (.cons false (.var 4) .nil))) (.cons (.call 10 (.cons (.var 8) (.cons (.var 4) .nil))) .nil))) (.cons (.tup (.cons (.var 7) (.cons (.var 8) .nil))) .nil))))
    (.cons (.ex (.meth .extend (.var 6) (.cons (.comp (.var 10) (.nm 10) (.seq (.var 9)) (.val (.call 11 (.cons (.sub (.var 10) (.con (.int 1))) (.cons (.var 5) .nil)))) [10]) .nil)))
    .nil)))
    (.cons (.asg (.nm 2) (.var 6))
    .nil))))
    (.cons (.ret (.blt .sorted (.cons (.comp (.var 7) (.tup (.cons (.nm 7) (.cons (.nm 8) .nil))) (.seq (.var 2)) (.not (.val (.blt .any (.cons (.var 8) .nil)))) [7, 8]) .nil)))
    .nil)))
/-- webs_by -/
def f12 : Fd := ⟨"webs_by", ["purse"], ["purse", "pairs", "found", "at", "pair", "rest", "longer", "web", "need", "told", "each"], [], b12⟩
def b13 : Ss :=
  (.cons (.ex (.call 4 (.cons (.var 0) .nil)))
    (.cons (.ret (.op .is (.call 7 (.cons (.var 0) .nil)) (.con .non)))
    .nil))
/-- has_web -/
def f13 : Fd := ⟨"has_web", ["purse"], ["purse"], [], b13⟩
def b14 : Ss :=
  (.cons (.asg (.nm 1) (.call 12 (.cons (.var 0) .nil)))
    (.cons (.ret (.blt .tuple (.cons (.comp (.var 2) (.nm 2) (.seq (.call 8 (.cons (.blt .len (.cons (.var 0) .nil)) .nil))) (.and (.val (.op .ne (.var 1) (.lst .nil))) (.val (.blt .all (.cons (.comp (.op .isin (.var 2) (.var 3)) (.nm 3) (.seq (.var 1)) .tt [3]) .nil)))) [2]) .nil)))
    .nil))
/-- sure_by -/
def f14 : Fd := ⟨"sure_by", ["purse"], ["purse", "webs", "pair", "web"], [], b14⟩
def b15 : Ss :=
  (.cons (.asg (.nm 1) (.call 12 (.cons (.var 0) .nil)))
    (.cons (.ret (.blt .tuple (.cons (.comp (.var 2) (.nm 2) (.seq (.call 8 (.cons (.blt .len (.cons (.var 0) .nil)) .nil))) (.not (.val (.blt .any (.cons (.comp (.op .isin (.var 2) (.var 3)) (.nm 3) (.seq (.var 1)) .tt [3]) .nil)))) [2]) .nil)))
    .nil))
/-- never_by -/
def f15 : Fd := ⟨"never_by", ["purse"], ["purse", "webs", "pair", "web"], [], b15⟩
def b16 : Ss :=
  (.cons (.ex (.call 4 (.cons (.var 0) .nil)))
    (.cons (.ret (.blt .len (.cons (.call 12 (.cons (.var 0) .nil)) .nil)))
    .nil))
/-- count_webs -/
def f16 : Fd := ⟨"count_webs", ["purse"], ["purse"], [], b16⟩
def b17 : Ss :=
  (.cons (.ex (.call 4 (.cons (.var 0) .nil)))
    (.cons (.ret (.call 14 (.cons (.var 0) .nil)))
    .nil))
/-- sure_ties -/
def f17 : Fd := ⟨"sure_ties", ["purse"], ["purse"], [], b17⟩
def b18 : Ss :=
  (.cons (.ex (.call 4 (.cons (.var 0) .nil)))
    (.cons (.ret (.call 15 (.cons (.var 0) .nil)))
    .nil))
/-- never_tied -/
def f18 : Fd := ⟨"never_tied", ["purse"], ["purse"], [], b18⟩
def b19 : Ss :=
  (.cons (.ex (.call 4 (.cons (.var 0) .nil)))
    (.cons (.ret (.op .eq (.blt .len (.cons (.call 12 (.cons (.var 0) .nil)) .nil)) (.con (.int 1))))
    .nil))
/-- is_lone -/
def f19 : Fd := ⟨"is_lone", ["purse"], ["purse"], [], b19⟩
def b20 : Ss :=
  (.cons (.asg (.nm 2) (.op .add (.con (.int 52027)) (.op .mul (.con (.int 8009)) (.var 1))))
    (.cons (.for_ (.nm 3) (.seq (.slice (.var 0) .no (.yes (.con (.int 16))) .no)) (.cons (.asg (.nm 2) (.op .mod (.blt .int (.cons (.op .add (.op .add (.op .mul (.var 2) (.con (.int 48271))) (.op .mod (.blt .int (.cons (.var 3) .nil)) (.con (.int 2147483629)))) (.con (.int 23))) .nil)) (.con (.int 2147483647))))
    .nil))
    (.cons (.asg (.nm 4) (.ite (.val (.op .lt (.var 1) (.blt .len (.cons (.var 0) .nil)))) (.blt .int (.cons (.sub (.var 0) (.var 1)) .nil)) (.con (.int 0))))
    (.cons (.asg (.nm 2) (.op .mod (.blt .int (.cons (.op .add (.op .add (.op .mul (.var 2) (.con (.int 31))) (.op .mul (.op .mod (.blt .int (.cons (.var 4) .nil)) (.con (.int 2147483629))) (.con (.int 17)))) (.con (.int 3))) .nil)) (.con (.int 2147483647))))
    (.cons (.ret (.lst (.cons (.ite (.or (.val (.op .lt (.var 4) (.con (.int 0)))) (.val (.op .ge (.var 4) (.op .pow (.con (.int 10)) (.con (.int 15)))))) (.blt .abs (.cons (.var 4) .nil)) (.con (.int 0))) (.cons (.var 2) (.cons (.con (.int 0)) .nil)))))
    .nil)))))
/-- _law_bag -/
def f20 : Fd := ⟨"_law_bag", ["script", "lap"], ["script", "lap", "stirred", "cell", "own"], [], b20⟩
def b21 : Ss :=
  (.cons (.ite (.val (.op .gt (.sub (.var 0) (.con (.int 0))) (.con (.int 0)))) (.cons (.asg (.tup (.cons (.sub (.var 0) (.con (.int 0))) (.cons (.nm 2) .nil))) (.blt .divmod (.cons (.sub (.var 0) (.con (.int 0))) (.cons (.var 1) .nil))))
    (.cons (.ret (.var 2))
    .nil)) .nil)
    (.cons (.asg (.sub (.var 0) (.con (.int 2))) (.op .add (.sub (.var 0) (.con (.int 2))) (.con (.int 1))))
    (.cons (.asg (.sub (.var 0) (.con (.int 1))) (.op .mod (.blt .int (.cons (.op .add (.op .add (.op .mul (.sub (.var 0) (.con (.int 1))) (.con (.int 16807))) (.op .mul (.con (.int 4099)) (.sub (.var 0) (.con (.int 2))))) (.con (.int 1))) .nil)) (.con (.int 2147483647))))
    (.cons (.ret (.op .mod (.blt .int (.cons (.op .fdiv (.sub (.var 0) (.con (.int 1))) (.con (.int 911))) .nil)) (.var 1)))
    .nil))))
/-- _law_take -/
def f21 : Fd := ⟨"_law_take", ["bag", "top"], ["bag", "top", "digit"], [], b21⟩
def b22 : Ss :=
  (.cons (.asg (.nm 1) (.lst .nil))
    (.cons (.for_ (.nm 2) (.rng (.cons (.var 0) .nil)) (.cons (.asg (.nm 1) (.op .add (.var 1) (.comp (.tup (.cons (.var 2) (.cons (.var 3) .nil))) (.nm 3) (.rng (.cons (.op .add (.var 2) (.con (.int 1))) (.cons (.var 0) .nil))) .tt [3])))
    .nil))
    (.cons (.ret (.var 1))
    .nil)))
/-- _law_pairs -/
def f22 : Fd := ⟨"_law_pairs", ["people"], ["people", "found", "one", "other"], [], b22⟩
def b23 : Ss :=
  (.cons (.ret (.blt .tuple (.cons (.comp (.blt .len (.cons (.comp (.con (.int 1)) (.nm 3) (.seq (.var 1)) (.val (.op .isin (.var 2) (.var 3))) [3]) .nil)) (.nm 2) (.rng (.cons (.var 0) .nil)) .tt [2]) .nil)))
    .nil)
/-- _law_ties -/
def f23 : Fd := ⟨"_law_ties", ["people", "web"], ["people", "web", "person", "pair"], [], b23⟩
def b24 : Ss :=
  (.cons (.asg (.nm 1) (.lst (.cons (.tup .nil) .nil)))
    (.cons (.for_ (.tup (.cons (.nm 2) (.cons (.nm 3) .nil))) (.seq (.call 22 (.cons (.blt .len (.cons (.var 0) .nil)) .nil))) (.cons (.asg (.nm 4) (.lst .nil))
    (.cons (.for_ (.nm 5) (.seq (.var 1)) (.cons (.asg (.nm 6) (.call 23 (.cons (.blt .len (.cons (.var 0) .nil)) (.cons (.var 5) .nil))))
    (.cons (.ex (.meth .append (.var 4) (.cons (.var 5) .nil)))
    (.cons (.ite (.and (.val (.op .lt (.sub (.var 6) (.var 2)) (.sub (.var 0) (.var 2)))) (.val (.op .lt (.sub (.var 6) (.var 3)) (.sub (.var 0) (.var 3))))) (.cons (.ex (.meth .append (.var 4) (.cons (.op .add (.var 5) (.tup (.cons (.tup (.cons (.var 2) (.cons (.var 3) .nil))) .nil))) .nil)))
    .nil) .nil)
    .nil))))
    (.cons (.ite (.val (.op .eq (.var 3) (.op .sub (.blt .len (.cons (.var 0) .nil)) (.con (.int 1))))) (.cons (.asg (.nm 4) (.comp (.var 5) (.nm 5) (.seq (.var 4)) (.val (.op .eq (.sub (.call 23 (.cons (.blt .len (.cons (.var 0) .nil)) (.cons (.var 5) .nil))) (.var 2)) (.sub (.var 0) (.var 2)))) [5]))
    .nil) .nil)
    (.cons (.asg (.nm 1) (.var 4))
    .nil)))))
    (.cons (.ret (.blt .sorted (.cons (.comp (.var 5) (.nm 5) (.seq (.var 1)) (.val (.op .eq (.call 23 (.cons (.blt .len (.cons (.var 0) .nil)) (.cons (.var 5) .nil))) (.blt .tuple (.cons (.var 0) .nil)))) [5]) .nil)))
    .nil)))
/-- _law_webs -/
def f24 : Fd := ⟨"_law_webs", ["purse"], ["purse", "found", "one", "other", "longer", "web", "ties"], [], b24⟩
def b25 : Ss :=
  (.cons (.asg (.nm 2) (.op .add (.con (.int 1)) (.call 21 (.cons (.var 0) (.cons (.var 1) .nil)))))
    (.cons (.asg (.nm 3) (.comp (.var 5) (.nm 5) (.seq (.call 22 (.cons (.var 2) .nil))) (.val (.op .eq (.call 21 (.cons (.var 0) (.cons (.con (.int 2)) .nil))) (.con (.int 0)))) [5]))
    (.cons (.asg (.nm 4) (.blt .list (.cons (.call 23 (.cons (.var 2) (.cons (.var 3) .nil))) .nil)))
    (.cons (.ite (.val (.op .eq (.call 21 (.cons (.var 0) (.cons (.con (.int 3)) .nil))) (.con (.int 0)))) (.cons (.asg (.sub (.var 4) (.call 21 (.cons (.var 0) (.cons (.var 2) .nil)))) (.call 21 (.cons (.var 0) (.cons (.op .add (.var 2) (.con (.int 1))) .nil))))
    .nil) .nil)
    (.cons (.ret (.blt .tuple (.cons (.var 4) .nil)))
    .nil)))))
/-- _law_some_ties -/
def f25 : Fd := ⟨"_law_some_ties", ["bag", "most"], ["bag", "most", "people", "web", "ties", "pair"], [], b25⟩
def b26 : Ss :=
  (.cons (.asg (.nm 1) (.call 25 (.cons (.var 0) (.cons (.con (.int 5)) .nil))))
    (.cons (.asg (.tup (.cons (.nm 3) (.cons (.nm 4) .nil))) (.tup (.cons (.call 24 (.cons (.var 1) .nil)) (.cons (.call 22 (.cons (.blt .len (.cons (.var 1) .nil)) .nil)) .nil))))
    (.cons (.ite (.val (.op .ne (.blt .repr (.cons (.lst (.cons (.call 16 (.cons (.var 1) .nil)) (.cons (.callk 16 .nil (.cons (.var 1) .nil) [.a 0]) (.cons (.call 16 (.cons (.slice (.var 1) .no .no (.yes (.neg (.con (.int 1))))) .nil)) .nil)))) .nil)) (.blt .repr (.cons (.op .mul (.lst (.cons (.blt .len (.cons (.var 3) .nil)) .nil)) (.con (.int 3))) .nil)))) (.cons (.ret (.con (.bl false)))
    .nil) .nil)
    (.cons (.asg (.nm 2) (.blt .tuple (.cons (.comp (.var 5) (.nm 5) (.seq (.var 4)) (.and (.val (.op .ne (.var 3) (.lst .nil))) (.val (.blt .all (.cons (.comp (.op .isin (.var 5) (.var 6)) (.nm 6) (.seq (.var 3)) .tt [6]) .nil)))) [5]) .nil)))
    (.cons (.ite (.val (.op .ne (.blt .repr (.cons (.lst (.cons (.call 17 (.cons (.var 1) .nil)) (.cons (.callk 17 .nil (.cons (.var 1) .nil) [.a 0]) .nil))) .nil)) (.blt .repr (.cons (.lst (.cons (.var 2) (.cons (.var 2) .nil))) .nil)))) (.cons (.ret (.con (.bl false)))
    .nil) .nil)
    (.cons (.asg (.nm 2) (.blt .tuple (.cons (.comp (.var 5) (.nm 5) (.seq (.var 4)) (.not (.val (.blt .any (.cons (.comp (.op .isin (.var 5) (.var 6)) (.nm 6) (.seq (.var 3)) .tt [6]) .nil)))) [5]) .nil)))
    (.cons (.ite (.val (.op .ne (.blt .repr (.cons (.lst (.cons (.call 18 (.cons (.var 1) .nil)) (.cons (.callk 18 .nil (.cons (.var 1) .nil) [.a 0]) .nil))) .nil)) (.blt .repr (.cons (.lst (.cons (.var 2) (.cons (.var 2) .nil))) .nil)))) (.cons (.ret (.con (.bl false)))
    .nil) .nil)
    (.cons (.ite (.or (.val (.op .ne (.blt .repr (.cons (.lst (.cons (.call 19 (.cons (.var 1) .nil)) (.cons (.callk 19 .nil (.cons (.var 1) .nil) [.a 0]) .nil))) .nil)) (.blt .repr (.cons (.op .mul (.lst (.cons (.op .eq (.blt .len (.cons (.var 3) .nil)) (.con (.int 1))) .nil)) (.con (.int 2))) .nil)))) (.val (.op .ne (.call 13 (.cons (.var 1) .nil)) (.op .ne (.var 3) (.lst .nil))))) (.cons (.ret (.con (.bl false)))
    .nil) .nil)
    (.cons (.ret (.or (.op .ne (.var 3) (.lst .nil)) (.and (.op .eq (.call 17 (.cons (.var 1) .nil)) (.tup .nil)) (.op .eq (.call 18 (.cons (.var 1) .nil)) (.blt .tuple (.cons (.var 4) .nil))))))
    .nil)))))))))
/-- _law_right -/
def f26 : Fd := ⟨"_law_right", ["bag"], ["bag", "purse", "due", "every", "pairs", "pair", "web"], [], b26⟩
def b27 : Ss :=
  (.cons (.for_ (.nm 1) (.rng (.cons (.blt .max (.cons (.con (.int 2)) (.cons (.blt .min (.cons (.blt .len (.cons (.var 0) .nil)) (.cons (.con (.int 3)) .nil))) .nil))) .nil)) (.cons (.asg (.nm 2) (.call 20 (.cons (.var 0) (.cons (.var 1) .nil))))
    (.cons (.ite (.not (.val (.blt .all (.cons (.comp (.call 26 (.cons (.var 2) .nil)) (.nm 3) (.rng (.cons (.con (.int 10)) .nil)) .tt [3]) .nil)))) (.cons (.ret (.con (.bl false)))
    .nil) .nil)
    .nil)))
    (.cons (.ret (.con (.bl true)))
    .nil))
/-- law -/
def f27 : Fd := ⟨"law", ["script"], ["script", "lap", "bag", "turn"], [], b27⟩
def T : List Fd := [f0, f1, f2, f3, f4, f5, f6, f7, f8, f9, f10, f11, f12, f13, f14, f15, f16, f17, f18, f19, f20, f21, f22, f23, f24, f25, f26, f27]
def gl : List (Str × D) := [("MOST_PEOPLE", (.int 6)), ("MOST_COINS", (.int 30))]
/-! ### their places in the row -/
def top (i : Nat) : Stmt := PySem.Challenge.pw_evenpurses_k71_whole_webs_counted.main.body.getD i (.Pass ⟨0, 0, 0, 0⟩)
def d0 : He.DefD := ⟨("is_whole", none), "is_whole", "is_whole", L2.defArgs (top 5), L2.defBody (top 5), L2.defScope (top 5), [], []⟩
def d1 : He.DefD := ⟨("is_between", none), "is_between", "is_between", L2.defArgs (top 6), L2.defBody (top 6), L2.defScope (top 6), [], []⟩
def d2 : He.DefD := ⟨("is_row", none), "is_row", "is_row", L2.defArgs (top 7), L2.defBody (top 7), L2.defScope (top 7), [], []⟩
def d3 : He.DefD := ⟨("is_purse", none), "is_purse", "is_purse", L2.defArgs (top 11), L2.defBody (top 11), L2.defScope (top 11), [], []⟩
def d4 : He.DefD := ⟨("check_purse", none), "check_purse", "check_purse", L2.defArgs (top 12), L2.defBody (top 12), L2.defScope (top 12), [], []⟩
def d5 : He.DefD := ⟨("fall_of", none), "fall_of", "fall_of", L2.defArgs (top 13), L2.defBody (top 13), L2.defScope (top 13), [], []⟩
def d6 : He.DefD := ⟨("is_too_much", none), "is_too_much", "is_too_much", L2.defArgs (top 15), L2.defBody (top 15), L2.defScope (top 15), [], []⟩
def d7 : He.DefD := ⟨("web_bar_by", none), "web_bar_by", "web_bar_by", L2.defArgs (top 16), L2.defBody (top 16), L2.defScope (top 16), [], []⟩
def d8 : He.DefD := ⟨("all_pairs", none), "all_pairs", "all_pairs", L2.defArgs (top 17), L2.defBody (top 17), L2.defScope (top 17), [], []⟩
def d9 : He.DefD := ⟨("degrees_of", none), "degrees_of", "degrees_of", L2.defArgs (top 18), L2.defBody (top 18), L2.defScope (top 18), [], []⟩
def d10 : He.DefD := ⟨("lessened", none), "lessened", "lessened", L2.defArgs (top 19), L2.defBody (top 19), L2.defScope (top 19), [], []⟩
def d11 : He.DefD := ⟨("can_be_tied", none), "can_be_tied", "can_be_tied", L2.defArgs (top 20), L2.defBody (top 20), L2.defScope (top 20), [], []⟩
def d12 : He.DefD := ⟨("webs_by", none), "webs_by", "webs_by", L2.defArgs (top 21), L2.defBody (top 21), L2.defScope (top 21), [], []⟩
def d13 : He.DefD := ⟨("has_web", none), "has_web", "has_web", L2.defArgs (top 22), L2.defBody (top 22), L2.defScope (top 22), [], []⟩
def d14 : He.DefD := ⟨("sure_by", none), "sure_by", "sure_by", L2.defArgs (top 24), L2.defBody (top 24), L2.defScope (top 24), [], []⟩
def d15 : He.DefD := ⟨("never_by", none), "never_by", "never_by", L2.defArgs (top 25), L2.defBody (top 25), L2.defScope (top 25), [], []⟩
def d16 : He.DefD := ⟨("count_webs", none), "count_webs", "count_webs", L2.defArgs (top 26), L2.defBody (top 26), L2.defScope (top 26), [], []⟩
def d17 : He.DefD := ⟨("sure_ties", none), "sure_ties", "sure_ties", L2.defArgs (top 27), L2.defBody (top 27), L2.defScope (top 27), [], []⟩
def d18 : He.DefD := ⟨("never_tied", none), "never_tied", "never_tied", L2.defArgs (top 28), L2.defBody (top 28), L2.defScope (top 28), [], []⟩
def d19 : He.DefD := ⟨("is_lone", none), "is_lone", "is_lone", L2.defArgs (top 29), L2.defBody (top 29), L2.defScope (top 29), [], []⟩
def d20 : He.DefD := ⟨("_law_bag", none), "_law_bag", "_law_bag", L2.defArgs (top 31), L2.defBody (top 31), L2.defScope (top 31), [], []⟩
def d21 : He.DefD := ⟨("_law_take", none), "_law_take", "_law_take", L2.defArgs (top 32), L2.defBody (top 32), L2.defScope (top 32), [], []⟩
def d22 : He.DefD := ⟨("_law_pairs", none), "_law_pairs", "_law_pairs", L2.defArgs (top 33), L2.defBody (top 33), L2.defScope (top 33), [], []⟩
def d23 : He.DefD := ⟨("_law_ties", none), "_law_ties", "_law_ties", L2.defArgs (top 34), L2.defBody (top 34), L2.defScope (top 34), [], []⟩
def d24 : He.DefD := ⟨("_law_webs", none), "_law_webs", "_law_webs", L2.defArgs (top 35), L2.defBody (top 35), L2.defScope (top 35), [], []⟩
def d25 : He.DefD := ⟨("_law_some_ties", none), "_law_some_ties", "_law_some_ties", L2.defArgs (top 36), L2.defBody (top 36), L2.defScope (top 36), [], []⟩
def d26 : He.DefD := ⟨("_law_right", none), "_law_right", "_law_right", L2.defArgs (top 37), L2.defBody (top 37), L2.defScope (top 37), [], []⟩
def d27 : He.DefD := ⟨("law", none), "law", "law", L2.defArgs (top 38), L2.defBody (top 38), L2.defScope (top 38), [], []⟩
def ds : List He.DefD := [d0, d1, d2, d3, d4, d5, d6, d7, d8, d9, d10, d11, d12, d13, d14, d15, d16, d17, d18, d19, d20, d21, d22, d23, d24, d25, d26, d27]
def pg : Pg := ⟨T, ds, gl, ["isinstance", "int", "bool", "tuple", "len", "all", "sorted", "sum", "min", "range", "enumerate", "zip", "any", "abs", "divmod", "list", "repr", "max"], [("combinations", "itertools.combinations")]⟩
theorem good : pg.good = true := by decide +kernel
end K71
namespace K71
open PySem Ev
abbrev G : List D := gl.map (·.2)
theorem g0 : G[0]? = some (.int 6) := rfl
theorem g1 : G[1]? = some (.int 30) := rfl
/-- a purse -/
structure Pz (xs : List Int) : Prop where
  one : 1 ≤ xs.length
  six : xs.length ≤ 6
  rng : ∀ x ∈ xs, 0 ≤ x ∧ x ≤ 30
theorem Pz.nn {xs : List Int} (h : Pz xs) : ∀ x ∈ xs, 0 ≤ x := fun x hx => (h.rng x hx).1
theorem c_whole (n : Nat) (i : Int) (M : Mem) : callN T G 0 (n + 1) 0 [.int i] M = .ok (.bl true) M := rfl
theorem c_between (n : Nat) (i a b : Int) (M : Mem) : callN T G 0 (n + 2) 1 [.int i, .int a, .int b] M = .ok (.bl (decide (a ≤ i) && decide (i ≤ b))) M := by
  rw [call_eq (fd := f1) rfl rfl]
  simp -implicitDefEqProofs only [f1, b1, q_ok, q_bad, q_ofO, q_rt, q_nx, q_var, q_con, q_glo, q_tup, q_lst, q_op, q_neg, q_not, q_chain, q_and, q_or, q_ite, q_call, q_callk, q_blt, q_meth, q_sub, q_slice, q_no, q_yes, q_nil, q_cons, q_tt, q_val, q_bnot, q_band, q_bor, q_nm, q_tupT, q_subT, q_nilT, q_consT, q_asg, q_par, q_ex, q_ret, q_if, q_end, q_then, q_add, q_sub2, q_lt, q_le, q_gt, q_ge, q_eqI, q_neI, q_eqS, q_neS, q_trB, cfg_call, cfg_gl, parD, Option.map_some, List.map_cons, List.map_nil, List.cons_append, List.nil_append, List.getElem?_cons_zero, List.getElem?_cons_succ, List.set_cons_zero, List.set_cons_succ, List.length_cons, List.length_nil, List.replicate_succ, List.replicate_zero, c_whole]
  by_cases h : a ≤ i
  · simp -implicitDefEqProofs only [h, decide_true, Bool.true_and, q_ok, q_bad, q_ofO, q_rt, q_nx, q_var, q_con, q_glo, q_tup, q_lst, q_op, q_neg, q_not, q_chain, q_and, q_or, q_ite, q_call, q_callk, q_blt, q_meth, q_sub, q_slice, q_no, q_yes, q_nil, q_cons, q_tt, q_val, q_bnot, q_band, q_bor, q_nm, q_tupT, q_subT, q_nilT, q_consT, q_asg, q_par, q_ex, q_ret, q_if, q_end, q_then, q_add, q_sub2, q_lt, q_le, q_gt, q_ge, q_eqI, q_neI, q_eqS, q_neS, q_trB, cfg_call, cfg_gl, parD, Option.map_some, List.map_cons, List.map_nil, List.cons_append, List.nil_append, List.getElem?_cons_zero, List.getElem?_cons_succ, List.set_cons_zero, List.set_cons_succ, List.length_cons, List.length_nil, List.replicate_succ, List.replicate_zero]
  · simp -implicitDefEqProofs only [h, decide_false, Bool.false_and, q_ok, q_bad, q_ofO, q_rt, q_nx, q_var, q_con, q_glo, q_tup, q_lst, q_op, q_neg, q_not, q_chain, q_and, q_or, q_ite, q_call, q_callk, q_blt, q_meth, q_sub, q_slice, q_no, q_yes, q_nil, q_cons, q_tt, q_val, q_bnot, q_band, q_bor, q_nm, q_tupT, q_subT, q_nilT, q_consT, q_asg, q_par, q_ex, q_ret, q_if, q_end, q_then, q_add, q_sub2, q_lt, q_le, q_gt, q_ge, q_eqI, q_neI, q_eqS, q_neS, q_trB, cfg_call, cfg_gl, parD, Option.map_some, List.map_cons, List.map_nil, List.cons_append, List.nil_append, List.getElem?_cons_zero, List.getElem?_cons_succ, List.set_cons_zero, List.set_cons_succ, List.length_cons, List.length_nil, List.replicate_succ, List.replicate_zero]
theorem w_purse (n : Nat) {xs : List Int} (M : Mem) (h : Pz xs) : W (callN T G 0 (n + 3) 3 [tp xs] M) fun v M' => v = .bl true ∧ Gr M M' := by
  refine W.call (fd := f3) rfl rfl ?_
  have e2 : callN T G 0 (n + 2) 2 [tp xs, .int 1, .int 6] M = .ok (.bl true) M := by
    rw [call_eq (fd := f2) rfl rfl]
    have h1 : (1 : Int) ≤ ((xs.map D.int).length : Int) := by have := h.one; rw [List.length_map]; omega
    have h2 : ((xs.map D.int).length : Int) ≤ 6 := by have := h.six; rw [List.length_map]; omega
    simp -implicitDefEqProofs only [f2, b2, q_ok, q_bad, q_ofO, q_rt, q_nx, q_var, q_con, q_glo, q_tup, q_lst, q_op, q_neg, q_not, q_chain, q_and, q_or, q_ite, q_call, q_callk, q_blt, q_meth, q_sub, q_slice, q_no, q_yes, q_nil, q_cons, q_tt, q_val, q_bnot, q_band, q_bor, q_nm, q_tupT, q_subT, q_nilT, q_consT, q_asg, q_par, q_ex, q_ret, q_if, q_end, q_then, q_add, q_sub2, q_lt, q_le, q_gt, q_ge, q_eqI, q_neI, q_eqS, q_neS, q_trB, cfg_call, cfg_gl, parD, Option.map_some, List.map_cons, List.map_nil, List.cons_append, List.nil_append, List.getElem?_cons_zero, List.getElem?_cons_succ, List.set_cons_zero, List.set_cons_succ, List.length_cons, List.length_nil, List.replicate_succ, List.replicate_zero, isi_tup, len_tup, decide_eq_true h1, decide_eq_true h2]
  simp -implicitDefEqProofs only [f3, b3, q_ok, q_bad, q_ofO, q_rt, q_nx, q_var, q_con, q_glo, q_tup, q_lst, q_op, q_neg, q_not, q_chain, q_and, q_or, q_ite, q_call, q_callk, q_blt, q_meth, q_sub, q_slice, q_no, q_yes, q_nil, q_cons, q_tt, q_val, q_bnot, q_band, q_bor, q_nm, q_tupT, q_subT, q_nilT, q_consT, q_asg, q_par, q_ex, q_ret, q_if, q_end, q_then, q_add, q_sub2, q_lt, q_le, q_gt, q_ge, q_eqI, q_neI, q_eqS, q_neS, q_trB, cfg_call, cfg_gl, parD, Option.map_some, List.map_cons, List.map_nil, List.cons_append, List.nil_append, List.getElem?_cons_zero, List.getElem?_cons_succ, List.set_cons_zero, List.set_cons_succ, List.length_cons, List.length_nil, List.replicate_succ, List.replicate_zero, Ev.bind_assoc, g0, e2]
  refine W.bind (W_map1 (ps := xs) (fm := D.int) (J := Gr M) (fun _ => D.bl true) (W.ok ⟨walks_tup, Gr.refl M⟩) (by have := h.six; rw [line]; omega) fun M a acc ha hj hl => ?_) ?_
  · have e : (cfg T G 0 (n + 2)).call 1 [.int a, .int 0, .int 30] M = .ok (.bl true) M := by
      rw [cfg_call, c_between n a 0 30 M, decide_eq_true (h.rng a ha).1, decide_eq_true (h.rng a ha).2] <;> rfl
    rw [stepD_nm]
    refine W.eq (r := pushD acc (.bl true) M) ?_ ?_
    · exact ⟨_, _, push_ok hl, hj, rfl⟩
    · show (((cfg T G 0 (n + 2)).call 1 [.int a, .int 0, .int 30] M).bind fun y M => pushD acc y M) = _
      rw [e, q_ok]
  · rintro v M' ⟨M1, g, rfl, rfl⟩
    have e : (xs.map fun _ => D.bl true) = (xs.map fun _ => true).map D.bl := by simp
    have e5 : (xs.map fun _ => true).all id = true := by simp
    simp -implicitDefEqProofs only [q_ok, q_bad, q_ofO, q_rt, q_nx, q_var, q_con, q_glo, q_tup, q_lst, q_op, q_neg, q_not, q_chain, q_and, q_or, q_ite, q_call, q_callk, q_blt, q_meth, q_sub, q_slice, q_no, q_yes, q_nil, q_cons, q_tt, q_val, q_bnot, q_band, q_bor, q_nm, q_tupT, q_subT, q_nilT, q_consT, q_asg, q_par, q_ex, q_ret, q_if, q_end, q_then, q_add, q_sub2, q_lt, q_le, q_gt, q_ge, q_eqI, q_neI, q_eqS, q_neS, q_trB, cfg_call, cfg_gl, parD, Option.map_some, List.map_cons, List.map_nil, List.cons_append, List.nil_append, List.getElem?_cons_zero, List.getElem?_cons_succ, List.set_cons_zero, List.set_cons_succ, List.length_cons, List.length_nil, List.replicate_succ, List.replicate_zero, Ev.bind_assoc, e, all_new, e5]
    exact W.ok ⟨rfl, g.push _⟩
theorem w_check (n : Nat) {xs : List Int} (M : Mem) (h : Pz xs) : W (callN T G 0 (n + 4) 4 [tp xs] M) fun v M' => v = .non ∧ Gr M M' := by
  refine W.call (fd := f4) rfl rfl ?_
  simp -implicitDefEqProofs only [f4, b4, q_ok, q_bad, q_ofO, q_rt, q_nx, q_var, q_con, q_glo, q_tup, q_lst, q_op, q_neg, q_not, q_chain, q_and, q_or, q_ite, q_call, q_callk, q_blt, q_meth, q_sub, q_slice, q_no, q_yes, q_nil, q_cons, q_tt, q_val, q_bnot, q_band, q_bor, q_nm, q_tupT, q_subT, q_nilT, q_consT, q_asg, q_par, q_ex, q_ret, q_if, q_end, q_then, q_add, q_sub2, q_lt, q_le, q_gt, q_ge, q_eqI, q_neI, q_eqS, q_neS, q_trB, cfg_call, cfg_gl, parD, Option.map_some, List.map_cons, List.map_nil, List.cons_append, List.nil_append, List.getElem?_cons_zero, List.getElem?_cons_succ, List.set_cons_zero, List.set_cons_succ, List.length_cons, List.length_nil, List.replicate_succ, List.replicate_zero, Ev.bind_assoc]
  refine (w_purse n M h).bind ?_
  rintro v M' ⟨rfl, g⟩
  simp -implicitDefEqProofs only [q_ok, q_bad, q_ofO, q_rt, q_nx, q_var, q_con, q_glo, q_tup, q_lst, q_op, q_neg, q_not, q_chain, q_and, q_or, q_ite, q_call, q_callk, q_blt, q_meth, q_sub, q_slice, q_no, q_yes, q_nil, q_cons, q_tt, q_val, q_bnot, q_band, q_bor, q_nm, q_tupT, q_subT, q_nilT, q_consT, q_asg, q_par, q_ex, q_ret, q_if, q_end, q_then, q_add, q_sub2, q_lt, q_le, q_gt, q_ge, q_eqI, q_neI, q_eqS, q_neS, q_trB, cfg_call, cfg_gl, parD, Option.map_some, List.map_cons, List.map_nil, List.cons_append, List.nil_append, List.getElem?_cons_zero, List.getElem?_cons_succ, List.set_cons_zero, List.set_cons_succ, List.length_cons, List.length_nil, List.replicate_succ, List.replicate_zero, Bool.not_true]
  exact W.ok ⟨rfl, g⟩
theorem c_fall (n : Nat) (xs : List Int) (M : Mem) : callN T G 0 (n + 1) 5 [tp xs] M = .ok (tp (fl xs)) (M ++ [.lst ((fl xs).map D.int)]) := by
  rw [call_eq (fd := f5) rfl rfl]
  simp -implicitDefEqProofs only [f5, b5, q_ok, q_bad, q_ofO, q_rt, q_nx, q_var, q_con, q_glo, q_tup, q_lst, q_op, q_neg, q_not, q_chain, q_and, q_or, q_ite, q_call, q_callk, q_blt, q_meth, q_sub, q_slice, q_no, q_yes, q_nil, q_cons, q_tt, q_val, q_bnot, q_band, q_bor, q_nm, q_tupT, q_subT, q_nilT, q_consT, q_asg, q_par, q_ex, q_ret, q_if, q_end, q_then, q_add, q_sub2, q_lt, q_le, q_gt, q_ge, q_eqI, q_neI, q_eqS, q_neS, q_trB, cfg_call, cfg_gl, parD, Option.map_some, List.map_cons, List.map_nil, List.cons_append, List.nil_append, List.getElem?_cons_zero, List.getElem?_cons_succ, List.set_cons_zero, List.set_cons_succ, List.length_cons, List.length_nil, List.replicate_succ, List.replicate_zero, sortedR_tp, tuple_new]
/-! ### where the greatest ones are too much -/
theorem w_too (n : Nat) {p : List Int} {k : Nat} (M : Mem) (hl : p.length ≤ 6) (hk : k ≤ 6) : W (callN T G 0 (n + 2) 6 [tp p, .int (k : Int)] M) fun v M' => v = .bl (tm p k) ∧ Gr M M' := by
  refine W.call (fd := f6) rfl rfl ?_
  have m1 : ∀ M, op2 .mul (.int (k : Int)) (.int ((k : Int) - 1)) M = .ok (.int ((k : Int) * ((k : Int) - 1))) M := fun M => mul_small (by omega)
  simp -implicitDefEqProofs only [f6, b6, q_ok, q_bad, q_ofO, q_rt, q_nx, q_var, q_con, q_glo, q_tup, q_lst, q_op, q_neg, q_not, q_chain, q_and, q_or, q_ite, q_call, q_callk, q_blt, q_meth, q_sub, q_slice, q_no, q_yes, q_nil, q_cons, q_tt, q_val, q_bnot, q_band, q_bor, q_nm, q_tupT, q_subT, q_nilT, q_consT, q_asg, q_par, q_ex, q_ret, q_if, q_end, q_then, q_add, q_sub2, q_lt, q_le, q_gt, q_ge, q_eqI, q_neI, q_eqS, q_neS, q_trB, cfg_call, cfg_gl, parD, Option.map_some, List.map_cons, List.map_nil, List.cons_append, List.nil_append, List.getElem?_cons_zero, List.getElem?_cons_succ, List.set_cons_zero, List.set_cons_succ, List.length_cons, List.length_nil, List.replicate_succ, List.replicate_zero, Ev.bind_assoc, c_fall, slice_tp, sum_tp, m1]
  refine W.bind (W_map1 (ps := (fl p).drop k) (fm := D.int) (J := Gr M) (fun x => D.int (if (k : Int) < x then (k : Int) else x)) (W_iseq (Q := fun v M' => v = tp ((fl p).drop k) ∧ Gr M M') ?_ fun v M' ⟨e, g⟩ => ⟨g, .inl e⟩) (by rw [List.length_drop, fl_len, line]; omega) fun M1 x acc hx hj hacc => ?_) ?_
  · simp -implicitDefEqProofs only [q_ok, q_bad, q_ofO, q_rt, q_nx, q_var, q_con, q_glo, q_tup, q_lst, q_op, q_neg, q_not, q_chain, q_and, q_or, q_ite, q_call, q_callk, q_blt, q_meth, q_sub, q_slice, q_no, q_yes, q_nil, q_cons, q_tt, q_val, q_bnot, q_band, q_bor, q_nm, q_tupT, q_subT, q_nilT, q_consT, q_asg, q_par, q_ex, q_ret, q_if, q_end, q_then, q_add, q_sub2, q_lt, q_le, q_gt, q_ge, q_eqI, q_neI, q_eqS, q_neS, q_trB, cfg_call, cfg_gl, parD, Option.map_some, List.map_cons, List.map_nil, List.cons_append, List.nil_append, List.getElem?_cons_zero, List.getElem?_cons_succ, List.set_cons_zero, List.set_cons_succ, List.length_cons, List.length_nil, List.replicate_succ, List.replicate_zero, slice_tpd]
    exact W.ok ⟨rfl, Gr.push (Gr.refl M) _⟩
  · rw [stepD_nm]
    simp -implicitDefEqProofs only [wipeD, q_ok, q_bad, q_ofO, q_rt, q_nx, q_var, q_con, q_glo, q_tup, q_lst, q_op, q_neg, q_not, q_chain, q_and, q_or, q_ite, q_call, q_callk, q_blt, q_meth, q_sub, q_slice, q_no, q_yes, q_nil, q_cons, q_tt, q_val, q_bnot, q_band, q_bor, q_nm, q_tupT, q_subT, q_nilT, q_consT, q_asg, q_par, q_ex, q_ret, q_if, q_end, q_then, q_add, q_sub2, q_lt, q_le, q_gt, q_ge, q_eqI, q_neI, q_eqS, q_neS, q_trB, cfg_call, cfg_gl, parD, Option.map_some, List.map_cons, List.map_nil, List.cons_append, List.nil_append, List.getElem?_cons_zero, List.getElem?_cons_succ, List.set_cons_zero, List.set_cons_succ, List.length_cons, List.length_nil, List.replicate_succ, List.replicate_zero, Ev.bind_assoc, min2]
    exact ⟨_, _, push_ok hacc, hj, rfl⟩
  · rintro v M' ⟨M1, g, rfl, rfl⟩
    rw [mins_D]
    simp -implicitDefEqProofs only [q_ok, q_bad, q_ofO, q_rt, q_nx, q_var, q_con, q_glo, q_tup, q_lst, q_op, q_neg, q_not, q_chain, q_and, q_or, q_ite, q_call, q_callk, q_blt, q_meth, q_sub, q_slice, q_no, q_yes, q_nil, q_cons, q_tt, q_val, q_bnot, q_band, q_bor, q_nm, q_tupT, q_subT, q_nilT, q_consT, q_asg, q_par, q_ex, q_ret, q_if, q_end, q_then, q_add, q_sub2, q_lt, q_le, q_gt, q_ge, q_eqI, q_neI, q_eqS, q_neS, q_trB, cfg_call, cfg_gl, parD, Option.map_some, List.map_cons, List.map_nil, List.cons_append, List.nil_append, List.getElem?_cons_zero, List.getElem?_cons_succ, List.set_cons_zero, List.set_cons_succ, List.length_cons, List.length_nil, List.replicate_succ, List.replicate_zero, Ev.bind_assoc, sum_new]
    exact W.ok ⟨rfl, g.push _⟩
theorem least_asc {L : List Nat} (h : L.Pairwise (· < ·)) : leastOf (L.map fun i : Nat => (1 : Int) + (i : Int)) = L.head?.map fun i : Nat => (1 : Int) + (i : Int) := by
  cases L with
  | nil => rfl
  | cons x r =>
    refine least_is List.mem_cons_self fun y hy => ?_
    rcases List.mem_cons.mp hy with e | hy
    · omega
    · obtain ⟨z, hz, rfl⟩ := List.mem_map.mp hy
      have := (List.pairwise_cons.mp h).1 z hz
      show (1 : Int) + (x : Int) ≤ 1 + (z : Int)
      omega
theorem wbar_F {p : List Int} (h : ¬ p.sum % 2 = 1) : wbar p = ((List.range p.length).find? fun i => tm p (i + 1)).map (· + 1) := by
  unfold wbar
  rw [if_neg h, List.find?_map]
  rfl
theorem optD_F (o : Option Nat) : optD (o.map (· + 1)) = (match o with | some i => D.int (1 + (i : Int)) | none => .non) := by
  cases o with
  | none => rfl
  | some i =>
    show D.int ((i + 1 : Nat) : Int) = D.int (1 + (i : Int))
    rw [show ((i + 1 : Nat) : Int) = 1 + (i : Int) by omega]
theorem w_wbar (n : Nat) {p : List Int} (M : Mem) (hl : p.length ≤ 6) : W (callN T G 0 (n + 3) 7 [tp p] M) fun v M' => v = optD (wbar p) ∧ Gr M M' := by
  refine W.call (fd := f7) rfl rfl ?_
  have q2 : ∀ {x : Int} {M : Mem}, op2 .mod (.int x) (.int 2) M = .ok (.int (x % 2)) M := q_mod (by decide)
  simp -implicitDefEqProofs only [f7, b7, q_ok, q_bad, q_ofO, q_rt, q_nx, q_var, q_con, q_glo, q_tup, q_lst, q_op, q_neg, q_not, q_chain, q_and, q_or, q_ite, q_call, q_callk, q_blt, q_meth, q_sub, q_slice, q_no, q_yes, q_nil, q_cons, q_tt, q_val, q_bnot, q_band, q_bor, q_nm, q_tupT, q_subT, q_nilT, q_consT, q_asg, q_par, q_ex, q_ret, q_if, q_end, q_then, q_add, q_sub2, q_lt, q_le, q_gt, q_ge, q_eqI, q_neI, q_eqS, q_neS, q_trB, cfg_call, cfg_gl, parD, Option.map_some, List.map_cons, List.map_nil, List.cons_append, List.nil_append, List.getElem?_cons_zero, List.getElem?_cons_succ, List.set_cons_zero, List.set_cons_succ, List.length_cons, List.length_nil, List.replicate_succ, List.replicate_zero, Ev.bind_assoc, sum_tp, q2]
  by_cases h : p.sum % 2 = 1
  · simp -implicitDefEqProofs only [decide_eq_true h, q_ok, q_bad, q_ofO, q_rt, q_nx, q_var, q_con, q_glo, q_tup, q_lst, q_op, q_neg, q_not, q_chain, q_and, q_or, q_ite, q_call, q_callk, q_blt, q_meth, q_sub, q_slice, q_no, q_yes, q_nil, q_cons, q_tt, q_val, q_bnot, q_band, q_bor, q_nm, q_tupT, q_subT, q_nilT, q_consT, q_asg, q_par, q_ex, q_ret, q_if, q_end, q_then, q_add, q_sub2, q_lt, q_le, q_gt, q_ge, q_eqI, q_neI, q_eqS, q_neS, q_trB, cfg_call, cfg_gl, parD, Option.map_some, List.map_cons, List.map_nil, List.cons_append, List.nil_append, List.getElem?_cons_zero, List.getElem?_cons_succ, List.set_cons_zero, List.set_cons_succ, List.length_cons, List.length_nil, List.replicate_succ, List.replicate_zero, Ev.bind_assoc]
    refine W.ok ⟨?_, Gr.refl M⟩
    unfold wbar
    rw [if_pos h]
    rfl
  · simp -implicitDefEqProofs only [decide_eq_false h, q_ok, q_bad, q_ofO, q_rt, q_nx, q_var, q_con, q_glo, q_tup, q_lst, q_op, q_neg, q_not, q_chain, q_and, q_or, q_ite, q_call, q_callk, q_blt, q_meth, q_sub, q_slice, q_no, q_yes, q_nil, q_cons, q_tt, q_val, q_bnot, q_band, q_bor, q_nm, q_tupT, q_subT, q_nilT, q_consT, q_asg, q_par, q_ex, q_ret, q_if, q_end, q_then, q_add, q_sub2, q_lt, q_le, q_gt, q_ge, q_eqI, q_neI, q_eqS, q_neS, q_trB, cfg_call, cfg_gl, parD, Option.map_some, List.map_cons, List.map_nil, List.cons_append, List.nil_append, List.getElem?_cons_zero, List.getElem?_cons_succ, List.set_cons_zero, List.set_cons_succ, List.length_cons, List.length_nil, List.replicate_succ, List.replicate_zero, Ev.bind_assoc]
    refine W.bind (W_filt (ps := List.range p.length) (fm := fun k : Nat => .int (1 + (k : Int))) (J := Gr M) (fun i => tm p (i + 1)) (fun k : Nat => D.int (1 + (k : Int))) (W_irng (ds := [.int 1, .int ((p.length : Int) + 1)]) (lo := 1) (n := p.length) ?_ ?_ (Gr.refl M)) (by rw [List.length_range, line]; omega) fun M1 i acc hi hj hacc => ?_) ?_
    · simp -implicitDefEqProofs only [q_ok, q_bad, q_ofO, q_rt, q_nx, q_var, q_con, q_glo, q_tup, q_lst, q_op, q_neg, q_not, q_chain, q_and, q_or, q_ite, q_call, q_callk, q_blt, q_meth, q_sub, q_slice, q_no, q_yes, q_nil, q_cons, q_tt, q_val, q_bnot, q_band, q_bor, q_nm, q_tupT, q_subT, q_nilT, q_consT, q_asg, q_par, q_ex, q_ret, q_if, q_end, q_then, q_add, q_sub2, q_lt, q_le, q_gt, q_ge, q_eqI, q_neI, q_eqS, q_neS, q_trB, cfg_call, cfg_gl, parD, Option.map_some, List.map_cons, List.map_nil, List.cons_append, List.nil_append, List.getElem?_cons_zero, List.getElem?_cons_succ, List.set_cons_zero, List.set_cons_succ, List.length_cons, List.length_nil, List.replicate_succ, List.replicate_zero, len_tup, List.length_map]
    · rw [rng2 (by omega), show ((p.length : Int) + 1 - 1).toNat = p.length by omega]
    · rw [stepD_if]
      have hi' := List.mem_range.mp hi
      have e1 : (1 : Int) + (i : Int) = ((i + 1 : Nat) : Int) := by omega
      simp -implicitDefEqProofs only [wipeD, q_ok, q_bad, q_ofO, q_rt, q_nx, q_var, q_con, q_glo, q_tup, q_lst, q_op, q_neg, q_not, q_chain, q_and, q_or, q_ite, q_call, q_callk, q_blt, q_meth, q_sub, q_slice, q_no, q_yes, q_nil, q_cons, q_tt, q_val, q_bnot, q_band, q_bor, q_nm, q_tupT, q_subT, q_nilT, q_consT, q_asg, q_par, q_ex, q_ret, q_if, q_end, q_then, q_add, q_sub2, q_lt, q_le, q_gt, q_ge, q_eqI, q_neI, q_eqS, q_neS, q_trB, cfg_call, cfg_gl, parD, Option.map_some, List.map_cons, List.map_nil, List.cons_append, List.nil_append, List.getElem?_cons_zero, List.getElem?_cons_succ, List.set_cons_zero, List.set_cons_succ, List.length_cons, List.length_nil, List.replicate_succ, List.replicate_zero, Ev.bind_assoc]
      rw [e1]
      refine (w_too n (k := i + 1) M1 hl (by omega)).bind ?_
      rintro v M2 ⟨rfl, g⟩
      simp -implicitDefEqProofs only [q_ok, q_bad, q_ofO, q_rt, q_nx, q_var, q_con, q_glo, q_tup, q_lst, q_op, q_neg, q_not, q_chain, q_and, q_or, q_ite, q_call, q_callk, q_blt, q_meth, q_sub, q_slice, q_no, q_yes, q_nil, q_cons, q_tt, q_val, q_bnot, q_band, q_bor, q_nm, q_tupT, q_subT, q_nilT, q_consT, q_asg, q_par, q_ex, q_ret, q_if, q_end, q_then, q_add, q_sub2, q_lt, q_le, q_gt, q_ge, q_eqI, q_neI, q_eqS, q_neS, q_trB, cfg_call, cfg_gl, parD, Option.map_some, List.map_cons, List.map_nil, List.cons_append, List.nil_append, List.getElem?_cons_zero, List.getElem?_cons_succ, List.set_cons_zero, List.set_cons_succ, List.length_cons, List.length_nil, List.replicate_succ, List.replicate_zero, Ev.bind_assoc]
      cases tm p (i + 1) with
      | true => exact ⟨_, _, push_ok hacc, hj.trans g, rfl⟩
      | false => exact ⟨_, _, rfl, hj.trans g, rfl⟩
    · rintro v M' ⟨M1, g, rfl, rfl⟩
      have e : (((List.range p.length).filter fun i => tm p (i + 1)).map fun k : Nat => D.int (1 + (k : Int))) = (((List.range p.length).filter fun i => tm p (i + 1)).map fun k : Nat => (1 : Int) + (k : Int)).map D.int := by rw [List.map_map] <;> rfl
      have asc : ((List.range p.length).filter fun i => tm p (i + 1)).Pairwise (· < ·) := List.Pairwise.filter _ List.pairwise_lt_range
      simp -implicitDefEqProofs only [q_ok, q_bad, q_ofO, q_rt, q_nx, q_var, q_con, q_glo, q_tup, q_lst, q_op, q_neg, q_not, q_chain, q_and, q_or, q_ite, q_call, q_callk, q_blt, q_meth, q_sub, q_slice, q_no, q_yes, q_nil, q_cons, q_tt, q_val, q_bnot, q_band, q_bor, q_nm, q_tupT, q_subT, q_nilT, q_consT, q_asg, q_par, q_ex, q_ret, q_if, q_end, q_then, q_add, q_sub2, q_lt, q_le, q_gt, q_ge, q_eqI, q_neI, q_eqS, q_neS, q_trB, cfg_call, cfg_gl, parD, Option.map_some, List.map_cons, List.map_nil, List.cons_append, List.nil_append, List.getElem?_cons_zero, List.getElem?_cons_succ, List.set_cons_zero, List.set_cons_succ, List.length_cons, List.length_nil, List.replicate_succ, List.replicate_zero, Ev.bind_assoc, e, minD_new, least_asc asc, List.head?_filter]
      refine W.ok ⟨?_, g.push _⟩
      rw [wbar_F h, optD_F]
      cases (List.range p.length).find? fun i => tm p (i + 1) <;> rfl
theorem w_has (n : Nat) {p : List Int} (M : Mem) (hp : Pz p) : W (callN T G 0 (n + 5) 13 [tp p] M) fun v M' => v = .bl (wbar p).isNone ∧ Gr M M' := by
  refine W.call (fd := f13) rfl rfl ?_
  simp -implicitDefEqProofs only [f13, b13, q_ok, q_bad, q_ofO, q_rt, q_nx, q_var, q_con, q_glo, q_tup, q_lst, q_op, q_neg, q_not, q_chain, q_and, q_or, q_ite, q_call, q_callk, q_blt, q_meth, q_sub, q_slice, q_no, q_yes, q_nil, q_cons, q_tt, q_val, q_bnot, q_band, q_bor, q_nm, q_tupT, q_subT, q_nilT, q_consT, q_asg, q_par, q_ex, q_ret, q_if, q_end, q_then, q_add, q_sub2, q_lt, q_le, q_gt, q_ge, q_eqI, q_neI, q_eqS, q_neS, q_trB, cfg_call, cfg_gl, parD, Option.map_some, List.map_cons, List.map_nil, List.cons_append, List.nil_append, List.getElem?_cons_zero, List.getElem?_cons_succ, List.set_cons_zero, List.set_cons_succ, List.length_cons, List.length_nil, List.replicate_succ, List.replicate_zero, Ev.bind_assoc]
  refine (w_check n M hp).bind ?_
  rintro v M1 ⟨rfl, g1⟩
  try simp -implicitDefEqProofs only [q_ok, q_bad, q_ofO, q_rt, q_nx, q_var, q_con, q_glo, q_tup, q_lst, q_op, q_neg, q_not, q_chain, q_and, q_or, q_ite, q_call, q_callk, q_blt, q_meth, q_sub, q_slice, q_no, q_yes, q_nil, q_cons, q_tt, q_val, q_bnot, q_band, q_bor, q_nm, q_tupT, q_subT, q_nilT, q_consT, q_asg, q_par, q_ex, q_ret, q_if, q_end, q_then, q_add, q_sub2, q_lt, q_le, q_gt, q_ge, q_eqI, q_neI, q_eqS, q_neS, q_trB, cfg_call, cfg_gl, parD, Option.map_some, List.map_cons, List.map_nil, List.cons_append, List.nil_append, List.getElem?_cons_zero, List.getElem?_cons_succ, List.set_cons_zero, List.set_cons_succ, List.length_cons, List.length_nil, List.replicate_succ, List.replicate_zero, Ev.bind_assoc]
  refine (w_wbar (n + 1) M1 hp.six).bind ?_
  rintro v M2 ⟨rfl, g2⟩
  have e : op2 .is (optD (wbar p)) .non M2 = .ok (.bl (wbar p).isNone) M2 := by cases wbar p <;> rfl
  simp -implicitDefEqProofs only [q_ok, q_bad, q_ofO, q_rt, q_nx, q_var, q_con, q_glo, q_tup, q_lst, q_op, q_neg, q_not, q_chain, q_and, q_or, q_ite, q_call, q_callk, q_blt, q_meth, q_sub, q_slice, q_no, q_yes, q_nil, q_cons, q_tt, q_val, q_bnot, q_band, q_bor, q_nm, q_tupT, q_subT, q_nilT, q_consT, q_asg, q_par, q_ex, q_ret, q_if, q_end, q_then, q_add, q_sub2, q_lt, q_le, q_gt, q_ge, q_eqI, q_neI, q_eqS, q_neS, q_trB, cfg_call, cfg_gl, parD, Option.map_some, List.map_cons, List.map_nil, List.cons_append, List.nil_append, List.getElem?_cons_zero, List.getElem?_cons_succ, List.set_cons_zero, List.set_cons_succ, List.length_cons, List.length_nil, List.replicate_succ, List.replicate_zero, Ev.bind_assoc, e]
  exact W.ok ⟨rfl, g1.trans g2⟩
/-! ### the law's own -/
theorem w_take (n : Nat) {p : Nat} {m : Int} (M : Mem) (hp : Pool M p) (hm : 0 < m ∧ m < 1073741824) : W (callN T G 0 (n + 1) 21 [.loc p, .int m] M) fun v M' => ∃ d : Int, v = .int d ∧ 0 ≤ d ∧ d < m ∧ Keep p M M' := by
  obtain ⟨a, b, c, h⟩ := id hp
  have hl := hp.lt
  refine W.call (fd := f21) rfl rfl ?_
  by_cases ha : 0 < a
  · simp -implicitDefEqProofs only [f21, b21, q_ok, q_bad, q_ofO, q_rt, q_nx, q_var, q_con, q_glo, q_tup, q_lst, q_op, q_neg, q_not, q_chain, q_and, q_or, q_ite, q_call, q_callk, q_blt, q_meth, q_sub, q_slice, q_no, q_yes, q_nil, q_cons, q_tt, q_val, q_bnot, q_band, q_bor, q_nm, q_tupT, q_subT, q_nilT, q_consT, q_asg, q_par, q_ex, q_ret, q_if, q_end, q_then, q_add, q_sub2, q_lt, q_le, q_gt, q_ge, q_eqI, q_neI, q_eqS, q_neS, q_trB, cfg_call, cfg_gl, parD, Option.map_some, List.map_cons, List.map_nil, List.cons_append, List.nil_append, List.getElem?_cons_zero, List.getElem?_cons_succ, List.set_cons_zero, List.set_cons_succ, List.length_cons, List.length_nil, List.replicate_succ, List.replicate_zero, it0 h, decide_eq_true ha, divmod_ok' hm, st0 h]
    exact W.ok ⟨_, rfl, Int.emod_nonneg _ (by omega), Int.emod_lt_of_pos _ hm.1, Keep.set3 hl⟩
  · have k1 : ∀ {x y z : Int}, (M.set p (.lst [.int x, .int y, .int z]))[p]? = some (.lst [.int x, .int y, .int z]) := set_at hl
    have m1 : ∀ {x : Int} {M : Mem}, op2 .mul (.int x) (.int 16807) M = .ok (.int (x * 16807)) M := mul_smallR (by decide)
    have m2 : ∀ {x : Int} {M : Mem}, op2 .mul (.int 4099) (.int x) M = .ok (.int (4099 * x)) M := mul_small (by decide)
    have q1 : ∀ {x : Int} {M : Mem}, op2 .mod (.int x) (.int 2147483647) M = .ok (.int (x % 2147483647)) M := q_mod (by decide)
    have q3 : ∀ {x : Int} {M : Mem}, op2 .mod (.int x) (.int m) M = .ok (.int (x % m)) M := q_mod hm.1
    have q4 : ∀ {x : Int} {M : Mem}, op2 .fdiv (.int x) (.int 911) M = .ok (.int (x / 911)) M := q_fdiv (by decide)
    simp -implicitDefEqProofs only [f21, b21, q_ok, q_bad, q_ofO, q_rt, q_nx, q_var, q_con, q_glo, q_tup, q_lst, q_op, q_neg, q_not, q_chain, q_and, q_or, q_ite, q_call, q_callk, q_blt, q_meth, q_sub, q_slice, q_no, q_yes, q_nil, q_cons, q_tt, q_val, q_bnot, q_band, q_bor, q_nm, q_tupT, q_subT, q_nilT, q_consT, q_asg, q_par, q_ex, q_ret, q_if, q_end, q_then, q_add, q_sub2, q_lt, q_le, q_gt, q_ge, q_eqI, q_neI, q_eqS, q_neS, q_trB, cfg_call, cfg_gl, parD, Option.map_some, List.map_cons, List.map_nil, List.cons_append, List.nil_append, List.getElem?_cons_zero, List.getElem?_cons_succ, List.set_cons_zero, List.set_cons_succ, List.length_cons, List.length_nil, List.replicate_succ, List.replicate_zero, it0 h, decide_eq_false ha, it2 h, st2 h, it1 k1, it2 k1, st1 k1, m1, m2, q1, q3, q4, int1, List.set_set]
    exact W.ok ⟨_, rfl, Int.emod_nonneg _ (by omega), Int.emod_lt_of_pos _ hm.1, Keep.set3 hl⟩
/-! ### the law's own webs -/
theorem w_pairs (n : Nat) {m : Nat} (M : Mem) (hm : m ≤ 6) : W (callN T G 0 (n + 1) 22 [.int (m : Int)] M) fun v M' => ∃ l, v = .loc l ∧ M.length ≤ l ∧ M'[l]? = some (.lst ((prs m).map pairD)) ∧ Gr M M' := by
  refine W.call (fd := f22) rfl rfl ?_
  simp -implicitDefEqProofs only [f22, b22, q_ok, q_bad, q_ofO, q_rt, q_nx, q_var, q_con, q_glo, q_tup, q_lst, q_op, q_neg, q_not, q_chain, q_and, q_or, q_ite, q_call, q_callk, q_blt, q_meth, q_sub, q_slice, q_no, q_yes, q_nil, q_cons, q_tt, q_val, q_bnot, q_band, q_bor, q_nm, q_tupT, q_subT, q_nilT, q_consT, q_asg, q_par, q_ex, q_ret, q_if, q_end, q_then, q_add, q_sub2, q_lt, q_le, q_gt, q_ge, q_eqI, q_neI, q_eqS, q_neS, q_trB, cfg_call, cfg_gl, parD, Option.map_some, List.map_cons, List.map_nil, List.cons_append, List.nil_append, List.getElem?_cons_zero, List.getElem?_cons_succ, List.set_cons_zero, List.set_cons_succ, List.length_cons, List.length_nil, List.replicate_succ, List.replicate_zero, Ev.bind_assoc, new_q]
  have few : ∀ i ≤ m, ((List.range i).flatMap (prow m)).length ≤ i * 6 := fun i => by
    induction i with
    | zero => exact fun _ => Nat.le_refl _
    | succ i ih =>
      intro hi
      rw [List.range_succ, List.flatMap_append, List.length_append]
      have := ih (by omega)
      have e : ([i].flatMap (prow m)).length ≤ 6 := by simp [prow]; omega
      omega
  refine W.bind (W_for (ps := List.range m) (fm := fun k : Nat => .int (0 + (k : Int))) (J := fun _ => True) (fun i σ M' => i ≤ m ∧ ∃ x y lf, σ = [some (.int (m : Int)), some (.loc lf), x, y] ∧ M'[lf]? = some (.lst (((List.range i).flatMap (prow m)).map pairD)) ∧ Gr M M' ∧ M.length ≤ lf) ?_ (fun _ _ _ _ => trivial) ?_) ?_
  · have e1 : evs (cfg T G 0 n) (.cons (.var 0) .nil) [some (.int (m : Int)), some (.loc M.length), none, none] (M ++ [Cell.lst []]) = .ok [.int (m : Int)] (M ++ [Cell.lst []]) := by simp -implicitDefEqProofs only [q_ok, q_bad, q_ofO, q_rt, q_nx, q_var, q_con, q_glo, q_tup, q_lst, q_op, q_neg, q_not, q_chain, q_and, q_or, q_ite, q_call, q_callk, q_blt, q_meth, q_sub, q_slice, q_no, q_yes, q_nil, q_cons, q_tt, q_val, q_bnot, q_band, q_bor, q_nm, q_tupT, q_subT, q_nilT, q_consT, q_asg, q_par, q_ex, q_ret, q_if, q_end, q_then, q_add, q_sub2, q_lt, q_le, q_gt, q_ge, q_eqI, q_neI, q_eqS, q_neS, q_trB, cfg_call, cfg_gl, parD, Option.map_some, List.map_cons, List.map_nil, List.cons_append, List.nil_append, List.getElem?_cons_zero, List.getElem?_cons_succ, List.set_cons_zero, List.set_cons_succ, List.length_cons, List.length_nil, List.replicate_succ, List.replicate_zero]
    rw [rng_ok e1 (rng1 (by omega)), show ((m : Int)).toNat = m by omega]
    exact W.ok ⟨walks_rng, Nat.zero_le _, _, _, _, rfl, new_at, ⟨_, rfl⟩, Nat.le_refl _⟩
  · rintro M1 i k σ hk ⟨him, x, y, lf, rfl, hlf, g, hfr⟩
    have hk' : k = i ∧ i < m := by
      obtain ⟨h1, h2⟩ := List.getElem?_eq_some_iff.mp hk
      rw [List.getElem_range] at h2
      rw [List.length_range] at h1
      omega
    obtain ⟨rfl, hkm⟩ := hk'
    simp -implicitDefEqProofs only [q_ok, q_bad, q_ofO, q_rt, q_nx, q_var, q_con, q_glo, q_tup, q_lst, q_op, q_neg, q_not, q_chain, q_and, q_or, q_ite, q_call, q_callk, q_blt, q_meth, q_sub, q_slice, q_no, q_yes, q_nil, q_cons, q_tt, q_val, q_bnot, q_band, q_bor, q_nm, q_tupT, q_subT, q_nilT, q_consT, q_asg, q_par, q_ex, q_ret, q_if, q_end, q_then, q_add, q_sub2, q_lt, q_le, q_gt, q_ge, q_eqI, q_neI, q_eqS, q_neS, q_trB, cfg_call, cfg_gl, parD, Option.map_some, List.map_cons, List.map_nil, List.cons_append, List.nil_append, List.getElem?_cons_zero, List.getElem?_cons_succ, List.set_cons_zero, List.set_cons_succ, List.length_cons, List.length_nil, List.replicate_succ, List.replicate_zero, Ev.bind_assoc]
    refine W.bind (W_map1 (ps := List.range (m - 1 - k)) (fm := fun j : Nat => .int ((k : Int) + 1 + (j : Int))) (J := Gr M1) (fun j => pairD (k, k + 1 + j)) (W_irng (ds := [.int ((k : Int) + 1), .int (m : Int)]) (lo := (k : Int) + 1) (n := m - 1 - k) ?_ ?_ (Gr.refl M1)) (by rw [List.length_range, line]; omega) fun M2 j acc hj hg hacc => ?_) ?_
    · simp -implicitDefEqProofs only [q_ok, q_bad, q_ofO, q_rt, q_nx, q_var, q_con, q_glo, q_tup, q_lst, q_op, q_neg, q_not, q_chain, q_and, q_or, q_ite, q_call, q_callk, q_blt, q_meth, q_sub, q_slice, q_no, q_yes, q_nil, q_cons, q_tt, q_val, q_bnot, q_band, q_bor, q_nm, q_tupT, q_subT, q_nilT, q_consT, q_asg, q_par, q_ex, q_ret, q_if, q_end, q_then, q_add, q_sub2, q_lt, q_le, q_gt, q_ge, q_eqI, q_neI, q_eqS, q_neS, q_trB, cfg_call, cfg_gl, parD, Option.map_some, List.map_cons, List.map_nil, List.cons_append, List.nil_append, List.getElem?_cons_zero, List.getElem?_cons_succ, List.set_cons_zero, List.set_cons_succ, List.length_cons, List.length_nil, List.replicate_succ, List.replicate_zero, Int.zero_add]
    · rw [rng2 (by omega), show ((m : Int) - ((k : Int) + 1)).toNat = m - 1 - k by omega]
    · rw [stepD_nm]
      simp -implicitDefEqProofs only [wipeD, q_ok, q_bad, q_ofO, q_rt, q_nx, q_var, q_con, q_glo, q_tup, q_lst, q_op, q_neg, q_not, q_chain, q_and, q_or, q_ite, q_call, q_callk, q_blt, q_meth, q_sub, q_slice, q_no, q_yes, q_nil, q_cons, q_tt, q_val, q_bnot, q_band, q_bor, q_nm, q_tupT, q_subT, q_nilT, q_consT, q_asg, q_par, q_ex, q_ret, q_if, q_end, q_then, q_add, q_sub2, q_lt, q_le, q_gt, q_ge, q_eqI, q_neI, q_eqS, q_neS, q_trB, cfg_call, cfg_gl, parD, Option.map_some, List.map_cons, List.map_nil, List.cons_append, List.nil_append, List.getElem?_cons_zero, List.getElem?_cons_succ, List.set_cons_zero, List.set_cons_succ, List.length_cons, List.length_nil, List.replicate_succ, List.replicate_zero, Ev.bind_assoc]
      have e2 : (0 : Int) + (k : Int) = (k : Int) := Int.zero_add _
      have e3 : (k : Int) + 1 + (j : Int) = ((k + 1 + j : Nat) : Int) := by omega
      rw [e2, e3]
      exact ⟨_, _, push_ok hacc, hg, rfl⟩
    · rintro v M' ⟨M2, g2, rfl, rfl⟩
      have f := few k (by omega)
      have a1 := add_at (l := lf) (k := M2.length) ((g2.push _).cell hlf) (new_at (M := M2) (xs := (List.range (m - 1 - k)).map fun j => pairD (k, k + 1 + j))) (by
        rw [List.length_map, List.length_map, List.length_range, line]
        have : k * 6 ≤ 36 := by omega
        omega)
      simp -implicitDefEqProofs only [q_ok, q_bad, q_ofO, q_rt, q_nx, q_var, q_con, q_glo, q_tup, q_lst, q_op, q_neg, q_not, q_chain, q_and, q_or, q_ite, q_call, q_callk, q_blt, q_meth, q_sub, q_slice, q_no, q_yes, q_nil, q_cons, q_tt, q_val, q_bnot, q_band, q_bor, q_nm, q_tupT, q_subT, q_nilT, q_consT, q_asg, q_par, q_ex, q_ret, q_if, q_end, q_then, q_add, q_sub2, q_lt, q_le, q_gt, q_ge, q_eqI, q_neI, q_eqS, q_neS, q_trB, cfg_call, cfg_gl, parD, Option.map_some, List.map_cons, List.map_nil, List.cons_append, List.nil_append, List.getElem?_cons_zero, List.getElem?_cons_succ, List.set_cons_zero, List.set_cons_succ, List.length_cons, List.length_nil, List.replicate_succ, List.replicate_zero, Ev.bind_assoc, a1]
      refine W.ok ⟨_, .inl rfl, by omega, _, _, _, rfl, ?_, (g.trans g2).push _ |>.push _, Nat.le_trans (g.trans g2).le (by rw [List.length_append]; omega)⟩
      rw [new_at, List.range_succ, List.flatMap_append, List.map_append]
      have e4 : ([k].flatMap (prow m)).map pairD = (List.range (m - 1 - k)).map fun j => pairD (k, k + 1 + j) := by
        simp [prow]
      rw [e4]
  · rintro fl' M' ⟨σ', rfl, _, x, y, lf, rfl, hlf, g, hfr⟩
    simp -implicitDefEqProofs only [q_ok, q_bad, q_ofO, q_rt, q_nx, q_var, q_con, q_glo, q_tup, q_lst, q_op, q_neg, q_not, q_chain, q_and, q_or, q_ite, q_call, q_callk, q_blt, q_meth, q_sub, q_slice, q_no, q_yes, q_nil, q_cons, q_tt, q_val, q_bnot, q_band, q_bor, q_nm, q_tupT, q_subT, q_nilT, q_consT, q_asg, q_par, q_ex, q_ret, q_if, q_end, q_then, q_add, q_sub2, q_lt, q_le, q_gt, q_ge, q_eqI, q_neI, q_eqS, q_neS, q_trB, cfg_call, cfg_gl, parD, Option.map_some, List.map_cons, List.map_nil, List.cons_append, List.nil_append, List.getElem?_cons_zero, List.getElem?_cons_succ, List.set_cons_zero, List.set_cons_succ, List.length_cons, List.length_nil, List.replicate_succ, List.replicate_zero, Ev.bind_assoc]
    rw [List.length_range] at hlf
    exact W.ok ⟨_, rfl, hfr, hlf, g⟩
theorem w_ties (n : Nat) {m : Nat} {v : D} {g : List Pr} (M : Mem) (hv : Row M v (g.map pairD)) (hm : m ≤ 6) (hg : g.length ≤ 100) : W (callN T G 0 (n + 1) 23 [.int (m : Int), v] M) fun r M' => r = tp (tiesL m g) ∧ Gr M M' := by
  refine W.call (fd := f23) rfl rfl ?_
  simp -implicitDefEqProofs only [f23, b23, q_ok, q_bad, q_ofO, q_rt, q_nx, q_var, q_con, q_glo, q_tup, q_lst, q_op, q_neg, q_not, q_chain, q_and, q_or, q_ite, q_call, q_callk, q_blt, q_meth, q_sub, q_slice, q_no, q_yes, q_nil, q_cons, q_tt, q_val, q_bnot, q_band, q_bor, q_nm, q_tupT, q_subT, q_nilT, q_consT, q_asg, q_par, q_ex, q_ret, q_if, q_end, q_then, q_add, q_sub2, q_lt, q_le, q_gt, q_ge, q_eqI, q_neI, q_eqS, q_neS, q_trB, cfg_call, cfg_gl, parD, Option.map_some, List.map_cons, List.map_nil, List.cons_append, List.nil_append, List.getElem?_cons_zero, List.getElem?_cons_succ, List.set_cons_zero, List.set_cons_succ, List.length_cons, List.length_nil, List.replicate_succ, List.replicate_zero, Ev.bind_assoc]
  refine W.bind (W_map1 (ps := List.range m) (fm := fun k : Nat => .int (0 + (k : Int))) (J := Gr M) (fun k => D.int (tieN g k : Int)) (W_irng (ds := [.int (m : Int)]) (lo := 0) (n := m) ?_ ?_ (Gr.refl M)) (by rw [List.length_range, line]; omega) fun M1 k acc hk hj hacc => ?_) ?_
  · simp -implicitDefEqProofs only [q_ok, q_bad, q_ofO, q_rt, q_nx, q_var, q_con, q_glo, q_tup, q_lst, q_op, q_neg, q_not, q_chain, q_and, q_or, q_ite, q_call, q_callk, q_blt, q_meth, q_sub, q_slice, q_no, q_yes, q_nil, q_cons, q_tt, q_val, q_bnot, q_band, q_bor, q_nm, q_tupT, q_subT, q_nilT, q_consT, q_asg, q_par, q_ex, q_ret, q_if, q_end, q_then, q_add, q_sub2, q_lt, q_le, q_gt, q_ge, q_eqI, q_neI, q_eqS, q_neS, q_trB, cfg_call, cfg_gl, parD, Option.map_some, List.map_cons, List.map_nil, List.cons_append, List.nil_append, List.getElem?_cons_zero, List.getElem?_cons_succ, List.set_cons_zero, List.set_cons_succ, List.length_cons, List.length_nil, List.replicate_succ, List.replicate_zero]
  · rw [rng1 (by omega)] <;> rfl
  · rw [stepD_nm]
    simp -implicitDefEqProofs only [wipeD, q_ok, q_bad, q_ofO, q_rt, q_nx, q_var, q_con, q_glo, q_tup, q_lst, q_op, q_neg, q_not, q_chain, q_and, q_or, q_ite, q_call, q_callk, q_blt, q_meth, q_sub, q_slice, q_no, q_yes, q_nil, q_cons, q_tt, q_val, q_bnot, q_band, q_bor, q_nm, q_tupT, q_subT, q_nilT, q_consT, q_asg, q_par, q_ex, q_ret, q_if, q_end, q_then, q_add, q_sub2, q_lt, q_le, q_gt, q_ge, q_eqI, q_neI, q_eqS, q_neS, q_trB, cfg_call, cfg_gl, parD, Option.map_some, List.map_cons, List.map_nil, List.cons_append, List.nil_append, List.getElem?_cons_zero, List.getElem?_cons_succ, List.set_cons_zero, List.set_cons_succ, List.length_cons, List.length_nil, List.replicate_succ, List.replicate_zero, Ev.bind_assoc]
    refine W.bind (W_filt (ps := g) (fm := pairD) (J := Gr M1) (has k) (fun _ => D.int 1) (W_iseq (Q := fun u M' => u = v ∧ M' = M1) ?_ ?_) (by rw [line]; omega) fun M2 q acc' hq hj2 hacc' => ?_) ?_
    · simp -implicitDefEqProofs only [q_ok, q_bad, q_ofO, q_rt, q_nx, q_var, q_con, q_glo, q_tup, q_lst, q_op, q_neg, q_not, q_chain, q_and, q_or, q_ite, q_call, q_callk, q_blt, q_meth, q_sub, q_slice, q_no, q_yes, q_nil, q_cons, q_tt, q_val, q_bnot, q_band, q_bor, q_nm, q_tupT, q_subT, q_nilT, q_consT, q_asg, q_par, q_ex, q_ret, q_if, q_end, q_then, q_add, q_sub2, q_lt, q_le, q_gt, q_ge, q_eqI, q_neI, q_eqS, q_neS, q_trB, cfg_call, cfg_gl, parD, Option.map_some, List.map_cons, List.map_nil, List.cons_append, List.nil_append, List.getElem?_cons_zero, List.getElem?_cons_succ, List.set_cons_zero, List.set_cons_succ, List.length_cons, List.length_nil, List.replicate_succ, List.replicate_zero]
      exact W.ok ⟨rfl, rfl⟩
    · rintro u M' ⟨rfl, rfl⟩
      refine ⟨Gr.refl _, ?_⟩
      rcases hv.gr hj with e | ⟨l, e, c⟩
      · exact .inl e
      · exact .inr ⟨l, e, fun M'' g => g.cell c⟩
    · rw [stepD_if]
      have e1 : (0 : Int) + (k : Int) = (k : Int) := Int.zero_add _
      simp -implicitDefEqProofs only [wipeD, q_ok, q_bad, q_ofO, q_rt, q_nx, q_var, q_con, q_glo, q_tup, q_lst, q_op, q_neg, q_not, q_chain, q_and, q_or, q_ite, q_call, q_callk, q_blt, q_meth, q_sub, q_slice, q_no, q_yes, q_nil, q_cons, q_tt, q_val, q_bnot, q_band, q_bor, q_nm, q_tupT, q_subT, q_nilT, q_consT, q_asg, q_par, q_ex, q_ret, q_if, q_end, q_then, q_add, q_sub2, q_lt, q_le, q_gt, q_ge, q_eqI, q_neI, q_eqS, q_neS, q_trB, cfg_call, cfg_gl, parD, Option.map_some, List.map_cons, List.map_nil, List.cons_append, List.nil_append, List.getElem?_cons_zero, List.getElem?_cons_succ, List.set_cons_zero, List.set_cons_succ, List.length_cons, List.length_nil, List.replicate_succ, List.replicate_zero, Ev.bind_assoc, e1, isin_pair]
      cases has k q with
      | true => exact ⟨_, _, push_ok hacc', hj2, rfl⟩
      | false => exact ⟨_, _, rfl, hj2, rfl⟩
    · rintro r M' ⟨M2, g2, rfl, rfl⟩
      simp -implicitDefEqProofs only [q_ok, q_bad, q_ofO, q_rt, q_nx, q_var, q_con, q_glo, q_tup, q_lst, q_op, q_neg, q_not, q_chain, q_and, q_or, q_ite, q_call, q_callk, q_blt, q_meth, q_sub, q_slice, q_no, q_yes, q_nil, q_cons, q_tt, q_val, q_bnot, q_band, q_bor, q_nm, q_tupT, q_subT, q_nilT, q_consT, q_asg, q_par, q_ex, q_ret, q_if, q_end, q_then, q_add, q_sub2, q_lt, q_le, q_gt, q_ge, q_eqI, q_neI, q_eqS, q_neS, q_trB, cfg_call, cfg_gl, parD, Option.map_some, List.map_cons, List.map_nil, List.cons_append, List.nil_append, List.getElem?_cons_zero, List.getElem?_cons_succ, List.set_cons_zero, List.set_cons_succ, List.length_cons, List.length_nil, List.replicate_succ, List.replicate_zero, Ev.bind_assoc, len_new, List.length_map]
      exact ⟨_, _, push_ok hacc, (hj.trans g2).push _, rfl⟩
  · rintro r M' ⟨M1, g1, rfl, rfl⟩
    simp -implicitDefEqProofs only [q_ok, q_bad, q_ofO, q_rt, q_nx, q_var, q_con, q_glo, q_tup, q_lst, q_op, q_neg, q_not, q_chain, q_and, q_or, q_ite, q_call, q_callk, q_blt, q_meth, q_sub, q_slice, q_no, q_yes, q_nil, q_cons, q_tt, q_val, q_bnot, q_band, q_bor, q_nm, q_tupT, q_subT, q_nilT, q_consT, q_asg, q_par, q_ex, q_ret, q_if, q_end, q_then, q_add, q_sub2, q_lt, q_le, q_gt, q_ge, q_eqI, q_neI, q_eqS, q_neS, q_trB, cfg_call, cfg_gl, parD, Option.map_some, List.map_cons, List.map_nil, List.cons_append, List.nil_append, List.getElem?_cons_zero, List.getElem?_cons_succ, List.set_cons_zero, List.set_cons_succ, List.length_cons, List.length_nil, List.replicate_succ, List.replicate_zero, Ev.bind_assoc, tuple_new]
    refine W.ok ⟨?_, g1.push _⟩
    rw [tiesL, tp, List.map_map]
    rfl

def inB65 : Ss := (.cons (.asg (.nm 6) (.call 23 (.cons (.blt .len (.cons (.var 0) .nil)) (.cons (.var 5) .nil)))) (.cons (.ex (.meth .append (.var 4) (.cons (.var 5) .nil))) (.cons (.ite (.and (.val (.op .lt (.sub (.var 6) (.var 2)) (.sub (.var 0) (.var 2)))) (.val (.op .lt (.sub (.var 6) (.var 3)) (.sub (.var 0) (.var 3))))) (.cons (.ex (.meth .append (.var 4) (.cons (.op .add (.var 5) (.tup (.cons (.tup (.cons (.var 2) (.cons (.var 3) .nil))) .nil))) .nil))) .nil) .nil) .nil)))
theorem w_inner (n : Nat) {p : List Int} {q : Pr} {gs : List (List Pr)} {M0 : Mem} {lf : Nat} (hl : p.length ≤ 5) (h1 : q.1 < p.length) (h2 : q.2 < p.length) (hg : ∀ g ∈ gs, g.length ≤ 20) (hgs : gs.length ≤ 5000)
    (hlf : M0[lf]? = some (.lst (gs.map webD))) (x5 x6 : Option D) :
    W (ex (cfg T G 0 (n + 1)) (.for_ (.nm 5) (.seq (.var 1)) inB65) [some (tp p), some (.loc lf), some (.int (q.1 : Int)), some (.int (q.2 : Int)), some (.loc M0.length), x5, x6] (M0 ++ [.lst []])) fun fl' M' =>
      ∃ y5 y6, fl' = .nx [some (tp p), some (.loc lf), some (.int (q.1 : Int)), some (.int (q.2 : Int)), some (.loc M0.length), y5, y6] ∧ Gr M0 M' ∧ M'[M0.length]? = some (.lst ((gs.flatMap (extW p q)).map webD)) := by
  have few : ∀ i, ((gs.take i).flatMap (extW p q)).length ≤ 10000 := fun i => by
    have := ext_bound (p := p) (q := q) (gs.take i)
    rw [List.length_take] at this
    omega
  refine (W_for (ps := gs) (fm := webD) (J := fun M' => M'[lf]? = some (.lst (gs.map webD))) (fun i σ M' => i ≤ gs.length ∧ Gr M0 M' ∧ M'[M0.length]? = some (.lst (((gs.take i).flatMap (extW p q)).map webD)) ∧ ∃ y5 y6, σ = [some (tp p), some (.loc lf), some (.int (q.1 : Int)), some (.int (q.2 : Int)), some (.loc M0.length), y5, y6]) ?_ (fun _ _ _ h => h.2.1.cell hlf) ?_).mono ?_
  · have c0 : (M0 ++ [Cell.lst []])[lf]? = some (.lst (gs.map webD)) := Gr.cell (Gr.push (Gr.refl M0) _) hlf
    simp -implicitDefEqProofs only [q_seq, q_ok, q_bad, q_ofO, q_rt, q_nx, q_var, q_con, q_glo, q_tup, q_lst, q_op, q_neg, q_not, q_chain, q_and, q_or, q_ite, q_call, q_callk, q_blt, q_meth, q_sub, q_slice, q_no, q_yes, q_nil, q_cons, q_tt, q_val, q_bnot, q_band, q_bor, q_nm, q_tupT, q_subT, q_nilT, q_consT, q_asg, q_par, q_ex, q_ret, q_if, q_end, q_then, q_add, q_sub2, q_lt, q_le, q_gt, q_ge, q_eqI, q_neI, q_eqS, q_neS, q_trB, cfg_call, cfg_gl, parD, Option.map_some, List.map_cons, List.map_nil, List.cons_append, List.nil_append, List.getElem?_cons_zero, List.getElem?_cons_succ, List.set_cons_zero, List.set_cons_succ, List.length_cons, List.length_nil, List.replicate_succ, List.replicate_zero, Ev.bind_assoc]
    rw [src_of c0, List.length_map]
    exact W.ok ⟨walks_lst fun M' h => h, Nat.zero_le _, Gr.push (Gr.refl M0) _, new_at, _, _, rfl⟩
  · rintro M1 i g σ hgi ⟨hi, gr, hc, y5, y6, rfl⟩
    have hi' : i < gs.length := getElem?_len hgi
    have hgm : g ∈ gs := List.mem_of_getElem? hgi
    have hgl := hg g hgm
    have tk : (gs.take (i + 1)).flatMap (extW p q) = (gs.take i).flatMap (extW p q) ++ extW p q g := by
      rw [List.take_add_one, hgi, List.flatMap_append]
      simp
    simp -implicitDefEqProofs only [inB65, q_ok, q_bad, q_ofO, q_rt, q_nx, q_var, q_con, q_glo, q_tup, q_lst, q_op, q_neg, q_not, q_chain, q_and, q_or, q_ite, q_call, q_callk, q_blt, q_meth, q_sub, q_slice, q_no, q_yes, q_nil, q_cons, q_tt, q_val, q_bnot, q_band, q_bor, q_nm, q_tupT, q_subT, q_nilT, q_consT, q_asg, q_par, q_ex, q_ret, q_if, q_end, q_then, q_add, q_sub2, q_lt, q_le, q_gt, q_ge, q_eqI, q_neI, q_eqS, q_neS, q_trB, cfg_call, cfg_gl, parD, Option.map_some, List.map_cons, List.map_nil, List.cons_append, List.nil_append, List.getElem?_cons_zero, List.getElem?_cons_succ, List.set_cons_zero, List.set_cons_succ, List.length_cons, List.length_nil, List.replicate_succ, List.replicate_zero, Ev.bind_assoc, len_tup, List.length_map]
    refine (w_ties n (m := p.length) (g := g) M1 (.inl rfl) (by omega) (by omega)).bind ?_
    rintro v M2 ⟨rfl, g2⟩
    have c2 := g2.cell hc
    have fw := few i
    have a1 := append_at (x := webD g) c2 (by rw [List.length_map, line]; omega)
    simp -implicitDefEqProofs only [q_ok, q_bad, q_ofO, q_rt, q_nx, q_var, q_con, q_glo, q_tup, q_lst, q_op, q_neg, q_not, q_chain, q_and, q_or, q_ite, q_call, q_callk, q_blt, q_meth, q_sub, q_slice, q_no, q_yes, q_nil, q_cons, q_tt, q_val, q_bnot, q_band, q_bor, q_nm, q_tupT, q_subT, q_nilT, q_consT, q_asg, q_par, q_ex, q_ret, q_if, q_end, q_then, q_add, q_sub2, q_lt, q_le, q_gt, q_ge, q_eqI, q_neI, q_eqS, q_neS, q_trB, cfg_call, cfg_gl, parD, Option.map_some, List.map_cons, List.map_nil, List.cons_append, List.nil_append, List.getElem?_cons_zero, List.getElem?_cons_succ, List.set_cons_zero, List.set_cons_succ, List.length_cons, List.length_nil, List.replicate_succ, List.replicate_zero, Ev.bind_assoc, a1, item_ties h1, item_ties h2, item_ints h1, item_ints h2]
    have gr2 : Gr M0 (M2.set M0.length (.lst (((gs.take i).flatMap (extW p q)).map webD ++ [webD g]))) := (gr.trans g2).setN (Nat.le_refl _)
    have c3 : (M2.set M0.length (Cell.lst (((gs.take i).flatMap (extW p q)).map webD ++ [webD g])))[M0.length]? = some (.lst (((gs.take i).flatMap (extW p q)).map webD ++ [webD g])) := by
      rw [List.getElem?_set_self (getElem?_len c2)]
    by_cases t1 : (tieN g q.1 : Int) < p.getD q.1 0
    · by_cases t2 : (tieN g q.2 : Int) < p.getD q.2 0
      · have a2 := append_at (x := webD (g ++ [q])) c3 (by rw [List.length_append, List.length_map, List.length_singleton, line]; omega)
        have a3 := fun M => addW (M := M) (g := g) (q := q) (by omega)
        simp -implicitDefEqProofs only [decide_eq_true t1, decide_eq_true t2, q_ok, q_bad, q_ofO, q_rt, q_nx, q_var, q_con, q_glo, q_tup, q_lst, q_op, q_neg, q_not, q_chain, q_and, q_or, q_ite, q_call, q_callk, q_blt, q_meth, q_sub, q_slice, q_no, q_yes, q_nil, q_cons, q_tt, q_val, q_bnot, q_band, q_bor, q_nm, q_tupT, q_subT, q_nilT, q_consT, q_asg, q_par, q_ex, q_ret, q_if, q_end, q_then, q_add, q_sub2, q_lt, q_le, q_gt, q_ge, q_eqI, q_neI, q_eqS, q_neS, q_trB, cfg_call, cfg_gl, parD, Option.map_some, List.map_cons, List.map_nil, List.cons_append, List.nil_append, List.getElem?_cons_zero, List.getElem?_cons_succ, List.set_cons_zero, List.set_cons_succ, List.length_cons, List.length_nil, List.replicate_succ, List.replicate_zero, Ev.bind_assoc, a3, a2]
        refine W.ok ⟨_, .inl rfl, hi', gr2.setN (Nat.le_refl _), ?_, _, _, rfl⟩
        rw [List.getElem?_set_self (getElem?_len c3), tk]
        have : extW p q g = [g, g ++ [q]] := if_pos ⟨t1, t2⟩
        rw [this, List.map_append]
        simp
      · simp -implicitDefEqProofs only [decide_eq_true t1, decide_eq_false t2, q_ok, q_bad, q_ofO, q_rt, q_nx, q_var, q_con, q_glo, q_tup, q_lst, q_op, q_neg, q_not, q_chain, q_and, q_or, q_ite, q_call, q_callk, q_blt, q_meth, q_sub, q_slice, q_no, q_yes, q_nil, q_cons, q_tt, q_val, q_bnot, q_band, q_bor, q_nm, q_tupT, q_subT, q_nilT, q_consT, q_asg, q_par, q_ex, q_ret, q_if, q_end, q_then, q_add, q_sub2, q_lt, q_le, q_gt, q_ge, q_eqI, q_neI, q_eqS, q_neS, q_trB, cfg_call, cfg_gl, parD, Option.map_some, List.map_cons, List.map_nil, List.cons_append, List.nil_append, List.getElem?_cons_zero, List.getElem?_cons_succ, List.set_cons_zero, List.set_cons_succ, List.length_cons, List.length_nil, List.replicate_succ, List.replicate_zero, Ev.bind_assoc]
        refine W.ok ⟨_, .inl rfl, hi', gr2, ?_, _, _, rfl⟩
        have : extW p q g = [g] := if_neg fun h => t2 h.2
        rw [c3, tk, this, List.map_append] <;> rfl
    · simp -implicitDefEqProofs only [decide_eq_false t1, q_ok, q_bad, q_ofO, q_rt, q_nx, q_var, q_con, q_glo, q_tup, q_lst, q_op, q_neg, q_not, q_chain, q_and, q_or, q_ite, q_call, q_callk, q_blt, q_meth, q_sub, q_slice, q_no, q_yes, q_nil, q_cons, q_tt, q_val, q_bnot, q_band, q_bor, q_nm, q_tupT, q_subT, q_nilT, q_consT, q_asg, q_par, q_ex, q_ret, q_if, q_end, q_then, q_add, q_sub2, q_lt, q_le, q_gt, q_ge, q_eqI, q_neI, q_eqS, q_neS, q_trB, cfg_call, cfg_gl, parD, Option.map_some, List.map_cons, List.map_nil, List.cons_append, List.nil_append, List.getElem?_cons_zero, List.getElem?_cons_succ, List.set_cons_zero, List.set_cons_succ, List.length_cons, List.length_nil, List.replicate_succ, List.replicate_zero, Ev.bind_assoc]
      refine W.ok ⟨_, .inl rfl, hi', gr2, ?_, _, _, rfl⟩
      have : extW p q g = [g] := if_neg fun h => t1 h.1
      rw [c3, tk, this, List.map_append] <;> rfl
  · rintro fl' M' ⟨σ', rfl, _, gr, hc, y5, y6, rfl⟩
    rw [List.take_length] at hc
    exact ⟨_, _, rfl, gr, hc⟩
theorem fold_small {m : Nat} {p : List Int} (h5 : m ≤ 5) (i : Nat) : (((prs m).take i).foldl (stepW m p) [[]]).length ≤ 1024 ∧ ∀ g ∈ ((prs m).take i).foldl (stepW m p) [[]], g.length ≤ 10 := by
  have l10 : ((prs m).take i).length ≤ 10 := Nat.le_trans (by rw [List.length_take]; omega) (prs_few h5)
  refine ⟨?_, fun g hg => ?_⟩
  · have h1 := fold_len (n := m) (p := p) ((prs m).take i) [[]]
    have h2 : 2 ^ ((prs m).take i).length ≤ 2 ^ 10 := Nat.pow_le_pow_right (by decide) l10
    simp only [List.length_cons, List.length_nil] at h1
    omega
  · obtain ⟨h, hh, g', hs, e⟩ := webs_sound _ _ _ hg
    rw [List.mem_singleton.mp hh, List.nil_append] at e
    rw [e]
    exact Nat.le_trans hs.length_le l10
def s24_0 : S := (.asg (.nm 1) (.lst (.cons (.tup .nil) .nil)))
def s24_1 : S := (.for_ (.tup (.cons (.nm 2) (.cons (.nm 3) .nil))) (.seq (.call 22 (.cons (.blt .len (.cons (.var 0) .nil)) .nil))) (.cons (.asg (.nm 4) (.lst .nil)) (.cons (.for_ (.nm 5) (.seq (.var 1)) (.cons (.asg (.nm 6) (.call 23 (.cons (.blt .len (.cons (.var 0) .nil)) (.cons (.var 5) .nil)))) (.cons (.ex (.meth .append (.var 4) (.cons (.var 5) .nil))) (.cons (.ite (.and (.val (.op .lt (.sub (.var 6) (.var 2)) (.sub (.var 0) (.var 2)))) (.val (.op .lt (.sub (.var 6) (.var 3)) (.sub (.var 0) (.var 3))))) (.cons (.ex (.meth .append (.var 4) (.cons (.op .add (.var 5) (.tup (.cons (.tup (.cons (.var 2) (.cons (.var 3) .nil))) .nil))) .nil))) .nil) .nil) .nil)))) (.cons (.ite (.val (.op .eq (.var 3) (.op .sub (.blt .len (.cons (.var 0) .nil)) (.con (.int 1))))) (.cons (.asg (.nm 4) (.comp (.var 5) (.nm 5) (.seq (.var 4)) (.val (.op .eq (.sub (.call 23 (.cons (.blt .len (.cons (.var 0) .nil)) (.cons (.var 5) .nil))) (.var 2)) (.sub (.var 0) (.var 2)))) [5])) .nil) .nil) (.cons (.asg (.nm 1) (.var 4)) .nil)))))
def s24_2 : S := (.ret (.blt .sorted (.cons (.comp (.var 5) (.nm 5) (.seq (.var 1)) (.val (.op .eq (.call 23 (.cons (.blt .len (.cons (.var 0) .nil)) (.cons (.var 5) .nil))) (.blt .tuple (.cons (.var 0) .nil)))) [5]) .nil)))
theorem b24_eq : b24 = (.cons s24_0 (.cons s24_1 (.cons s24_2 .nil))) := rfl
theorem w_webs1 (n : Nat) {p : List Int} (M : Mem) (hl : p.length ≤ 5) (x2 x3 x4 x5 x6 : Option D) :
    W (ex (cfg T G 0 (n + 1)) s24_1 [some (tp p), some (.loc M.length), x2, x3, x4, x5, x6] (M ++ [.lst [.tup []]])) fun fl' M' => ∃ σ', fl' = .nx σ' ∧ ∃ y2 y3 y4 y5 y6 lf, σ' = [some (tp p), some (.loc lf), y2, y3, y4, y5, y6] ∧ Gr M M' ∧ M'[lf]? = some (.lst ((webs0 p.length p).map webD)) := by
  refine W_fore (ps := prs p.length) (fm := pairD) _ (W.mono (P := fun src M1 => ∃ lp, src = .lst lp (prs p.length).length ∧ M1[lp]? = some (.lst ((prs p.length).map pairD)) ∧ Gr (M ++ [.lst [.tup []]]) M1) ?_ ?_)
  · simp -implicitDefEqProofs only [q_seq, q_ok, q_bad, q_ofO, q_rt, q_nx, q_var, q_con, q_glo, q_tup, q_lst, q_op, q_neg, q_not, q_chain, q_and, q_or, q_ite, q_call, q_callk, q_blt, q_meth, q_sub, q_slice, q_no, q_yes, q_nil, q_cons, q_tt, q_val, q_bnot, q_band, q_bor, q_nm, q_tupT, q_subT, q_nilT, q_consT, q_asg, q_par, q_ex, q_ret, q_if, q_end, q_then, q_add, q_sub2, q_lt, q_le, q_gt, q_ge, q_eqI, q_neI, q_eqS, q_neS, q_trB, cfg_call, cfg_gl, parD, Option.map_some, List.map_cons, List.map_nil, List.cons_append, List.nil_append, List.getElem?_cons_zero, List.getElem?_cons_succ, List.set_cons_zero, List.set_cons_succ, List.length_cons, List.length_nil, List.replicate_succ, List.replicate_zero, Ev.bind_assoc, len_tup, List.length_map]
    have h6 : p.length ≤ 6 := by omega
    refine W.bind (w_pairs n (m := p.length) (M ++ [Cell.lst [D.tup []]]) h6) ?_
    rintro v M1 ⟨lp, rfl, _, hlp, g1⟩
    rw [src_of hlp, List.length_map]
    exact W.ok ⟨lp, rfl, hlp, g1⟩
  rintro _ M1 ⟨lp, rfl, hlp, g1⟩
  refine ⟨fun M' => M'[lp]? = some (.lst ((prs p.length).map pairD)), fun i σ M' => Gr M1 M' ∧ ∃ y2 y3 y4 y5 y6 lf, σ = [some (tp p), some (.loc lf), y2, y3, y4, y5, y6] ∧ M'[lf]? = some (.lst ((((prs p.length).take i).foldl (stepW p.length p) [[]]).map webD)), walks_lst fun M' h => h, ⟨Gr.refl _, _, _, _, _, _, _, rfl, g1.cell new_at⟩, fun i σ M' h => h.1.cell hlp, ?_, ?_⟩
  · rintro σ M' ⟨g, y2, y3, y4, y5, y6, lf, rfl, c⟩
    rw [List.take_length] at c
    exact ⟨_, _, _, _, _, _, rfl, Gr.trans ⟨_, rfl⟩ (g1.trans g), c⟩
  · rintro M' i q σ hq ⟨g, y2, y3, y4, y5, y6, lf, rfl, c⟩
    have hqm := prs_lt (List.mem_of_getElem? hq)
    obtain ⟨fs, fm⟩ := fold_small (p := p) hl i
    have tk : ((prs p.length).take (i + 1)).foldl (stepW p.length p) [[]] = stepW p.length p (((prs p.length).take i).foldl (stepW p.length p) [[]]) q := by
      rw [List.take_add_one, hq, List.foldl_append]
      rfl
    dsimp only
    rw [tk]
    generalize ((prs p.length).take i).foldl (stepW p.length p) [[]] = gs at *
    simp -implicitDefEqProofs only [q_ok, q_bad, q_ofO, q_rt, q_nx, q_var, q_con, q_glo, q_tup, q_lst, q_op, q_neg, q_not, q_chain, q_and, q_or, q_ite, q_call, q_callk, q_blt, q_meth, q_sub, q_slice, q_no, q_yes, q_nil, q_cons, q_tt, q_val, q_bnot, q_band, q_bor, q_nm, q_tupT, q_subT, q_nilT, q_consT, q_asg, q_par, q_ex, q_ret, q_if, q_end, q_then, q_add, q_sub2, q_lt, q_le, q_gt, q_ge, q_eqI, q_neI, q_eqS, q_neS, q_trB, cfg_call, cfg_gl, parD, Option.map_some, List.map_cons, List.map_nil, List.cons_append, List.nil_append, List.getElem?_cons_zero, List.getElem?_cons_succ, List.set_cons_zero, List.set_cons_succ, List.length_cons, List.length_nil, List.replicate_succ, List.replicate_zero, Ev.bind_assoc, new_q]
    refine W.bind (w_inner n (p := p) (q := q) (gs := gs) (M0 := M') (lf := lf) hl (by omega) (by omega) (fun g hg => by have := fm g hg; omega) (by omega) c _ _) ?_
    rintro fl' M2 ⟨z5, z6, rfl, g2, c2⟩
    have ne : (q.2 : Int) = (p.length : Int) - 1 ↔ q.2 + 1 = p.length := by omega
    simp -implicitDefEqProofs only [q_ok, q_bad, q_ofO, q_rt, q_nx, q_var, q_con, q_glo, q_tup, q_lst, q_op, q_neg, q_not, q_chain, q_and, q_or, q_ite, q_call, q_callk, q_blt, q_meth, q_sub, q_slice, q_no, q_yes, q_nil, q_cons, q_tt, q_val, q_bnot, q_band, q_bor, q_nm, q_tupT, q_subT, q_nilT, q_consT, q_asg, q_par, q_ex, q_ret, q_if, q_end, q_then, q_add, q_sub2, q_lt, q_le, q_gt, q_ge, q_eqI, q_neI, q_eqS, q_neS, q_trB, cfg_call, cfg_gl, parD, Option.map_some, List.map_cons, List.map_nil, List.cons_append, List.nil_append, List.getElem?_cons_zero, List.getElem?_cons_succ, List.set_cons_zero, List.set_cons_succ, List.length_cons, List.length_nil, List.replicate_succ, List.replicate_zero, Ev.bind_assoc, len_tup, List.length_map]
    rw [stepW_ext]
    by_cases hb : q.2 + 1 = p.length
    · rw [if_pos hb]
      simp -implicitDefEqProofs only [decide_eq_true (ne.mpr hb), q_ok, q_bad, q_ofO, q_rt, q_nx, q_var, q_con, q_glo, q_tup, q_lst, q_op, q_neg, q_not, q_chain, q_and, q_or, q_ite, q_call, q_callk, q_blt, q_meth, q_sub, q_slice, q_no, q_yes, q_nil, q_cons, q_tt, q_val, q_bnot, q_band, q_bor, q_nm, q_tupT, q_subT, q_nilT, q_consT, q_asg, q_par, q_ex, q_ret, q_if, q_end, q_then, q_add, q_sub2, q_lt, q_le, q_gt, q_ge, q_eqI, q_neI, q_eqS, q_neS, q_trB, cfg_call, cfg_gl, parD, Option.map_some, List.map_cons, List.map_nil, List.cons_append, List.nil_append, List.getElem?_cons_zero, List.getElem?_cons_succ, List.set_cons_zero, List.set_cons_succ, List.length_cons, List.length_nil, List.replicate_succ, List.replicate_zero, Ev.bind_assoc]
      refine W.bind (W_filt (ps := gs.flatMap (extW p q)) (fm := webD) (J := Gr M2) (fun g => decide ((tieN g q.1 : Int) = p.getD q.1 0)) webD (W_iseq (Q := fun u X => u = .loc M'.length ∧ X = M2) ?_ ?_) ?_ fun M3 w acc hw hj hacc => ?_) ?_
      · simp -implicitDefEqProofs only [q_ok, q_bad, q_ofO, q_rt, q_nx, q_var, q_con, q_glo, q_tup, q_lst, q_op, q_neg, q_not, q_chain, q_and, q_or, q_ite, q_call, q_callk, q_blt, q_meth, q_sub, q_slice, q_no, q_yes, q_nil, q_cons, q_tt, q_val, q_bnot, q_band, q_bor, q_nm, q_tupT, q_subT, q_nilT, q_consT, q_asg, q_par, q_ex, q_ret, q_if, q_end, q_then, q_add, q_sub2, q_lt, q_le, q_gt, q_ge, q_eqI, q_neI, q_eqS, q_neS, q_trB, cfg_call, cfg_gl, parD, Option.map_some, List.map_cons, List.map_nil, List.cons_append, List.nil_append, List.getElem?_cons_zero, List.getElem?_cons_succ, List.set_cons_zero, List.set_cons_succ, List.length_cons, List.length_nil, List.replicate_succ, List.replicate_zero]
        exact W.ok ⟨rfl, rfl⟩
      · rintro u X ⟨rfl, rfl⟩
        exact ⟨Gr.refl _, .inr ⟨_, rfl, fun Y h => h.cell c2⟩⟩
      · have := ext_bound (p := p) (q := q) gs
        rw [line]
        omega
      · have hwl : w.length ≤ 20 := by
          obtain ⟨v, hv, hvw⟩ := List.mem_flatMap.mp hw
          have := fm v hv
          unfold extW at hvw
          split at hvw
          · rcases List.mem_cons.mp hvw with e | hvw
            · rw [e]; omega
            · rw [List.mem_singleton.mp hvw, List.length_append, List.length_singleton]; omega
          · rw [List.mem_singleton.mp hvw]; omega
        have q1 : q.1 < p.length := by omega
        rw [stepD_if]
        simp -implicitDefEqProofs only [wipeD, q_ok, q_bad, q_ofO, q_rt, q_nx, q_var, q_con, q_glo, q_tup, q_lst, q_op, q_neg, q_not, q_chain, q_and, q_or, q_ite, q_call, q_callk, q_blt, q_meth, q_sub, q_slice, q_no, q_yes, q_nil, q_cons, q_tt, q_val, q_bnot, q_band, q_bor, q_nm, q_tupT, q_subT, q_nilT, q_consT, q_asg, q_par, q_ex, q_ret, q_if, q_end, q_then, q_add, q_sub2, q_lt, q_le, q_gt, q_ge, q_eqI, q_neI, q_eqS, q_neS, q_trB, cfg_call, cfg_gl, parD, Option.map_some, List.map_cons, List.map_nil, List.cons_append, List.nil_append, List.getElem?_cons_zero, List.getElem?_cons_succ, List.set_cons_zero, List.set_cons_succ, List.length_cons, List.length_nil, List.replicate_succ, List.replicate_zero, Ev.bind_assoc, len_tup, List.length_map]
        refine W.bind (w_ties n (m := p.length) (g := w) M3 (.inl rfl) (by omega) (by omega)) ?_
        rintro v M4 ⟨rfl, g4⟩
        simp -implicitDefEqProofs only [q_ok, q_bad, q_ofO, q_rt, q_nx, q_var, q_con, q_glo, q_tup, q_lst, q_op, q_neg, q_not, q_chain, q_and, q_or, q_ite, q_call, q_callk, q_blt, q_meth, q_sub, q_slice, q_no, q_yes, q_nil, q_cons, q_tt, q_val, q_bnot, q_band, q_bor, q_nm, q_tupT, q_subT, q_nilT, q_consT, q_asg, q_par, q_ex, q_ret, q_if, q_end, q_then, q_add, q_sub2, q_lt, q_le, q_gt, q_ge, q_eqI, q_neI, q_eqS, q_neS, q_trB, cfg_call, cfg_gl, parD, Option.map_some, List.map_cons, List.map_nil, List.cons_append, List.nil_append, List.getElem?_cons_zero, List.getElem?_cons_succ, List.set_cons_zero, List.set_cons_succ, List.length_cons, List.length_nil, List.replicate_succ, List.replicate_zero, Ev.bind_assoc, item_ties q1, item_ints q1]
        by_cases ht : (tieN w q.1 : Int) = p.getD q.1 0
        · simp -implicitDefEqProofs only [decide_eq_true ht, q_ok, q_bad, q_ofO, q_rt, q_nx, q_var, q_con, q_glo, q_tup, q_lst, q_op, q_neg, q_not, q_chain, q_and, q_or, q_ite, q_call, q_callk, q_blt, q_meth, q_sub, q_slice, q_no, q_yes, q_nil, q_cons, q_tt, q_val, q_bnot, q_band, q_bor, q_nm, q_tupT, q_subT, q_nilT, q_consT, q_asg, q_par, q_ex, q_ret, q_if, q_end, q_then, q_add, q_sub2, q_lt, q_le, q_gt, q_ge, q_eqI, q_neI, q_eqS, q_neS, q_trB, cfg_call, cfg_gl, parD, Option.map_some, List.map_cons, List.map_nil, List.cons_append, List.nil_append, List.getElem?_cons_zero, List.getElem?_cons_succ, List.set_cons_zero, List.set_cons_succ, List.length_cons, List.length_nil, List.replicate_succ, List.replicate_zero, Ev.bind_assoc]
          exact ⟨_, _, push_ok hacc, hj.trans g4, rfl⟩
        · simp -implicitDefEqProofs only [decide_eq_false ht, q_ok, q_bad, q_ofO, q_rt, q_nx, q_var, q_con, q_glo, q_tup, q_lst, q_op, q_neg, q_not, q_chain, q_and, q_or, q_ite, q_call, q_callk, q_blt, q_meth, q_sub, q_slice, q_no, q_yes, q_nil, q_cons, q_tt, q_val, q_bnot, q_band, q_bor, q_nm, q_tupT, q_subT, q_nilT, q_consT, q_asg, q_par, q_ex, q_ret, q_if, q_end, q_then, q_add, q_sub2, q_lt, q_le, q_gt, q_ge, q_eqI, q_neI, q_eqS, q_neS, q_trB, cfg_call, cfg_gl, parD, Option.map_some, List.map_cons, List.map_nil, List.cons_append, List.nil_append, List.getElem?_cons_zero, List.getElem?_cons_succ, List.set_cons_zero, List.set_cons_succ, List.length_cons, List.length_nil, List.replicate_succ, List.replicate_zero, Ev.bind_assoc]
          exact ⟨_, _, rfl, hj.trans g4, rfl⟩
      · rintro v X ⟨M3, g3, rfl, rfl⟩
        exact W.ok ⟨_, .inl rfl, (g.trans g2).trans (g3.push _), _, _, _, _, _, _, rfl, new_at⟩
    · rw [if_neg hb]
      simp -implicitDefEqProofs only [decide_eq_false (fun h => hb (ne.mp h)), q_ok, q_bad, q_ofO, q_rt, q_nx, q_var, q_con, q_glo, q_tup, q_lst, q_op, q_neg, q_not, q_chain, q_and, q_or, q_ite, q_call, q_callk, q_blt, q_meth, q_sub, q_slice, q_no, q_yes, q_nil, q_cons, q_tt, q_val, q_bnot, q_band, q_bor, q_nm, q_tupT, q_subT, q_nilT, q_consT, q_asg, q_par, q_ex, q_ret, q_if, q_end, q_then, q_add, q_sub2, q_lt, q_le, q_gt, q_ge, q_eqI, q_neI, q_eqS, q_neS, q_trB, cfg_call, cfg_gl, parD, Option.map_some, List.map_cons, List.map_nil, List.cons_append, List.nil_append, List.getElem?_cons_zero, List.getElem?_cons_succ, List.set_cons_zero, List.set_cons_succ, List.length_cons, List.length_nil, List.replicate_succ, List.replicate_zero, Ev.bind_assoc]
      exact W.ok ⟨_, .inl rfl, g.trans g2, _, _, _, _, _, _, rfl, c2⟩
theorem w_webs (n : Nat) {p : List Int} (M : Mem) (hl : p.length ≤ 5) : W (callN T G 0 (n + 2) 24 [tp p] M) fun v M' => ∃ l, v = .loc l ∧ M'[l]? = some (.lst ((sortW (websL p.length p)).map webD)) ∧ Gr M M' := by
  refine W.call (fd := f24) rfl rfl ?_
  rw [show f24.body = b24 from rfl, b24_eq]
  show W ((exs (cfg T G 0 (n + 1)) _ [some (tp p), none, none, none, none, none, none] M).bind fin) _
  refine W_seq (P := fun σ' M' => σ' = [some (tp p), some (.loc M.length), none, none, none, none, none] ∧ M' = M ++ [Cell.lst [D.tup []]]) ?_ ?_
  · simp -implicitDefEqProofs only [s24_0, q_ok, q_bad, q_ofO, q_rt, q_nx, q_var, q_con, q_glo, q_tup, q_lst, q_op, q_neg, q_not, q_chain, q_and, q_or, q_ite, q_call, q_callk, q_blt, q_meth, q_sub, q_slice, q_no, q_yes, q_nil, q_cons, q_tt, q_val, q_bnot, q_band, q_bor, q_nm, q_tupT, q_subT, q_nilT, q_consT, q_asg, q_par, q_ex, q_ret, q_if, q_end, q_then, q_add, q_sub2, q_lt, q_le, q_gt, q_ge, q_eqI, q_neI, q_eqS, q_neS, q_trB, cfg_call, cfg_gl, parD, Option.map_some, List.map_cons, List.map_nil, List.cons_append, List.nil_append, List.getElem?_cons_zero, List.getElem?_cons_succ, List.set_cons_zero, List.set_cons_succ, List.length_cons, List.length_nil, List.replicate_succ, List.replicate_zero, new_q]
    exact W.ok ⟨_, rfl, rfl, rfl⟩
  rintro _ _ ⟨rfl, rfl⟩
  refine W_seq (w_webs1 n M hl _ _ _ _ _) ?_
  rintro _ M1 ⟨y2, y3, y4, y5, y6, lf, rfl, g1, c1⟩
  have fs := fold_small (p := p) hl (prs p.length).length
  rw [List.take_length] at fs
  obtain ⟨hf1, hf2⟩ := fs
  simp -implicitDefEqProofs only [s24_2, q_ok, q_bad, q_ofO, q_rt, q_nx, q_var, q_con, q_glo, q_tup, q_lst, q_op, q_neg, q_not, q_chain, q_and, q_or, q_ite, q_call, q_callk, q_blt, q_meth, q_sub, q_slice, q_no, q_yes, q_nil, q_cons, q_tt, q_val, q_bnot, q_band, q_bor, q_nm, q_tupT, q_subT, q_nilT, q_consT, q_asg, q_par, q_ex, q_ret, q_if, q_end, q_then, q_add, q_sub2, q_lt, q_le, q_gt, q_ge, q_eqI, q_neI, q_eqS, q_neS, q_trB, cfg_call, cfg_gl, parD, Option.map_some, List.map_cons, List.map_nil, List.cons_append, List.nil_append, List.getElem?_cons_zero, List.getElem?_cons_succ, List.set_cons_zero, List.set_cons_succ, List.length_cons, List.length_nil, List.replicate_succ, List.replicate_zero, Ev.bind_assoc]
  refine W.bind (W_filt (ps := webs0 p.length p) (fm := webD) (J := Gr M1) (fun g => decide (tiesL p.length g = p)) webD (W_iseq (Q := fun u X => u = .loc lf ∧ X = M1) ?_ ?_) ?_ fun M3 w acc hw hj hacc => ?_) ?_
  · simp -implicitDefEqProofs only [q_ok, q_bad, q_ofO, q_rt, q_nx, q_var, q_con, q_glo, q_tup, q_lst, q_op, q_neg, q_not, q_chain, q_and, q_or, q_ite, q_call, q_callk, q_blt, q_meth, q_sub, q_slice, q_no, q_yes, q_nil, q_cons, q_tt, q_val, q_bnot, q_band, q_bor, q_nm, q_tupT, q_subT, q_nilT, q_consT, q_asg, q_par, q_ex, q_ret, q_if, q_end, q_then, q_add, q_sub2, q_lt, q_le, q_gt, q_ge, q_eqI, q_neI, q_eqS, q_neS, q_trB, cfg_call, cfg_gl, parD, Option.map_some, List.map_cons, List.map_nil, List.cons_append, List.nil_append, List.getElem?_cons_zero, List.getElem?_cons_succ, List.set_cons_zero, List.set_cons_succ, List.length_cons, List.length_nil, List.replicate_succ, List.replicate_zero]
    exact W.ok ⟨rfl, rfl⟩
  · rintro u X ⟨rfl, rfl⟩
    exact ⟨Gr.refl _, .inr ⟨_, rfl, fun Y h => h.cell c1⟩⟩
  · show (List.foldl (stepW p.length p) [[]] (prs p.length)).length ≤ line
    rw [line]
    omega
  · have hwl : w.length ≤ 10 := hf2 w hw
    rw [stepD_if]
    simp -implicitDefEqProofs only [wipeD, q_ok, q_bad, q_ofO, q_rt, q_nx, q_var, q_con, q_glo, q_tup, q_lst, q_op, q_neg, q_not, q_chain, q_and, q_or, q_ite, q_call, q_callk, q_blt, q_meth, q_sub, q_slice, q_no, q_yes, q_nil, q_cons, q_tt, q_val, q_bnot, q_band, q_bor, q_nm, q_tupT, q_subT, q_nilT, q_consT, q_asg, q_par, q_ex, q_ret, q_if, q_end, q_then, q_add, q_sub2, q_lt, q_le, q_gt, q_ge, q_eqI, q_neI, q_eqS, q_neS, q_trB, cfg_call, cfg_gl, parD, Option.map_some, List.map_cons, List.map_nil, List.cons_append, List.nil_append, List.getElem?_cons_zero, List.getElem?_cons_succ, List.set_cons_zero, List.set_cons_succ, List.length_cons, List.length_nil, List.replicate_succ, List.replicate_zero, Ev.bind_assoc, len_tup, List.length_map]
    refine W.bind (w_ties n (m := p.length) (g := w) M3 (.inl rfl) (by omega) (by omega)) ?_
    rintro v M4 ⟨rfl, g4⟩
    have tt : ∀ (xs : List D) M, blt .tuple [.tup xs] M = .ok (.tup xs) M := fun _ _ => rfl
    simp -implicitDefEqProofs only [q_ok, q_bad, q_ofO, q_rt, q_nx, q_var, q_con, q_glo, q_tup, q_lst, q_op, q_neg, q_not, q_chain, q_and, q_or, q_ite, q_call, q_callk, q_blt, q_meth, q_sub, q_slice, q_no, q_yes, q_nil, q_cons, q_tt, q_val, q_bnot, q_band, q_bor, q_nm, q_tupT, q_subT, q_nilT, q_consT, q_asg, q_par, q_ex, q_ret, q_if, q_end, q_then, q_add, q_sub2, q_lt, q_le, q_gt, q_ge, q_eqI, q_neI, q_eqS, q_neS, q_trB, cfg_call, cfg_gl, parD, Option.map_some, List.map_cons, List.map_nil, List.cons_append, List.nil_append, List.getElem?_cons_zero, List.getElem?_cons_succ, List.set_cons_zero, List.set_cons_succ, List.length_cons, List.length_nil, List.replicate_succ, List.replicate_zero, Ev.bind_assoc, tt, eq_tp]
    cases decide (tiesL p.length w = p) with
    | true => exact ⟨_, _, push_ok hacc, hj.trans g4, rfl⟩
    | false => exact ⟨_, _, rfl, hj.trans g4, rfl⟩
  · rintro v X ⟨M3, g3, rfl, rfl⟩
    have es := sorted_webs (M := M3 ++ [.lst ((websL p.length p).map webD)]) (l := M3.length) (L := websL p.length p) new_at (webs_one rfl)
    have e2 : ((webs0 p.length p).filter fun g => decide (tiesL p.length g = p)) = websL p.length p := rfl
    rw [e2]
    simp -implicitDefEqProofs only [q_ok, q_bad, q_ofO, q_rt, q_nx, q_var, q_con, q_glo, q_tup, q_lst, q_op, q_neg, q_not, q_chain, q_and, q_or, q_ite, q_call, q_callk, q_blt, q_meth, q_sub, q_slice, q_no, q_yes, q_nil, q_cons, q_tt, q_val, q_bnot, q_band, q_bor, q_nm, q_tupT, q_subT, q_nilT, q_consT, q_asg, q_par, q_ex, q_ret, q_if, q_end, q_then, q_add, q_sub2, q_lt, q_le, q_gt, q_ge, q_eqI, q_neI, q_eqS, q_neS, q_trB, cfg_call, cfg_gl, parD, Option.map_some, List.map_cons, List.map_nil, List.cons_append, List.nil_append, List.getElem?_cons_zero, List.getElem?_cons_succ, List.set_cons_zero, List.set_cons_succ, List.length_cons, List.length_nil, List.replicate_succ, List.replicate_zero, Ev.bind_assoc, es]
    exact W.ok ⟨_, rfl, new_at, (g1.trans (g3.push _)).push _⟩

/-! ### the law's bag, and drawn ties -/
def s25_0 : S := (.asg (.nm 2) (.op .add (.con (.int 1)) (.call 21 (.cons (.var 0) (.cons (.var 1) .nil)))))
def s25_1 : S := (.asg (.nm 3) (.comp (.var 5) (.nm 5) (.seq (.call 22 (.cons (.var 2) .nil))) (.val (.op .eq (.call 21 (.cons (.var 0) (.cons (.con (.int 2)) .nil))) (.con (.int 0)))) [5]))
def s25_2 : S := (.asg (.nm 4) (.blt .list (.cons (.call 23 (.cons (.var 2) (.cons (.var 3) .nil))) .nil)))
def s25_3 : S := (.ite (.val (.op .eq (.call 21 (.cons (.var 0) (.cons (.con (.int 3)) .nil))) (.con (.int 0)))) (.cons (.asg (.sub (.var 4) (.call 21 (.cons (.var 0) (.cons (.var 2) .nil)))) (.call 21 (.cons (.var 0) (.cons (.op .add (.var 2) (.con (.int 1))) .nil)))) .nil) .nil)
def s25_4 : S := (.ret (.blt .tuple (.cons (.var 4) .nil)))
theorem b25_eq : b25 = (.cons s25_0 (.cons s25_1 (.cons s25_2 (.cons s25_3 (.cons s25_4 .nil))))) := rfl
def s20_0 : S := (.asg (.nm 2) (.op .add (.con (.int 52027)) (.op .mul (.con (.int 8009)) (.var 1))))
def s20_1 : S := (.for_ (.nm 3) (.seq (.slice (.var 0) .no (.yes (.con (.int 16))) .no)) (.cons (.asg (.nm 2) (.op .mod (.blt .int (.cons (.op .add (.op .add (.op .mul (.var 2) (.con (.int 48271))) (.op .mod (.blt .int (.cons (.var 3) .nil)) (.con (.int 2147483629)))) (.con (.int 23))) .nil)) (.con (.int 2147483647)))) .nil))
def s20_2 : S := (.asg (.nm 4) (.ite (.val (.op .lt (.var 1) (.blt .len (.cons (.var 0) .nil)))) (.blt .int (.cons (.sub (.var 0) (.var 1)) .nil)) (.con (.int 0))))
def s20_3 : S := (.asg (.nm 2) (.op .mod (.blt .int (.cons (.op .add (.op .add (.op .mul (.var 2) (.con (.int 31))) (.op .mul (.op .mod (.blt .int (.cons (.var 4) .nil)) (.con (.int 2147483629))) (.con (.int 17)))) (.con (.int 3))) .nil)) (.con (.int 2147483647))))
def s20_4 : S := (.ret (.lst (.cons (.ite (.or (.val (.op .lt (.var 4) (.con (.int 0)))) (.val (.op .ge (.var 4) (.op .pow (.con (.int 10)) (.con (.int 15)))))) (.blt .abs (.cons (.var 4) .nil)) (.con (.int 0))) (.cons (.var 2) (.cons (.con (.int 0)) .nil)))))
theorem b20_eq : b20 = (.cons s20_0 (.cons s20_1 (.cons s20_2 (.cons s20_3 (.cons s20_4 .nil))))) := rfl
theorem q_pow15 {M : Mem} : op2 .pow (.int 10) (.int 15) M = .ok (.int (10 ^ (15 : Int).toNat)) M := q_pow (by decide)
theorem w_bag (n : Nat) {M : Mem} {s : Nat} {ns : List Int} {k : Nat} (hs : lstAt M s = some (ns.map D.int)) (hn : ns.length ≤ 63) : W (callN T G 0 (n + 1) 20 [.loc s, .int (k : Int)] M) fun v M' => ∃ q, v = .loc q ∧ Pool M' q ∧ M.length ≤ q ∧ Gr M M' := by
  have hsl := lt_of_lstAt hs
  refine W.call (fd := f20) rfl rfl ?_
  rw [show f20.body = b20 from rfl, b20_eq]
  show W ((exs (cfg T G 0 n) _ [some (.loc s), some (.int (k : Int)), none, none, none] M).bind fin) _
  have m0 : op2 .mul (.int 8009) (.int (k : Int)) M = .ok (.int (8009 * (k : Int))) M := mul_small (by decide)
  refine W_seq (P := fun σ' M' => ∃ stir : Int, σ' = [some (.loc s), some (.int (k : Int)), some (.int stir), none, none] ∧ M = M') ?_ ?_
  · simp -implicitDefEqProofs only [s20_0, q_ok, q_bad, q_ofO, q_rt, q_nx, q_var, q_con, q_glo, q_tup, q_lst, q_op, q_neg, q_not, q_chain, q_and, q_or, q_ite, q_call, q_callk, q_blt, q_meth, q_sub, q_slice, q_no, q_yes, q_nil, q_cons, q_tt, q_val, q_bnot, q_band, q_bor, q_nm, q_tupT, q_subT, q_nilT, q_consT, q_asg, q_par, q_ex, q_ret, q_if, q_end, q_then, q_add, q_sub2, q_lt, q_le, q_gt, q_ge, q_eqI, q_neI, q_eqS, q_neS, q_trB, cfg_call, cfg_gl, parD, Option.map_some, List.map_cons, List.map_nil, List.cons_append, List.nil_append, List.getElem?_cons_zero, List.getElem?_cons_succ, List.set_cons_zero, List.set_cons_succ, List.length_cons, List.length_nil, List.replicate_succ, List.replicate_zero, Ev.bind_assoc, m0]
    exact W.ok ⟨_, rfl, _, rfl, rfl⟩
  rintro _ _ ⟨stir, rfl, rfl⟩
  refine W_seq (P := fun σ' M' => ∃ (e : Option D) (stir : Int), σ' = [some (.loc s), some (.int (k : Int)), some (.int stir), e, none] ∧ lstAt M' s = some (ns.map D.int) ∧ Gr M M') ?_ ?_
  · generalize hc : (ns.take 16) = c
    have e1 : sliceD M (.loc s) none (some 16) none = .ok (.loc M.length) (M ++ [.lst (c.map D.int)]) := by
      rw [slice_loc hs, show (16 : Int) = ((16 : Nat) : Int) from rfl, cut_take, ← List.map_take, hc]
    refine W_for (ps := c) (fm := D.int) (J := Gr (M ++ [Cell.lst (c.map D.int)])) (fun _ σ' M' => ∃ (e : Option D) (stir : Int), σ' = [some (.loc s), some (.int (k : Int)), some (.int stir), e, none] ∧ Gr (M ++ [Cell.lst (c.map D.int)]) M') ?_ (fun _ _ _ ⟨_, _, _, g⟩ => g) ?_ |>.mono ?_
    · rw [q_seq]
      simp -implicitDefEqProofs only [q_ok, q_bad, q_ofO, q_rt, q_nx, q_var, q_con, q_glo, q_tup, q_lst, q_op, q_neg, q_not, q_chain, q_and, q_or, q_ite, q_call, q_callk, q_blt, q_meth, q_sub, q_slice, q_no, q_yes, q_nil, q_cons, q_tt, q_val, q_bnot, q_band, q_bor, q_nm, q_tupT, q_subT, q_nilT, q_consT, q_asg, q_par, q_ex, q_ret, q_if, q_end, q_then, q_add, q_sub2, q_lt, q_le, q_gt, q_ge, q_eqI, q_neI, q_eqS, q_neS, q_trB, cfg_call, cfg_gl, parD, Option.map_some, List.map_cons, List.map_nil, List.cons_append, List.nil_append, List.getElem?_cons_zero, List.getElem?_cons_succ, List.set_cons_zero, List.set_cons_succ, List.length_cons, List.length_nil, List.replicate_succ, List.replicate_zero, Ev.bind_assoc, e1]
      rw [src_of new_at, List.length_map]
      exact W.ok ⟨walks_lst fun M' g => g.cell new_at, none, stir, rfl, Gr.refl _⟩
    · rintro M1 i x σ hx ⟨e, st, rfl, g⟩
      have m1 : ∀ {x : Int} {M : Mem}, op2 .mul (.int x) (.int 48271) M = .ok (.int (x * 48271)) M := mul_smallR (by decide)
      have q1 : ∀ {x : Int} {M : Mem}, op2 .mod (.int x) (.int 2147483647) M = .ok (.int (x % 2147483647)) M := q_mod (by decide)
      have q2 : ∀ {x : Int} {M : Mem}, op2 .mod (.int x) (.int 2147483629) M = .ok (.int (x % 2147483629)) M := q_mod (by decide)
      simp -implicitDefEqProofs only [q_ok, q_bad, q_ofO, q_rt, q_nx, q_var, q_con, q_glo, q_tup, q_lst, q_op, q_neg, q_not, q_chain, q_and, q_or, q_ite, q_call, q_callk, q_blt, q_meth, q_sub, q_slice, q_no, q_yes, q_nil, q_cons, q_tt, q_val, q_bnot, q_band, q_bor, q_nm, q_tupT, q_subT, q_nilT, q_consT, q_asg, q_par, q_ex, q_ret, q_if, q_end, q_then, q_add, q_sub2, q_lt, q_le, q_gt, q_ge, q_eqI, q_neI, q_eqS, q_neS, q_trB, cfg_call, cfg_gl, parD, Option.map_some, List.map_cons, List.map_nil, List.cons_append, List.nil_append, List.getElem?_cons_zero, List.getElem?_cons_succ, List.set_cons_zero, List.set_cons_succ, List.length_cons, List.length_nil, List.replicate_succ, List.replicate_zero, Ev.bind_assoc, m1, q1, q2, int1]
      exact W.ok ⟨_, .inl rfl, _, _, rfl, g⟩
    · rintro fl' M' ⟨σ', rfl, e, st, rfl, g⟩
      have gg : Gr M M' := Gr.trans ⟨_, rfl⟩ g
      refine ⟨_, rfl, e, st, rfl, ?_, gg⟩
      obtain ⟨Z, rfl⟩ := gg
      unfold lstAt at hs ⊢
      rw [List.getElem?_append_left hsl]
      exact hs
  rintro _ M1 ⟨e, stir, rfl, hs1, g1⟩
  have hlen : blt .len [.loc s] M1 = .ok (.int (ns.length : Int)) M1 := by rw [len_loc hs1, List.length_map]
  refine W_seq (P := fun σ' M' => ∃ own : Int, σ' = [some (.loc s), some (.int (k : Int)), some (.int stir), e, some (.int own)] ∧ M1 = M') ?_ ?_
  · simp -implicitDefEqProofs only [s20_2, q_ok, q_bad, q_ofO, q_rt, q_nx, q_var, q_con, q_glo, q_tup, q_lst, q_op, q_neg, q_not, q_chain, q_and, q_or, q_ite, q_call, q_callk, q_blt, q_meth, q_sub, q_slice, q_no, q_yes, q_nil, q_cons, q_tt, q_val, q_bnot, q_band, q_bor, q_nm, q_tupT, q_subT, q_nilT, q_consT, q_asg, q_par, q_ex, q_ret, q_if, q_end, q_then, q_add, q_sub2, q_lt, q_le, q_gt, q_ge, q_eqI, q_neI, q_eqS, q_neS, q_trB, cfg_call, cfg_gl, parD, Option.map_some, List.map_cons, List.map_nil, List.cons_append, List.nil_append, List.getElem?_cons_zero, List.getElem?_cons_succ, List.set_cons_zero, List.set_cons_succ, List.length_cons, List.length_nil, List.replicate_succ, List.replicate_zero, Ev.bind_assoc, hlen]
    by_cases hk : (k : Int) < (ns.length : Int)
    · have hi : itemAt M1 (.loc s) (.int (k : Int)) = .ok (.int (ns.getD k 0)) M1 := by
        rw [item_loc hs1, List.getElem?_map, List.getElem?_eq_getElem (show k < ns.length by omega), List.getD_eq_getElem?_getD, List.getElem?_eq_getElem (show k < ns.length by omega)] <;> rfl
      simp -implicitDefEqProofs only [decide_eq_true hk, q_ok, q_bad, q_ofO, q_rt, q_nx, q_var, q_con, q_glo, q_tup, q_lst, q_op, q_neg, q_not, q_chain, q_and, q_or, q_ite, q_call, q_callk, q_blt, q_meth, q_sub, q_slice, q_no, q_yes, q_nil, q_cons, q_tt, q_val, q_bnot, q_band, q_bor, q_nm, q_tupT, q_subT, q_nilT, q_consT, q_asg, q_par, q_ex, q_ret, q_if, q_end, q_then, q_add, q_sub2, q_lt, q_le, q_gt, q_ge, q_eqI, q_neI, q_eqS, q_neS, q_trB, cfg_call, cfg_gl, parD, Option.map_some, List.map_cons, List.map_nil, List.cons_append, List.nil_append, List.getElem?_cons_zero, List.getElem?_cons_succ, List.set_cons_zero, List.set_cons_succ, List.length_cons, List.length_nil, List.replicate_succ, List.replicate_zero, Ev.bind_assoc, hi, int1]
      exact W.ok ⟨_, rfl, _, rfl, rfl⟩
    · simp -implicitDefEqProofs only [decide_eq_false hk, q_ok, q_bad, q_ofO, q_rt, q_nx, q_var, q_con, q_glo, q_tup, q_lst, q_op, q_neg, q_not, q_chain, q_and, q_or, q_ite, q_call, q_callk, q_blt, q_meth, q_sub, q_slice, q_no, q_yes, q_nil, q_cons, q_tt, q_val, q_bnot, q_band, q_bor, q_nm, q_tupT, q_subT, q_nilT, q_consT, q_asg, q_par, q_ex, q_ret, q_if, q_end, q_then, q_add, q_sub2, q_lt, q_le, q_gt, q_ge, q_eqI, q_neI, q_eqS, q_neS, q_trB, cfg_call, cfg_gl, parD, Option.map_some, List.map_cons, List.map_nil, List.cons_append, List.nil_append, List.getElem?_cons_zero, List.getElem?_cons_succ, List.set_cons_zero, List.set_cons_succ, List.length_cons, List.length_nil, List.replicate_succ, List.replicate_zero, Ev.bind_assoc]
      exact W.ok ⟨_, rfl, _, rfl, rfl⟩
  rintro _ _ ⟨own, rfl, rfl⟩
  refine W_seq (P := fun σ' M' => ∃ stir : Int, σ' = [some (.loc s), some (.int (k : Int)), some (.int stir), e, some (.int own)] ∧ M1 = M') ?_ ?_
  · have m1 : ∀ {x : Int} {M : Mem}, op2 .mul (.int x) (.int 31) M = .ok (.int (x * 31)) M := mul_smallR (by decide)
    have m2 : ∀ {x : Int} {M : Mem}, op2 .mul (.int x) (.int 17) M = .ok (.int (x * 17)) M := mul_smallR (by decide)
    have q1 : ∀ {x : Int} {M : Mem}, op2 .mod (.int x) (.int 2147483647) M = .ok (.int (x % 2147483647)) M := q_mod (by decide)
    have q2 : ∀ {x : Int} {M : Mem}, op2 .mod (.int x) (.int 2147483629) M = .ok (.int (x % 2147483629)) M := q_mod (by decide)
    simp -implicitDefEqProofs only [s20_3, q_ok, q_bad, q_ofO, q_rt, q_nx, q_var, q_con, q_glo, q_tup, q_lst, q_op, q_neg, q_not, q_chain, q_and, q_or, q_ite, q_call, q_callk, q_blt, q_meth, q_sub, q_slice, q_no, q_yes, q_nil, q_cons, q_tt, q_val, q_bnot, q_band, q_bor, q_nm, q_tupT, q_subT, q_nilT, q_consT, q_asg, q_par, q_ex, q_ret, q_if, q_end, q_then, q_add, q_sub2, q_lt, q_le, q_gt, q_ge, q_eqI, q_neI, q_eqS, q_neS, q_trB, cfg_call, cfg_gl, parD, Option.map_some, List.map_cons, List.map_nil, List.cons_append, List.nil_append, List.getElem?_cons_zero, List.getElem?_cons_succ, List.set_cons_zero, List.set_cons_succ, List.length_cons, List.length_nil, List.replicate_succ, List.replicate_zero, Ev.bind_assoc, m1, m2, q1, q2, int1]
    exact W.ok ⟨_, rfl, _, rfl, rfl⟩
  rintro _ _ ⟨st, rfl, rfl⟩
  have hab : ∀ {x : Int} {M : Mem}, blt .abs [.int x] M = .ok (.int (if x < 0 then -x else x)) M := rfl
  have fin' : ∃ x : Int, ev (cfg T G 0 n) (.ite (.or (.val (.op .lt (.var 4) (.con (.int 0)))) (.val (.op .ge (.var 4) (.op .pow (.con (.int 10)) (.con (.int 15)))))) (.blt .abs (.cons (.var 4) .nil)) (.con (.int 0))) [some (.loc s), some (.int (k : Int)), some (.int st), e, some (.int own)] M1 = .ok (.int x) M1 := by
    simp -implicitDefEqProofs only [q_ok, q_bad, q_ofO, q_rt, q_nx, q_var, q_con, q_glo, q_tup, q_lst, q_op, q_neg, q_not, q_chain, q_and, q_or, q_ite, q_call, q_callk, q_blt, q_meth, q_sub, q_slice, q_no, q_yes, q_nil, q_cons, q_tt, q_val, q_bnot, q_band, q_bor, q_nm, q_tupT, q_subT, q_nilT, q_consT, q_asg, q_par, q_ex, q_ret, q_if, q_end, q_then, q_add, q_sub2, q_lt, q_le, q_gt, q_ge, q_eqI, q_neI, q_eqS, q_neS, q_trB, cfg_call, cfg_gl, parD, Option.map_some, List.map_cons, List.map_nil, List.cons_append, List.nil_append, List.getElem?_cons_zero, List.getElem?_cons_succ, List.set_cons_zero, List.set_cons_succ, List.length_cons, List.length_nil, List.replicate_succ, List.replicate_zero, hab, q_pow15]
    cases decide (own < 0) with
    | true => exact ⟨_, rfl⟩
    | false =>
      simp -implicitDefEqProofs only [q_ok, q_bad, q_ofO, q_rt, q_nx, q_var, q_con, q_glo, q_tup, q_lst, q_op, q_neg, q_not, q_chain, q_and, q_or, q_ite, q_call, q_callk, q_blt, q_meth, q_sub, q_slice, q_no, q_yes, q_nil, q_cons, q_tt, q_val, q_bnot, q_band, q_bor, q_nm, q_tupT, q_subT, q_nilT, q_consT, q_asg, q_par, q_ex, q_ret, q_if, q_end, q_then, q_add, q_sub2, q_lt, q_le, q_gt, q_ge, q_eqI, q_neI, q_eqS, q_neS, q_trB, cfg_call, cfg_gl, parD, Option.map_some, List.map_cons, List.map_nil, List.cons_append, List.nil_append, List.getElem?_cons_zero, List.getElem?_cons_succ, List.set_cons_zero, List.set_cons_succ, List.length_cons, List.length_nil, List.replicate_succ, List.replicate_zero]
      cases decide ((10 : Int) ^ (15 : Int).toNat ≤ own) with
      | true => exact ⟨_, rfl⟩
      | false => exact ⟨_, rfl⟩
  obtain ⟨x, hfin⟩ := fin'
  have hr : (exs (cfg T G 0 n) (.cons s20_4 .nil) [some (.loc s), some (.int (k : Int)), some (.int st), e, some (.int own)] M1).bind fin = .ok (.loc M1.length) (M1 ++ [.lst [.int x, .int st, .int 0]]) := by
    rw [q_then, s20_4, q_ret, q_lst, q_cons, hfin, q_ok, q_cons]
    rfl
  rw [hr]
  exact W.ok ⟨_, rfl, ⟨x, st, 0, new_at⟩, g1.le, g1.push _⟩
theorem w_some (n : Nat) {p : Nat} {mo : Int} (M : Mem) (hp : Pool M p) (hmo : 1 ≤ mo ∧ mo ≤ 5) : W (callN T G 0 (n + 2) 25 [.loc p, .int mo] M) fun v M' => ∃ xs, v = tp xs ∧ Pz xs ∧ (xs.length : Int) ≤ mo ∧ Keep p M M' := by
  refine W.call (fd := f25) rfl rfl ?_
  rw [show f25.body = b25 from rfl, b25_eq]
  show W ((exs (cfg T G 0 (n + 1)) _ [some (.loc p), some (.int mo), none, none, none, none] M).bind fin) _
  refine W_seq (P := fun σ' M' => ∃ m : Nat, 1 ≤ m ∧ (m : Int) ≤ mo ∧ σ' = [some (.loc p), some (.int mo), some (.int (m : Int)), none, none, none] ∧ Keep p M M') ?_ ?_
  · simp -implicitDefEqProofs only [s25_0, q_ok, q_bad, q_ofO, q_rt, q_nx, q_var, q_con, q_glo, q_tup, q_lst, q_op, q_neg, q_not, q_chain, q_and, q_or, q_ite, q_call, q_callk, q_blt, q_meth, q_sub, q_slice, q_no, q_yes, q_nil, q_cons, q_tt, q_val, q_bnot, q_band, q_bor, q_nm, q_tupT, q_subT, q_nilT, q_consT, q_asg, q_par, q_ex, q_ret, q_if, q_end, q_then, q_add, q_sub2, q_lt, q_le, q_gt, q_ge, q_eqI, q_neI, q_eqS, q_neS, q_trB, cfg_call, cfg_gl, parD, Option.map_some, List.map_cons, List.map_nil, List.cons_append, List.nil_append, List.getElem?_cons_zero, List.getElem?_cons_succ, List.set_cons_zero, List.set_cons_succ, List.length_cons, List.length_nil, List.replicate_succ, List.replicate_zero, Ev.bind_assoc]
    refine (w_take n M hp (by omega)).bind ?_
    rintro v M1 ⟨d, rfl, d0, d1, k1⟩
    obtain ⟨m, rfl⟩ := Int.eq_ofNat_of_zero_le d0
    simp -implicitDefEqProofs only [q_ok, q_bad, q_ofO, q_rt, q_nx, q_var, q_con, q_glo, q_tup, q_lst, q_op, q_neg, q_not, q_chain, q_and, q_or, q_ite, q_call, q_callk, q_blt, q_meth, q_sub, q_slice, q_no, q_yes, q_nil, q_cons, q_tt, q_val, q_bnot, q_band, q_bor, q_nm, q_tupT, q_subT, q_nilT, q_consT, q_asg, q_par, q_ex, q_ret, q_if, q_end, q_then, q_add, q_sub2, q_lt, q_le, q_gt, q_ge, q_eqI, q_neI, q_eqS, q_neS, q_trB, cfg_call, cfg_gl, parD, Option.map_some, List.map_cons, List.map_nil, List.cons_append, List.nil_append, List.getElem?_cons_zero, List.getElem?_cons_succ, List.set_cons_zero, List.set_cons_succ, List.length_cons, List.length_nil, List.replicate_succ, List.replicate_zero, Ev.bind_assoc]
    refine W.ok ⟨_, rfl, m + 1, by omega, by omega, ?_, k1⟩
    rw [show ((m + 1 : Nat) : Int) = 1 + (m : Int) by omega]
  rintro _ M1 ⟨m, m1, m5, rfl, k1⟩
  have hm5 : m ≤ 5 := by omega
  refine W_seq (P := fun σ' M' => ∃ (g : List Pr) (l : Nat), g.Sublist (prs m) ∧ σ' = [some (.loc p), some (.int mo), some (.int (m : Int)), some (.loc l), none, none] ∧ M'[l]? = some (.lst (g.map pairD)) ∧ Keep p M1 M') ?_ ?_
  · simp -implicitDefEqProofs only [s25_1, q_ok, q_bad, q_ofO, q_rt, q_nx, q_var, q_con, q_glo, q_tup, q_lst, q_op, q_neg, q_not, q_chain, q_and, q_or, q_ite, q_call, q_callk, q_blt, q_meth, q_sub, q_slice, q_no, q_yes, q_nil, q_cons, q_tt, q_val, q_bnot, q_band, q_bor, q_nm, q_tupT, q_subT, q_nilT, q_consT, q_asg, q_par, q_ex, q_ret, q_if, q_end, q_then, q_add, q_sub2, q_lt, q_le, q_gt, q_ge, q_eqI, q_neI, q_eqS, q_neS, q_trB, cfg_call, cfg_gl, parD, Option.map_some, List.map_cons, List.map_nil, List.cons_append, List.nil_append, List.getElem?_cons_zero, List.getElem?_cons_succ, List.set_cons_zero, List.set_cons_succ, List.length_cons, List.length_nil, List.replicate_succ, List.replicate_zero, Ev.bind_assoc]
    refine W.bind (W_compe (ps := prs m) (fm := pairD) (fun xs M' => Keep p M1 M' ∧ ∃ g : List Pr, xs = g.map pairD ∧ g.Sublist (prs m)) (by have := prs_few hm5; rw [line]; omega) ?_) ?_
    · simp -implicitDefEqProofs only [q_seq, q_ok, q_bad, q_ofO, q_rt, q_nx, q_var, q_con, q_glo, q_tup, q_lst, q_op, q_neg, q_not, q_chain, q_and, q_or, q_ite, q_call, q_callk, q_blt, q_meth, q_sub, q_slice, q_no, q_yes, q_nil, q_cons, q_tt, q_val, q_bnot, q_band, q_bor, q_nm, q_tupT, q_subT, q_nilT, q_consT, q_asg, q_par, q_ex, q_ret, q_if, q_end, q_then, q_add, q_sub2, q_lt, q_le, q_gt, q_ge, q_eqI, q_neI, q_eqS, q_neS, q_trB, cfg_call, cfg_gl, parD, Option.map_some, List.map_cons, List.map_nil, List.cons_append, List.nil_append, List.getElem?_cons_zero, List.getElem?_cons_succ, List.set_cons_zero, List.set_cons_succ, List.length_cons, List.length_nil, List.replicate_succ, List.replicate_zero, Ev.bind_assoc]
      have hm6 : m ≤ 6 := by omega
      refine W.bind (w_pairs n (m := m) M1 hm6) ?_
      rintro v M2 ⟨l, rfl, hfr, hl, g2⟩
      have nl : l ≠ p := by
        have := k1.pool.lt
        omega
      rw [src_of hl, List.length_map]
      refine W.ok ⟨fun M' => Keep p M1 M' ∧ M'[l]? = some (.lst ((prs m).map pairD)), fun i acc => ∃ g : List Pr, acc = g.map pairD ∧ g.Sublist ((prs m).take i) ∧ i ≤ (prs m).length, walks_lst fun M' h => h.2, ⟨g2.keep k1.pool, hl⟩, ⟨[], rfl, List.nil_sublist _, Nat.zero_le _⟩, ?_, ?_, ?_⟩
      · rintro i acc ⟨g, rfl, hs, hi⟩
        have := hs.length_le
        rw [List.length_take] at this
        rw [List.length_map]
        omega
      · rintro M3 xs ⟨k3, _⟩ ⟨g, rfl, hs, _⟩
        rw [List.take_length] at hs
        exact ⟨k3, g, rfl, hs⟩
      · rintro M3 i a acc ha ⟨k3, c3⟩ ⟨g, rfl, hs, hi⟩ hacc
        rw [stepD_if]
        simp -implicitDefEqProofs only [wipeD, q_ok, q_bad, q_ofO, q_rt, q_nx, q_var, q_con, q_glo, q_tup, q_lst, q_op, q_neg, q_not, q_chain, q_and, q_or, q_ite, q_call, q_callk, q_blt, q_meth, q_sub, q_slice, q_no, q_yes, q_nil, q_cons, q_tt, q_val, q_bnot, q_band, q_bor, q_nm, q_tupT, q_subT, q_nilT, q_consT, q_asg, q_par, q_ex, q_ret, q_if, q_end, q_then, q_add, q_sub2, q_lt, q_le, q_gt, q_ge, q_eqI, q_neI, q_eqS, q_neS, q_trB, cfg_call, cfg_gl, parD, Option.map_some, List.map_cons, List.map_nil, List.cons_append, List.nil_append, List.getElem?_cons_zero, List.getElem?_cons_succ, List.set_cons_zero, List.set_cons_succ, List.length_cons, List.length_nil, List.replicate_succ, List.replicate_zero, Ev.bind_assoc]
        refine W.bind (w_take n M3 k3.pool (m := 2) (by omega)) ?_
        rintro v M4 ⟨d, rfl, d0, d1, k4⟩
        have c4 := k4.cell c3 nl
        have tk : (prs m).take (i + 1) = (prs m).take i ++ [a] := by
          rw [List.take_add_one, ha]
          rfl
        simp -implicitDefEqProofs only [q_ok, q_bad, q_ofO, q_rt, q_nx, q_var, q_con, q_glo, q_tup, q_lst, q_op, q_neg, q_not, q_chain, q_and, q_or, q_ite, q_call, q_callk, q_blt, q_meth, q_sub, q_slice, q_no, q_yes, q_nil, q_cons, q_tt, q_val, q_bnot, q_band, q_bor, q_nm, q_tupT, q_subT, q_nilT, q_consT, q_asg, q_par, q_ex, q_ret, q_if, q_end, q_then, q_add, q_sub2, q_lt, q_le, q_gt, q_ge, q_eqI, q_neI, q_eqS, q_neS, q_trB, cfg_call, cfg_gl, parD, Option.map_some, List.map_cons, List.map_nil, List.cons_append, List.nil_append, List.getElem?_cons_zero, List.getElem?_cons_succ, List.set_cons_zero, List.set_cons_succ, List.length_cons, List.length_nil, List.replicate_succ, List.replicate_zero, Ev.bind_assoc]
        cases decide (d = 0) with
        | true => exact ⟨_, _, push_ok hacc, ⟨k3.trans k4, c4⟩, g ++ [a], by rw [List.map_append] <;> rfl, by rw [tk]; exact hs.append (List.Sublist.refl _), getElem?_len ha⟩
        | false => exact ⟨_, _, rfl, ⟨k3.trans k4, c4⟩, g, rfl, by rw [tk]; exact hs.trans (List.sublist_append_left _ _), getElem?_len ha⟩
    · rintro v M' ⟨M2, xs, ⟨k2, g, rfl, hs⟩, rfl, rfl⟩
      exact W.ok ⟨_, rfl, g, _, hs, rfl, new_at, k2.pushed _⟩
  rintro _ M2 ⟨g, l, hs, rfl, hl, k2⟩
  have hgl : g.length ≤ 100 := by
    have := hs.length_le
    have := prs_few hm5
    omega
  have sm := sub_ties hm5 hs
  have sm' : ∀ x ∈ tiesL m g, 0 ≤ x ∧ x ≤ 30 := fun x hx => by
    rw [ties_zi] at hx
    obtain ⟨y, hy, rfl⟩ := List.mem_map.mp hx
    have := sm y hy
    omega
  refine W_seq (P := fun σ' M' => ∃ lt, lt ≠ p ∧ M.length ≤ lt ∧ σ' = [some (.loc p), some (.int mo), some (.int (m : Int)), some (.loc l), some (.loc lt), none] ∧ M'[lt]? = some (.lst ((tiesL m g).map D.int)) ∧ Keep p M2 M') ?_ ?_
  · simp -implicitDefEqProofs only [s25_2, q_ok, q_bad, q_ofO, q_rt, q_nx, q_var, q_con, q_glo, q_tup, q_lst, q_op, q_neg, q_not, q_chain, q_and, q_or, q_ite, q_call, q_callk, q_blt, q_meth, q_sub, q_slice, q_no, q_yes, q_nil, q_cons, q_tt, q_val, q_bnot, q_band, q_bor, q_nm, q_tupT, q_subT, q_nilT, q_consT, q_asg, q_par, q_ex, q_ret, q_if, q_end, q_then, q_add, q_sub2, q_lt, q_le, q_gt, q_ge, q_eqI, q_neI, q_eqS, q_neS, q_trB, cfg_call, cfg_gl, parD, Option.map_some, List.map_cons, List.map_nil, List.cons_append, List.nil_append, List.getElem?_cons_zero, List.getElem?_cons_succ, List.set_cons_zero, List.set_cons_succ, List.length_cons, List.length_nil, List.replicate_succ, List.replicate_zero, Ev.bind_assoc]
    have hm6 : m ≤ 6 := by omega
    refine W.bind (w_ties n (m := m) (g := g) M2 (.inr ⟨l, rfl, hl⟩) hm6 hgl) ?_
    rintro v M3 ⟨rfl, g3⟩
    simp -implicitDefEqProofs only [q_ok, q_bad, q_ofO, q_rt, q_nx, q_var, q_con, q_glo, q_tup, q_lst, q_op, q_neg, q_not, q_chain, q_and, q_or, q_ite, q_call, q_callk, q_blt, q_meth, q_sub, q_slice, q_no, q_yes, q_nil, q_cons, q_tt, q_val, q_bnot, q_band, q_bor, q_nm, q_tupT, q_subT, q_nilT, q_consT, q_asg, q_par, q_ex, q_ret, q_if, q_end, q_then, q_add, q_sub2, q_lt, q_le, q_gt, q_ge, q_eqI, q_neI, q_eqS, q_neS, q_trB, cfg_call, cfg_gl, parD, Option.map_some, List.map_cons, List.map_nil, List.cons_append, List.nil_append, List.getElem?_cons_zero, List.getElem?_cons_succ, List.set_cons_zero, List.set_cons_succ, List.length_cons, List.length_nil, List.replicate_succ, List.replicate_zero, Ev.bind_assoc, list_tp]
    have := hp.lt
    have := k1.len
    have := k2.len
    have := g3.le
    exact W.ok ⟨_, rfl, M3.length, by omega, by omega, rfl, new_at, (g3.push _).keep k2.pool⟩
  rintro _ M3 ⟨lt, nlt, flt, rfl, hlt, k3⟩
  have k13 := (k1.trans k2).trans k3
  refine W_seq (P := fun σ' M' => ∃ zs : List Int, zs.length = m ∧ (∀ x ∈ zs, 0 ≤ x ∧ x ≤ 30) ∧ σ' = [some (.loc p), some (.int mo), some (.int (m : Int)), some (.loc l), some (.loc lt), none] ∧ M'[lt]? = some (.lst (zs.map D.int)) ∧ Keep p M M') ?_ ?_
  · simp -implicitDefEqProofs only [s25_3, q_ok, q_bad, q_ofO, q_rt, q_nx, q_var, q_con, q_glo, q_tup, q_lst, q_op, q_neg, q_not, q_chain, q_and, q_or, q_ite, q_call, q_callk, q_blt, q_meth, q_sub, q_slice, q_no, q_yes, q_nil, q_cons, q_tt, q_val, q_bnot, q_band, q_bor, q_nm, q_tupT, q_subT, q_nilT, q_consT, q_asg, q_par, q_ex, q_ret, q_if, q_end, q_then, q_add, q_sub2, q_lt, q_le, q_gt, q_ge, q_eqI, q_neI, q_eqS, q_neS, q_trB, cfg_call, cfg_gl, parD, Option.map_some, List.map_cons, List.map_nil, List.cons_append, List.nil_append, List.getElem?_cons_zero, List.getElem?_cons_succ, List.set_cons_zero, List.set_cons_succ, List.length_cons, List.length_nil, List.replicate_succ, List.replicate_zero, Ev.bind_assoc]
    refine W.bind (w_take n M3 k3.pool (m := 3) (by omega)) ?_
    rintro v M4 ⟨d, rfl, d0, d1, k4⟩
    have c4 := k4.cell hlt nlt
    simp -implicitDefEqProofs only [q_ok, q_bad, q_ofO, q_rt, q_nx, q_var, q_con, q_glo, q_tup, q_lst, q_op, q_neg, q_not, q_chain, q_and, q_or, q_ite, q_call, q_callk, q_blt, q_meth, q_sub, q_slice, q_no, q_yes, q_nil, q_cons, q_tt, q_val, q_bnot, q_band, q_bor, q_nm, q_tupT, q_subT, q_nilT, q_consT, q_asg, q_par, q_ex, q_ret, q_if, q_end, q_then, q_add, q_sub2, q_lt, q_le, q_gt, q_ge, q_eqI, q_neI, q_eqS, q_neS, q_trB, cfg_call, cfg_gl, parD, Option.map_some, List.map_cons, List.map_nil, List.cons_append, List.nil_append, List.getElem?_cons_zero, List.getElem?_cons_succ, List.set_cons_zero, List.set_cons_succ, List.length_cons, List.length_nil, List.replicate_succ, List.replicate_zero, Ev.bind_assoc]
    by_cases hd : d = 0
    · simp -implicitDefEqProofs only [decide_eq_true hd, q_ok, q_bad, q_ofO, q_rt, q_nx, q_var, q_con, q_glo, q_tup, q_lst, q_op, q_neg, q_not, q_chain, q_and, q_or, q_ite, q_call, q_callk, q_blt, q_meth, q_sub, q_slice, q_no, q_yes, q_nil, q_cons, q_tt, q_val, q_bnot, q_band, q_bor, q_nm, q_tupT, q_subT, q_nilT, q_consT, q_asg, q_par, q_ex, q_ret, q_if, q_end, q_then, q_add, q_sub2, q_lt, q_le, q_gt, q_ge, q_eqI, q_neI, q_eqS, q_neS, q_trB, cfg_call, cfg_gl, parD, Option.map_some, List.map_cons, List.map_nil, List.cons_append, List.nil_append, List.getElem?_cons_zero, List.getElem?_cons_succ, List.set_cons_zero, List.set_cons_succ, List.length_cons, List.length_nil, List.replicate_succ, List.replicate_zero, Ev.bind_assoc]
      refine W.bind (w_take n M4 k4.pool (m := (m : Int) + 1) (by omega)) ?_
      rintro v M5 ⟨e, rfl, e0, e1, k5⟩
      have c5 := k5.cell c4 nlt
      try simp -implicitDefEqProofs only [q_ok, q_bad, q_ofO, q_rt, q_nx, q_var, q_con, q_glo, q_tup, q_lst, q_op, q_neg, q_not, q_chain, q_and, q_or, q_ite, q_call, q_callk, q_blt, q_meth, q_sub, q_slice, q_no, q_yes, q_nil, q_cons, q_tt, q_val, q_bnot, q_band, q_bor, q_nm, q_tupT, q_subT, q_nilT, q_consT, q_asg, q_par, q_ex, q_ret, q_if, q_end, q_then, q_add, q_sub2, q_lt, q_le, q_gt, q_ge, q_eqI, q_neI, q_eqS, q_neS, q_trB, cfg_call, cfg_gl, parD, Option.map_some, List.map_cons, List.map_nil, List.cons_append, List.nil_append, List.getElem?_cons_zero, List.getElem?_cons_succ, List.set_cons_zero, List.set_cons_succ, List.length_cons, List.length_nil, List.replicate_succ, List.replicate_zero, Ev.bind_assoc]
      refine W.bind (w_take n M5 k5.pool (m := (m : Int)) (by omega)) ?_
      rintro v M6 ⟨j, rfl, j0, j1, k6⟩
      have c6 := k6.cell c5 nlt
      obtain ⟨j, rfl⟩ := Int.eq_ofNat_of_zero_le j0
      have s6 := set_at' (v := e) c6 (k := j) (by rw [tiesL_len]; omega)
      simp -implicitDefEqProofs only [q_ok, q_bad, q_ofO, q_rt, q_nx, q_var, q_con, q_glo, q_tup, q_lst, q_op, q_neg, q_not, q_chain, q_and, q_or, q_ite, q_call, q_callk, q_blt, q_meth, q_sub, q_slice, q_no, q_yes, q_nil, q_cons, q_tt, q_val, q_bnot, q_band, q_bor, q_nm, q_tupT, q_subT, q_nilT, q_consT, q_asg, q_par, q_ex, q_ret, q_if, q_end, q_then, q_add, q_sub2, q_lt, q_le, q_gt, q_ge, q_eqI, q_neI, q_eqS, q_neS, q_trB, cfg_call, cfg_gl, parD, Option.map_some, List.map_cons, List.map_nil, List.cons_append, List.nil_append, List.getElem?_cons_zero, List.getElem?_cons_succ, List.set_cons_zero, List.set_cons_succ, List.length_cons, List.length_nil, List.replicate_succ, List.replicate_zero, Ev.bind_assoc, s6]
      refine W.ok ⟨_, rfl, (tiesL m g).set j e, by rw [List.length_set, tiesL_len], fun x hx => ?_, rfl, List.getElem?_set_self (getElem?_len c6), (((k13.trans k4).trans k5).trans k6).write flt hp.lt⟩
      rcases List.mem_or_eq_of_mem_set hx with h | h
      · exact sm' x h
      · omega
    · simp -implicitDefEqProofs only [decide_eq_false hd, q_ok, q_bad, q_ofO, q_rt, q_nx, q_var, q_con, q_glo, q_tup, q_lst, q_op, q_neg, q_not, q_chain, q_and, q_or, q_ite, q_call, q_callk, q_blt, q_meth, q_sub, q_slice, q_no, q_yes, q_nil, q_cons, q_tt, q_val, q_bnot, q_band, q_bor, q_nm, q_tupT, q_subT, q_nilT, q_consT, q_asg, q_par, q_ex, q_ret, q_if, q_end, q_then, q_add, q_sub2, q_lt, q_le, q_gt, q_ge, q_eqI, q_neI, q_eqS, q_neS, q_trB, cfg_call, cfg_gl, parD, Option.map_some, List.map_cons, List.map_nil, List.cons_append, List.nil_append, List.getElem?_cons_zero, List.getElem?_cons_succ, List.set_cons_zero, List.set_cons_succ, List.length_cons, List.length_nil, List.replicate_succ, List.replicate_zero, Ev.bind_assoc]
      exact W.ok ⟨_, rfl, tiesL m g, tiesL_len m g, sm', rfl, c4, k13.trans k4⟩
  rintro _ M4 ⟨zs, lz, rz, rfl, hz, k4⟩
  simp -implicitDefEqProofs only [s25_4, q_ok, q_bad, q_ofO, q_rt, q_nx, q_var, q_con, q_glo, q_tup, q_lst, q_op, q_neg, q_not, q_chain, q_and, q_or, q_ite, q_call, q_callk, q_blt, q_meth, q_sub, q_slice, q_no, q_yes, q_nil, q_cons, q_tt, q_val, q_bnot, q_band, q_bor, q_nm, q_tupT, q_subT, q_nilT, q_consT, q_asg, q_par, q_ex, q_ret, q_if, q_end, q_then, q_add, q_sub2, q_lt, q_le, q_gt, q_ge, q_eqI, q_neI, q_eqS, q_neS, q_trB, cfg_call, cfg_gl, parD, Option.map_some, List.map_cons, List.map_nil, List.cons_append, List.nil_append, List.getElem?_cons_zero, List.getElem?_cons_succ, List.set_cons_zero, List.set_cons_succ, List.length_cons, List.length_nil, List.replicate_succ, List.replicate_zero, Ev.bind_assoc, tuple_at hz]
  exact W.ok ⟨zs, rfl, ⟨by omega, by omega, rz⟩, by omega, k4⟩
end K71
namespace K71
open PySem Ev
/-! ### the program's webs -/
theorem walks_comb {n : Nat} {J : Mem → Prop} : Walks (.comb n) (prs n) pairD J :=
  ⟨rfl, fun M _ i a h => by
    show (pairsN n)[i]?.map _ = _
    have h' : (pairsN n)[i]? = some a := h
    rw [h'] <;> rfl, fun M _ => decide_eq_true (Nat.le_refl _)⟩
theorem w_allp (n : Nat) {m : Nat} (M : Mem) (hm : m ≤ 6) : W (callN T G 0 (n + 1) 8 [.int (m : Int)] M) fun v M' => ∃ l, v = .loc l ∧ M.length ≤ l ∧ M'[l]? = some (.lst ((prs m).map pairD)) ∧ Gr M M' := by
  refine W.call (fd := f8) rfl rfl ?_
  simp -implicitDefEqProofs only [f8, b8, q_ok, q_bad, q_ofO, q_rt, q_nx, q_var, q_con, q_glo, q_tup, q_lst, q_op, q_neg, q_not, q_chain, q_and, q_or, q_ite, q_call, q_callk, q_blt, q_meth, q_sub, q_slice, q_no, q_yes, q_nil, q_cons, q_tt, q_val, q_bnot, q_band, q_bor, q_nm, q_tupT, q_subT, q_nilT, q_consT, q_asg, q_par, q_ex, q_ret, q_if, q_end, q_then, q_add, q_sub2, q_lt, q_le, q_gt, q_ge, q_eqI, q_neI, q_eqS, q_neS, q_trB, cfg_call, cfg_gl, parD, Option.map_some, List.map_cons, List.map_nil, List.cons_append, List.nil_append, List.getElem?_cons_zero, List.getElem?_cons_succ, List.set_cons_zero, List.set_cons_succ, List.length_cons, List.length_nil, List.replicate_succ, List.replicate_zero, Ev.bind_assoc]
  have hc : combOf (.int (m : Int)) = some (.comb m) := by
    show (if 0 ≤ (m : Int) ∧ (m : Int) ≤ 6 then some (Src.comb ((m : Int)).toNat) else none) = _
    rw [if_pos (by omega)]
    rfl
  have few : (prs m).length ≤ 15 := (pairs_fact hm).2.1
  refine W.bind (W_map1 (ps := prs m) (fm := pairD) (J := Gr M) pairD (W.mono (P := fun src X => src = .comb m ∧ X = M) ?_ ?_) (by rw [line]; omega) fun M1 q acc _ hj hacc => ?_) ?_
  · show W ((ev (cfg T G 0 n) (.var 0) [some (.int (m : Int)), none] M).bind fun x M => .ofO (combOf x) M) _
    simp -implicitDefEqProofs only [q_ok, q_bad, q_ofO, q_rt, q_nx, q_var, q_con, q_glo, q_tup, q_lst, q_op, q_neg, q_not, q_chain, q_and, q_or, q_ite, q_call, q_callk, q_blt, q_meth, q_sub, q_slice, q_no, q_yes, q_nil, q_cons, q_tt, q_val, q_bnot, q_band, q_bor, q_nm, q_tupT, q_subT, q_nilT, q_consT, q_asg, q_par, q_ex, q_ret, q_if, q_end, q_then, q_add, q_sub2, q_lt, q_le, q_gt, q_ge, q_eqI, q_neI, q_eqS, q_neS, q_trB, cfg_call, cfg_gl, parD, Option.map_some, List.map_cons, List.map_nil, List.cons_append, List.nil_append, List.getElem?_cons_zero, List.getElem?_cons_succ, List.set_cons_zero, List.set_cons_succ, List.length_cons, List.length_nil, List.replicate_succ, List.replicate_zero, hc]
    exact W.ok ⟨rfl, rfl⟩
  · rintro _ _ ⟨rfl, rfl⟩
    exact ⟨walks_comb, Gr.refl _⟩
  · rw [stepD_nm]
    simp -implicitDefEqProofs only [wipeD, q_ok, q_bad, q_ofO, q_rt, q_nx, q_var, q_con, q_glo, q_tup, q_lst, q_op, q_neg, q_not, q_chain, q_and, q_or, q_ite, q_call, q_callk, q_blt, q_meth, q_sub, q_slice, q_no, q_yes, q_nil, q_cons, q_tt, q_val, q_bnot, q_band, q_bor, q_nm, q_tupT, q_subT, q_nilT, q_consT, q_asg, q_par, q_ex, q_ret, q_if, q_end, q_then, q_add, q_sub2, q_lt, q_le, q_gt, q_ge, q_eqI, q_neI, q_eqS, q_neS, q_trB, cfg_call, cfg_gl, parD, Option.map_some, List.map_cons, List.map_nil, List.cons_append, List.nil_append, List.getElem?_cons_zero, List.getElem?_cons_succ, List.set_cons_zero, List.set_cons_succ, List.length_cons, List.length_nil, List.replicate_succ, List.replicate_zero, Ev.bind_assoc]
    exact ⟨_, _, push_ok hacc, hj, rfl⟩
  · rintro v M' ⟨M1, g1, rfl, rfl⟩
    exact W.ok ⟨_, rfl, g1.le, new_at, g1.push _⟩
theorem w_less (n : Nat) {nd : List Int} {q : Pr} (M : Mem) (hl : nd.length ≤ 6) : W (callN T G 0 (n + 1) 10 [tp nd, pairD q] M) fun v M' => v = tp (lessL nd q) ∧ Gr M M' := by
  refine W.call (fd := f10) rfl rfl ?_
  simp -implicitDefEqProofs only [f10, b10, q_ok, q_bad, q_ofO, q_rt, q_nx, q_var, q_con, q_glo, q_tup, q_lst, q_op, q_neg, q_not, q_chain, q_and, q_or, q_ite, q_call, q_callk, q_blt, q_meth, q_sub, q_slice, q_no, q_yes, q_nil, q_cons, q_tt, q_val, q_bnot, q_band, q_bor, q_nm, q_tupT, q_subT, q_nilT, q_consT, q_asg, q_par, q_ex, q_ret, q_if, q_end, q_then, q_add, q_sub2, q_lt, q_le, q_gt, q_ge, q_eqI, q_neI, q_eqS, q_neS, q_trB, cfg_call, cfg_gl, parD, Option.map_some, List.map_cons, List.map_nil, List.cons_append, List.nil_append, List.getElem?_cons_zero, List.getElem?_cons_succ, List.set_cons_zero, List.set_cons_succ, List.length_cons, List.length_nil, List.replicate_succ, List.replicate_zero, Ev.bind_assoc]
  refine W.bind (W_map1 (ps := nd.zipIdx) (fm := fun x => .tup [.int (x.2 : Nat), .int x.1]) (J := Gr M) (fun x => D.int (x.1 - (if has x.2 q = true then 1 else 0))) ?_ (by rw [List.length_zipIdx, line]; omega) fun M1 x acc _ hj hacc => ?_) ?_
  · have z2 : ∀ xs, enumSrc (.tup xs) = some (.enum (.tup xs)) := fun _ => rfl
    have s2 : ∀ xs M, srcOf M (.tup xs) = some (.tup xs) := fun _ _ => rfl
    simp -implicitDefEqProofs only [q_enum, q_seq, q_ok, q_bad, q_ofO, q_rt, q_nx, q_var, q_con, q_glo, q_tup, q_lst, q_op, q_neg, q_not, q_chain, q_and, q_or, q_ite, q_call, q_callk, q_blt, q_meth, q_sub, q_slice, q_no, q_yes, q_nil, q_cons, q_tt, q_val, q_bnot, q_band, q_bor, q_nm, q_tupT, q_subT, q_nilT, q_consT, q_asg, q_par, q_ex, q_ret, q_if, q_end, q_then, q_add, q_sub2, q_lt, q_le, q_gt, q_ge, q_eqI, q_neI, q_eqS, q_neS, q_trB, cfg_call, cfg_gl, parD, Option.map_some, List.map_cons, List.map_nil, List.cons_append, List.nil_append, List.getElem?_cons_zero, List.getElem?_cons_succ, List.set_cons_zero, List.set_cons_succ, List.length_cons, List.length_nil, List.replicate_succ, List.replicate_zero, Ev.bind_assoc, s2, z2]
    exact W.ok ⟨walks_enum walks_tup, Gr.refl _⟩
  · unfold stepD
    have ib : ∀ b M, blt .int [.bl b] M = .ok (.int (if b = true then 1 else 0)) M := fun b M => rfl
    simp -implicitDefEqProofs only [wipeD, q_ok, q_bad, q_ofO, q_rt, q_nx, q_var, q_con, q_glo, q_tup, q_lst, q_op, q_neg, q_not, q_chain, q_and, q_or, q_ite, q_call, q_callk, q_blt, q_meth, q_sub, q_slice, q_no, q_yes, q_nil, q_cons, q_tt, q_val, q_bnot, q_band, q_bor, q_nm, q_tupT, q_subT, q_nilT, q_consT, q_asg, q_par, q_ex, q_ret, q_if, q_end, q_then, q_add, q_sub2, q_lt, q_le, q_gt, q_ge, q_eqI, q_neI, q_eqS, q_neS, q_trB, cfg_call, cfg_gl, parD, Option.map_some, List.map_cons, List.map_nil, List.cons_append, List.nil_append, List.getElem?_cons_zero, List.getElem?_cons_succ, List.set_cons_zero, List.set_cons_succ, List.length_cons, List.length_nil, List.replicate_succ, List.replicate_zero, Ev.bind_assoc, isin_pair, ib]
    exact ⟨_, _, push_ok hacc, hj, rfl⟩
  · rintro v M' ⟨M1, g1, rfl, rfl⟩
    have e : (nd.zipIdx.map fun x => D.int (x.1 - (if has x.2 q = true then 1 else 0))) = (lessL nd q).map D.int := by
      rw [lessL, List.map_map]
      rfl
    rw [e]
    simp -implicitDefEqProofs only [q_ok, q_bad, q_ofO, q_rt, q_nx, q_var, q_con, q_glo, q_tup, q_lst, q_op, q_neg, q_not, q_chain, q_and, q_or, q_ite, q_call, q_callk, q_blt, q_meth, q_sub, q_slice, q_no, q_yes, q_nil, q_cons, q_tt, q_val, q_bnot, q_band, q_bor, q_nm, q_tupT, q_subT, q_nilT, q_consT, q_asg, q_par, q_ex, q_ret, q_if, q_end, q_then, q_add, q_sub2, q_lt, q_le, q_gt, q_ge, q_eqI, q_neI, q_eqS, q_neS, q_trB, cfg_call, cfg_gl, parD, Option.map_some, List.map_cons, List.map_nil, List.cons_append, List.nil_append, List.getElem?_cons_zero, List.getElem?_cons_succ, List.set_cons_zero, List.set_cons_succ, List.length_cons, List.length_nil, List.replicate_succ, List.replicate_zero, Ev.bind_assoc, tuple_new]
    exact W.ok ⟨rfl, g1.push _⟩
theorem w_can (n : Nat) {nd rs : List Int} (M : Mem) (hl : nd.length ≤ 6) (hr : nd.length = rs.length) : W (callN T G 0 (n + 1) 11 [tp nd, tp rs] M) fun v M' => v = .bl (canL nd rs) ∧ Gr M M' := by
  refine W.call (fd := f11) rfl rfl ?_
  simp -implicitDefEqProofs only [f11, b11, q_ok, q_bad, q_ofO, q_rt, q_nx, q_var, q_con, q_glo, q_tup, q_lst, q_op, q_neg, q_not, q_chain, q_and, q_or, q_ite, q_call, q_callk, q_blt, q_meth, q_sub, q_slice, q_no, q_yes, q_nil, q_cons, q_tt, q_val, q_bnot, q_band, q_bor, q_nm, q_tupT, q_subT, q_nilT, q_consT, q_asg, q_par, q_ex, q_ret, q_if, q_end, q_then, q_add, q_sub2, q_lt, q_le, q_gt, q_ge, q_eqI, q_neI, q_eqS, q_neS, q_trB, cfg_call, cfg_gl, parD, Option.map_some, List.map_cons, List.map_nil, List.cons_append, List.nil_append, List.getElem?_cons_zero, List.getElem?_cons_succ, List.set_cons_zero, List.set_cons_succ, List.length_cons, List.length_nil, List.replicate_succ, List.replicate_zero, Ev.bind_assoc]
  refine W.bind (W_map1 (ps := nd.zip rs) (fm := fun x => .tup [.int x.1, .int x.2]) (J := Gr M) (fun x => D.bl (decide (0 ≤ x.1) && decide (x.1 ≤ x.2))) ?_ (by rw [List.length_zip, line]; omega) fun M1 x acc _ hj hacc => ?_) ?_
  · have z2 : ∀ xs ys, zipSrc (.tup xs) (.tup ys) = some (.zip (.tup xs) (.tup ys)) := fun _ _ => rfl
    have s2 : ∀ xs M, srcOf M (.tup xs) = some (.tup xs) := fun _ _ => rfl
    simp -implicitDefEqProofs only [q_zip, q_seq, q_ok, q_bad, q_ofO, q_rt, q_nx, q_var, q_con, q_glo, q_tup, q_lst, q_op, q_neg, q_not, q_chain, q_and, q_or, q_ite, q_call, q_callk, q_blt, q_meth, q_sub, q_slice, q_no, q_yes, q_nil, q_cons, q_tt, q_val, q_bnot, q_band, q_bor, q_nm, q_tupT, q_subT, q_nilT, q_consT, q_asg, q_par, q_ex, q_ret, q_if, q_end, q_then, q_add, q_sub2, q_lt, q_le, q_gt, q_ge, q_eqI, q_neI, q_eqS, q_neS, q_trB, cfg_call, cfg_gl, parD, Option.map_some, List.map_cons, List.map_nil, List.cons_append, List.nil_append, List.getElem?_cons_zero, List.getElem?_cons_succ, List.set_cons_zero, List.set_cons_succ, List.length_cons, List.length_nil, List.replicate_succ, List.replicate_zero, Ev.bind_assoc, s2, z2]
    exact W.ok ⟨walks_zip walks_tup walks_tup hr, Gr.refl _⟩
  · unfold stepD
    by_cases h : 0 ≤ x.1
    · simp -implicitDefEqProofs only [wipeD, q_ok, q_bad, q_ofO, q_rt, q_nx, q_var, q_con, q_glo, q_tup, q_lst, q_op, q_neg, q_not, q_chain, q_and, q_or, q_ite, q_call, q_callk, q_blt, q_meth, q_sub, q_slice, q_no, q_yes, q_nil, q_cons, q_tt, q_val, q_bnot, q_band, q_bor, q_nm, q_tupT, q_subT, q_nilT, q_consT, q_asg, q_par, q_ex, q_ret, q_if, q_end, q_then, q_add, q_sub2, q_lt, q_le, q_gt, q_ge, q_eqI, q_neI, q_eqS, q_neS, q_trB, cfg_call, cfg_gl, parD, Option.map_some, List.map_cons, List.map_nil, List.cons_append, List.nil_append, List.getElem?_cons_zero, List.getElem?_cons_succ, List.set_cons_zero, List.set_cons_succ, List.length_cons, List.length_nil, List.replicate_succ, List.replicate_zero, Ev.bind_assoc, decide_eq_true h, Bool.true_and]
      exact ⟨_, _, push_ok hacc, hj, rfl⟩
    · simp -implicitDefEqProofs only [wipeD, q_ok, q_bad, q_ofO, q_rt, q_nx, q_var, q_con, q_glo, q_tup, q_lst, q_op, q_neg, q_not, q_chain, q_and, q_or, q_ite, q_call, q_callk, q_blt, q_meth, q_sub, q_slice, q_no, q_yes, q_nil, q_cons, q_tt, q_val, q_bnot, q_band, q_bor, q_nm, q_tupT, q_subT, q_nilT, q_consT, q_asg, q_par, q_ex, q_ret, q_if, q_end, q_then, q_add, q_sub2, q_lt, q_le, q_gt, q_ge, q_eqI, q_neI, q_eqS, q_neS, q_trB, cfg_call, cfg_gl, parD, Option.map_some, List.map_cons, List.map_nil, List.cons_append, List.nil_append, List.getElem?_cons_zero, List.getElem?_cons_succ, List.set_cons_zero, List.set_cons_succ, List.length_cons, List.length_nil, List.replicate_succ, List.replicate_zero, Ev.bind_assoc, decide_eq_false h, Bool.false_and]
      exact ⟨_, _, push_ok hacc, hj, rfl⟩
  · rintro v M' ⟨M1, g1, rfl, rfl⟩
    have e : ((nd.zip rs).map fun x => D.bl (decide (0 ≤ x.1) && decide (x.1 ≤ x.2))) = ((nd.zip rs).map fun x => (decide (0 ≤ x.1) && decide (x.1 ≤ x.2))).map D.bl := by
      rw [List.map_map]
      rfl
    have e2 : ((nd.zip rs).map fun x => (decide (0 ≤ x.1) && decide (x.1 ≤ x.2))).all id = canL nd rs := by
      rw [List.all_map]
      rfl
    rw [e]
    simp -implicitDefEqProofs only [q_ok, q_bad, q_ofO, q_rt, q_nx, q_var, q_con, q_glo, q_tup, q_lst, q_op, q_neg, q_not, q_chain, q_and, q_or, q_ite, q_call, q_callk, q_blt, q_meth, q_sub, q_slice, q_no, q_yes, q_nil, q_cons, q_tt, q_val, q_bnot, q_band, q_bor, q_nm, q_tupT, q_subT, q_nilT, q_consT, q_asg, q_par, q_ex, q_ret, q_if, q_end, q_then, q_add, q_sub2, q_lt, q_le, q_gt, q_ge, q_eqI, q_neI, q_eqS, q_neS, q_trB, cfg_call, cfg_gl, parD, Option.map_some, List.map_cons, List.map_nil, List.cons_append, List.nil_append, List.getElem?_cons_zero, List.getElem?_cons_succ, List.set_cons_zero, List.set_cons_succ, List.length_cons, List.length_nil, List.replicate_succ, List.replicate_zero, Ev.bind_assoc, all_new, e2]
    exact W.ok ⟨rfl, g1.push _⟩
theorem w_deg (n : Nat) {m : Nat} {v : D} {g : List Pr} (M : Mem) (hv : Row M v (g.map pairD)) (hm : m ≤ 6) (hg : g.length ≤ 100) : W (callN T G 0 (n + 1) 9 [.int (m : Int), v] M) fun r M' => r = tp (tiesL m g) ∧ Gr M M' := by
  refine W.call (fd := f9) rfl rfl ?_
  simp -implicitDefEqProofs only [f9, b9, q_ok, q_bad, q_ofO, q_rt, q_nx, q_var, q_con, q_glo, q_tup, q_lst, q_op, q_neg, q_not, q_chain, q_and, q_or, q_ite, q_call, q_callk, q_blt, q_meth, q_sub, q_slice, q_no, q_yes, q_nil, q_cons, q_tt, q_val, q_bnot, q_band, q_bor, q_nm, q_tupT, q_subT, q_nilT, q_consT, q_asg, q_par, q_ex, q_ret, q_if, q_end, q_then, q_add, q_sub2, q_lt, q_le, q_gt, q_ge, q_eqI, q_neI, q_eqS, q_neS, q_trB, cfg_call, cfg_gl, parD, Option.map_some, List.map_cons, List.map_nil, List.cons_append, List.nil_append, List.getElem?_cons_zero, List.getElem?_cons_succ, List.set_cons_zero, List.set_cons_succ, List.length_cons, List.length_nil, List.replicate_succ, List.replicate_zero, Ev.bind_assoc]
  refine W.bind (W_map1 (ps := List.range m) (fm := fun k : Nat => .int (0 + (k : Int))) (J := Gr M) (fun k => D.int (tieN g k : Int)) (W_irng (ds := [.int (m : Int)]) (lo := 0) (n := m) ?_ ?_ (Gr.refl M)) (by rw [List.length_range, line]; omega) fun M1 k acc hk hj hacc => ?_) ?_
  · simp -implicitDefEqProofs only [q_ok, q_bad, q_ofO, q_rt, q_nx, q_var, q_con, q_glo, q_tup, q_lst, q_op, q_neg, q_not, q_chain, q_and, q_or, q_ite, q_call, q_callk, q_blt, q_meth, q_sub, q_slice, q_no, q_yes, q_nil, q_cons, q_tt, q_val, q_bnot, q_band, q_bor, q_nm, q_tupT, q_subT, q_nilT, q_consT, q_asg, q_par, q_ex, q_ret, q_if, q_end, q_then, q_add, q_sub2, q_lt, q_le, q_gt, q_ge, q_eqI, q_neI, q_eqS, q_neS, q_trB, cfg_call, cfg_gl, parD, Option.map_some, List.map_cons, List.map_nil, List.cons_append, List.nil_append, List.getElem?_cons_zero, List.getElem?_cons_succ, List.set_cons_zero, List.set_cons_succ, List.length_cons, List.length_nil, List.replicate_succ, List.replicate_zero]
  · rw [rng1 (by omega)] <;> rfl
  · rw [stepD_nm]
    simp -implicitDefEqProofs only [wipeD, q_ok, q_bad, q_ofO, q_rt, q_nx, q_var, q_con, q_glo, q_tup, q_lst, q_op, q_neg, q_not, q_chain, q_and, q_or, q_ite, q_call, q_callk, q_blt, q_meth, q_sub, q_slice, q_no, q_yes, q_nil, q_cons, q_tt, q_val, q_bnot, q_band, q_bor, q_nm, q_tupT, q_subT, q_nilT, q_consT, q_asg, q_par, q_ex, q_ret, q_if, q_end, q_then, q_add, q_sub2, q_lt, q_le, q_gt, q_ge, q_eqI, q_neI, q_eqS, q_neS, q_trB, cfg_call, cfg_gl, parD, Option.map_some, List.map_cons, List.map_nil, List.cons_append, List.nil_append, List.getElem?_cons_zero, List.getElem?_cons_succ, List.set_cons_zero, List.set_cons_succ, List.length_cons, List.length_nil, List.replicate_succ, List.replicate_zero, Ev.bind_assoc]
    refine W.bind (W_filt (ps := g) (fm := pairD) (J := Gr M1) (has k) (fun _ => D.int 1) (W_iseq (Q := fun u M' => u = v ∧ M' = M1) ?_ ?_) (by rw [line]; omega) fun M2 q acc' hq hj2 hacc' => ?_) ?_
    · simp -implicitDefEqProofs only [q_ok, q_bad, q_ofO, q_rt, q_nx, q_var, q_con, q_glo, q_tup, q_lst, q_op, q_neg, q_not, q_chain, q_and, q_or, q_ite, q_call, q_callk, q_blt, q_meth, q_sub, q_slice, q_no, q_yes, q_nil, q_cons, q_tt, q_val, q_bnot, q_band, q_bor, q_nm, q_tupT, q_subT, q_nilT, q_consT, q_asg, q_par, q_ex, q_ret, q_if, q_end, q_then, q_add, q_sub2, q_lt, q_le, q_gt, q_ge, q_eqI, q_neI, q_eqS, q_neS, q_trB, cfg_call, cfg_gl, parD, Option.map_some, List.map_cons, List.map_nil, List.cons_append, List.nil_append, List.getElem?_cons_zero, List.getElem?_cons_succ, List.set_cons_zero, List.set_cons_succ, List.length_cons, List.length_nil, List.replicate_succ, List.replicate_zero]
      exact W.ok ⟨rfl, rfl⟩
    · rintro u M' ⟨rfl, rfl⟩
      refine ⟨Gr.refl _, ?_⟩
      rcases hv.gr hj with e | ⟨l, e, c⟩
      · exact .inl e
      · exact .inr ⟨l, e, fun M'' g => g.cell c⟩
    · rw [stepD_if]
      have e1 : (0 : Int) + (k : Int) = (k : Int) := Int.zero_add _
      simp -implicitDefEqProofs only [wipeD, q_ok, q_bad, q_ofO, q_rt, q_nx, q_var, q_con, q_glo, q_tup, q_lst, q_op, q_neg, q_not, q_chain, q_and, q_or, q_ite, q_call, q_callk, q_blt, q_meth, q_sub, q_slice, q_no, q_yes, q_nil, q_cons, q_tt, q_val, q_bnot, q_band, q_bor, q_nm, q_tupT, q_subT, q_nilT, q_consT, q_asg, q_par, q_ex, q_ret, q_if, q_end, q_then, q_add, q_sub2, q_lt, q_le, q_gt, q_ge, q_eqI, q_neI, q_eqS, q_neS, q_trB, cfg_call, cfg_gl, parD, Option.map_some, List.map_cons, List.map_nil, List.cons_append, List.nil_append, List.getElem?_cons_zero, List.getElem?_cons_succ, List.set_cons_zero, List.set_cons_succ, List.length_cons, List.length_nil, List.replicate_succ, List.replicate_zero, Ev.bind_assoc, e1, isin_pair]
      cases has k q with
      | true => exact ⟨_, _, push_ok hacc', hj2, rfl⟩
      | false => exact ⟨_, _, rfl, hj2, rfl⟩
    · rintro r M' ⟨M2, g2, rfl, rfl⟩
      simp -implicitDefEqProofs only [q_ok, q_bad, q_ofO, q_rt, q_nx, q_var, q_con, q_glo, q_tup, q_lst, q_op, q_neg, q_not, q_chain, q_and, q_or, q_ite, q_call, q_callk, q_blt, q_meth, q_sub, q_slice, q_no, q_yes, q_nil, q_cons, q_tt, q_val, q_bnot, q_band, q_bor, q_nm, q_tupT, q_subT, q_nilT, q_consT, q_asg, q_par, q_ex, q_ret, q_if, q_end, q_then, q_add, q_sub2, q_lt, q_le, q_gt, q_ge, q_eqI, q_neI, q_eqS, q_neS, q_trB, cfg_call, cfg_gl, parD, Option.map_some, List.map_cons, List.map_nil, List.cons_append, List.nil_append, List.getElem?_cons_zero, List.getElem?_cons_succ, List.set_cons_zero, List.set_cons_succ, List.length_cons, List.length_nil, List.replicate_succ, List.replicate_zero, Ev.bind_assoc, len_new, List.length_map]
      exact ⟨_, _, push_ok hacc, (hj.trans g2).push _, rfl⟩
  · rintro r M' ⟨M1, g1, rfl, rfl⟩
    simp -implicitDefEqProofs only [q_ok, q_bad, q_ofO, q_rt, q_nx, q_var, q_con, q_glo, q_tup, q_lst, q_op, q_neg, q_not, q_chain, q_and, q_or, q_ite, q_call, q_callk, q_blt, q_meth, q_sub, q_slice, q_no, q_yes, q_nil, q_cons, q_tt, q_val, q_bnot, q_band, q_bor, q_nm, q_tupT, q_subT, q_nilT, q_consT, q_asg, q_par, q_ex, q_ret, q_if, q_end, q_then, q_add, q_sub2, q_lt, q_le, q_gt, q_ge, q_eqI, q_neI, q_eqS, q_neS, q_trB, cfg_call, cfg_gl, parD, Option.map_some, List.map_cons, List.map_nil, List.cons_append, List.nil_append, List.getElem?_cons_zero, List.getElem?_cons_succ, List.set_cons_zero, List.set_cons_succ, List.length_cons, List.length_nil, List.replicate_succ, List.replicate_zero, Ev.bind_assoc, tuple_new]
    refine W.ok ⟨?_, g1.push _⟩
    rw [tiesL, tp, List.map_map]
    rfl
abbrev entD (n : Nat) (p : List Int) (g : List Pr) : D := .tup [webD g, tp (needL n p g)]
theorem disp_web {C : Cfg} {σ : Sl} {M : Mem} {g : List Pr} {q : Pr} {i j : Nat} (hi : σ[i]? = some (some (webD g))) (hj : σ[j]? = some (some (pairD q))) (hg : g.length ≤ 1000) :
    ev C (.disp true (.cons true (.var i) (.cons false (.var j) .nil))) σ M = .ok (webD (g ++ [q])) M := by
  show (evd C (.cons true (.var i) (.cons false (.var j) .nil)) σ M).bind (fun xs M => if xs.length ≤ line then (if true = true then .ok (.tup xs) M else new xs M) else .bad) = _
  have e : evd C (.cons true (.var i) (.cons false (.var j) .nil)) σ M = .ok (g.map pairD ++ [pairD q]) M := by
    show ((match σ[i]? with | some (some d) => R.ok d M | _ => .bad).bind fun x M => (R.ofO (seqOf M x) M).bind fun xs M => (((match σ[j]? with | some (some d) => R.ok d M | _ => .bad).bind fun y M => (R.ok [] M).bind fun ys M => .ok (y :: ys) M).bind fun ys M => .ok (xs ++ ys) M)) = _
    rw [hi, hj]
    rfl
  rw [e, q_ok, if_pos (by rw [List.length_append, List.length_map, List.length_singleton, line]; omega), if_pos rfl]
  show R.ok (D.tup (g.map pairD ++ [q].map pairD)) M = _
  rw [← List.map_append]
def extP (n : Nat) (p : List Int) (rest : List Pr) (q : Pr) (g : List Pr) : List (List Pr) := [g ++ [q], g].filter fun h => canL (needL n p h) (tiesL n rest)
theorem extP_len {n : Nat} {p : List Int} {rest : List Pr} {q : Pr} : ∀ gs : List (List Pr), (gs.flatMap (extP n p rest q)).length ≤ 2 * gs.length
  | [] => Nat.le_refl _
  | g :: gs => by
    rw [List.flatMap_cons, List.length_append, List.length_cons]
    have := extP_len (n := n) (p := p) (rest := rest) (q := q) gs
    have : (extP n p rest q g).length ≤ 2 := List.length_filter_le _ _
    omega
theorem extend_at {M : Mem} {l k : Nat} {xs ys : List D} (h : M[l]? = some (.lst xs)) (h2 : M[k]? = some (.lst ys)) (hl : xs.length + ys.length ≤ line) : mtd .extend (.loc l) [.loc k] M = .ok .non (M.set l (.lst (xs ++ ys))) := by
  show (match mutAt M l, mutAt M k with | some xs, some ys => if xs.length + ys.length ≤ line then R.ok D.non (M.set l (.lst (xs ++ ys))) else .bad | _, _ => .bad) = _
  rw [mutAt_lst h, mutAt_lst h2]
  dsimp only
  rw [if_pos hl]

def s12_0 : S := (.par [1, 2] (.cons (.call 8 (.cons (.blt .len (.cons (.var 0) .nil)) .nil)) (.cons (.lst (.cons (.tup (.cons (.tup .nil) (.cons (.var 0) .nil))) .nil)) .nil)))
def s12_1 : S := (.for_ (.tup (.cons (.nm 3) (.cons (.nm 4) .nil))) (.enum (.seq (.var 1))) (.cons (.asg (.tup (.cons (.nm 5) (.cons (.nm 6) .nil))) (.tup (.cons (.call 9 (.cons (.blt .len (.cons (.var 0) .nil)) (.cons (.slice (.var 1) (.yes (.op .add (.var 3) (.con (.int 1)))) .no .no) .nil))) (.cons (.lst .nil) .nil)))) (.cons (.for_ (.tup (.cons (.nm 7) (.cons (.nm 8) .nil))) (.seq (.var 2)) (.cons (.asg (.nm 9) (.lst (.cons (.tup (.cons (.disp true (.cons true (.var 7) (.cons false (.var 4) .nil))) (.cons (.call 10 (.cons (.var 8) (.cons (.var 4) .nil))) .nil))) (.cons (.tup (.cons (.var 7) (.cons (.var 8) .nil))) .nil)))) (.cons (.ex (.meth .extend (.var 6) (.cons (.comp (.var 10) (.nm 10) (.seq (.var 9)) (.val (.call 11 (.cons (.sub (.var 10) (.con (.int 1))) (.cons (.var 5) .nil)))) [10]) .nil))) .nil))) (.cons (.asg (.nm 2) (.var 6)) .nil))))
def s12_2 : S := (.ret (.blt .sorted (.cons (.comp (.var 7) (.tup (.cons (.nm 7) (.cons (.nm 8) .nil))) (.seq (.var 2)) (.not (.val (.blt .any (.cons (.var 8) .nil)))) [7, 8]) .nil)))
theorem b12_eq : b12 = (.cons s12_0 (.cons s12_1 (.cons s12_2 .nil))) := rfl
def inB66 : Ss := (.cons (.asg (.nm 9) (.lst (.cons (.tup (.cons (.disp true (.cons true (.var 7) (.cons false (.var 4) .nil))) (.cons (.call 10 (.cons (.var 8) (.cons (.var 4) .nil))) .nil))) (.cons (.tup (.cons (.var 7) (.cons (.var 8) .nil))) .nil))))
    (.cons (.ex (.meth .extend (.var 6) (.cons (.comp (.var 10) (.nm 10) (.seq (.var 9)) (.val (.call 11 (.cons (.sub (.var 10) (.con (.int 1))) (.cons (.var 5) .nil)))) [10]) .nil)))
    .nil))
theorem w_in (n : Nat) {p : List Int} {q : Pr} {rest : List Pr} {gs : List (List Pr)} {M0 : Mem} {lp lf : Nat} (hl : p.length ≤ 6) (hg : ∀ g ∈ gs, g.length ≤ 20) (hgs : gs.length ≤ 40000)
    (hlf : M0[lf]? = some (.lst (gs.map (entD p.length p)))) (x3 x7 x8 x9 x10 : Option D) :
    W (ex (cfg T G 0 (n + 1)) (.for_ (.tup (.cons (.nm 7) (.cons (.nm 8) .nil))) (.seq (.var 2)) inB66) [some (tp p), some (.loc lp), some (.loc lf), x3, some (pairD q), some (tp (tiesL p.length rest)), some (.loc M0.length), x7, x8, x9, x10] (M0 ++ [Cell.lst []])) fun fl' M' =>
      ∃ σ', fl' = .nx σ' ∧ ∃ y7 y8 y9 y10, σ' = [some (tp p), some (.loc lp), some (.loc lf), x3, some (pairD q), some (tp (tiesL p.length rest)), some (.loc M0.length), y7, y8, y9, y10] ∧ Gr M0 M' ∧ M'[M0.length]? = some (.lst ((gs.flatMap (extP p.length p rest q)).map (entD p.length p))) := by
  have few : ∀ i, ((gs.take i).flatMap (extP p.length p rest q)).length ≤ 80000 := fun i => by
    have := extP_len (n := p.length) (p := p) (rest := rest) (q := q) (gs.take i)
    rw [List.length_take] at this
    omega
  refine (W_for (ps := gs) (fm := entD p.length p) (J := fun M' => M'[lf]? = some (.lst (gs.map (entD p.length p)))) (fun i σ M' => i ≤ gs.length ∧ Gr M0 M' ∧ M'[M0.length]? = some (.lst (((gs.take i).flatMap (extP p.length p rest q)).map (entD p.length p))) ∧ ∃ y7 y8 y9 y10, σ = [some (tp p), some (.loc lp), some (.loc lf), x3, some (pairD q), some (tp (tiesL p.length rest)), some (.loc M0.length), y7, y8, y9, y10]) ?_ (fun _ _ _ h => h.2.1.cell hlf) ?_).mono ?_
  · have c0 : (M0 ++ [Cell.lst []])[lf]? = some (.lst (gs.map (entD p.length p))) := Gr.cell (Gr.push (Gr.refl M0) _) hlf
    simp -implicitDefEqProofs only [q_seq, q_ok, q_bad, q_ofO, q_rt, q_nx, q_var, q_con, q_glo, q_tup, q_lst, q_op, q_neg, q_not, q_chain, q_and, q_or, q_ite, q_call, q_callk, q_blt, q_meth, q_sub, q_slice, q_no, q_yes, q_nil, q_cons, q_tt, q_val, q_bnot, q_band, q_bor, q_nm, q_tupT, q_subT, q_nilT, q_consT, q_asg, q_par, q_ex, q_ret, q_if, q_end, q_then, q_add, q_sub2, q_lt, q_le, q_gt, q_ge, q_eqI, q_neI, q_eqS, q_neS, q_trB, cfg_call, cfg_gl, parD, Option.map_some, List.map_cons, List.map_nil, List.cons_append, List.nil_append, List.getElem?_cons_zero, List.getElem?_cons_succ, List.set_cons_zero, List.set_cons_succ, List.length_cons, List.length_nil, List.replicate_succ, List.replicate_zero, Ev.bind_assoc]
    rw [src_of c0, List.length_map]
    exact W.ok ⟨walks_lst fun M' h => h, Nat.zero_le _, Gr.push (Gr.refl M0) _, new_at, _, _, _, _, rfl⟩
  · rintro M1 i g σ hgi ⟨hi, gr, hc, y7, y8, y9, y10, rfl⟩
    have hi' : i < gs.length := getElem?_len hgi
    have hgl := hg g (List.mem_of_getElem? hgi)
    have tk : (gs.take (i + 1)).flatMap (extP p.length p rest q) = (gs.take i).flatMap (extP p.length p rest q) ++ extP p.length p rest q g := by
      rw [List.take_add_one, hgi, List.flatMap_append]
      simp
    simp -implicitDefEqProofs only [inB66, q_ok, q_bad, q_ofO, q_rt, q_nx, q_var, q_con, q_glo, q_tup, q_lst, q_op, q_neg, q_not, q_chain, q_and, q_or, q_ite, q_call, q_callk, q_blt, q_meth, q_sub, q_slice, q_no, q_yes, q_nil, q_cons, q_tt, q_val, q_bnot, q_band, q_bor, q_nm, q_tupT, q_subT, q_nilT, q_consT, q_asg, q_par, q_ex, q_ret, q_if, q_end, q_then, q_add, q_sub2, q_lt, q_le, q_gt, q_ge, q_eqI, q_neI, q_eqS, q_neS, q_trB, cfg_call, cfg_gl, parD, Option.map_some, List.map_cons, List.map_nil, List.cons_append, List.nil_append, List.getElem?_cons_zero, List.getElem?_cons_succ, List.set_cons_zero, List.set_cons_succ, List.length_cons, List.length_nil, List.replicate_succ, List.replicate_zero, Ev.bind_assoc]
    rw [disp_web (g := g) (q := q) rfl rfl (by omega), q_ok]
    try simp -implicitDefEqProofs only [q_ok, q_bad, q_ofO, q_rt, q_nx, q_var, q_con, q_glo, q_tup, q_lst, q_op, q_neg, q_not, q_chain, q_and, q_or, q_ite, q_call, q_callk, q_blt, q_meth, q_sub, q_slice, q_no, q_yes, q_nil, q_cons, q_tt, q_val, q_bnot, q_band, q_bor, q_nm, q_tupT, q_subT, q_nilT, q_consT, q_asg, q_par, q_ex, q_ret, q_if, q_end, q_then, q_add, q_sub2, q_lt, q_le, q_gt, q_ge, q_eqI, q_neI, q_eqS, q_neS, q_trB, cfg_call, cfg_gl, parD, Option.map_some, List.map_cons, List.map_nil, List.cons_append, List.nil_append, List.getElem?_cons_zero, List.getElem?_cons_succ, List.set_cons_zero, List.set_cons_succ, List.length_cons, List.length_nil, List.replicate_succ, List.replicate_zero, Ev.bind_assoc]
    refine W.bind (w_less n (nd := needL p.length p g) (q := q) M1 (by rw [needL_len]; exact hl)) ?_
    rintro v M2 ⟨rfl, g2⟩
    rw [less_need]
    simp -implicitDefEqProofs only [q_ok, q_bad, q_ofO, q_rt, q_nx, q_var, q_con, q_glo, q_tup, q_lst, q_op, q_neg, q_not, q_chain, q_and, q_or, q_ite, q_call, q_callk, q_blt, q_meth, q_sub, q_slice, q_no, q_yes, q_nil, q_cons, q_tt, q_val, q_bnot, q_band, q_bor, q_nm, q_tupT, q_subT, q_nilT, q_consT, q_asg, q_par, q_ex, q_ret, q_if, q_end, q_then, q_add, q_sub2, q_lt, q_le, q_gt, q_ge, q_eqI, q_neI, q_eqS, q_neS, q_trB, cfg_call, cfg_gl, parD, Option.map_some, List.map_cons, List.map_nil, List.cons_append, List.nil_append, List.getElem?_cons_zero, List.getElem?_cons_succ, List.set_cons_zero, List.set_cons_succ, List.length_cons, List.length_nil, List.replicate_succ, List.replicate_zero, Ev.bind_assoc, new_q]
    have gr2 := gr.trans g2
    have c2 := g2.cell hc
    refine W.bind (W_filt (ps := [g ++ [q], g]) (fm := entD p.length p) (J := Gr (M2 ++ [Cell.lst [entD p.length p (g ++ [q]), entD p.length p g]])) (fun h => canL (needL p.length p h) (tiesL p.length rest)) (entD p.length p) (W_iseq (Q := fun u X => u = .loc M2.length ∧ X = M2 ++ [Cell.lst [entD p.length p (g ++ [q]), entD p.length p g]]) ?_ ?_) (show 2 ≤ line by rw [line]; decide) fun M3 w acc hw hj hacc => ?_) ?_
    · simp -implicitDefEqProofs only [q_ok, q_bad, q_ofO, q_rt, q_nx, q_var, q_con, q_glo, q_tup, q_lst, q_op, q_neg, q_not, q_chain, q_and, q_or, q_ite, q_call, q_callk, q_blt, q_meth, q_sub, q_slice, q_no, q_yes, q_nil, q_cons, q_tt, q_val, q_bnot, q_band, q_bor, q_nm, q_tupT, q_subT, q_nilT, q_consT, q_asg, q_par, q_ex, q_ret, q_if, q_end, q_then, q_add, q_sub2, q_lt, q_le, q_gt, q_ge, q_eqI, q_neI, q_eqS, q_neS, q_trB, cfg_call, cfg_gl, parD, Option.map_some, List.map_cons, List.map_nil, List.cons_append, List.nil_append, List.getElem?_cons_zero, List.getElem?_cons_succ, List.set_cons_zero, List.set_cons_succ, List.length_cons, List.length_nil, List.replicate_succ, List.replicate_zero]
      exact W.ok ⟨rfl, rfl⟩
    · rintro u X ⟨rfl, rfl⟩
      exact ⟨Gr.refl _, .inr ⟨_, rfl, fun Y h => h.cell new_at⟩⟩
    · have i1 : itemAt M3 (entD p.length p w) (.int 1) = .ok (tp (needL p.length p w)) M3 := rfl
      rw [stepD_if]
      simp -implicitDefEqProofs only [wipeD, q_ok, q_bad, q_ofO, q_rt, q_nx, q_var, q_con, q_glo, q_tup, q_lst, q_op, q_neg, q_not, q_chain, q_and, q_or, q_ite, q_call, q_callk, q_blt, q_meth, q_sub, q_slice, q_no, q_yes, q_nil, q_cons, q_tt, q_val, q_bnot, q_band, q_bor, q_nm, q_tupT, q_subT, q_nilT, q_consT, q_asg, q_par, q_ex, q_ret, q_if, q_end, q_then, q_add, q_sub2, q_lt, q_le, q_gt, q_ge, q_eqI, q_neI, q_eqS, q_neS, q_trB, cfg_call, cfg_gl, parD, Option.map_some, List.map_cons, List.map_nil, List.cons_append, List.nil_append, List.getElem?_cons_zero, List.getElem?_cons_succ, List.set_cons_zero, List.set_cons_succ, List.length_cons, List.length_nil, List.replicate_succ, List.replicate_zero, Ev.bind_assoc, i1]
      refine W.bind (w_can n (nd := needL p.length p w) (rs := tiesL p.length rest) M3 (by rw [needL_len]; exact hl) (by rw [needL_len, tiesL_len])) ?_
      rintro v M4 ⟨rfl, g4⟩
      simp -implicitDefEqProofs only [q_ok, q_bad, q_ofO, q_rt, q_nx, q_var, q_con, q_glo, q_tup, q_lst, q_op, q_neg, q_not, q_chain, q_and, q_or, q_ite, q_call, q_callk, q_blt, q_meth, q_sub, q_slice, q_no, q_yes, q_nil, q_cons, q_tt, q_val, q_bnot, q_band, q_bor, q_nm, q_tupT, q_subT, q_nilT, q_consT, q_asg, q_par, q_ex, q_ret, q_if, q_end, q_then, q_add, q_sub2, q_lt, q_le, q_gt, q_ge, q_eqI, q_neI, q_eqS, q_neS, q_trB, cfg_call, cfg_gl, parD, Option.map_some, List.map_cons, List.map_nil, List.cons_append, List.nil_append, List.getElem?_cons_zero, List.getElem?_cons_succ, List.set_cons_zero, List.set_cons_succ, List.length_cons, List.length_nil, List.replicate_succ, List.replicate_zero, Ev.bind_assoc]
      cases canL (needL p.length p w) (tiesL p.length rest) with
      | true => exact ⟨_, _, push_ok hacc, hj.trans g4, rfl⟩
      | false => exact ⟨_, _, rfl, hj.trans g4, rfl⟩
    · rintro v X ⟨M3, g3, rfl, rfl⟩
      have gr3 : Gr M0 M3 := (gr2.push _).trans g3
      have c3 : (M3 ++ [Cell.lst ((extP p.length p rest q g).map (entD p.length p))])[M0.length]? = some (.lst (((gs.take i).flatMap (extP p.length p rest q)).map (entD p.length p))) := Gr.cell ((Gr.push (Gr.refl M2) _).trans (g3.push _)) c2
      have a1 := extend_at (k := M3.length) c3 (new_at (M := M3) (xs := (extP p.length p rest q g).map (entD p.length p))) (by
        have := few i
        have : (extP p.length p rest q g).length ≤ 2 := List.length_filter_le _ _
        rw [List.length_map, List.length_map, line]
        omega)
      have e5 : ([g ++ [q], g].filter fun h => canL (needL p.length p h) (tiesL p.length rest)) = extP p.length p rest q g := rfl
      rw [e5]
      simp -implicitDefEqProofs only [q_ok, q_bad, q_ofO, q_rt, q_nx, q_var, q_con, q_glo, q_tup, q_lst, q_op, q_neg, q_not, q_chain, q_and, q_or, q_ite, q_call, q_callk, q_blt, q_meth, q_sub, q_slice, q_no, q_yes, q_nil, q_cons, q_tt, q_val, q_bnot, q_band, q_bor, q_nm, q_tupT, q_subT, q_nilT, q_consT, q_asg, q_par, q_ex, q_ret, q_if, q_end, q_then, q_add, q_sub2, q_lt, q_le, q_gt, q_ge, q_eqI, q_neI, q_eqS, q_neS, q_trB, cfg_call, cfg_gl, parD, Option.map_some, List.map_cons, List.map_nil, List.cons_append, List.nil_append, List.getElem?_cons_zero, List.getElem?_cons_succ, List.set_cons_zero, List.set_cons_succ, List.length_cons, List.length_nil, List.replicate_succ, List.replicate_zero, Ev.bind_assoc, a1]
      refine W.ok ⟨_, .inl rfl, hi', (gr3.push _).setN (Nat.le_refl _), ?_, _, _, _, _, rfl⟩
      rw [List.getElem?_set_self (getElem?_len c3), tk, List.map_append]
  · rintro fl' M' ⟨σ', rfl, _, gr, hc, y7, y8, y9, y10, rfl⟩
    rw [List.take_length] at hc
    exact ⟨_, rfl, _, _, _, _, rfl, gr, hc⟩
theorem goT_small {n : Nat} {p : List Int} : ∀ i, (goT n p i).length ≤ 2 ^ i ∧ ∀ g ∈ goT n p i, g.length ≤ i
  | 0 => ⟨Nat.le_refl _, fun g hg => by rw [List.mem_singleton.mp hg]; exact Nat.le_refl _⟩
  | i + 1 => by
    obtain ⟨h1, h2⟩ := goT_small (n := n) (p := p) i
    have e : goT n p (i + 1) = (match (prs n)[i]? with | some q => stepP n p ((prs n).drop (i + 1)) (goT n p i) q | none => goT n p i) := rfl
    rw [e]
    cases (prs n)[i]? with
    | none => exact ⟨Nat.le_trans h1 (Nat.pow_le_pow_right (by decide) (Nat.le_succ i)), fun g hg => Nat.le_succ_of_le (h2 g hg)⟩
    | some q =>
      refine ⟨?_, fun g hg => ?_⟩
      · have := extP_len (n := n) (p := p) (rest := (prs n).drop (i + 1)) (q := q) (goT n p i)
        have e2 : stepP n p ((prs n).drop (i + 1)) (goT n p i) q = (goT n p i).flatMap (extP n p ((prs n).drop (i + 1)) q) := rfl
        show (stepP n p ((prs n).drop (i + 1)) (goT n p i) q).length ≤ _
        rw [e2, Nat.pow_succ]
        omega
      · rcases (mem_stepP.mp hg).1 with h | ⟨k, hk, e3⟩
        · exact Nat.le_succ_of_le (h2 g h)
        · rw [e3, List.length_append, List.length_singleton]
          exact Nat.succ_le_succ (h2 k hk)
theorem slice_atD {M : Mem} {l : Nat} {xs : List D} {k : Nat} (h : M[l]? = some (.lst xs)) : sliceD M (.loc l) (some (k : Int)) none none = .ok (.loc M.length) (M ++ [.lst (xs.drop k)]) := by
  rw [slice_loc (lstAt_lst h), cut_drop]
theorem w_out (n : Nat) {p : List Int} {M : Mem} {lp lf : Nat} (hl : p.length ≤ 6) (hlp : M[lp]? = some (.lst ((prs p.length).map pairD))) (hlf : M[lf]? = some (.lst ([[]].map (entD p.length p)))) (x3 x4 x5 x6 x7 x8 x9 x10 : Option D) :
    W (ex (cfg T G 0 (n + 1)) s12_1 [some (tp p), some (.loc lp), some (.loc lf), x3, x4, x5, x6, x7, x8, x9, x10] M) fun fl' M' =>
      ∃ σ', fl' = .nx σ' ∧ ∃ lf' y3 y4 y5 y6 y7 y8 y9 y10, σ' = [some (tp p), some (.loc lp), some (.loc lf'), y3, y4, y5, y6, y7, y8, y9, y10] ∧ Gr M M' ∧ M'[lf']? = some (.lst ((goT p.length p (prs p.length).length).map (entD p.length p))) := by
  have few : (prs p.length).length ≤ 15 := (pairs_fact hl).2.1
  refine (W_for (ps := (prs p.length).zipIdx) (fm := fun x => .tup [.int (x.2 : Nat), pairD x.1]) (J := fun M' => M'[lp]? = some (.lst ((prs p.length).map pairD))) (fun i σ M' => Gr M M' ∧ ∃ lf' y3 y4 y5 y6 y7 y8 y9 y10, σ = [some (tp p), some (.loc lp), some (.loc lf'), y3, y4, y5, y6, y7, y8, y9, y10] ∧ M'[lf']? = some (.lst ((goT p.length p i).map (entD p.length p)))) ?_ (fun _ _ _ h => h.1.cell hlp) ?_).mono ?_
  · have z2 : ∀ l m, enumSrc (.lst l m) = some (.enum (.lst l m)) := fun _ _ => rfl
    simp -implicitDefEqProofs only [q_enum, q_seq, q_ok, q_bad, q_ofO, q_rt, q_nx, q_var, q_con, q_glo, q_tup, q_lst, q_op, q_neg, q_not, q_chain, q_and, q_or, q_ite, q_call, q_callk, q_blt, q_meth, q_sub, q_slice, q_no, q_yes, q_nil, q_cons, q_tt, q_val, q_bnot, q_band, q_bor, q_nm, q_tupT, q_subT, q_nilT, q_consT, q_asg, q_par, q_ex, q_ret, q_if, q_end, q_then, q_add, q_sub2, q_lt, q_le, q_gt, q_ge, q_eqI, q_neI, q_eqS, q_neS, q_trB, cfg_call, cfg_gl, parD, Option.map_some, List.map_cons, List.map_nil, List.cons_append, List.nil_append, List.getElem?_cons_zero, List.getElem?_cons_succ, List.set_cons_zero, List.set_cons_succ, List.length_cons, List.length_nil, List.replicate_succ, List.replicate_zero, Ev.bind_assoc]
    rw [src_of hlp, List.length_map]
    simp -implicitDefEqProofs only [q_ok, q_bad, q_ofO, q_rt, q_nx, q_var, q_con, q_glo, q_tup, q_lst, q_op, q_neg, q_not, q_chain, q_and, q_or, q_ite, q_call, q_callk, q_blt, q_meth, q_sub, q_slice, q_no, q_yes, q_nil, q_cons, q_tt, q_val, q_bnot, q_band, q_bor, q_nm, q_tupT, q_subT, q_nilT, q_consT, q_asg, q_par, q_ex, q_ret, q_if, q_end, q_then, q_add, q_sub2, q_lt, q_le, q_gt, q_ge, q_eqI, q_neI, q_eqS, q_neS, q_trB, cfg_call, cfg_gl, parD, Option.map_some, List.map_cons, List.map_nil, List.cons_append, List.nil_append, List.getElem?_cons_zero, List.getElem?_cons_succ, List.set_cons_zero, List.set_cons_succ, List.length_cons, List.length_nil, List.replicate_succ, List.replicate_zero, z2]
    exact W.ok ⟨walks_enum (walks_lst fun M' h => h), Gr.refl _, _, _, _, _, _, _, _, _, _, rfl, hlf⟩
  · rintro M1 i ⟨q, j⟩ σ hq ⟨gr, lf', y3, y4, y5, y6, y7, y8, y9, y10, rfl, c⟩
    have hqi : (prs p.length)[i]? = some q ∧ j = i := by
      rw [List.getElem?_zipIdx] at hq
      cases e : (prs p.length)[i]? with
      | none => rw [e] at hq; cases hq
      | some a =>
        rw [e] at hq
        cases hq
        exact ⟨rfl, by omega⟩
    obtain ⟨hqi, rfl⟩ := hqi
    have hi : j < (prs p.length).length := getElem?_len hqi
    obtain ⟨fs, fm⟩ := goT_small (n := p.length) (p := p) j
    have f2 : 2 ^ j ≤ 2 ^ 15 := Nat.pow_le_pow_right (by decide) (by omega)
    have e1 : (j : Int) + 1 = ((j + 1 : Nat) : Int) := by omega
    have hlp1 := gr.cell hlp
    have sl := slice_atD (k := j + 1) hlp1
    rw [← List.map_drop] at sl
    simp -implicitDefEqProofs only [q_ok, q_bad, q_ofO, q_rt, q_nx, q_var, q_con, q_glo, q_tup, q_lst, q_op, q_neg, q_not, q_chain, q_and, q_or, q_ite, q_call, q_callk, q_blt, q_meth, q_sub, q_slice, q_no, q_yes, q_nil, q_cons, q_tt, q_val, q_bnot, q_band, q_bor, q_nm, q_tupT, q_subT, q_nilT, q_consT, q_asg, q_par, q_ex, q_ret, q_if, q_end, q_then, q_add, q_sub2, q_lt, q_le, q_gt, q_ge, q_eqI, q_neI, q_eqS, q_neS, q_trB, cfg_call, cfg_gl, parD, Option.map_some, List.map_cons, List.map_nil, List.cons_append, List.nil_append, List.getElem?_cons_zero, List.getElem?_cons_succ, List.set_cons_zero, List.set_cons_succ, List.length_cons, List.length_nil, List.replicate_succ, List.replicate_zero, Ev.bind_assoc, len_tup, List.length_map, e1, sl]
    refine W.bind (w_deg n (m := p.length) (g := (prs p.length).drop (j + 1)) (M1 ++ [Cell.lst (((prs p.length).drop (j + 1)).map pairD)]) (.inr ⟨_, rfl, new_at⟩) hl (by rw [List.length_drop]; omega)) ?_
    rintro v M2 ⟨rfl, g2⟩
    have gr2 : Gr M M2 := (gr.push _).trans g2
    have c2 : M2[lf']? = some (.lst ((goT p.length p j).map (entD p.length p))) := g2.cell (Gr.cell (Gr.push (Gr.refl M1) _) c)
    simp -implicitDefEqProofs only [q_ok, q_bad, q_ofO, q_rt, q_nx, q_var, q_con, q_glo, q_tup, q_lst, q_op, q_neg, q_not, q_chain, q_and, q_or, q_ite, q_call, q_callk, q_blt, q_meth, q_sub, q_slice, q_no, q_yes, q_nil, q_cons, q_tt, q_val, q_bnot, q_band, q_bor, q_nm, q_tupT, q_subT, q_nilT, q_consT, q_asg, q_par, q_ex, q_ret, q_if, q_end, q_then, q_add, q_sub2, q_lt, q_le, q_gt, q_ge, q_eqI, q_neI, q_eqS, q_neS, q_trB, cfg_call, cfg_gl, parD, Option.map_some, List.map_cons, List.map_nil, List.cons_append, List.nil_append, List.getElem?_cons_zero, List.getElem?_cons_succ, List.set_cons_zero, List.set_cons_succ, List.length_cons, List.length_nil, List.replicate_succ, List.replicate_zero, Ev.bind_assoc, new_q]
    refine W.bind (w_in n (p := p) (q := q) (rest := (prs p.length).drop (j + 1)) (gs := goT p.length p j) (M0 := M2) (lp := lp) (lf := lf') hl (fun g hg => by have := fm g hg; omega) (by omega) c2 _ _ _ _ _) ?_
    rintro fl' M3 ⟨σ', rfl, z7, z8, z9, z10, rfl, g3, c3⟩
    simp -implicitDefEqProofs only [q_ok, q_bad, q_ofO, q_rt, q_nx, q_var, q_con, q_glo, q_tup, q_lst, q_op, q_neg, q_not, q_chain, q_and, q_or, q_ite, q_call, q_callk, q_blt, q_meth, q_sub, q_slice, q_no, q_yes, q_nil, q_cons, q_tt, q_val, q_bnot, q_band, q_bor, q_nm, q_tupT, q_subT, q_nilT, q_consT, q_asg, q_par, q_ex, q_ret, q_if, q_end, q_then, q_add, q_sub2, q_lt, q_le, q_gt, q_ge, q_eqI, q_neI, q_eqS, q_neS, q_trB, cfg_call, cfg_gl, parD, Option.map_some, List.map_cons, List.map_nil, List.cons_append, List.nil_append, List.getElem?_cons_zero, List.getElem?_cons_succ, List.set_cons_zero, List.set_cons_succ, List.length_cons, List.length_nil, List.replicate_succ, List.replicate_zero, Ev.bind_assoc]
    refine W.ok ⟨_, .inl rfl, gr2.trans g3, _, _, _, _, _, _, _, _, _, rfl, ?_⟩
    have e : goT p.length p (j + 1) = (goT p.length p j).flatMap (extP p.length p ((prs p.length).drop (j + 1)) q) := by
      show (match (prs p.length)[j]? with | some q => stepP p.length p ((prs p.length).drop (j + 1)) (goT p.length p j) q | none => goT p.length p j) = _
      rw [hqi]
      rfl
    rw [e]
    exact c3
  · rintro fl' M' ⟨σ', rfl, gr, lf', y3, y4, y5, y6, y7, y8, y9, y10, rfl, c⟩
    rw [List.length_zipIdx] at c
    exact ⟨_, rfl, _, _, _, _, _, _, _, _, _, rfl, gr, c⟩
theorem w_websby (n : Nat) {p : List Int} (M : Mem) (hl : p.length ≤ 6) : W (callN T G 0 (n + 2) 12 [tp p] M) fun v M' => ∃ l, v = .loc l ∧ M'[l]? = some (.lst ((sortW (websP p.length p)).map webD)) ∧ Gr M M' := by
  refine W.call (fd := f12) rfl rfl ?_
  rw [show f12.body = b12 from rfl, b12_eq]
  show W ((exs (cfg T G 0 (n + 1)) _ [some (tp p), none, none, none, none, none, none, none, none, none, none] M).bind fin) _
  refine W_seq (P := fun σ' M' => ∃ lp lf, σ' = [some (tp p), some (.loc lp), some (.loc lf), none, none, none, none, none, none, none, none] ∧ Gr M M' ∧ M'[lp]? = some (.lst ((prs p.length).map pairD)) ∧ M'[lf]? = some (.lst ([[]].map (entD p.length p)))) ?_ ?_
  · simp -implicitDefEqProofs only [s12_0, q_ok, q_bad, q_ofO, q_rt, q_nx, q_var, q_con, q_glo, q_tup, q_lst, q_op, q_neg, q_not, q_chain, q_and, q_or, q_ite, q_call, q_callk, q_blt, q_meth, q_sub, q_slice, q_no, q_yes, q_nil, q_cons, q_tt, q_val, q_bnot, q_band, q_bor, q_nm, q_tupT, q_subT, q_nilT, q_consT, q_asg, q_par, q_ex, q_ret, q_if, q_end, q_then, q_add, q_sub2, q_lt, q_le, q_gt, q_ge, q_eqI, q_neI, q_eqS, q_neS, q_trB, cfg_call, cfg_gl, parD, Option.map_some, List.map_cons, List.map_nil, List.cons_append, List.nil_append, List.getElem?_cons_zero, List.getElem?_cons_succ, List.set_cons_zero, List.set_cons_succ, List.length_cons, List.length_nil, List.replicate_succ, List.replicate_zero, Ev.bind_assoc, len_tup, List.length_map]
    refine W.bind (w_allp n (m := p.length) M hl) ?_
    rintro v M1 ⟨l, rfl, _, hl1, g1⟩
    simp -implicitDefEqProofs only [q_ok, q_bad, q_ofO, q_rt, q_nx, q_var, q_con, q_glo, q_tup, q_lst, q_op, q_neg, q_not, q_chain, q_and, q_or, q_ite, q_call, q_callk, q_blt, q_meth, q_sub, q_slice, q_no, q_yes, q_nil, q_cons, q_tt, q_val, q_bnot, q_band, q_bor, q_nm, q_tupT, q_subT, q_nilT, q_consT, q_asg, q_par, q_ex, q_ret, q_if, q_end, q_then, q_add, q_sub2, q_lt, q_le, q_gt, q_ge, q_eqI, q_neI, q_eqS, q_neS, q_trB, cfg_call, cfg_gl, parD, Option.map_some, List.map_cons, List.map_nil, List.cons_append, List.nil_append, List.getElem?_cons_zero, List.getElem?_cons_succ, List.set_cons_zero, List.set_cons_succ, List.length_cons, List.length_nil, List.replicate_succ, List.replicate_zero, Ev.bind_assoc, new_q]
    have e : [D.tup [.tup [], tp p]] = [[]].map (entD p.length p) := by
      show _ = [D.tup [webD [], tp (needL p.length p [])]]
      rw [needL_nil]
      rfl
    refine W.ok ⟨_, rfl, l, M1.length, rfl, g1.push _, Gr.cell (Gr.push (Gr.refl M1) _) hl1, ?_⟩
    rw [new_at, e]
    rfl
  rintro _ M1 ⟨lp, lf, rfl, g1, hlp, hlf⟩
  refine W_seq (w_out n hl hlp hlf _ _ _ _ _ _ _ _) ?_
  rintro _ M2 ⟨lf', y3, y4, y5, y6, y7, y8, y9, y10, rfl, g2, c2⟩
  rw [goT_all] at c2
  have few : (prs p.length).length ≤ 15 := (pairs_fact hl).2.1
  have small : (goP p.length p (prs p.length) [[]]).length ≤ 2 ^ 15 := by
    rw [← goT_all]
    exact Nat.le_trans (goT_small _).1 (Nat.pow_le_pow_right (by decide) few)
  simp -implicitDefEqProofs only [s12_2, q_ok, q_bad, q_ofO, q_rt, q_nx, q_var, q_con, q_glo, q_tup, q_lst, q_op, q_neg, q_not, q_chain, q_and, q_or, q_ite, q_call, q_callk, q_blt, q_meth, q_sub, q_slice, q_no, q_yes, q_nil, q_cons, q_tt, q_val, q_bnot, q_band, q_bor, q_nm, q_tupT, q_subT, q_nilT, q_consT, q_asg, q_par, q_ex, q_ret, q_if, q_end, q_then, q_add, q_sub2, q_lt, q_le, q_gt, q_ge, q_eqI, q_neI, q_eqS, q_neS, q_trB, cfg_call, cfg_gl, parD, Option.map_some, List.map_cons, List.map_nil, List.cons_append, List.nil_append, List.getElem?_cons_zero, List.getElem?_cons_succ, List.set_cons_zero, List.set_cons_succ, List.length_cons, List.length_nil, List.replicate_succ, List.replicate_zero, Ev.bind_assoc]
  refine W.bind (W_filt (ps := goP p.length p (prs p.length) [[]]) (fm := entD p.length p) (J := Gr M2) (fun g => !((needL p.length p g).any fun i => i != 0)) webD (W_iseq (Q := fun u X => u = .loc lf' ∧ X = M2) ?_ ?_) (by rw [line]; omega) fun M3 w acc hw hj hacc => ?_) ?_
  · simp -implicitDefEqProofs only [q_ok, q_bad, q_ofO, q_rt, q_nx, q_var, q_con, q_glo, q_tup, q_lst, q_op, q_neg, q_not, q_chain, q_and, q_or, q_ite, q_call, q_callk, q_blt, q_meth, q_sub, q_slice, q_no, q_yes, q_nil, q_cons, q_tt, q_val, q_bnot, q_band, q_bor, q_nm, q_tupT, q_subT, q_nilT, q_consT, q_asg, q_par, q_ex, q_ret, q_if, q_end, q_then, q_add, q_sub2, q_lt, q_le, q_gt, q_ge, q_eqI, q_neI, q_eqS, q_neS, q_trB, cfg_call, cfg_gl, parD, Option.map_some, List.map_cons, List.map_nil, List.cons_append, List.nil_append, List.getElem?_cons_zero, List.getElem?_cons_succ, List.set_cons_zero, List.set_cons_succ, List.length_cons, List.length_nil, List.replicate_succ, List.replicate_zero]
    exact W.ok ⟨rfl, rfl⟩
  · rintro u X ⟨rfl, rfl⟩
    exact ⟨Gr.refl _, .inr ⟨_, rfl, fun Y h => h.cell c2⟩⟩
  · have an : ∀ (xs : List Int) M, blt .any [tp xs] M = .ok (.bl (xs.any fun i => i != 0)) M := fun xs M => by
      show R.ofO ((intsOf (xs.map D.int)).map fun ns => D.bl (ns.any fun i => i != 0)) M = _
      rw [intsOf_map] <;> rfl
    unfold stepD
    simp -implicitDefEqProofs only [wipeD, q_ok, q_bad, q_ofO, q_rt, q_nx, q_var, q_con, q_glo, q_tup, q_lst, q_op, q_neg, q_not, q_chain, q_and, q_or, q_ite, q_call, q_callk, q_blt, q_meth, q_sub, q_slice, q_no, q_yes, q_nil, q_cons, q_tt, q_val, q_bnot, q_band, q_bor, q_nm, q_tupT, q_subT, q_nilT, q_consT, q_asg, q_par, q_ex, q_ret, q_if, q_end, q_then, q_add, q_sub2, q_lt, q_le, q_gt, q_ge, q_eqI, q_neI, q_eqS, q_neS, q_trB, cfg_call, cfg_gl, parD, Option.map_some, List.map_cons, List.map_nil, List.cons_append, List.nil_append, List.getElem?_cons_zero, List.getElem?_cons_succ, List.set_cons_zero, List.set_cons_succ, List.length_cons, List.length_nil, List.replicate_succ, List.replicate_zero, Ev.bind_assoc, an]
    cases ((needL p.length p w).any fun i => i != 0) with
    | true => exact ⟨_, _, rfl, hj, rfl⟩
    | false => exact ⟨_, _, push_ok hacc, hj, rfl⟩
  · rintro v X ⟨M3, g3, rfl, rfl⟩
    have es := sorted_webs (M := M3 ++ [.lst ((websP p.length p).map webD)]) (l := M3.length) (L := websP p.length p) new_at (websP_one hl rfl)
    have e2 : ((goP p.length p (prs p.length) [[]]).filter fun g => !((needL p.length p g).any fun i => i != 0)) = websP p.length p := rfl
    rw [e2]
    simp -implicitDefEqProofs only [q_ok, q_bad, q_ofO, q_rt, q_nx, q_var, q_con, q_glo, q_tup, q_lst, q_op, q_neg, q_not, q_chain, q_and, q_or, q_ite, q_call, q_callk, q_blt, q_meth, q_sub, q_slice, q_no, q_yes, q_nil, q_cons, q_tt, q_val, q_bnot, q_band, q_bor, q_nm, q_tupT, q_subT, q_nilT, q_consT, q_asg, q_par, q_ex, q_ret, q_if, q_end, q_then, q_add, q_sub2, q_lt, q_le, q_gt, q_ge, q_eqI, q_neI, q_eqS, q_neS, q_trB, cfg_call, cfg_gl, parD, Option.map_some, List.map_cons, List.map_nil, List.cons_append, List.nil_append, List.getElem?_cons_zero, List.getElem?_cons_succ, List.set_cons_zero, List.set_cons_succ, List.length_cons, List.length_nil, List.replicate_succ, List.replicate_zero, Ev.bind_assoc, es]
    exact W.ok ⟨_, rfl, new_at, ((g1.trans g2).trans (g3.push _)).push _⟩
end K71
namespace K71
open PySem Ev
/-! ### what is told of all webs -/
theorem rsz_web : ∀ {g : List Pr}, (∀ q ∈ g, q.1 < 100 ∧ q.2 < 100) → rszs (g.map pairP) = some (3 + 3851 * g.length)
  | [], _ => rfl
  | q :: g, h => by
    have ih := rsz_web fun r hr => h r (List.mem_cons_of_mem _ hr)
    obtain ⟨h1, h2⟩ := h q List.mem_cons_self
    have l1 : rsz (.int (q.1 : Int)) = some 1921 := by
      show (if ((q.1 : Int)).natAbs.log2 < 1920 then some 1921 else none) = _
      rw [if_pos]
      have := Nat.log2_le_self q.1
      show (q.1).log2 < 1920
      omega
    have l2 : rsz (.int (q.2 : Int)) = some 1921 := by
      show (if ((q.2 : Int)).natAbs.log2 < 1920 then some 1921 else none) = _
      rw [if_pos]
      have := Nat.log2_le_self q.2
      show (q.2).log2 < 1920
      omega
    have e : rsz (pairP q) = some 3849 := by
      show rszs [.int (q.1 : Int), .int (q.2 : Int)] = _
      simp only [rszs, l1, l2]
    rw [List.map_cons]
    show (match rsz (pairP q), rszs (g.map pairP) with | some a, some b => some (a + b + 2) | _, _ => none) = _
    rw [e, ih]
    show some _ = some _
    congr 1
    rw [List.length_cons]
    omega
theorem repr2 {M : Mem} {l : Nat} {d : D} {x : PyData} {k : Nat} (h : M[l]? = some (.lst [d, d])) (hd : toPy 29 M d = some x) (hz : rsz x = some k) (hk : k ≤ 50000) : blt .repr [.loc l] M = .ok (.str (PyData.list [x, x]).shown) M := by
  have e1 : toPy 30 M (.loc l) = some (.list [x, x]) := by
    show (match lstAt M l with | some xs => (optAll (xs.map (toPy 29 M))).map PyData.list | none => none) = _
    rw [lstAt_lst h]
    show (optAll [toPy 29 M d, toPy 29 M d]).map PyData.list = _
    rw [hd] <;> rfl
  have e2 : rsz (.list [x, x]) = some (k + (k + 3 + 2) + 2) := by
    show rszs [x, x] = _
    simp only [rszs, hz]
  show R.ofO (reprD M (.loc l)) M = _
  unfold reprD
  rw [e1]
  dsimp only
  rw [e2]
  dsimp only
  rw [if_pos (by rw [line]; omega)]
  rfl
theorem eq_webs {a : List Pr} {M : Mem} : op2 .eq (webD a) (webD a) M = .ok (.bl true) M := by
  show R.ofO ((pyEqD M (webD a) (webD a)).map D.bl) M = _
  unfold pyEqD
  rw [toPy_web 27 a]
  show R.ok (D.bl (PyData.eqv (webP a) (webP a))) M = _
  rw [PySem.W.eqv_refl_alike _ (alike_web a a)]
theorem wbar_rev (p : List Int) : wbar p.reverse = wbar p := by
  have e : fl p.reverse = fl p := sortR_is ((fl_perm p.reverse).trans (List.reverse_perm p)) (List.pairwise_reverse.mpr (sortI_sorted p.reverse))
  rw [← wbar_fl, e, wbar_fl]
theorem Pz.rev {p : List Int} (h : Pz p) : Pz p.reverse := ⟨by rw [List.length_reverse]; exact h.one, by rw [List.length_reverse]; exact h.six, fun x hx => h.rng x (List.mem_reverse.mp hx)⟩
theorem rev_tp {p : List Int} {M : Mem} : sliceD M (tp p) none none (some (-1)) = .ok (tp p.reverse) M := by
  show R.ok (D.tup (p.map D.int).reverse) M = _
  rw [← List.map_reverse]
theorem repr3 {M : Mem} {l : Nat} {d : D} {x : PyData} {k : Nat} (h : M[l]? = some (.lst [d, d, d])) (hd : toPy 29 M d = some x) (hz : rsz x = some k) (hk : k ≤ 5000) : blt .repr [.loc l] M = .ok (.str (PyData.list [x, x, x]).shown) M := by
  have e1 : toPy 30 M (.loc l) = some (.list [x, x, x]) := by
    show (match lstAt M l with | some xs => (optAll (xs.map (toPy 29 M))).map PyData.list | none => none) = _
    rw [lstAt_lst h]
    show (optAll [toPy 29 M d, toPy 29 M d, toPy 29 M d]).map PyData.list = _
    rw [hd] <;> rfl
  have e2 : rsz (.list [x, x, x]) = some (k + (k + (k + 3 + 2) + 2) + 2) := by
    show rszs [x, x, x] = _
    simp only [rszs, hz]
  show R.ofO (reprD M (.loc l)) M = _
  unfold reprD
  rw [e1]
  dsimp only
  rw [e2]
  dsimp only
  rw [if_pos (by rw [line]; omega)]
  rfl
theorem mul3 {M : Mem} {l : Nat} {d : D} (h : M[l]? = some (.lst [d])) : op2 .mul (.loc l) (.int 3) M = .ok (.loc M.length) (M ++ [.lst [d, d, d]]) := by
  show (match mutAt M l with
    | some a => if -(2 ^ 63) ≤ (3 : Int) ∧ (3 : Int) < 2 ^ 63 ∧ a.length * (3 : Int).toNat ≤ line then new (List.replicate (3 : Int).toNat a).flatten M else .bad
    | none => .bad) = _
  rw [mutAt_lst h]
  rfl
theorem ne_bl {x y : Bool} {M : Mem} : op2 .ne (.bl x) (.bl y) M = .ok (.bl (x != y)) M := by cases x <;> cases y <;> rfl
def s14_0 : S := (.asg (.nm 1) (.call 12 (.cons (.var 0) .nil)))
def s14_1 : S := (.ret (.blt .tuple (.cons (.comp (.var 2) (.nm 2) (.seq (.call 8 (.cons (.blt .len (.cons (.var 0) .nil)) .nil))) (.and (.val (.op .ne (.var 1) (.lst .nil))) (.val (.blt .all (.cons (.comp (.op .isin (.var 2) (.var 3)) (.nm 3) (.seq (.var 1)) .tt [3]) .nil)))) [2]) .nil)))
theorem b14_eq : b14 = (.cons s14_0 (.cons s14_1 .nil)) := rfl
def s15_0 : S := (.asg (.nm 1) (.call 12 (.cons (.var 0) .nil)))
def s15_1 : S := (.ret (.blt .tuple (.cons (.comp (.var 2) (.nm 2) (.seq (.call 8 (.cons (.blt .len (.cons (.var 0) .nil)) .nil))) (.not (.val (.blt .any (.cons (.comp (.op .isin (.var 2) (.var 3)) (.nm 3) (.seq (.var 1)) .tt [3]) .nil)))) [2]) .nil)))
theorem b15_eq : b15 = (.cons s15_0 (.cons s15_1 .nil)) := rfl
def s26_0 : S := (.asg (.nm 1) (.call 25 (.cons (.var 0) (.cons (.con (.int 5)) .nil))))
def s26_1 : S := (.asg (.tup (.cons (.nm 3) (.cons (.nm 4) .nil))) (.tup (.cons (.call 24 (.cons (.var 1) .nil)) (.cons (.call 22 (.cons (.blt .len (.cons (.var 1) .nil)) .nil)) .nil))))
def s26_2 : S := (.ite (.val (.op .ne (.blt .repr (.cons (.lst (.cons (.call 16 (.cons (.var 1) .nil)) (.cons (.callk 16 .nil (.cons (.var 1) .nil) [.a 0]) (.cons (.call 16 (.cons (.slice (.var 1) .no .no (.yes (.neg (.con (.int 1))))) .nil)) .nil)))) .nil)) (.blt .repr (.cons (.op .mul (.lst (.cons (.blt .len (.cons (.var 3) .nil)) .nil)) (.con (.int 3))) .nil)))) (.cons (.ret (.con (.bl false))) .nil) .nil)
def s26_3 : S := (.asg (.nm 2) (.blt .tuple (.cons (.comp (.var 5) (.nm 5) (.seq (.var 4)) (.and (.val (.op .ne (.var 3) (.lst .nil))) (.val (.blt .all (.cons (.comp (.op .isin (.var 5) (.var 6)) (.nm 6) (.seq (.var 3)) .tt [6]) .nil)))) [5]) .nil)))
def s26_4 : S := (.ite (.val (.op .ne (.blt .repr (.cons (.lst (.cons (.call 17 (.cons (.var 1) .nil)) (.cons (.callk 17 .nil (.cons (.var 1) .nil) [.a 0]) .nil))) .nil)) (.blt .repr (.cons (.lst (.cons (.var 2) (.cons (.var 2) .nil))) .nil)))) (.cons (.ret (.con (.bl false))) .nil) .nil)
def s26_5 : S := (.asg (.nm 2) (.blt .tuple (.cons (.comp (.var 5) (.nm 5) (.seq (.var 4)) (.not (.val (.blt .any (.cons (.comp (.op .isin (.var 5) (.var 6)) (.nm 6) (.seq (.var 3)) .tt [6]) .nil)))) [5]) .nil)))
def s26_6 : S := (.ite (.val (.op .ne (.blt .repr (.cons (.lst (.cons (.call 18 (.cons (.var 1) .nil)) (.cons (.callk 18 .nil (.cons (.var 1) .nil) [.a 0]) .nil))) .nil)) (.blt .repr (.cons (.lst (.cons (.var 2) (.cons (.var 2) .nil))) .nil)))) (.cons (.ret (.con (.bl false))) .nil) .nil)
def s26_7 : S := (.ite (.or (.val (.op .ne (.blt .repr (.cons (.lst (.cons (.call 19 (.cons (.var 1) .nil)) (.cons (.callk 19 .nil (.cons (.var 1) .nil) [.a 0]) .nil))) .nil)) (.blt .repr (.cons (.op .mul (.lst (.cons (.op .eq (.blt .len (.cons (.var 3) .nil)) (.con (.int 1))) .nil)) (.con (.int 2))) .nil)))) (.val (.op .ne (.call 13 (.cons (.var 1) .nil)) (.op .ne (.var 3) (.lst .nil))))) (.cons (.ret (.con (.bl false))) .nil) .nil)
def s26_8 : S := (.ret (.or (.op .ne (.var 3) (.lst .nil)) (.and (.op .eq (.call 17 (.cons (.var 1) .nil)) (.tup .nil)) (.op .eq (.call 18 (.cons (.var 1) .nil)) (.blt .tuple (.cons (.var 4) .nil))))))
theorem b26_eq : b26 = (.cons s26_0 (.cons s26_1 (.cons s26_2 (.cons s26_3 (.cons s26_4 (.cons s26_5 (.cons s26_6 (.cons s26_7 (.cons s26_8 .nil))))))))) := rfl
def s27_0 : S := (.for_ (.nm 1) (.rng (.cons (.blt .max (.cons (.con (.int 2)) (.cons (.blt .min (.cons (.blt .len (.cons (.var 0) .nil)) (.cons (.con (.int 3)) .nil))) .nil))) .nil)) (.cons (.asg (.nm 2) (.call 20 (.cons (.var 0) (.cons (.var 1) .nil)))) (.cons (.ite (.not (.val (.blt .all (.cons (.comp (.call 26 (.cons (.var 2) .nil)) (.nm 3) (.rng (.cons (.con (.int 10)) .nil)) .tt [3]) .nil)))) (.cons (.ret (.con (.bl false))) .nil) .nil) .nil)))
def s27_1 : S := (.ret (.con (.bl true)))
theorem b27_eq : b27 = (.cons s27_0 (.cons s27_1 .nil)) := rfl
theorem w_sureby (n : Nat) {p : List Int} (M : Mem) (hl : p.length ≤ 6) (hw : (websP p.length p).length ≤ 5000) : W (callN T G 0 (n + 3) 14 [tp p] M) fun v M' => v = webD (sureL p.length (websP p.length p)) ∧ Gr M M' := by
  refine W.call (fd := f14) rfl rfl ?_
  simp -implicitDefEqProofs only [f14, b14, q_ok, q_bad, q_ofO, q_rt, q_nx, q_var, q_con, q_glo, q_tup, q_lst, q_op, q_neg, q_not, q_chain, q_and, q_or, q_ite, q_call, q_callk, q_blt, q_meth, q_sub, q_slice, q_no, q_yes, q_nil, q_cons, q_tt, q_val, q_bnot, q_band, q_bor, q_nm, q_tupT, q_subT, q_nilT, q_consT, q_asg, q_par, q_ex, q_ret, q_if, q_end, q_then, q_add, q_sub2, q_lt, q_le, q_gt, q_ge, q_eqI, q_neI, q_eqS, q_neS, q_trB, cfg_call, cfg_gl, parD, Option.map_some, List.map_cons, List.map_nil, List.cons_append, List.nil_append, List.getElem?_cons_zero, List.getElem?_cons_succ, List.set_cons_zero, List.set_cons_succ, List.length_cons, List.length_nil, List.replicate_succ, List.replicate_zero, Ev.bind_assoc]
  refine W.bind (w_websby n M hl) ?_
  rintro v M1 ⟨l, rfl, hl1, g1⟩
  have hL : (sortW (websP p.length p)).length ≤ line := by rw [(sortW_perm _).length_eq, line]; omega
  have few : (prs p.length).length ≤ 15 := (pairs_fact hl).2.1
  try simp -implicitDefEqProofs only [q_ok, q_bad, q_ofO, q_rt, q_nx, q_var, q_con, q_glo, q_tup, q_lst, q_op, q_neg, q_not, q_chain, q_and, q_or, q_ite, q_call, q_callk, q_blt, q_meth, q_sub, q_slice, q_no, q_yes, q_nil, q_cons, q_tt, q_val, q_bnot, q_band, q_bor, q_nm, q_tupT, q_subT, q_nilT, q_consT, q_asg, q_par, q_ex, q_ret, q_if, q_end, q_then, q_add, q_sub2, q_lt, q_le, q_gt, q_ge, q_eqI, q_neI, q_eqS, q_neS, q_trB, cfg_call, cfg_gl, parD, Option.map_some, List.map_cons, List.map_nil, List.cons_append, List.nil_append, List.getElem?_cons_zero, List.getElem?_cons_succ, List.set_cons_zero, List.set_cons_succ, List.length_cons, List.length_nil, List.replicate_succ, List.replicate_zero, Ev.bind_assoc]
  refine W.bind (W.mono (P := fun v M' => ∃ M2, Gr M1 M2 ∧ v = .loc M2.length ∧ M' = M2 ++ [Cell.lst ((sureL p.length (sortW (websP p.length p))).map pairD)]) ?_ fun _ _ h => h) ?_
  · refine W.bind (P := fun src X => ∃ lp, src = .lst lp (prs p.length).length ∧ X[lp]? = some (.lst ((prs p.length).map pairD)) ∧ Gr M1 X) ?_ ?_
    · rw [q_seq]
      simp -implicitDefEqProofs only [q_ok, q_bad, q_ofO, q_rt, q_nx, q_var, q_con, q_glo, q_tup, q_lst, q_op, q_neg, q_not, q_chain, q_and, q_or, q_ite, q_call, q_callk, q_blt, q_meth, q_sub, q_slice, q_no, q_yes, q_nil, q_cons, q_tt, q_val, q_bnot, q_band, q_bor, q_nm, q_tupT, q_subT, q_nilT, q_consT, q_asg, q_par, q_ex, q_ret, q_if, q_end, q_then, q_add, q_sub2, q_lt, q_le, q_gt, q_ge, q_eqI, q_neI, q_eqS, q_neS, q_trB, cfg_call, cfg_gl, parD, Option.map_some, List.map_cons, List.map_nil, List.cons_append, List.nil_append, List.getElem?_cons_zero, List.getElem?_cons_succ, List.set_cons_zero, List.set_cons_succ, List.length_cons, List.length_nil, List.replicate_succ, List.replicate_zero, Ev.bind_assoc, len_tup, List.length_map]
      refine W.bind (w_allp (n + 1) (m := p.length) M1 hl) ?_
      rintro v M2 ⟨lp, rfl, _, hlp, g2⟩
      rw [src_of hlp, List.length_map]
      exact W.ok ⟨lp, rfl, hlp, g2⟩
    · rintro _ M2 ⟨lp, rfl, hlp, g2⟩
      refine (W_filt' (ps := prs p.length) (fm := pairD) (J := Gr M2) (fun q => !(sortW (websP p.length p)).isEmpty && (sortW (websP p.length p)).all fun g => decide (q ∈ g)) pairD (walks_lst fun M' h => h.cell hlp) (Gr.refl _) (by rw [line]; omega) fun M3 q acc _ hj hacc => ?_).mono ?_
      · exact (step_sure (l := l) rfl (hj.cell (g2.cell hl1)) (by decide) (by decide) (show 2 < 4 by decide) (show 3 < 4 by decide) hL hacc).mono fun acc' M' ⟨q1, q2⟩ => ⟨hj.trans q1, q2⟩
      · rintro v M' ⟨M3, g3, rfl, rfl⟩
        exact ⟨M3, g2.trans g3, rfl, rfl⟩
  · rintro v M' ⟨M2, g2, rfl, rfl⟩
    simp -implicitDefEqProofs only [q_ok, q_bad, q_ofO, q_rt, q_nx, q_var, q_con, q_glo, q_tup, q_lst, q_op, q_neg, q_not, q_chain, q_and, q_or, q_ite, q_call, q_callk, q_blt, q_meth, q_sub, q_slice, q_no, q_yes, q_nil, q_cons, q_tt, q_val, q_bnot, q_band, q_bor, q_nm, q_tupT, q_subT, q_nilT, q_consT, q_asg, q_par, q_ex, q_ret, q_if, q_end, q_then, q_add, q_sub2, q_lt, q_le, q_gt, q_ge, q_eqI, q_neI, q_eqS, q_neS, q_trB, cfg_call, cfg_gl, parD, Option.map_some, List.map_cons, List.map_nil, List.cons_append, List.nil_append, List.getElem?_cons_zero, List.getElem?_cons_succ, List.set_cons_zero, List.set_cons_succ, List.length_cons, List.length_nil, List.replicate_succ, List.replicate_zero, Ev.bind_assoc, tuple_new]
    refine W.ok ⟨?_, (g1.trans g2).push _⟩
    rw [sure_perm (sortW_perm (websP p.length p))]
theorem w_neverby (n : Nat) {p : List Int} (M : Mem) (hl : p.length ≤ 6) (hw : (websP p.length p).length ≤ 5000) : W (callN T G 0 (n + 3) 15 [tp p] M) fun v M' => v = webD (neverL p.length (websP p.length p)) ∧ Gr M M' := by
  refine W.call (fd := f15) rfl rfl ?_
  simp -implicitDefEqProofs only [f15, b15, q_ok, q_bad, q_ofO, q_rt, q_nx, q_var, q_con, q_glo, q_tup, q_lst, q_op, q_neg, q_not, q_chain, q_and, q_or, q_ite, q_call, q_callk, q_blt, q_meth, q_sub, q_slice, q_no, q_yes, q_nil, q_cons, q_tt, q_val, q_bnot, q_band, q_bor, q_nm, q_tupT, q_subT, q_nilT, q_consT, q_asg, q_par, q_ex, q_ret, q_if, q_end, q_then, q_add, q_sub2, q_lt, q_le, q_gt, q_ge, q_eqI, q_neI, q_eqS, q_neS, q_trB, cfg_call, cfg_gl, parD, Option.map_some, List.map_cons, List.map_nil, List.cons_append, List.nil_append, List.getElem?_cons_zero, List.getElem?_cons_succ, List.set_cons_zero, List.set_cons_succ, List.length_cons, List.length_nil, List.replicate_succ, List.replicate_zero, Ev.bind_assoc]
  refine W.bind (w_websby n M hl) ?_
  rintro v M1 ⟨l, rfl, hl1, g1⟩
  have hL : (sortW (websP p.length p)).length ≤ line := by rw [(sortW_perm _).length_eq, line]; omega
  have few : (prs p.length).length ≤ 15 := (pairs_fact hl).2.1
  try simp -implicitDefEqProofs only [q_ok, q_bad, q_ofO, q_rt, q_nx, q_var, q_con, q_glo, q_tup, q_lst, q_op, q_neg, q_not, q_chain, q_and, q_or, q_ite, q_call, q_callk, q_blt, q_meth, q_sub, q_slice, q_no, q_yes, q_nil, q_cons, q_tt, q_val, q_bnot, q_band, q_bor, q_nm, q_tupT, q_subT, q_nilT, q_consT, q_asg, q_par, q_ex, q_ret, q_if, q_end, q_then, q_add, q_sub2, q_lt, q_le, q_gt, q_ge, q_eqI, q_neI, q_eqS, q_neS, q_trB, cfg_call, cfg_gl, parD, Option.map_some, List.map_cons, List.map_nil, List.cons_append, List.nil_append, List.getElem?_cons_zero, List.getElem?_cons_succ, List.set_cons_zero, List.set_cons_succ, List.length_cons, List.length_nil, List.replicate_succ, List.replicate_zero, Ev.bind_assoc]
  refine W.bind (W.mono (P := fun v M' => ∃ M2, Gr M1 M2 ∧ v = .loc M2.length ∧ M' = M2 ++ [Cell.lst ((neverL p.length (sortW (websP p.length p))).map pairD)]) ?_ fun _ _ h => h) ?_
  · refine W.bind (P := fun src X => ∃ lp, src = .lst lp (prs p.length).length ∧ X[lp]? = some (.lst ((prs p.length).map pairD)) ∧ Gr M1 X) ?_ ?_
    · rw [q_seq]
      simp -implicitDefEqProofs only [q_ok, q_bad, q_ofO, q_rt, q_nx, q_var, q_con, q_glo, q_tup, q_lst, q_op, q_neg, q_not, q_chain, q_and, q_or, q_ite, q_call, q_callk, q_blt, q_meth, q_sub, q_slice, q_no, q_yes, q_nil, q_cons, q_tt, q_val, q_bnot, q_band, q_bor, q_nm, q_tupT, q_subT, q_nilT, q_consT, q_asg, q_par, q_ex, q_ret, q_if, q_end, q_then, q_add, q_sub2, q_lt, q_le, q_gt, q_ge, q_eqI, q_neI, q_eqS, q_neS, q_trB, cfg_call, cfg_gl, parD, Option.map_some, List.map_cons, List.map_nil, List.cons_append, List.nil_append, List.getElem?_cons_zero, List.getElem?_cons_succ, List.set_cons_zero, List.set_cons_succ, List.length_cons, List.length_nil, List.replicate_succ, List.replicate_zero, Ev.bind_assoc, len_tup, List.length_map]
      refine W.bind (w_allp (n + 1) (m := p.length) M1 hl) ?_
      rintro v M2 ⟨lp, rfl, _, hlp, g2⟩
      rw [src_of hlp, List.length_map]
      exact W.ok ⟨lp, rfl, hlp, g2⟩
    · rintro _ M2 ⟨lp, rfl, hlp, g2⟩
      refine (W_filt' (ps := prs p.length) (fm := pairD) (J := Gr M2) (fun q => !((sortW (websP p.length p)).any fun g => decide (q ∈ g))) pairD (walks_lst fun M' h => h.cell hlp) (Gr.refl _) (by rw [line]; omega) fun M3 q acc _ hj hacc => ?_).mono ?_
      · exact (step_never (l := l) rfl (hj.cell (g2.cell hl1)) (by decide) (by decide) (show 2 < 4 by decide) (show 3 < 4 by decide) hL hacc).mono fun acc' M' ⟨q1, q2⟩ => ⟨hj.trans q1, q2⟩
      · rintro v M' ⟨M3, g3, rfl, rfl⟩
        exact ⟨M3, g2.trans g3, rfl, rfl⟩
  · rintro v M' ⟨M2, g2, rfl, rfl⟩
    simp -implicitDefEqProofs only [q_ok, q_bad, q_ofO, q_rt, q_nx, q_var, q_con, q_glo, q_tup, q_lst, q_op, q_neg, q_not, q_chain, q_and, q_or, q_ite, q_call, q_callk, q_blt, q_meth, q_sub, q_slice, q_no, q_yes, q_nil, q_cons, q_tt, q_val, q_bnot, q_band, q_bor, q_nm, q_tupT, q_subT, q_nilT, q_consT, q_asg, q_par, q_ex, q_ret, q_if, q_end, q_then, q_add, q_sub2, q_lt, q_le, q_gt, q_ge, q_eqI, q_neI, q_eqS, q_neS, q_trB, cfg_call, cfg_gl, parD, Option.map_some, List.map_cons, List.map_nil, List.cons_append, List.nil_append, List.getElem?_cons_zero, List.getElem?_cons_succ, List.set_cons_zero, List.set_cons_succ, List.length_cons, List.length_nil, List.replicate_succ, List.replicate_zero, Ev.bind_assoc, tuple_new]
    refine W.ok ⟨?_, (g1.trans g2).push _⟩
    rw [never_perm (sortW_perm (websP p.length p))]
theorem w_count (n : Nat) {p : List Int} (M : Mem) (hp : Pz p) : W (callN T G 0 (n + 5) 16 [tp p] M) fun v M' => v = .int ((websP p.length p).length : Int) ∧ Gr M M' := by
  refine W.call (fd := f16) rfl rfl ?_
  simp -implicitDefEqProofs only [f16, b16, q_ok, q_bad, q_ofO, q_rt, q_nx, q_var, q_con, q_glo, q_tup, q_lst, q_op, q_neg, q_not, q_chain, q_and, q_or, q_ite, q_call, q_callk, q_blt, q_meth, q_sub, q_slice, q_no, q_yes, q_nil, q_cons, q_tt, q_val, q_bnot, q_band, q_bor, q_nm, q_tupT, q_subT, q_nilT, q_consT, q_asg, q_par, q_ex, q_ret, q_if, q_end, q_then, q_add, q_sub2, q_lt, q_le, q_gt, q_ge, q_eqI, q_neI, q_eqS, q_neS, q_trB, cfg_call, cfg_gl, parD, Option.map_some, List.map_cons, List.map_nil, List.cons_append, List.nil_append, List.getElem?_cons_zero, List.getElem?_cons_succ, List.set_cons_zero, List.set_cons_succ, List.length_cons, List.length_nil, List.replicate_succ, List.replicate_zero, Ev.bind_assoc]
  refine (w_check n M hp).bind ?_
  rintro v M1 ⟨rfl, g1⟩
  try simp -implicitDefEqProofs only [q_ok, q_bad, q_ofO, q_rt, q_nx, q_var, q_con, q_glo, q_tup, q_lst, q_op, q_neg, q_not, q_chain, q_and, q_or, q_ite, q_call, q_callk, q_blt, q_meth, q_sub, q_slice, q_no, q_yes, q_nil, q_cons, q_tt, q_val, q_bnot, q_band, q_bor, q_nm, q_tupT, q_subT, q_nilT, q_consT, q_asg, q_par, q_ex, q_ret, q_if, q_end, q_then, q_add, q_sub2, q_lt, q_le, q_gt, q_ge, q_eqI, q_neI, q_eqS, q_neS, q_trB, cfg_call, cfg_gl, parD, Option.map_some, List.map_cons, List.map_nil, List.cons_append, List.nil_append, List.getElem?_cons_zero, List.getElem?_cons_succ, List.set_cons_zero, List.set_cons_succ, List.length_cons, List.length_nil, List.replicate_succ, List.replicate_zero, Ev.bind_assoc]
  refine W.bind (w_websby (n + 2) M1 hp.six) ?_
  rintro v M2 ⟨l, rfl, hl, g2⟩
  simp -implicitDefEqProofs only [q_ok, q_bad, q_ofO, q_rt, q_nx, q_var, q_con, q_glo, q_tup, q_lst, q_op, q_neg, q_not, q_chain, q_and, q_or, q_ite, q_call, q_callk, q_blt, q_meth, q_sub, q_slice, q_no, q_yes, q_nil, q_cons, q_tt, q_val, q_bnot, q_band, q_bor, q_nm, q_tupT, q_subT, q_nilT, q_consT, q_asg, q_par, q_ex, q_ret, q_if, q_end, q_then, q_add, q_sub2, q_lt, q_le, q_gt, q_ge, q_eqI, q_neI, q_eqS, q_neS, q_trB, cfg_call, cfg_gl, parD, Option.map_some, List.map_cons, List.map_nil, List.cons_append, List.nil_append, List.getElem?_cons_zero, List.getElem?_cons_succ, List.set_cons_zero, List.set_cons_succ, List.length_cons, List.length_nil, List.replicate_succ, List.replicate_zero, Ev.bind_assoc, len_at hl, List.length_map, (sortW_perm (websP p.length p)).length_eq]
  exact W.ok ⟨rfl, g1.trans g2⟩
theorem w_sure (n : Nat) {p : List Int} (M : Mem) (hp : Pz p) (hw : (websP p.length p).length ≤ 5000) : W (callN T G 0 (n + 5) 17 [tp p] M) fun v M' => v = webD (sureL p.length (websP p.length p)) ∧ Gr M M' := by
  refine W.call (fd := f17) rfl rfl ?_
  simp -implicitDefEqProofs only [f17, b17, q_ok, q_bad, q_ofO, q_rt, q_nx, q_var, q_con, q_glo, q_tup, q_lst, q_op, q_neg, q_not, q_chain, q_and, q_or, q_ite, q_call, q_callk, q_blt, q_meth, q_sub, q_slice, q_no, q_yes, q_nil, q_cons, q_tt, q_val, q_bnot, q_band, q_bor, q_nm, q_tupT, q_subT, q_nilT, q_consT, q_asg, q_par, q_ex, q_ret, q_if, q_end, q_then, q_add, q_sub2, q_lt, q_le, q_gt, q_ge, q_eqI, q_neI, q_eqS, q_neS, q_trB, cfg_call, cfg_gl, parD, Option.map_some, List.map_cons, List.map_nil, List.cons_append, List.nil_append, List.getElem?_cons_zero, List.getElem?_cons_succ, List.set_cons_zero, List.set_cons_succ, List.length_cons, List.length_nil, List.replicate_succ, List.replicate_zero, Ev.bind_assoc]
  refine (w_check n M hp).bind ?_
  rintro v M1 ⟨rfl, g1⟩
  try simp -implicitDefEqProofs only [q_ok, q_bad, q_ofO, q_rt, q_nx, q_var, q_con, q_glo, q_tup, q_lst, q_op, q_neg, q_not, q_chain, q_and, q_or, q_ite, q_call, q_callk, q_blt, q_meth, q_sub, q_slice, q_no, q_yes, q_nil, q_cons, q_tt, q_val, q_bnot, q_band, q_bor, q_nm, q_tupT, q_subT, q_nilT, q_consT, q_asg, q_par, q_ex, q_ret, q_if, q_end, q_then, q_add, q_sub2, q_lt, q_le, q_gt, q_ge, q_eqI, q_neI, q_eqS, q_neS, q_trB, cfg_call, cfg_gl, parD, Option.map_some, List.map_cons, List.map_nil, List.cons_append, List.nil_append, List.getElem?_cons_zero, List.getElem?_cons_succ, List.set_cons_zero, List.set_cons_succ, List.length_cons, List.length_nil, List.replicate_succ, List.replicate_zero, Ev.bind_assoc]
  refine W.bind (w_sureby (n + 1) M1 hp.six hw) ?_
  rintro v M2 ⟨rfl, g2⟩
  exact W.ok ⟨rfl, g1.trans g2⟩
theorem w_never (n : Nat) {p : List Int} (M : Mem) (hp : Pz p) (hw : (websP p.length p).length ≤ 5000) : W (callN T G 0 (n + 5) 18 [tp p] M) fun v M' => v = webD (neverL p.length (websP p.length p)) ∧ Gr M M' := by
  refine W.call (fd := f18) rfl rfl ?_
  simp -implicitDefEqProofs only [f18, b18, q_ok, q_bad, q_ofO, q_rt, q_nx, q_var, q_con, q_glo, q_tup, q_lst, q_op, q_neg, q_not, q_chain, q_and, q_or, q_ite, q_call, q_callk, q_blt, q_meth, q_sub, q_slice, q_no, q_yes, q_nil, q_cons, q_tt, q_val, q_bnot, q_band, q_bor, q_nm, q_tupT, q_subT, q_nilT, q_consT, q_asg, q_par, q_ex, q_ret, q_if, q_end, q_then, q_add, q_sub2, q_lt, q_le, q_gt, q_ge, q_eqI, q_neI, q_eqS, q_neS, q_trB, cfg_call, cfg_gl, parD, Option.map_some, List.map_cons, List.map_nil, List.cons_append, List.nil_append, List.getElem?_cons_zero, List.getElem?_cons_succ, List.set_cons_zero, List.set_cons_succ, List.length_cons, List.length_nil, List.replicate_succ, List.replicate_zero, Ev.bind_assoc]
  refine (w_check n M hp).bind ?_
  rintro v M1 ⟨rfl, g1⟩
  try simp -implicitDefEqProofs only [q_ok, q_bad, q_ofO, q_rt, q_nx, q_var, q_con, q_glo, q_tup, q_lst, q_op, q_neg, q_not, q_chain, q_and, q_or, q_ite, q_call, q_callk, q_blt, q_meth, q_sub, q_slice, q_no, q_yes, q_nil, q_cons, q_tt, q_val, q_bnot, q_band, q_bor, q_nm, q_tupT, q_subT, q_nilT, q_consT, q_asg, q_par, q_ex, q_ret, q_if, q_end, q_then, q_add, q_sub2, q_lt, q_le, q_gt, q_ge, q_eqI, q_neI, q_eqS, q_neS, q_trB, cfg_call, cfg_gl, parD, Option.map_some, List.map_cons, List.map_nil, List.cons_append, List.nil_append, List.getElem?_cons_zero, List.getElem?_cons_succ, List.set_cons_zero, List.set_cons_succ, List.length_cons, List.length_nil, List.replicate_succ, List.replicate_zero, Ev.bind_assoc]
  refine W.bind (w_neverby (n + 1) M1 hp.six hw) ?_
  rintro v M2 ⟨rfl, g2⟩
  exact W.ok ⟨rfl, g1.trans g2⟩
theorem w_lone (n : Nat) {p : List Int} (M : Mem) (hp : Pz p) : W (callN T G 0 (n + 5) 19 [tp p] M) fun v M' => v = .bl (decide (((websP p.length p).length : Int) = 1)) ∧ Gr M M' := by
  refine W.call (fd := f19) rfl rfl ?_
  simp -implicitDefEqProofs only [f19, b19, q_ok, q_bad, q_ofO, q_rt, q_nx, q_var, q_con, q_glo, q_tup, q_lst, q_op, q_neg, q_not, q_chain, q_and, q_or, q_ite, q_call, q_callk, q_blt, q_meth, q_sub, q_slice, q_no, q_yes, q_nil, q_cons, q_tt, q_val, q_bnot, q_band, q_bor, q_nm, q_tupT, q_subT, q_nilT, q_consT, q_asg, q_par, q_ex, q_ret, q_if, q_end, q_then, q_add, q_sub2, q_lt, q_le, q_gt, q_ge, q_eqI, q_neI, q_eqS, q_neS, q_trB, cfg_call, cfg_gl, parD, Option.map_some, List.map_cons, List.map_nil, List.cons_append, List.nil_append, List.getElem?_cons_zero, List.getElem?_cons_succ, List.set_cons_zero, List.set_cons_succ, List.length_cons, List.length_nil, List.replicate_succ, List.replicate_zero, Ev.bind_assoc]
  refine (w_check n M hp).bind ?_
  rintro v M1 ⟨rfl, g1⟩
  try simp -implicitDefEqProofs only [q_ok, q_bad, q_ofO, q_rt, q_nx, q_var, q_con, q_glo, q_tup, q_lst, q_op, q_neg, q_not, q_chain, q_and, q_or, q_ite, q_call, q_callk, q_blt, q_meth, q_sub, q_slice, q_no, q_yes, q_nil, q_cons, q_tt, q_val, q_bnot, q_band, q_bor, q_nm, q_tupT, q_subT, q_nilT, q_consT, q_asg, q_par, q_ex, q_ret, q_if, q_end, q_then, q_add, q_sub2, q_lt, q_le, q_gt, q_ge, q_eqI, q_neI, q_eqS, q_neS, q_trB, cfg_call, cfg_gl, parD, Option.map_some, List.map_cons, List.map_nil, List.cons_append, List.nil_append, List.getElem?_cons_zero, List.getElem?_cons_succ, List.set_cons_zero, List.set_cons_succ, List.length_cons, List.length_nil, List.replicate_succ, List.replicate_zero, Ev.bind_assoc]
  refine W.bind (w_websby (n + 2) M1 hp.six) ?_
  rintro v M2 ⟨l, rfl, hl, g2⟩
  simp -implicitDefEqProofs only [q_ok, q_bad, q_ofO, q_rt, q_nx, q_var, q_con, q_glo, q_tup, q_lst, q_op, q_neg, q_not, q_chain, q_and, q_or, q_ite, q_call, q_callk, q_blt, q_meth, q_sub, q_slice, q_no, q_yes, q_nil, q_cons, q_tt, q_val, q_bnot, q_band, q_bor, q_nm, q_tupT, q_subT, q_nilT, q_consT, q_asg, q_par, q_ex, q_ret, q_if, q_end, q_then, q_add, q_sub2, q_lt, q_le, q_gt, q_ge, q_eqI, q_neI, q_eqS, q_neS, q_trB, cfg_call, cfg_gl, parD, Option.map_some, List.map_cons, List.map_nil, List.cons_append, List.nil_append, List.getElem?_cons_zero, List.getElem?_cons_succ, List.set_cons_zero, List.set_cons_succ, List.length_cons, List.length_nil, List.replicate_succ, List.replicate_zero, Ev.bind_assoc, len_at hl, List.length_map, (sortW_perm (websP p.length p)).length_eq]
  exact W.ok ⟨rfl, g1.trans g2⟩
end K71
namespace K71
open PySem Ev
theorem mul2 {M : Mem} {l : Nat} {d : D} (h : M[l]? = some (.lst [d])) : op2 .mul (.loc l) (.int 2) M = .ok (.loc M.length) (M ++ [.lst [d, d]]) := by
  show (match mutAt M l with
    | some a => if -(2 ^ 63) ≤ (2 : Int) ∧ (2 : Int) < 2 ^ 63 ∧ a.length * (2 : Int).toNat ≤ line then new (List.replicate (2 : Int).toNat a).flatten M else .bad
    | none => .bad) = _
  rw [mutAt_lst h]
  rfl
theorem websL_few {p : List Int} (h5 : p.length ≤ 5) : (websL p.length p).length ≤ 1024 := by
  have := (fold_small (p := p) h5 (prs p.length).length).1
  rw [List.take_length] at this
  exact Nat.le_trans (List.length_filter_le _ _) this
theorem rsz_nat {k : Nat} (h : k ≤ 1024) : rsz (.int (k : Int)) = some 1921 := by
  show (if ((k : Int)).natAbs.log2 < 1920 then some 1921 else none) = _
  rw [if_pos]
  have := Nat.log2_le_self k
  show k.log2 < 1920
  omega
theorem sub_py {n : Nat} {g : List Pr} (h5 : n ≤ 5) (hs : g.Sublist (prs n)) : ∃ k, rsz (webP g) = some k ∧ k ≤ 50000 ∧ ∀ M, toPy 29 M (webD g) = some (webP g) := by
  have hl := hs.length_le
  have few := prs_few h5
  refine ⟨_, rsz_web fun q hq => ?_, ?_, fun M => toPy_web 26 g⟩
  · have := prs_lt (hs.subset hq)
    omega
  · omega
section
variable {q : Nat} {p : List Int} (pp : Pz p) (p5 : p.length ≤ 5)
abbrev sg (q : Nat) (p : List Int) (l lp : Nat) (x2 x5 x6 : Option D) : Sl := [some (.loc q), some (tp p), x2, some (.loc l), some (.loc lp), x5, x6]
include pp p5 in
theorem r2 (n : Nat) {M : Mem} {l lp : Nat} (hl : M[l]? = some (.lst ((sortW (websL p.length p)).map webD))) (x2 x5 x6 : Option D) : W (ex (cfg T G 0 (n + 6)) s26_2 (sg q p l lp x2 x5 x6) M) fun fl' M' => ∃ σ', fl' = .nx σ' ∧ σ' = sg q p l lp x2 x5 x6 ∧ Gr M M' := by
  have a1 : ∀ dfl : List D, arrD [tp p] dfl [.a 0] = some [tp p] := fun _ => rfl
  have eN : (websP p.length p).length = (websL p.length p).length := (websP_perm p5 rfl).length_eq
  have eS : (sortW (websL p.length p)).length = (websL p.length p).length := (sortW_perm _).length_eq
  have few := websL_few p5
  have eR : (websP p.reverse.length p.reverse).length = (websL p.length p).length := by
    rw [List.length_reverse, websP_rev pp.six rfl, eN]
  simp -implicitDefEqProofs only [s26_2, sg, q_ok, q_bad, q_ofO, q_rt, q_nx, q_var, q_con, q_glo, q_tup, q_lst, q_op, q_neg, q_not, q_chain, q_and, q_or, q_ite, q_call, q_callk, q_blt, q_meth, q_sub, q_slice, q_no, q_yes, q_nil, q_cons, q_tt, q_val, q_bnot, q_band, q_bor, q_nm, q_tupT, q_subT, q_nilT, q_consT, q_asg, q_par, q_ex, q_ret, q_if, q_end, q_then, q_add, q_sub2, q_lt, q_le, q_gt, q_ge, q_eqI, q_neI, q_eqS, q_neS, q_trB, cfg_call, cfg_gl, parD, Option.map_some, List.map_cons, List.map_nil, List.cons_append, List.nil_append, List.getElem?_cons_zero, List.getElem?_cons_succ, List.set_cons_zero, List.set_cons_succ, List.length_cons, List.length_nil, List.replicate_succ, List.replicate_zero, Ev.bind_assoc]
  refine W.bind (w_count (n + 1) M pp) ?_
  rintro v M1 ⟨rfl, g1⟩
  simp only [a1]
  refine W.bind (w_count (n + 1) M1 pp) ?_
  rintro v M2 ⟨rfl, g2⟩
  simp -implicitDefEqProofs only [q_ok, q_bad, q_ofO, q_rt, q_nx, q_var, q_con, q_glo, q_tup, q_lst, q_op, q_neg, q_not, q_chain, q_and, q_or, q_ite, q_call, q_callk, q_blt, q_meth, q_sub, q_slice, q_no, q_yes, q_nil, q_cons, q_tt, q_val, q_bnot, q_band, q_bor, q_nm, q_tupT, q_subT, q_nilT, q_consT, q_asg, q_par, q_ex, q_ret, q_if, q_end, q_then, q_add, q_sub2, q_lt, q_le, q_gt, q_ge, q_eqI, q_neI, q_eqS, q_neS, q_trB, cfg_call, cfg_gl, parD, Option.map_some, List.map_cons, List.map_nil, List.cons_append, List.nil_append, List.getElem?_cons_zero, List.getElem?_cons_succ, List.set_cons_zero, List.set_cons_succ, List.length_cons, List.length_nil, List.replicate_succ, List.replicate_zero, rev_tp]
  refine W.bind (w_count (n + 1) M2 pp.rev) ?_
  rintro v M3 ⟨rfl, g3⟩
  rw [eN, eR]
  have hz := rsz_nat few
  have g13 := (g1.trans g2).trans g3
  generalize hd : D.int (((websL p.length p).length : Nat) : Int) = d at *
  have td : ∀ M, toPy 29 M d = some (.int ((websL p.length p).length : Int)) := fun M => by rw [← hd] <;> rfl
  have h1 := repr3 (M := M3 ++ [Cell.lst [d, d, d]]) (l := M3.length) (d := d) new_at (td _) hz (by decide)
  have c4 : (M3 ++ [Cell.lst [d, d, d]])[l]? = some (.lst ((sortW (websL p.length p)).map webD)) := (g13.push _).cell hl
  have e4 : blt .len [.loc l] (M3 ++ [Cell.lst [d, d, d]]) = .ok d (M3 ++ [Cell.lst [d, d, d]]) := by
    rw [len_at c4, List.length_map, eS, hd]
  have h2 := mul3 (M := (M3 ++ [Cell.lst [d, d, d]]) ++ [Cell.lst [d]]) (l := (M3 ++ [Cell.lst [d, d, d]]).length) (d := d) new_at
  have h3 := repr3 (M := ((M3 ++ [Cell.lst [d, d, d]]) ++ [Cell.lst [d]]) ++ [Cell.lst [d, d, d]]) (l := ((M3 ++ [Cell.lst [d, d, d]]) ++ [Cell.lst [d]]).length) (d := d) new_at (td _) hz (by decide)
  simp -implicitDefEqProofs only [new_q, q_ok, q_bad, q_ofO, q_rt, q_nx, q_var, q_con, q_glo, q_tup, q_lst, q_op, q_neg, q_not, q_chain, q_and, q_or, q_ite, q_call, q_callk, q_blt, q_meth, q_sub, q_slice, q_no, q_yes, q_nil, q_cons, q_tt, q_val, q_bnot, q_band, q_bor, q_nm, q_tupT, q_subT, q_nilT, q_consT, q_asg, q_par, q_ex, q_ret, q_if, q_end, q_then, q_add, q_sub2, q_lt, q_le, q_gt, q_ge, q_eqI, q_neI, q_eqS, q_neS, q_trB, cfg_call, cfg_gl, parD, Option.map_some, List.map_cons, List.map_nil, List.cons_append, List.nil_append, List.getElem?_cons_zero, List.getElem?_cons_succ, List.set_cons_zero, List.set_cons_succ, List.length_cons, List.length_nil, List.replicate_succ, List.replicate_zero, h1, e4, h2, h3, decide_true, Bool.not_true]
  exact W.ok ⟨_, rfl, rfl, ((g13.push _).push _).push _⟩
include p5 in
theorem r3 (n : Nat) {M : Mem} {l lp : Nat} (hl : M[l]? = some (.lst ((sortW (websL p.length p)).map webD))) (hlp : M[lp]? = some (.lst ((prs p.length).map pairD))) (x2 x5 x6 : Option D) : W (ex (cfg T G 0 (n + 6)) s26_3 (sg q p l lp x2 x5 x6) M) fun fl' M' => ∃ σ', fl' = .nx σ' ∧ σ' = sg q p l lp (some (webD (sureL p.length (websL p.length p)))) x5 x6 ∧ Gr M M' := by
  have hL : (sortW (websL p.length p)).length ≤ line := by rw [(sortW_perm _).length_eq, line]; have := websL_few p5; omega
  have few := prs_few p5
  simp -implicitDefEqProofs only [s26_3, sg, q_ok, q_bad, q_ofO, q_rt, q_nx, q_var, q_con, q_glo, q_tup, q_lst, q_op, q_neg, q_not, q_chain, q_and, q_or, q_ite, q_call, q_callk, q_blt, q_meth, q_sub, q_slice, q_no, q_yes, q_nil, q_cons, q_tt, q_val, q_bnot, q_band, q_bor, q_nm, q_tupT, q_subT, q_nilT, q_consT, q_asg, q_par, q_ex, q_ret, q_if, q_end, q_then, q_add, q_sub2, q_lt, q_le, q_gt, q_ge, q_eqI, q_neI, q_eqS, q_neS, q_trB, cfg_call, cfg_gl, parD, Option.map_some, List.map_cons, List.map_nil, List.cons_append, List.nil_append, List.getElem?_cons_zero, List.getElem?_cons_succ, List.set_cons_zero, List.set_cons_succ, List.length_cons, List.length_nil, List.replicate_succ, List.replicate_zero, Ev.bind_assoc]
  refine W.bind (P := fun v M' => ∃ M2, Gr M M2 ∧ v = .loc M2.length ∧ M' = M2 ++ [Cell.lst ((sureL p.length (sortW (websL p.length p))).map pairD)]) ?_ ?_
  · refine W.bind (P := fun src X => src = .lst lp (prs p.length).length ∧ M = X) ?_ ?_
    · rw [q_seq]
      simp -implicitDefEqProofs only [q_ok, q_bad, q_ofO, q_rt, q_nx, q_var, q_con, q_glo, q_tup, q_lst, q_op, q_neg, q_not, q_chain, q_and, q_or, q_ite, q_call, q_callk, q_blt, q_meth, q_sub, q_slice, q_no, q_yes, q_nil, q_cons, q_tt, q_val, q_bnot, q_band, q_bor, q_nm, q_tupT, q_subT, q_nilT, q_consT, q_asg, q_par, q_ex, q_ret, q_if, q_end, q_then, q_add, q_sub2, q_lt, q_le, q_gt, q_ge, q_eqI, q_neI, q_eqS, q_neS, q_trB, cfg_call, cfg_gl, parD, Option.map_some, List.map_cons, List.map_nil, List.cons_append, List.nil_append, List.getElem?_cons_zero, List.getElem?_cons_succ, List.set_cons_zero, List.set_cons_succ, List.length_cons, List.length_nil, List.replicate_succ, List.replicate_zero, Ev.bind_assoc]
      rw [src_of hlp, List.length_map]
      exact W.ok ⟨rfl, rfl⟩
    · rintro _ _ ⟨rfl, rfl⟩
      refine (W_filt' (ps := prs p.length) (fm := pairD) (J := Gr M) (fun q => !(sortW (websL p.length p)).isEmpty && (sortW (websL p.length p)).all fun g => decide (q ∈ g)) pairD (walks_lst fun M' h => h.cell hlp) (Gr.refl _) (by rw [line]; omega) fun M3 q acc _ hj hacc => ?_).mono ?_
      · exact (step_sure (l := l) rfl (hj.cell hl) (by decide) (by decide) (show 5 < 7 by decide) (show 6 < 7 by decide) hL hacc).mono fun acc' M' ⟨q1, q2⟩ => ⟨hj.trans q1, q2⟩
      · rintro v M' ⟨M3, g3, rfl, rfl⟩
        exact ⟨M3, g3, rfl, rfl⟩
  · rintro v M' ⟨M2, g2, rfl, rfl⟩
    simp -implicitDefEqProofs only [q_ok, q_bad, q_ofO, q_rt, q_nx, q_var, q_con, q_glo, q_tup, q_lst, q_op, q_neg, q_not, q_chain, q_and, q_or, q_ite, q_call, q_callk, q_blt, q_meth, q_sub, q_slice, q_no, q_yes, q_nil, q_cons, q_tt, q_val, q_bnot, q_band, q_bor, q_nm, q_tupT, q_subT, q_nilT, q_consT, q_asg, q_par, q_ex, q_ret, q_if, q_end, q_then, q_add, q_sub2, q_lt, q_le, q_gt, q_ge, q_eqI, q_neI, q_eqS, q_neS, q_trB, cfg_call, cfg_gl, parD, Option.map_some, List.map_cons, List.map_nil, List.cons_append, List.nil_append, List.getElem?_cons_zero, List.getElem?_cons_succ, List.set_cons_zero, List.set_cons_succ, List.length_cons, List.length_nil, List.replicate_succ, List.replicate_zero, Ev.bind_assoc, tuple_new]
    refine W.ok ⟨_, rfl, ?_, g2.push _⟩
    rw [sure_perm (sortW_perm (websL p.length p))]
include p5 in
theorem r5 (n : Nat) {M : Mem} {l lp : Nat} (hl : M[l]? = some (.lst ((sortW (websL p.length p)).map webD))) (hlp : M[lp]? = some (.lst ((prs p.length).map pairD))) (x2 x5 x6 : Option D) : W (ex (cfg T G 0 (n + 6)) s26_5 (sg q p l lp x2 x5 x6) M) fun fl' M' => ∃ σ', fl' = .nx σ' ∧ σ' = sg q p l lp (some (webD (neverL p.length (websL p.length p)))) x5 x6 ∧ Gr M M' := by
  have hL : (sortW (websL p.length p)).length ≤ line := by rw [(sortW_perm _).length_eq, line]; have := websL_few p5; omega
  have few := prs_few p5
  simp -implicitDefEqProofs only [s26_5, sg, q_ok, q_bad, q_ofO, q_rt, q_nx, q_var, q_con, q_glo, q_tup, q_lst, q_op, q_neg, q_not, q_chain, q_and, q_or, q_ite, q_call, q_callk, q_blt, q_meth, q_sub, q_slice, q_no, q_yes, q_nil, q_cons, q_tt, q_val, q_bnot, q_band, q_bor, q_nm, q_tupT, q_subT, q_nilT, q_consT, q_asg, q_par, q_ex, q_ret, q_if, q_end, q_then, q_add, q_sub2, q_lt, q_le, q_gt, q_ge, q_eqI, q_neI, q_eqS, q_neS, q_trB, cfg_call, cfg_gl, parD, Option.map_some, List.map_cons, List.map_nil, List.cons_append, List.nil_append, List.getElem?_cons_zero, List.getElem?_cons_succ, List.set_cons_zero, List.set_cons_succ, List.length_cons, List.length_nil, List.replicate_succ, List.replicate_zero, Ev.bind_assoc]
  refine W.bind (P := fun v M' => ∃ M2, Gr M M2 ∧ v = .loc M2.length ∧ M' = M2 ++ [Cell.lst ((neverL p.length (sortW (websL p.length p))).map pairD)]) ?_ ?_
  · refine W.bind (P := fun src X => src = .lst lp (prs p.length).length ∧ M = X) ?_ ?_
    · rw [q_seq]
      simp -implicitDefEqProofs only [q_ok, q_bad, q_ofO, q_rt, q_nx, q_var, q_con, q_glo, q_tup, q_lst, q_op, q_neg, q_not, q_chain, q_and, q_or, q_ite, q_call, q_callk, q_blt, q_meth, q_sub, q_slice, q_no, q_yes, q_nil, q_cons, q_tt, q_val, q_bnot, q_band, q_bor, q_nm, q_tupT, q_subT, q_nilT, q_consT, q_asg, q_par, q_ex, q_ret, q_if, q_end, q_then, q_add, q_sub2, q_lt, q_le, q_gt, q_ge, q_eqI, q_neI, q_eqS, q_neS, q_trB, cfg_call, cfg_gl, parD, Option.map_some, List.map_cons, List.map_nil, List.cons_append, List.nil_append, List.getElem?_cons_zero, List.getElem?_cons_succ, List.set_cons_zero, List.set_cons_succ, List.length_cons, List.length_nil, List.replicate_succ, List.replicate_zero, Ev.bind_assoc]
      rw [src_of hlp, List.length_map]
      exact W.ok ⟨rfl, rfl⟩
    · rintro _ _ ⟨rfl, rfl⟩
      refine (W_filt' (ps := prs p.length) (fm := pairD) (J := Gr M) (fun q => !((sortW (websL p.length p)).any fun g => decide (q ∈ g))) pairD (walks_lst fun M' h => h.cell hlp) (Gr.refl _) (by rw [line]; omega) fun M3 q acc _ hj hacc => ?_).mono ?_
      · exact (step_never (l := l) rfl (hj.cell hl) (by decide) (by decide) (show 5 < 7 by decide) (show 6 < 7 by decide) hL hacc).mono fun acc' M' ⟨q1, q2⟩ => ⟨hj.trans q1, q2⟩
      · rintro v M' ⟨M3, g3, rfl, rfl⟩
        exact ⟨M3, g3, rfl, rfl⟩
  · rintro v M' ⟨M2, g2, rfl, rfl⟩
    simp -implicitDefEqProofs only [q_ok, q_bad, q_ofO, q_rt, q_nx, q_var, q_con, q_glo, q_tup, q_lst, q_op, q_neg, q_not, q_chain, q_and, q_or, q_ite, q_call, q_callk, q_blt, q_meth, q_sub, q_slice, q_no, q_yes, q_nil, q_cons, q_tt, q_val, q_bnot, q_band, q_bor, q_nm, q_tupT, q_subT, q_nilT, q_consT, q_asg, q_par, q_ex, q_ret, q_if, q_end, q_then, q_add, q_sub2, q_lt, q_le, q_gt, q_ge, q_eqI, q_neI, q_eqS, q_neS, q_trB, cfg_call, cfg_gl, parD, Option.map_some, List.map_cons, List.map_nil, List.cons_append, List.nil_append, List.getElem?_cons_zero, List.getElem?_cons_succ, List.set_cons_zero, List.set_cons_succ, List.length_cons, List.length_nil, List.replicate_succ, List.replicate_zero, Ev.bind_assoc, tuple_new]
    refine W.ok ⟨_, rfl, ?_, g2.push _⟩
    rw [never_perm (sortW_perm (websL p.length p))]
include pp p5 in
theorem r4 (n : Nat) {M : Mem} {l lp : Nat} (x5 x6 : Option D) : W (ex (cfg T G 0 (n + 6)) s26_4 (sg q p l lp (some (webD (sureL p.length (websL p.length p)))) x5 x6) M) fun fl' M' => ∃ σ', fl' = .nx σ' ∧ σ' = sg q p l lp (some (webD (sureL p.length (websL p.length p)))) x5 x6 ∧ Gr M M' := by
  have a1 : ∀ dfl : List D, arrD [tp p] dfl [.a 0] = some [tp p] := fun _ => rfl
  have pm := websP_perm (p := p) p5 rfl
  have hw : (websP p.length p).length ≤ 5000 := by rw [pm.length_eq]; have := websL_few p5; omega
  obtain ⟨k, hz, hk, hd⟩ := sub_py (g := sureL p.length (websL p.length p)) p5 List.filter_sublist
  simp -implicitDefEqProofs only [s26_4, sg, q_ok, q_bad, q_ofO, q_rt, q_nx, q_var, q_con, q_glo, q_tup, q_lst, q_op, q_neg, q_not, q_chain, q_and, q_or, q_ite, q_call, q_callk, q_blt, q_meth, q_sub, q_slice, q_no, q_yes, q_nil, q_cons, q_tt, q_val, q_bnot, q_band, q_bor, q_nm, q_tupT, q_subT, q_nilT, q_consT, q_asg, q_par, q_ex, q_ret, q_if, q_end, q_then, q_add, q_sub2, q_lt, q_le, q_gt, q_ge, q_eqI, q_neI, q_eqS, q_neS, q_trB, cfg_call, cfg_gl, parD, Option.map_some, List.map_cons, List.map_nil, List.cons_append, List.nil_append, List.getElem?_cons_zero, List.getElem?_cons_succ, List.set_cons_zero, List.set_cons_succ, List.length_cons, List.length_nil, List.replicate_succ, List.replicate_zero, Ev.bind_assoc]
  refine W.bind (w_sure (n + 1) M pp hw) ?_
  rintro v M1 ⟨rfl, g1⟩
  simp only [a1]
  refine W.bind (w_sure (n + 1) M1 pp hw) ?_
  rintro v M2 ⟨rfl, g2⟩
  rw [sure_perm pm]
  generalize webD (sureL p.length (websL p.length p)) = d at *
  generalize webP (sureL p.length (websL p.length p)) = x at *
  have h1 := repr2 (M := M2 ++ [Cell.lst [d, d]]) (l := M2.length) (d := d) (x := x) (k := k) new_at (hd _) hz hk
  have h3 := repr2 (M := (M2 ++ [Cell.lst [d, d]]) ++ [Cell.lst [d, d]]) (l := (M2 ++ [Cell.lst [d, d]]).length) (d := d) (x := x) (k := k) new_at (hd _) hz hk
  simp -implicitDefEqProofs only [new_q, q_ok, q_bad, q_ofO, q_rt, q_nx, q_var, q_con, q_glo, q_tup, q_lst, q_op, q_neg, q_not, q_chain, q_and, q_or, q_ite, q_call, q_callk, q_blt, q_meth, q_sub, q_slice, q_no, q_yes, q_nil, q_cons, q_tt, q_val, q_bnot, q_band, q_bor, q_nm, q_tupT, q_subT, q_nilT, q_consT, q_asg, q_par, q_ex, q_ret, q_if, q_end, q_then, q_add, q_sub2, q_lt, q_le, q_gt, q_ge, q_eqI, q_neI, q_eqS, q_neS, q_trB, cfg_call, cfg_gl, parD, Option.map_some, List.map_cons, List.map_nil, List.cons_append, List.nil_append, List.getElem?_cons_zero, List.getElem?_cons_succ, List.set_cons_zero, List.set_cons_succ, List.length_cons, List.length_nil, List.replicate_succ, List.replicate_zero, Ev.bind_assoc, h1, h3, decide_true, Bool.not_true]
  exact W.ok ⟨_, rfl, rfl, ((g1.trans g2).push _).push _⟩
include pp p5 in
theorem r6 (n : Nat) {M : Mem} {l lp : Nat} (x5 x6 : Option D) : W (ex (cfg T G 0 (n + 6)) s26_6 (sg q p l lp (some (webD (neverL p.length (websL p.length p)))) x5 x6) M) fun fl' M' => ∃ σ', fl' = .nx σ' ∧ σ' = sg q p l lp (some (webD (neverL p.length (websL p.length p)))) x5 x6 ∧ Gr M M' := by
  have a1 : ∀ dfl : List D, arrD [tp p] dfl [.a 0] = some [tp p] := fun _ => rfl
  have pm := websP_perm (p := p) p5 rfl
  have hw : (websP p.length p).length ≤ 5000 := by rw [pm.length_eq]; have := websL_few p5; omega
  obtain ⟨k, hz, hk, hd⟩ := sub_py (g := neverL p.length (websL p.length p)) p5 List.filter_sublist
  simp -implicitDefEqProofs only [s26_6, sg, q_ok, q_bad, q_ofO, q_rt, q_nx, q_var, q_con, q_glo, q_tup, q_lst, q_op, q_neg, q_not, q_chain, q_and, q_or, q_ite, q_call, q_callk, q_blt, q_meth, q_sub, q_slice, q_no, q_yes, q_nil, q_cons, q_tt, q_val, q_bnot, q_band, q_bor, q_nm, q_tupT, q_subT, q_nilT, q_consT, q_asg, q_par, q_ex, q_ret, q_if, q_end, q_then, q_add, q_sub2, q_lt, q_le, q_gt, q_ge, q_eqI, q_neI, q_eqS, q_neS, q_trB, cfg_call, cfg_gl, parD, Option.map_some, List.map_cons, List.map_nil, List.cons_append, List.nil_append, List.getElem?_cons_zero, List.getElem?_cons_succ, List.set_cons_zero, List.set_cons_succ, List.length_cons, List.length_nil, List.replicate_succ, List.replicate_zero, Ev.bind_assoc]
  refine W.bind (w_never (n + 1) M pp hw) ?_
  rintro v M1 ⟨rfl, g1⟩
  simp only [a1]
  refine W.bind (w_never (n + 1) M1 pp hw) ?_
  rintro v M2 ⟨rfl, g2⟩
  rw [never_perm pm]
  generalize webD (neverL p.length (websL p.length p)) = d at *
  generalize webP (neverL p.length (websL p.length p)) = x at *
  have h1 := repr2 (M := M2 ++ [Cell.lst [d, d]]) (l := M2.length) (d := d) (x := x) (k := k) new_at (hd _) hz hk
  have h3 := repr2 (M := (M2 ++ [Cell.lst [d, d]]) ++ [Cell.lst [d, d]]) (l := (M2 ++ [Cell.lst [d, d]]).length) (d := d) (x := x) (k := k) new_at (hd _) hz hk
  simp -implicitDefEqProofs only [new_q, q_ok, q_bad, q_ofO, q_rt, q_nx, q_var, q_con, q_glo, q_tup, q_lst, q_op, q_neg, q_not, q_chain, q_and, q_or, q_ite, q_call, q_callk, q_blt, q_meth, q_sub, q_slice, q_no, q_yes, q_nil, q_cons, q_tt, q_val, q_bnot, q_band, q_bor, q_nm, q_tupT, q_subT, q_nilT, q_consT, q_asg, q_par, q_ex, q_ret, q_if, q_end, q_then, q_add, q_sub2, q_lt, q_le, q_gt, q_ge, q_eqI, q_neI, q_eqS, q_neS, q_trB, cfg_call, cfg_gl, parD, Option.map_some, List.map_cons, List.map_nil, List.cons_append, List.nil_append, List.getElem?_cons_zero, List.getElem?_cons_succ, List.set_cons_zero, List.set_cons_succ, List.length_cons, List.length_nil, List.replicate_succ, List.replicate_zero, Ev.bind_assoc, h1, h3, decide_true, Bool.not_true]
  exact W.ok ⟨_, rfl, rfl, ((g1.trans g2).push _).push _⟩
include pp p5 in
theorem r7 (n : Nat) {M : Mem} {l lp : Nat} (hl : M[l]? = some (.lst ((sortW (websL p.length p)).map webD))) (x2 x5 x6 : Option D) : W (ex (cfg T G 0 (n + 6)) s26_7 (sg q p l lp x2 x5 x6) M) fun fl' M' => ∃ σ', fl' = .nx σ' ∧ σ' = sg q p l lp x2 x5 x6 ∧ Gr M M' := by
  have a1 : ∀ dfl : List D, arrD [tp p] dfl [.a 0] = some [tp p] := fun _ => rfl
  have eN : (websP p.length p).length = (websL p.length p).length := (websP_perm p5 rfl).length_eq
  have eS : (sortW (websL p.length p)).length = (websL p.length p).length := (sortW_perm _).length_eq
  have e6 : (wbar p).isNone = (!(sortW (websL p.length p)).isEmpty) := by
    rw [empty_perm (sortW_perm (websL p.length p)), webs_iff (n := p.length) (p := p) pp.one p5 pp.nn rfl]
    cases wbar p <;> rfl
  simp -implicitDefEqProofs only [s26_7, sg, q_ok, q_bad, q_ofO, q_rt, q_nx, q_var, q_con, q_glo, q_tup, q_lst, q_op, q_neg, q_not, q_chain, q_and, q_or, q_ite, q_call, q_callk, q_blt, q_meth, q_sub, q_slice, q_no, q_yes, q_nil, q_cons, q_tt, q_val, q_bnot, q_band, q_bor, q_nm, q_tupT, q_subT, q_nilT, q_consT, q_asg, q_par, q_ex, q_ret, q_if, q_end, q_then, q_add, q_sub2, q_lt, q_le, q_gt, q_ge, q_eqI, q_neI, q_eqS, q_neS, q_trB, cfg_call, cfg_gl, parD, Option.map_some, List.map_cons, List.map_nil, List.cons_append, List.nil_append, List.getElem?_cons_zero, List.getElem?_cons_succ, List.set_cons_zero, List.set_cons_succ, List.length_cons, List.length_nil, List.replicate_succ, List.replicate_zero, Ev.bind_assoc]
  refine W.bind (w_lone (n + 1) M pp) ?_
  rintro v M1 ⟨rfl, g1⟩
  simp only [a1]
  refine W.bind (w_lone (n + 1) M1 pp) ?_
  rintro v M2 ⟨rfl, g2⟩
  rw [eN]
  have g12 := g1.trans g2
  generalize hd : decide (((websL p.length p).length : Int) = 1) = b at *
  have h1 := repr2 (M := M2 ++ [Cell.lst [.bl b, .bl b]]) (l := M2.length) (d := .bl b) (x := .bool b) (k := 5) new_at rfl rfl (by decide)
  have c4 : (M2 ++ [Cell.lst [.bl b, .bl b]])[l]? = some (.lst ((sortW (websL p.length p)).map webD)) := (g12.push _).cell hl
  have e4 : blt .len [.loc l] (M2 ++ [Cell.lst [.bl b, .bl b]]) = .ok (.int ((websL p.length p).length : Int)) (M2 ++ [Cell.lst [.bl b, .bl b]]) := by
    rw [len_at c4, List.length_map, eS]
  have h2 := mul2 (M := (M2 ++ [Cell.lst [.bl b, .bl b]]) ++ [Cell.lst [.bl b]]) (l := (M2 ++ [Cell.lst [.bl b, .bl b]]).length) (d := .bl b) new_at
  have h3 := repr2 (M := ((M2 ++ [Cell.lst [.bl b, .bl b]]) ++ [Cell.lst [.bl b]]) ++ [Cell.lst [.bl b, .bl b]]) (l := ((M2 ++ [Cell.lst [.bl b, .bl b]]) ++ [Cell.lst [.bl b]]).length) (d := .bl b) (x := .bool b) (k := 5) new_at rfl rfl (by decide)
  simp -implicitDefEqProofs only [new_q, q_ok, q_bad, q_ofO, q_rt, q_nx, q_var, q_con, q_glo, q_tup, q_lst, q_op, q_neg, q_not, q_chain, q_and, q_or, q_ite, q_call, q_callk, q_blt, q_meth, q_sub, q_slice, q_no, q_yes, q_nil, q_cons, q_tt, q_val, q_bnot, q_band, q_bor, q_nm, q_tupT, q_subT, q_nilT, q_consT, q_asg, q_par, q_ex, q_ret, q_if, q_end, q_then, q_add, q_sub2, q_lt, q_le, q_gt, q_ge, q_eqI, q_neI, q_eqS, q_neS, q_trB, cfg_call, cfg_gl, parD, Option.map_some, List.map_cons, List.map_nil, List.cons_append, List.nil_append, List.getElem?_cons_zero, List.getElem?_cons_succ, List.set_cons_zero, List.set_cons_succ, List.length_cons, List.length_nil, List.replicate_succ, List.replicate_zero, Ev.bind_assoc, h1, e4, hd, h2, h3, decide_true, Bool.not_true]
  refine W.bind (w_has (n + 1) _ pp) ?_
  rintro v M3 ⟨rfl, g3⟩
  have gg : Gr M M3 := (((g12.push _).push _).push _).trans g3
  have n0 : op2 .ne (.loc l) (.loc M3.length) (M3 ++ [Cell.lst []]) = .ok (.bl (!(sortW (websL p.length p)).isEmpty)) (M3 ++ [Cell.lst []]) := ne_webs ((gg.push _).cell hl) new_at
  rw [e6]
  simp -implicitDefEqProofs only [q_ok, q_bad, q_ofO, q_rt, q_nx, q_var, q_con, q_glo, q_tup, q_lst, q_op, q_neg, q_not, q_chain, q_and, q_or, q_ite, q_call, q_callk, q_blt, q_meth, q_sub, q_slice, q_no, q_yes, q_nil, q_cons, q_tt, q_val, q_bnot, q_band, q_bor, q_nm, q_tupT, q_subT, q_nilT, q_consT, q_asg, q_par, q_ex, q_ret, q_if, q_end, q_then, q_add, q_sub2, q_lt, q_le, q_gt, q_ge, q_eqI, q_neI, q_eqS, q_neS, q_trB, cfg_call, cfg_gl, parD, Option.map_some, List.map_cons, List.map_nil, List.cons_append, List.nil_append, List.getElem?_cons_zero, List.getElem?_cons_succ, List.set_cons_zero, List.set_cons_succ, List.length_cons, List.length_nil, List.replicate_succ, List.replicate_zero, Ev.bind_assoc, new_q, n0, ne_bl, bne_self_eq_false]
  exact W.ok ⟨_, rfl, rfl, gg.push _⟩
include pp p5 in
theorem r8 (n : Nat) {M : Mem} {l lp : Nat} (hl : M[l]? = some (.lst ((sortW (websL p.length p)).map webD))) (hlp : M[lp]? = some (.lst ((prs p.length).map pairD))) (x2 x5 x6 : Option D) : W ((exs (cfg T G 0 (n + 6)) (.cons s26_8 .nil) (sg q p l lp x2 x5 x6) M).bind fin) fun v M' => v = .bl true ∧ Gr M M' := by
  have pm := websP_perm (p := p) p5 rfl
  have hw : (websP p.length p).length ≤ 5000 := by rw [pm.length_eq]; have := websL_few p5; omega
  have n0 : op2 .ne (.loc l) (.loc M.length) (M ++ [Cell.lst []]) = .ok (.bl (!(sortW (websL p.length p)).isEmpty)) (M ++ [Cell.lst []]) := ne_webs (Gr.cell ⟨_, rfl⟩ hl) new_at
  rw [empty_perm (sortW_perm (websL p.length p))] at n0
  simp -implicitDefEqProofs only [s26_8, sg, q_ok, q_bad, q_ofO, q_rt, q_nx, q_var, q_con, q_glo, q_tup, q_lst, q_op, q_neg, q_not, q_chain, q_and, q_or, q_ite, q_call, q_callk, q_blt, q_meth, q_sub, q_slice, q_no, q_yes, q_nil, q_cons, q_tt, q_val, q_bnot, q_band, q_bor, q_nm, q_tupT, q_subT, q_nilT, q_consT, q_asg, q_par, q_ex, q_ret, q_if, q_end, q_then, q_add, q_sub2, q_lt, q_le, q_gt, q_ge, q_eqI, q_neI, q_eqS, q_neS, q_trB, cfg_call, cfg_gl, parD, Option.map_some, List.map_cons, List.map_nil, List.cons_append, List.nil_append, List.getElem?_cons_zero, List.getElem?_cons_succ, List.set_cons_zero, List.set_cons_succ, List.length_cons, List.length_nil, List.replicate_succ, List.replicate_zero, Ev.bind_assoc, new_q, n0]
  cases e : websL p.length p with
  | cons g r =>
    simp -implicitDefEqProofs only [q_ok, q_bad, q_ofO, q_rt, q_nx, q_var, q_con, q_glo, q_tup, q_lst, q_op, q_neg, q_not, q_chain, q_and, q_or, q_ite, q_call, q_callk, q_blt, q_meth, q_sub, q_slice, q_no, q_yes, q_nil, q_cons, q_tt, q_val, q_bnot, q_band, q_bor, q_nm, q_tupT, q_subT, q_nilT, q_consT, q_asg, q_par, q_ex, q_ret, q_if, q_end, q_then, q_add, q_sub2, q_lt, q_le, q_gt, q_ge, q_eqI, q_neI, q_eqS, q_neS, q_trB, cfg_call, cfg_gl, parD, Option.map_some, List.map_cons, List.map_nil, List.cons_append, List.nil_append, List.getElem?_cons_zero, List.getElem?_cons_succ, List.set_cons_zero, List.set_cons_succ, List.length_cons, List.length_nil, List.replicate_succ, List.replicate_zero, Ev.bind_assoc, List.isEmpty_cons, Bool.not_false]
    exact W.ok ⟨rfl, Gr.push (Gr.refl M) _⟩
  | nil =>
    have e0 : websP p.length p = [] := by rw [e] at pm; exact pm.eq_nil
    simp -implicitDefEqProofs only [q_ok, q_bad, q_ofO, q_rt, q_nx, q_var, q_con, q_glo, q_tup, q_lst, q_op, q_neg, q_not, q_chain, q_and, q_or, q_ite, q_call, q_callk, q_blt, q_meth, q_sub, q_slice, q_no, q_yes, q_nil, q_cons, q_tt, q_val, q_bnot, q_band, q_bor, q_nm, q_tupT, q_subT, q_nilT, q_consT, q_asg, q_par, q_ex, q_ret, q_if, q_end, q_then, q_add, q_sub2, q_lt, q_le, q_gt, q_ge, q_eqI, q_neI, q_eqS, q_neS, q_trB, cfg_call, cfg_gl, parD, Option.map_some, List.map_cons, List.map_nil, List.cons_append, List.nil_append, List.getElem?_cons_zero, List.getElem?_cons_succ, List.set_cons_zero, List.set_cons_succ, List.length_cons, List.length_nil, List.replicate_succ, List.replicate_zero, Ev.bind_assoc, List.isEmpty_nil, Bool.not_true]
    refine W.bind (w_sure (n + 1) (M ++ [Cell.lst []]) pp hw) ?_
    rintro v M1 ⟨rfl, g1⟩
    rw [e0]
    have s0 : sureL p.length [] = [] := by
      unfold sureL
      rw [List.filter_eq_nil_iff]
      intro q _
      simp
    have s1 : neverL p.length [] = prs p.length := by
      unfold neverL
      rw [List.filter_eq_self]
      intro q _
      rfl
    rw [s0]
    have q1 : op2 .eq (webD []) (.tup []) M1 = .ok (.bl true) M1 := eq_webs (a := [])
    simp -implicitDefEqProofs only [q_ok, q_bad, q_ofO, q_rt, q_nx, q_var, q_con, q_glo, q_tup, q_lst, q_op, q_neg, q_not, q_chain, q_and, q_or, q_ite, q_call, q_callk, q_blt, q_meth, q_sub, q_slice, q_no, q_yes, q_nil, q_cons, q_tt, q_val, q_bnot, q_band, q_bor, q_nm, q_tupT, q_subT, q_nilT, q_consT, q_asg, q_par, q_ex, q_ret, q_if, q_end, q_then, q_add, q_sub2, q_lt, q_le, q_gt, q_ge, q_eqI, q_neI, q_eqS, q_neS, q_trB, cfg_call, cfg_gl, parD, Option.map_some, List.map_cons, List.map_nil, List.cons_append, List.nil_append, List.getElem?_cons_zero, List.getElem?_cons_succ, List.set_cons_zero, List.set_cons_succ, List.length_cons, List.length_nil, List.replicate_succ, List.replicate_zero, Ev.bind_assoc, q1]
    refine W.bind (w_never (n + 1) M1 pp hw) ?_
    rintro v M2 ⟨rfl, g2⟩
    rw [e0, s1]
    have gg : Gr M M2 := (Gr.push (Gr.refl M) _).trans (g1.trans g2)
    simp -implicitDefEqProofs only [q_ok, q_bad, q_ofO, q_rt, q_nx, q_var, q_con, q_glo, q_tup, q_lst, q_op, q_neg, q_not, q_chain, q_and, q_or, q_ite, q_call, q_callk, q_blt, q_meth, q_sub, q_slice, q_no, q_yes, q_nil, q_cons, q_tt, q_val, q_bnot, q_band, q_bor, q_nm, q_tupT, q_subT, q_nilT, q_consT, q_asg, q_par, q_ex, q_ret, q_if, q_end, q_then, q_add, q_sub2, q_lt, q_le, q_gt, q_ge, q_eqI, q_neI, q_eqS, q_neS, q_trB, cfg_call, cfg_gl, parD, Option.map_some, List.map_cons, List.map_nil, List.cons_append, List.nil_append, List.getElem?_cons_zero, List.getElem?_cons_succ, List.set_cons_zero, List.set_cons_succ, List.length_cons, List.length_nil, List.replicate_succ, List.replicate_zero, Ev.bind_assoc, tuple_at (gg.cell hlp), eq_webs]
    exact W.ok ⟨rfl, gg⟩
end
/-! ### the law -/
theorem w_right (n : Nat) {q : Nat} {M : Mem} (hq : Pool M q) : W (callN T G 0 (n + 7) 26 [.loc q] M) fun v M' => v = .bl true ∧ Keep q M M' := by
  refine W.call (fd := f26) rfl rfl ?_
  rw [show f26.body = b26 from rfl, b26_eq]
  show W ((exs (cfg T G 0 (n + 6)) _ [some (.loc q), none, none, none, none, none, none] M).bind fin) _
  refine W_seq (P := fun σ' M' => ∃ p : List Int, Pz p ∧ p.length ≤ 5 ∧ σ' = [some (.loc q), some (tp p), none, none, none, none, none] ∧ Keep q M M') ?_ ?_
  · simp -implicitDefEqProofs only [s26_0, q_ok, q_bad, q_ofO, q_rt, q_nx, q_var, q_con, q_glo, q_tup, q_lst, q_op, q_neg, q_not, q_chain, q_and, q_or, q_ite, q_call, q_callk, q_blt, q_meth, q_sub, q_slice, q_no, q_yes, q_nil, q_cons, q_tt, q_val, q_bnot, q_band, q_bor, q_nm, q_tupT, q_subT, q_nilT, q_consT, q_asg, q_par, q_ex, q_ret, q_if, q_end, q_then, q_add, q_sub2, q_lt, q_le, q_gt, q_ge, q_eqI, q_neI, q_eqS, q_neS, q_trB, cfg_call, cfg_gl, parD, Option.map_some, List.map_cons, List.map_nil, List.cons_append, List.nil_append, List.getElem?_cons_zero, List.getElem?_cons_succ, List.set_cons_zero, List.set_cons_succ, List.length_cons, List.length_nil, List.replicate_succ, List.replicate_zero, Ev.bind_assoc]
    refine W.bind (w_some (n + 4) (mo := 5) M hq (by omega)) ?_
    rintro v M1 ⟨p, rfl, pp, p5, k1⟩
    exact W.ok ⟨_, rfl, p, pp, by omega, rfl, k1⟩
  rintro _ M1 ⟨p, pp, p5, rfl, k1⟩
  refine W_seq (P := fun σ' M' => ∃ l lp, σ' = sg q p l lp none none none ∧ M'[l]? = some (.lst ((sortW (websL p.length p)).map webD)) ∧ M'[lp]? = some (.lst ((prs p.length).map pairD)) ∧ Gr M1 M') ?_ ?_
  · simp -implicitDefEqProofs only [s26_1, q_ok, q_bad, q_ofO, q_rt, q_nx, q_var, q_con, q_glo, q_tup, q_lst, q_op, q_neg, q_not, q_chain, q_and, q_or, q_ite, q_call, q_callk, q_blt, q_meth, q_sub, q_slice, q_no, q_yes, q_nil, q_cons, q_tt, q_val, q_bnot, q_band, q_bor, q_nm, q_tupT, q_subT, q_nilT, q_consT, q_asg, q_par, q_ex, q_ret, q_if, q_end, q_then, q_add, q_sub2, q_lt, q_le, q_gt, q_ge, q_eqI, q_neI, q_eqS, q_neS, q_trB, cfg_call, cfg_gl, parD, Option.map_some, List.map_cons, List.map_nil, List.cons_append, List.nil_append, List.getElem?_cons_zero, List.getElem?_cons_succ, List.set_cons_zero, List.set_cons_succ, List.length_cons, List.length_nil, List.replicate_succ, List.replicate_zero, Ev.bind_assoc, len_tup, List.length_map]
    refine W.bind (w_webs (n + 4) M1 p5) ?_
    rintro v M2 ⟨l, rfl, hl, g2⟩
    try simp -implicitDefEqProofs only [q_ok, q_bad, q_ofO, q_rt, q_nx, q_var, q_con, q_glo, q_tup, q_lst, q_op, q_neg, q_not, q_chain, q_and, q_or, q_ite, q_call, q_callk, q_blt, q_meth, q_sub, q_slice, q_no, q_yes, q_nil, q_cons, q_tt, q_val, q_bnot, q_band, q_bor, q_nm, q_tupT, q_subT, q_nilT, q_consT, q_asg, q_par, q_ex, q_ret, q_if, q_end, q_then, q_add, q_sub2, q_lt, q_le, q_gt, q_ge, q_eqI, q_neI, q_eqS, q_neS, q_trB, cfg_call, cfg_gl, parD, Option.map_some, List.map_cons, List.map_nil, List.cons_append, List.nil_append, List.getElem?_cons_zero, List.getElem?_cons_succ, List.set_cons_zero, List.set_cons_succ, List.length_cons, List.length_nil, List.replicate_succ, List.replicate_zero, Ev.bind_assoc, len_tup, List.length_map]
    refine W.bind (w_pairs (n + 5) (m := p.length) M2 pp.six) ?_
    rintro v M3 ⟨lp, rfl, _, hlp, g3⟩
    try simp -implicitDefEqProofs only [q_ok, q_bad, q_ofO, q_rt, q_nx, q_var, q_con, q_glo, q_tup, q_lst, q_op, q_neg, q_not, q_chain, q_and, q_or, q_ite, q_call, q_callk, q_blt, q_meth, q_sub, q_slice, q_no, q_yes, q_nil, q_cons, q_tt, q_val, q_bnot, q_band, q_bor, q_nm, q_tupT, q_subT, q_nilT, q_consT, q_asg, q_par, q_ex, q_ret, q_if, q_end, q_then, q_add, q_sub2, q_lt, q_le, q_gt, q_ge, q_eqI, q_neI, q_eqS, q_neS, q_trB, cfg_call, cfg_gl, parD, Option.map_some, List.map_cons, List.map_nil, List.cons_append, List.nil_append, List.getElem?_cons_zero, List.getElem?_cons_succ, List.set_cons_zero, List.set_cons_succ, List.length_cons, List.length_nil, List.replicate_succ, List.replicate_zero, Ev.bind_assoc]
    exact W.ok ⟨_, rfl, l, lp, rfl, g3.cell hl, hlp, g2.trans g3⟩
  rintro _ M2 ⟨l, lp, rfl, hl, hlp, g2⟩
  refine W_seq (r2 pp p5 n hl _ _ _) ?_
  rintro _ M3 ⟨rfl, g3⟩
  refine W_seq (r3 p5 n (g3.cell hl) (g3.cell hlp) _ _ _) ?_
  rintro _ M4 ⟨rfl, g4⟩
  have g24 := g3.trans g4
  refine W_seq (r4 pp p5 n _ _) ?_
  rintro _ M5 ⟨rfl, g5⟩
  have g25 := g24.trans g5
  refine W_seq (r5 p5 n (g25.cell hl) (g25.cell hlp) _ _ _) ?_
  rintro _ M6 ⟨rfl, g6⟩
  refine W_seq (r6 pp p5 n _ _) ?_
  rintro _ M7 ⟨rfl, g7⟩
  have g27 := (g25.trans g6).trans g7
  refine W_seq (r7 pp p5 n (g27.cell hl) _ _ _) ?_
  rintro _ M8 ⟨rfl, g8⟩
  have g28 := g27.trans g8
  refine (r8 pp p5 n (g28.cell hl) (g28.cell hlp) _ _ _).mono ?_
  rintro v M9 ⟨rfl, g9⟩
  exact ⟨rfl, k1.trans (((g2.trans g28).trans g9).keep k1.pool)⟩
theorem law_ev (ns : List Int) (hn : ns.length ≤ 63) : ∃ M', callN T (gl.map (·.2)) 0 12 27 [.loc 0] [.rol (ns.map D.int)] = .ok (.bl true) M' := by
  suffices h : W (callN T G 0 12 27 [.loc 0] [.rol (ns.map D.int)]) fun v _ => v = .bl true by
    obtain ⟨v, M', e, rfl⟩ := h
    exact ⟨M', e⟩
  refine W.call (fd := f27) rfl rfl ?_
  rw [show f27.body = b27 from rfl, b27_eq]
  show W ((exs (cfg T G 0 11) _ [some (.loc 0), none, none, none] [.rol (ns.map D.int)]).bind fin) _
  refine W_seq (P := fun _ _ => True) ?_ ?_
  · rw [s27_0]
    have hlen : blt .len [.loc 0] [.rol (ns.map D.int)] = .ok (.int (ns.length : Int)) [.rol (ns.map D.int)] := by
      rw [len_loc (xs := ns.map D.int) rfl, List.length_map]
    generalize hc : (if (if (3 : Int) < (ns.length : Int) then (3 : Int) else (ns.length : Int)) > 2 then (if (3 : Int) < (ns.length : Int) then (3 : Int) else (ns.length : Int)) else 2) = c
    have c3 : 2 ≤ c ∧ c ≤ 3 := by
      rw [← hc]
      split <;> split at * <;> omega
    refine (W_for (ps := List.range c.toNat) (fm := fun k : Nat => .int (0 + (k : Int))) (J := fun _ => True) (fun _ σ' M' => ∃ y1 y2 y3, σ' = [some (.loc 0), y1, y2, y3] ∧ M'[0]? = some (.rol (ns.map D.int))) ?_ (fun _ _ _ _ => trivial) ?_).mono ?_
    · have e1 : evs (cfg T G 0 11) (.cons (.blt .max (.cons (.con (.int 2)) (.cons (.blt .min (.cons (.blt .len (.cons (.var 0) .nil)) (.cons (.con (.int 3)) .nil))) .nil))) .nil) [some (.loc 0), none, none, none] [.rol (ns.map D.int)] = .ok [.int c] [.rol (ns.map D.int)] := by
        simp -implicitDefEqProofs only [q_ok, q_bad, q_ofO, q_rt, q_nx, q_var, q_con, q_glo, q_tup, q_lst, q_op, q_neg, q_not, q_chain, q_and, q_or, q_ite, q_call, q_callk, q_blt, q_meth, q_sub, q_slice, q_no, q_yes, q_nil, q_cons, q_tt, q_val, q_bnot, q_band, q_bor, q_nm, q_tupT, q_subT, q_nilT, q_consT, q_asg, q_par, q_ex, q_ret, q_if, q_end, q_then, q_add, q_sub2, q_lt, q_le, q_gt, q_ge, q_eqI, q_neI, q_eqS, q_neS, q_trB, cfg_call, cfg_gl, parD, Option.map_some, List.map_cons, List.map_nil, List.cons_append, List.nil_append, List.getElem?_cons_zero, List.getElem?_cons_succ, List.set_cons_zero, List.set_cons_succ, List.length_cons, List.length_nil, List.replicate_succ, List.replicate_zero, hlen, min2, max2, hc]
      rw [rng_ok e1 (rng1 (j := c) (by omega))]
      exact W.ok ⟨walks_rng, none, none, none, rfl, rfl⟩
    · rintro M1 i k σ hk ⟨y1, y2, y3, rfl, h0⟩
      have hs : lstAt M1 0 = some (ns.map D.int) := by
        unfold lstAt
        rw [h0]
      have h0M : 0 < M1.length := getElem?_len h0
      have ew := w_bag 10 (M := M1) (k := k) hs hn
      rw [show ((k : Nat) : Int) = 0 + (k : Int) by omega] at ew
      simp -implicitDefEqProofs only [q_ok, q_bad, q_ofO, q_rt, q_nx, q_var, q_con, q_glo, q_tup, q_lst, q_op, q_neg, q_not, q_chain, q_and, q_or, q_ite, q_call, q_callk, q_blt, q_meth, q_sub, q_slice, q_no, q_yes, q_nil, q_cons, q_tt, q_val, q_bnot, q_band, q_bor, q_nm, q_tupT, q_subT, q_nilT, q_consT, q_asg, q_par, q_ex, q_ret, q_if, q_end, q_then, q_add, q_sub2, q_lt, q_le, q_gt, q_ge, q_eqI, q_neI, q_eqS, q_neS, q_trB, cfg_call, cfg_gl, parD, Option.map_some, List.map_cons, List.map_nil, List.cons_append, List.nil_append, List.getElem?_cons_zero, List.getElem?_cons_succ, List.set_cons_zero, List.set_cons_succ, List.length_cons, List.length_nil, List.replicate_succ, List.replicate_zero, Ev.bind_assoc]
      refine ew.bind ?_
      rintro v M2 ⟨q, rfl, pq, hq, g2⟩
      try simp -implicitDefEqProofs only [q_ok, q_bad, q_ofO, q_rt, q_nx, q_var, q_con, q_glo, q_tup, q_lst, q_op, q_neg, q_not, q_chain, q_and, q_or, q_ite, q_call, q_callk, q_blt, q_meth, q_sub, q_slice, q_no, q_yes, q_nil, q_cons, q_tt, q_val, q_bnot, q_band, q_bor, q_nm, q_tupT, q_subT, q_nilT, q_consT, q_asg, q_par, q_ex, q_ret, q_if, q_end, q_then, q_add, q_sub2, q_lt, q_le, q_gt, q_ge, q_eqI, q_neI, q_eqS, q_neS, q_trB, cfg_call, cfg_gl, parD, Option.map_some, List.map_cons, List.map_nil, List.cons_append, List.nil_append, List.getElem?_cons_zero, List.getElem?_cons_succ, List.set_cons_zero, List.set_cons_succ, List.length_cons, List.length_nil, List.replicate_succ, List.replicate_zero, Ev.bind_assoc]
      refine W.bind (W_map1 (ps := List.range 10) (fm := fun k : Nat => .int (0 + (k : Int))) (J := Keep q M2) (fun _ => D.bl true) (W_irng (ds := [.int 10]) (lo := 0) (n := 10) ?_ ?_ (Keep.refl pq)) (by rw [List.length_range, line]; omega) fun M3 a acc ha hj hacc => ?_) ?_
      · simp -implicitDefEqProofs only [q_ok, q_bad, q_ofO, q_rt, q_nx, q_var, q_con, q_glo, q_tup, q_lst, q_op, q_neg, q_not, q_chain, q_and, q_or, q_ite, q_call, q_callk, q_blt, q_meth, q_sub, q_slice, q_no, q_yes, q_nil, q_cons, q_tt, q_val, q_bnot, q_band, q_bor, q_nm, q_tupT, q_subT, q_nilT, q_consT, q_asg, q_par, q_ex, q_ret, q_if, q_end, q_then, q_add, q_sub2, q_lt, q_le, q_gt, q_ge, q_eqI, q_neI, q_eqS, q_neS, q_trB, cfg_call, cfg_gl, parD, Option.map_some, List.map_cons, List.map_nil, List.cons_append, List.nil_append, List.getElem?_cons_zero, List.getElem?_cons_succ, List.set_cons_zero, List.set_cons_succ, List.length_cons, List.length_nil, List.replicate_succ, List.replicate_zero]
      · rw [rng1 (by omega)] <;> rfl
      · rw [stepD_nm]
        simp -implicitDefEqProofs only [wipeD, q_ok, q_bad, q_ofO, q_rt, q_nx, q_var, q_con, q_glo, q_tup, q_lst, q_op, q_neg, q_not, q_chain, q_and, q_or, q_ite, q_call, q_callk, q_blt, q_meth, q_sub, q_slice, q_no, q_yes, q_nil, q_cons, q_tt, q_val, q_bnot, q_band, q_bor, q_nm, q_tupT, q_subT, q_nilT, q_consT, q_asg, q_par, q_ex, q_ret, q_if, q_end, q_then, q_add, q_sub2, q_lt, q_le, q_gt, q_ge, q_eqI, q_neI, q_eqS, q_neS, q_trB, cfg_call, cfg_gl, parD, Option.map_some, List.map_cons, List.map_nil, List.cons_append, List.nil_append, List.getElem?_cons_zero, List.getElem?_cons_succ, List.set_cons_zero, List.set_cons_succ, List.length_cons, List.length_nil, List.replicate_succ, List.replicate_zero, Ev.bind_assoc]
        refine W.bind (w_right 4 hj.pool) ?_
        rintro v M4 ⟨rfl, k4⟩
        exact ⟨_, _, push_ok hacc, hj.trans k4, rfl⟩
      · rintro v M4 ⟨M3, k3, rfl, rfl⟩
        have e : ((List.range 10).map fun _ => D.bl true) = ((List.range 10).map fun _ => true).map D.bl := by simp
        have e5 : ((List.range 10).map fun _ => true).all id = true := by simp
        simp -implicitDefEqProofs only [q_ok, q_bad, q_ofO, q_rt, q_nx, q_var, q_con, q_glo, q_tup, q_lst, q_op, q_neg, q_not, q_chain, q_and, q_or, q_ite, q_call, q_callk, q_blt, q_meth, q_sub, q_slice, q_no, q_yes, q_nil, q_cons, q_tt, q_val, q_bnot, q_band, q_bor, q_nm, q_tupT, q_subT, q_nilT, q_consT, q_asg, q_par, q_ex, q_ret, q_if, q_end, q_then, q_add, q_sub2, q_lt, q_le, q_gt, q_ge, q_eqI, q_neI, q_eqS, q_neS, q_trB, cfg_call, cfg_gl, parD, Option.map_some, List.map_cons, List.map_nil, List.cons_append, List.nil_append, List.getElem?_cons_zero, List.getElem?_cons_succ, List.set_cons_zero, List.set_cons_succ, List.length_cons, List.length_nil, List.replicate_succ, List.replicate_zero, Ev.bind_assoc, e, all_new, e5, Bool.not_true]
        refine W.ok ⟨_, .inl rfl, _, _, _, rfl, ?_⟩
        exact (k3.pushed _).cell (g2.cell h0) (by omega)
    · rintro fl' M' ⟨σ', rfl, _⟩
      exact ⟨σ', rfl, trivial⟩
  · rintro σ' M' _
    rw [s27_1, q_then, q_ret]
    exact W.ok rfl
end K71
namespace K71
open PySem PySem.Spec PyProof.Rows Ev
/-! ### the head -/
abbrev R : PySem.W.OpenRow := PySem.W.OpenLaw.row PySem.Challenge.rw_evenpurses_k71_whole_webs_counted
abbrev hk : PySem.W.Hook := pg.hook 4
def ob (s : PySem.W.SharedT) : He.AlD := pg.obsG 4 (HandSHeadRun.getT s)
theorem ob_eq (s : PySem.W.SharedT) : ob s = hk.obs s.abs := Pg.obsG_eq (HandSHeadRun.getT_eq s)
def names : List Str := (["PurseError", "InvalidPurse", "is_whole", "is_between", "is_row", "MOST_PEOPLE", "MOST_COINS", "is_purse", "check_purse", "fall_of", "is_too_much", "web_bar_by", "all_pairs", "degrees_of", "lessened", "can_be_tied", "webs_by", "has_web", "sure_by", "never_by", "count_webs", "sure_ties", "never_tied", "is_lone", "_law_bag", "_law_take", "_law_pairs", "_law_ties", "_law_webs", "_law_some_ties"] : List Str) ++ (["_law_right"] : List Str)
theorem run (w : World) : HandSHeadRun.RunEqI R (PySem.W.view R.prog [0, 38]) hk ob 6000 names w := by
  unfold HandSHeadRun.RunEqI
  kernel_rfl
end K71
open PySem PySem.W PySem.Calls PyProof.Rows
theorem PySem.Challenge.cw_evenpurses_k71_whole_webs_counted_holds : PySem.Challenge.rw_evenpurses_k71_whole_webs_counted.Holds := by
  w_on; o_law
  refine HandSHeadRun.head_imp (r := OpenLaw.row PySem.Challenge.rw_evenpurses_k71_whole_webs_counted) (q := view (OpenLaw.row PySem.Challenge.rw_evenpurses_k71_whole_webs_counted).prog [0, 38]) (H := K71.hk) (ob := K71.ob) (M := 6000) (loose := K71.names) (d := HandSHeadRun.topDef (OpenLaw.row PySem.Challenge.rw_evenpurses_k71_whole_webs_counted).prog 38) (kwd := []) K71.ob_eq K71.run (by kernel_rfl) (by kernel_rfl) (by kernel_rfl) (by rfl) (by first | assumption | decide +kernel) (by decide +kernel) ⟨rfl, rfl, rfl, rfl, rfl, by decide +kernel⟩ ?hw ?hc
  case hw => w_witness2
  case hc =>
    exact Ev.walk_ev (p := K71.pg) (l := PySem.Challenge.rw_evenpurses_k71_whole_webs_counted) (m := 63) (n := 12) (lw := 27) (wf := 0) (fd := K71.f27) rfl (by decide) (by kernel_rfl) ⟨rfl, by decide, by decide⟩ K71.good rfl (by kernel_rfl) ⟨_, rfl⟩ rfl K71.law_ev
