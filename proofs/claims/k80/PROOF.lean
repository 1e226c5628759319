import PyProof.Rows.All
import Wide.All
import OpenK.AllK
import Wide.FinOn
import PySem.Challenge.RW_bumprows_k80_counts
import KE.LtData
import HandS.ForMost
import HandS.ForExc
import HandS.TupAny
import HandS.TupLe
import HandS.TupMul
import HandS.Deep
import HandS.IsInst
import HandS.Conv
import HandS.DictTup
import HandS.TupLen
import PyProof.WalksMore
import PyProof.SumWalkG
import HandS.WordsExc
import KE.GoesNew
import KE.GoesMore
import KE.GoesEnum
import HandS.TryOnly
import HandS.Style
import PyProof.TupleOfSeq
import HandS.SortInts
import HandS.TupSets
import HandS.SetFor
import HandS.Strs
import KE.SortData
import KE.DataMinMax
import KE.KDictCopyH
import KE.KDictOf
import HandS.Ends
set_option Elab.async false
set_option linter.all false
set_option pp.maxSteps 200
set_option maxRecDepth 100000
set_option maxHeartbeats 4000000
/-! A small pure language: data, terms, their values. -/
namespace BP
open PySem

abbrev D := PyData
abbrev tupD (xs : List D) : D := PyData.tuple xs
abbrev lstD (xs : List D) : D := PyData.list xs

/-- a value, an exception (its class by number), or no word about it -/
inductive Res (α : Type) where
  | ok (a : α)
  | exc (c : Nat)
  | bad
  deriving DecidableEq

def Res.bind {α β : Type} (r : Res α) (f : α → Res β) : Res β := match r with
  | .ok a => f a
  | .exc c => .exc c
  | .bad => .bad
theorem Res.bind_ok {α β : Type} (a : α) (f : α → Res β) : (Res.ok a).bind f = f a := rfl
theorem Res.bind_exc {α β : Type} (c : Nat) (f : α → Res β) : (Res.exc c : Res α).bind f = .exc c := rfl
theorem Res.bind_bad {α β : Type} (f : α → Res β) : (Res.bad : Res α).bind f = .bad := rfl

inductive Bop where | add | sub | mul | fdiv | mod
  deriving DecidableEq
inductive Cop where | eq | ne | lt | le | gt | ge | isN | notN | isB | notB | inn | nin
  deriving DecidableEq
/-- built-ins, by what they are handed -/
inductive Bt where
  | len | tuple | list | sum | max1 | min1 | max2 | min2 | all | any | sorted | toInt | toStr | sortedSet | lenSet
  | listRange1 | listRange2 | tupRange2 | dict | count | index | get | join | split | isTuple | isInt | isBool | isStr
  deriving DecidableEq
/-- what is walked -/
inductive Sk where | seq | range1 | range2 | range3 | enum | zip2 | zip3
  deriving DecidableEq
inductive Tg where | n (i : Nat) | t (is : List Nat)
  deriving DecidableEq

inductive Ex where
  | k (d : D)
  | v (i : Nat)
  | b (i : Nat)
  | tup (es : List Ex)
  | lst (es : List Ex)
  | bin (o : Bop) (x y : Ex)
  | cmp (o : Cop) (x y : Ex)
  | chain (o o' : Cop) (x y z : Ex)
  | neg (x : Ex)
  | not (x : Ex)
  | and (x y : Ex)
  | or (x y : Ex)
  | ife (c x y : Ex)
  | call (f : Nat) (es : List Ex)
  | bt (f : Bt) (es : List Ex)
  | ix (x i : Ex)
  | sl (x : Ex) (lo hi : List Ex)
  | rev (x : Ex)
  | comp (e : Ex) (own : List Nat) (t : Tg) (sk : Sk) (src : List Ex) (conds : List Ex)
  | dict0
  | dict1 (x y : Ex)
  | dget (x y z : Ex)
  | lcnt (x y : Ex)
  | tcnt (x y : Ex)
  | tidx (x y : Ex)

inductive Stm where
  | fz (is : List Nat)
  | set (t : Tg) (e : Ex)
  | own (i : Nat) (e : Ex)
  | app (i : Nat) (e : Ex)
  | ext (i : Nat) (e : Ex)
  | put (i : Nat) (x e : Ex)
  | dpop (i : Nat) (x : Ex)
  | ite (c : Ex) (a b : List Stm)
  | loop (t : Tg) (sk : Sk) (src : List Ex) (body : List Stm)
  | loopPop (t : Tg) (f : Nat) (i : Nat) (body : List Stm)
  | while (c : Ex) (body : List Stm)
  | ret (e : Ex)
  | raise (c : Nat)
  | told (c : Nat) (e r : Ex) (a : List Stm)

/-- a slot: nothing, a value that may be shared, a list or dict that stands nowhere else -/
inductive Slot where
  | non
  | val (d : D)
  | own (d : D)
abbrev Env := List Slot

/-! ### values -/
def smallI (i : Int) : Bool := decide (-(2 ^ 64) < i) && decide (i < 2 ^ 64)
def repL {α : Type} (k : Int) (xs : List α) : List α := (List.replicate k.toNat xs).flatten
def evalBin : Bop → D → D → Res D
  | .add, .int i, .int j => .ok (.int (i + j))
  | .add, .tuple xs, .tuple ys => if xs.length + ys.length ≤ sizeLine then .ok (.tuple (xs ++ ys)) else .bad
  | .add, .list xs, .list ys => if xs.length + ys.length ≤ sizeLine then .ok (.list (xs ++ ys)) else .bad
  | .add, .str x, .str y => if x.length + y.length ≤ sizeLine then .ok (.str (x ++ y)) else .bad
  | .sub, .int i, .int j => .ok (.int (i - j))
  | .mul, .int i, .int j => if smallI i || smallI j then .ok (.int (i * j)) else .bad
  | .mul, .tuple xs, .int k => if -(2 ^ 63) ≤ k ∧ k ≤ 1000 ∧ xs.length ≤ 1000 then .ok (.tuple (repL k xs)) else .bad
  | .mul, .list xs, .int k => if -(2 ^ 63) ≤ k ∧ k ≤ 1000 ∧ xs.length ≤ 1000 then .ok (.list (repL k xs)) else .bad
  | .fdiv, .int i, .int j => if 0 < j ∧ j < 1073741824 then .ok (.int (i / j)) else .bad
  | .mod, .int i, .int j => if 0 < j then .ok (.int (i % j)) else .bad
  | _, _, _ => .bad
def isNoneD : D → Bool
  | .none => true
  | _ => false
/-- the places where y stands in x -/
def subStr (y x : Str) : Bool := !(Builtin.Str.occurrences x y 0 x.length 1).isEmpty
def intsOf : List D → Option (List Int)
  | [] => some []
  | .int i :: r => (intsOf r).map (i :: ·)
  | _ :: _ => none
/-- a key: a tuple of ints -/
def keyOf : D → Option (List Int)
  | .tuple xs => intsOf xs
  | _ => none
def keyOk (d : D) : Bool := (keyOf d).isSome
def hasKey (kvs : List (D × D)) (x : D) : Bool := kvs.any fun p => PyData.eqv p.1 x
def keyI : D → Bool
  | .int _ => true
  | _ => false
def keysT (kvs : List (D × D)) : Bool := kvs.all fun p => keyOk p.1
def keysI (kvs : List (D × D)) : Bool := kvs.all fun p => keyI p.1
/-- the key is of the kind of the others -/
def keyFor (kvs : List (D × D)) (x : D) : Bool := (keyOk x && keysT kvs) || (keyI x && keysI kvs)
def isDict : D → Bool
  | .dict _ => true
  | _ => false
def evalCmp : Cop → D → D → Res D
  | .eq, x, y => if SeqAt.shaped x = true ∧ SeqAt.shaped y = true then .ok (.bool (PyData.eqv x y)) else .bad
  | .ne, x, y => if SeqAt.shaped x = true ∧ SeqAt.shaped y = true then .ok (.bool (!PyData.eqv x y)) else .bad
  | .lt, .int i, .int j => .ok (.bool (decide (i < j)))
  | .le, .int i, .int j => .ok (.bool (decide (i ≤ j)))
  | .gt, .int i, .int j => .ok (.bool (decide (j < i)))
  | .ge, .int i, .int j => .ok (.bool (decide (j ≤ i)))
  | .isN, x, .none => .ok (.bool (isNoneD x))
  | .notN, x, .none => .ok (.bool (!isNoneD x))
  | .isB, .bool a, .bool b => .ok (.bool (decide (a = b)))
  | .notB, .bool a, .bool b => .ok (.bool (!decide (a = b)))
  | .inn, x, .tuple ys => if SeqAt.shaped x = true ∧ SeqAt.shaped (.tuple ys) = true then .ok (.bool (ys.any fun z => PyData.eqv z x)) else .bad
  | .inn, x, .list ys => if SeqAt.shaped x = true ∧ SeqAt.shaped (.list ys) = true then .ok (.bool (ys.any fun z => PyData.eqv z x)) else .bad
  | .inn, .str x, .str y => .ok (.bool (subStr x y))
  | .inn, x, .dict kvs => if (keyOk x && keysT kvs) = true then .ok (.bool (hasKey kvs x)) else .bad
  | .nin, x, .tuple ys => if SeqAt.shaped x = true ∧ SeqAt.shaped (.tuple ys) = true then .ok (.bool (!ys.any fun z => PyData.eqv z x)) else .bad
  | .nin, x, .list ys => if SeqAt.shaped x = true ∧ SeqAt.shaped (.list ys) = true then .ok (.bool (!ys.any fun z => PyData.eqv z x)) else .bad
  | .nin, .str x, .str y => .ok (.bool (!subStr x y))
  | .nin, x, .dict kvs => if (keyOk x && keysT kvs) = true then .ok (.bool (!hasKey kvs x)) else .bad
  | _, _, _ => .bad

def boolsOf : List D → Option (List Bool)
  | [] => some []
  | .bool i :: r => (boolsOf r).map (i :: ·)
  | _ :: _ => none
def strsOf : List D → Option (List Str)
  | [] => some []
  | .str i :: r => (strsOf r).map (i :: ·)
  | _ :: _ => none
def okO {α : Type} (o : Option α) (f : α → D) : Res D := match o with
  | some a => .ok (f a)
  | none => .bad

/-! the order of ints and of tuples, item by item: less, or not; none where it isn't told -/
mutual
def ltD : D → D → Option Bool
  | .int i, .int j => some (decide (i < j))
  | .tuple xs, .tuple ys => ltL xs ys
  | _, _ => none
def ltL : List D → List D → Option Bool
  | [], [] => some false
  | [], _ :: _ => some true
  | _ :: _, [] => some false
  | x :: xs, y :: ys => if PyData.eqv x y = true then ltL xs ys else ltD x y
end
/-! ints, and tuples of what is so -/
mutual
def ordD : D → Bool
  | .int _ => true
  | .tuple xs => ordL xs
  | _ => false
def ordL : List D → Bool
  | [] => true
  | x :: xs => ordD x && ordL xs
end
def ltB (x y : D) : Bool := (ltD x y).getD false
def insD (x : D) : List D → List D
  | [] => [x]
  | y :: r => if ltB x y = true then x :: y :: r else y :: insD x r
/-- sorted, one after the other put in behind those that are no greater -/
def sortD (xs : List D) : List D := xs.foldl (fun acc x => insD x acc) []
/-- all pairs can be set in order -/
def ordered (xs : List D) : Bool := ordL xs && xs.all fun x => xs.all fun y => (ltD x y).isSome && decide (SeqAt.shaped x = true)
def dedup : List D → List D
  | [] => []
  | x :: r => if (r.any fun y => PyData.eqv y x) = true then dedup r else x :: dedup r
def maxD : List D → Option D
  | [] => none
  | x :: r => some (r.foldl (fun m y => if ltB m y = true then y else m) x)
def minD : List D → Option D
  | [] => none
  | x :: r => some (r.foldl (fun m y => if ltB y m = true then y else m) x)
def rangeL (lo hi : Int) : List D := (List.range (hi - lo).toNat).map fun i => .int (lo + (i : Nat))
def rangeDown (lo hi : Int) : List D := (List.range (lo - hi).toNat).map fun i => .int (lo + (i : Nat) * (-1))
def bnd (i : Int) : Bool := decide (-(2 ^ 62) ≤ i) && decide (i < 2 ^ 62)
def rgOk (a b : Int) : Bool := bnd a && bnd b && decide ((b - a).toNat ≤ 16777216)
def cntD (x : D) (ys : List D) : Int := ((ys.countP fun z => PyData.eqv z x : Nat) : Int)
def idxD (x : D) (ys : List D) : Option D := (ys.findIdx? fun z => PyData.eqv z x).map fun n => .int ((n : Nat) : Int)
def getD' (kvs : List (D × D)) (x : D) : Option D := (kvs.find? fun p => PyData.eqv p.1 x).map (·.2)
def bt1 (f : D → Res D) : List D → Res D
  | [d] => f d
  | _ => .bad
def bt2 (f : D → D → Res D) : List D → Res D
  | [d, e] => f d e
  | _ => .bad
def bt3 (f : D → D → D → Res D) : List D → Res D
  | [d, e, g] => f d e g
  | _ => .bad
def lenD : D → Res D
  | .tuple xs => .ok (.int xs.length)
  | .list xs => .ok (.int xs.length)
  | .str x => if x.length ≤ sizeLine then .ok (.int x.length) else .bad
  | .dict kvs => .ok (.int kvs.length)
  | _ => .bad
def tupleD : D → Res D
  | .tuple xs => .ok (.tuple xs)
  | .list xs => .ok (.tuple xs)
  | _ => .bad
def listD : D → Res D
  | .tuple xs => .ok (.list xs)
  | .list xs => .ok (.list xs)
  | _ => .bad
def itemsOf : D → Option (List D)
  | .tuple xs => some xs
  | .list xs => some xs
  | _ => none
def sumD (d : D) : Res D := okO ((itemsOf d).bind intsOf) fun ns => .int ns.sum
def listOf : D → Option (List D)
  | .list xs => some xs
  | _ => none
def maxI : List Int → Option Int
  | [] => none
  | x :: r => some (r.foldl (fun m y => if m < y then y else m) x)
def minI : List Int → Option Int
  | [] => none
  | x :: r => some (r.foldl (fun m y => if y < m then y else m) x)
def max2D : D → D → Res D
  | .int i, .int j => .ok (.int (if j > i then j else i))
  | _, _ => .bad
def min2D : D → D → Res D
  | .int i, .int j => .ok (.int (if j < i then j else i))
  | _, _ => .bad
def allD (d : D) : Res D := okO ((listOf d).bind boolsOf) fun bs => .bool (bs.all id)
def anyD (d : D) : Res D := okO ((listOf d).bind boolsOf) fun bs => .bool (bs.any id)
def insI (x : Int) : List Int → List Int
  | [] => [x]
  | y :: r => if x ≤ y then x :: y :: r else y :: insI x r
def sortI : List Int → List Int
  | [] => []
  | x :: r => insI x (sortI r)
def leD (a b : D) : Bool := !PySem.W.dataLt b a
def isNE : D → Bool
  | .tuple (_ :: _) => true
  | _ => false
def canSortB (ds : List D) : Bool := ds.all isNE && (ds.all fun a => ds.all fun b => PySem.W.alike a b) && ds.all fun d => d.canLay0 && decide (d.depth ≤ 50)
def maxLI (d : D) : Res D := okO (((listOf d).bind intsOf).bind maxI) .int
def minLI (d : D) : Res D := okO (((listOf d).bind intsOf).bind minI) .int
/-- the first of the greatest, of the least -/
def maxLD (d : D) : Res D := match (listOf d).bind intsOf with
  | some _ => maxLI d
  | none => match d with
    | .list (x :: xs) => if canSortB (x :: xs) = true then .ok (xs.foldl (fun a y => if PySem.W.dataLt a y then y else a) x) else .bad
    | _ => .bad
def minLD (d : D) : Res D := match (listOf d).bind intsOf with
  | some _ => minLI d
  | none => match d with
    | .list (x :: xs) => if canSortB (x :: xs) = true then .ok (xs.foldl (fun a y => if PySem.W.dataLt y a then y else a) x) else .bad
    | _ => .bad
def sortedI (d : D) : Res D := okO ((itemsOf d).bind intsOf) fun ns => .list ((sortI ns).map .int)
def sortedD (d : D) : Res D := match (itemsOf d).bind intsOf with
  | some ns => .ok (.list ((sortI ns).map .int))
  | none => match d with
    | .list ds => if canSortB ds = true then .ok (.list (ds.mergeSort leD)) else if ds.length ≤ 1 then .ok (.list ds) else .bad
    | _ => .bad
/-- rows by their first difference -/
def leR : List Int → List Int → Bool
  | [], _ => true
  | _ :: _, [] => false
  | x :: xs, y :: ys => if x < y then true else if y < x then false else leR xs ys
def insU (x : List Int) : List (List Int) → List (List Int)
  | [] => [x]
  | y :: r => if leR x y = true then (if leR y x = true then y :: r else x :: y :: r) else y :: insU x r
def sortU : List (List Int) → List (List Int)
  | [] => []
  | x :: r => insU x (sortU r)
def rowsO : List D → Option (List (List Int))
  | [] => some []
  | .tuple xs :: r => (intsOf xs).bind fun k => (rowsO r).bind fun ks => some (k :: ks)
  | _ :: _ => none
/-- sorted(set(xs)), xs a list of tuples of ints -/
def setRows (ks : List (List Int)) : Bool := decide (ks.length < 64) && ((ks.all fun k => !k.isEmpty) || decide (ks.length ≤ 1))
def insUI (x : Int) : List Int → List Int
  | [] => [x]
  | y :: r => if x < y then x :: y :: r else if y < x then y :: insUI x r else y :: r
/-- ints, rising, without doubles -/
def sortUI : List Int → List Int
  | [] => []
  | x :: r => insUI x (sortUI r)
def setD (d : D) : Option (List (List Int) ⊕ List Int) := (itemsOf d).bind fun ds => match rowsO ds with
  | some ks => if setRows ks = true then some (.inl ks) else none
  | none => (intsOf ds).bind fun ns => if ns.length < 64 then some (.inr ns) else none
def sortedSetD (d : D) : Res D := okO (setD d) fun s => match s with
  | .inl ks => .list ((sortU ks).map fun k => .tuple (k.map .int))
  | .inr ns => .list ((sortUI ns).map .int)
def lenSetD (d : D) : Res D := okO (((itemsOf d).bind intsOf).bind fun ns => if ns.length < 64 then some ns else none) fun ns => .int (sortUI ns).length
def toIntD : D → Res D
  | .int i => .ok (.int i)
  | .bool b => .ok (.int (if b then 1 else 0))
  | .str x => match PySem.intText? x with
    | some n => if x.length ≤ 640 then .ok (.int n) else .bad
    | none => .bad
  | _ => .bad
def toStrD : D → Res D
  | .int i => if i.natAbs.log2 < 1920 then .ok (.str (toString i)) else .bad
  | _ => .bad
def listRange1D : D → Res D
  | .int j => if rgOk 0 j = true then .ok (.list (rangeL 0 j)) else .bad
  | _ => .bad
def listRange2D : D → D → Res D
  | .int i, .int j => if rgOk i j = true then .ok (.list (rangeL i j)) else .bad
  | _, _ => .bad
def tupRange2D : D → D → Res D
  | .int i, .int j => if rgOk i j = true then .ok (.tuple (rangeL i j)) else .bad
  | _, _ => .bad
def smallK (d : D) : Bool := match keyOf d with
  | some [a, b] => decide (0 ≤ a) && decide (a < 8) && (decide (0 ≤ b) && decide (b < 8))
  | _ => false
def dictD : D → Res D
  | .dict kvs => if (kvs.all fun p => smallK p.1) = true then .ok (.dict kvs) else .bad
  | _ => .bad
def countD (d x : D) : Res D := okO ((itemsOf d).bind fun ys => if SeqAt.shaped x = true ∧ SeqAt.shaped d = true then some ys else none) fun ys => .int (cntD x ys)
def indexD (d x : D) : Res D := okO ((itemsOf d).bind fun ys => if SeqAt.shaped x = true ∧ SeqAt.shaped d = true then idxD x ys else none) id
def dgetD : D → D → D → Res D
  | .dict kvs, x, y => if (keyOk x && keysT kvs) = true then .ok ((getD' kvs x).getD y) else .bad
  | _, _, _ => .bad
def isListD : D → Bool
  | .list _ => true
  | _ => false
def lcntD : D → D → Res D
  | .list xs, .int k => okO (intsOf xs) fun ns => .int (ns.count k : Nat)
  | _, _ => .bad
def tcntD : D → D → Res D
  | .tuple xs, d => if SeqAt.shaped d = true ∧ SeqAt.shaped (.tuple xs) = true then .ok (.int (xs.countP fun y => PyData.eqv y d : Nat)) else .bad
  | _, _ => .bad
def tidxD : D → D → Res D
  | .tuple xs, .int k => match intsOf xs with
    | some ns => if k ∈ ns then .ok (.int (ns.idxOf k : Nat)) else .bad
    | none => .bad
  | _, _ => .bad
def isTupleD : D → Bool
  | .tuple _ => true
  | _ => false
def isIntD : D → Bool
  | .int _ => true
  | .bool _ => true
  | _ => false
def isBoolD : D → Bool
  | .bool _ => true
  | _ => false
def isStrD : D → Bool
  | .str _ => true
  | _ => false
def evalBt : Bt → List D → Res D
  | .len => bt1 lenD
  | .tuple => bt1 tupleD
  | .list => bt1 listD
  | .sum => bt1 sumD
  | .max1 => bt1 maxLD
  | .min1 => bt1 minLD
  | .max2 => bt2 max2D
  | .min2 => bt2 min2D
  | .all => bt1 allD
  | .any => bt1 anyD
  | .sorted => bt1 sortedD
  | .sortedSet => bt1 sortedSetD
  | .lenSet => bt1 lenSetD
  | .toInt => bt1 toIntD
  | .toStr => bt1 toStrD
  | .listRange1 => bt1 listRange1D
  | .listRange2 => bt2 listRange2D
  | .tupRange2 => bt2 tupRange2D
  | .dict => bt1 dictD
  | .count => bt2 countD
  | .index => bt2 indexD
  | .get => bt3 dgetD
  | .isTuple => bt1 fun d => .ok (.bool (isTupleD d))
  | .isInt => bt1 fun d => .ok (.bool (isIntD d))
  | .isBool => bt1 fun d => .ok (.bool (isBoolD d))
  | .isStr => bt1 fun d => .ok (.bool (isStrD d))
  | .join => fun _ => .bad
  | .split => fun _ => .bad

def evalIx : D → D → Res D
  | .tuple xs, .int i => match L2.atI xs i with
    | some d => .ok d
    | none => .bad
  | .list xs, .int i => match L2.atI xs i with
    | some d => .ok d
    | none => .bad
  | .str x, .int i => if x.length ≤ sizeLine then match L2.atI x.cps.toList i with
    | some c => .ok (.str ⟨#[c]⟩)
    | none => .bad else .bad
  | .dict kvs, x => if keyFor kvs x = true then match getD' kvs x with
    | some d => .ok d
    | none => .bad else .bad
  | _, _ => .bad
def partL : List D → Res (Option Int)
  | [] => .ok none
  | [.int i] => .ok (some i)
  | _ => .bad
def cutD {α : Type} (xs : List α) (lo hi : Option Int) : List α := (xs.drop (HT.sIx xs.length 0 lo)).take (HT.sIx xs.length xs.length hi - HT.sIx xs.length 0 lo)
def evalSl : D → Option Int → Option Int → Res D
  | .tuple xs, l, h => .ok (.tuple (cutD xs l h))
  | .list xs, l, h => .ok (.list (cutD xs l h))
  | .str z, l, h => if z.length ≤ sizeLine then .ok (.str (L2.cutS z l h)) else .bad
  | _, _, _ => .bad
def evalRev : D → Res D
  | .tuple xs => .ok (.tuple xs.reverse)
  | .list xs => .ok (.list xs.reverse)
  | _ => .bad
def zip2D : List D → List D → List D
  | x :: xs, y :: ys => .tuple [x, y] :: zip2D xs ys
  | _, _ => []
def zip3D : List D → List D → List D → List D
  | x :: xs, y :: ys, z :: zs => .tuple [x, y, z] :: zip3D xs ys zs
  | _, _, _ => []
def enumD : Nat → List D → List D
  | _, [] => []
  | i, x :: xs => .tuple [.int i, x] :: enumD (i + 1) xs
def sr1 (f : D → Res (List D)) : List D → Res (List D)
  | [d] => f d
  | _ => .bad
def sr2 (f : D → D → Res (List D)) : List D → Res (List D)
  | [d, e] => f d e
  | _ => .bad
def sr3 (f : D → D → D → Res (List D)) : List D → Res (List D)
  | [d, e, g] => f d e g
  | _ => .bad
def okL {α : Type} (o : Option α) (f : α → List D) : Res (List D) := match o with
  | some a => .ok (f a)
  | none => .bad
def seqS : D → Res (List D)
  | .tuple xs => .ok xs
  | .list xs => .ok xs
  | .str x => .ok (x.cps.toList.map fun c => .str ⟨#[c]⟩)
  | _ => .bad
def rg1S : D → Res (List D)
  | .int j => if bnd j = true then .ok (rangeL 0 j) else .bad
  | _ => .bad
def rg2S : D → D → Res (List D)
  | .int i, .int j => if bnd i = true ∧ bnd j = true then .ok (rangeL i j) else .bad
  | _, _ => .bad
def rg3S : D → D → D → Res (List D)
  | .int i, .int j, .int c => if c = -1 ∧ bnd i = true ∧ bnd j = true then .ok (rangeDown i j) else .bad
  | _, _, _ => .bad
def enumS (d : D) : Res (List D) := okL (itemsOf d) (enumD 0)
def zip2S (d e : D) : Res (List D) := okL ((itemsOf d).bind fun xs => (itemsOf e).map fun ys => (xs, ys)) fun p => zip2D p.1 p.2
def zip3S (d e g : D) : Res (List D) := okL ((itemsOf d).bind fun xs => (itemsOf e).bind fun ys => (itemsOf g).map fun zs => (xs, ys, zs)) fun p => zip3D p.1 p.2.1 p.2.2
/-- the items of what is walked -/
def evalSrc : Sk → List D → Res (List D)
  | .seq => sr1 seqS
  | .range1 => sr1 rg1S
  | .range2 => sr2 rg2S
  | .range3 => sr3 rg3S
  | .enum => sr1 enumS
  | .zip2 => sr2 zip2S
  | .zip3 => sr3 zip3S

/-! ### slots -/
def getV (ρ : Env) (i : Nat) : Res D := match ρ[i]? with
  | some (.val d) => .ok d
  | _ => .bad
def getB (ρ : Env) (i : Nat) : Res D := match ρ[i]? with
  | some (.val d) => .ok d
  | some (.own d) => .ok d
  | _ => .bad
def putsV (ρ : Env) : List Nat → List D → Option Env
  | [], [] => some ρ
  | i :: is, d :: ds => putsV (ρ.set i (.val d)) is ds
  | _, _ => none
def bindT (ρ : Env) : Tg → D → Option Env
  | .n i, d => some (ρ.set i (.val d))
  | .t is, .tuple ds => if is.length = ds.length then putsV ρ is ds else none
  | .t is, .list ds => if is.length = ds.length then putsV ρ is ds else none
  | .t _, _ => none
def wipeR (ρ : Env) : List Nat → Env
  | [] => ρ
  | v :: vs => (wipeR ρ vs).set v .non
def freeze (ρ : Env) (i : Nat) : Env := match ρ[i]? with
  | some (.own d) => ρ.set i (.val d)
  | _ => ρ
def freezes (ρ : Env) (is : List Nat) : Env := is.foldl freeze ρ

/-! ### terms -/
/-- an exception within a comprehension is not told -/
def noExc {α : Type} : Res α → Res α
  | .exc _ => .bad
  | r => r
def asBool : D → Res Bool
  | .bool b => .ok b
  | _ => .bad
/-- the items that the tests keep, and what is made of them -/
def compL (turn : D → Res (Option D)) : List D → Res (List D)
  | [] => .ok []
  | x :: xs => (turn x).bind fun o => (compL turn xs).bind fun r => match o with
    | some y => .ok (y :: r)
    | none => .ok r
mutual
def evalE (C : Nat → List D → Res D) : Ex → Env → Res D
  | .k d, _ => .ok d
  | .v i, ρ => getV ρ i
  | .b i, ρ => getB ρ i
  | .tup es, ρ => (evalEs C es ρ).bind fun ds => if ds.length ≤ sizeLine then .ok (.tuple ds) else .bad
  | .lst es, ρ => (evalEs C es ρ).bind fun ds => if ds.length ≤ sizeLine then .ok (.list ds) else .bad
  | .bin o x y, ρ => (evalE C x ρ).bind fun a => (evalE C y ρ).bind fun b => evalBin o a b
  | .cmp o x y, ρ => (evalE C x ρ).bind fun a => (evalE C y ρ).bind fun b => evalCmp o a b
  | .chain o o' x y z, ρ => (evalE C x ρ).bind fun a => (evalE C y ρ).bind fun b => (evalCmp o a b).bind fun r => (asBool r).bind fun t =>
      if t = true then (evalE C z ρ).bind fun c => evalCmp o' b c else .ok (.bool false)
  | .neg x, ρ => (evalE C x ρ).bind fun a => match a with
    | .int i => .ok (.int (-i))
    | _ => .bad
  | .not x, ρ => (evalE C x ρ).bind fun a => (asBool a).bind fun t => .ok (.bool (!t))
  | .and x y, ρ => (evalE C x ρ).bind fun a => (asBool a).bind fun t => if t = true then evalE C y ρ else .ok (.bool false)
  | .or x y, ρ => (evalE C x ρ).bind fun a => (asBool a).bind fun t => if t = true then .ok (.bool true) else evalE C y ρ
  | .ife c x y, ρ => (evalE C c ρ).bind fun a => (asBool a).bind fun t => if t = true then evalE C x ρ else evalE C y ρ
  | .call f es, ρ => (evalEs C es ρ).bind fun ds => C f ds
  | .bt f es, ρ => (evalEs C es ρ).bind fun ds => evalBt f ds
  | .ix x i, ρ => (evalE C x ρ).bind fun a => (evalE C i ρ).bind fun b => evalIx a b
  | .sl x lo hi, ρ => (evalE C x ρ).bind fun a => ((evalEs C lo ρ).bind partL).bind fun l => ((evalEs C hi ρ).bind partL).bind fun h => evalSl a l h
  | .rev x, ρ => (evalE C x ρ).bind evalRev
  | .comp e own t sk src conds, ρ => (evalEs C src ρ).bind fun ds => (evalSrc sk ds).bind fun items =>
      (noExc (compL (fun d => match bindT (wipeR ρ own) t d with
        | some ρ' => (evalAll C conds ρ').bind fun ok => if ok = true then (evalE C e ρ').bind fun y => .ok (some y) else .ok none
        | none => .bad) items)).bind fun r => if items.length ≤ sizeLine then .ok (.list r) else .bad
  | .dict0, _ => .ok (.dict [])
  | .dict1 x y, ρ => (evalE C x ρ).bind fun a => (evalE C y ρ).bind fun b => if keyOk a = true then .ok (.dict [(a, b)]) else .bad
  | .dget x y z, ρ => (evalE C x ρ).bind fun a => if isDict a = true then (evalE C y ρ).bind fun b => (evalE C z ρ).bind fun c => dgetD a b c else .bad
  | .lcnt x y, ρ => (evalE C x ρ).bind fun a => if isListD a = true then (evalE C y ρ).bind fun b => lcntD a b else .bad
  | .tcnt x y, ρ => (evalE C x ρ).bind fun a => if isTupleD a = true then (evalE C y ρ).bind fun b => tcntD a b else .bad
  | .tidx x y, ρ => (evalE C x ρ).bind fun a => if isTupleD a = true then (evalE C y ρ).bind fun b => tidxD a b else .bad
def evalEs (C : Nat → List D → Res D) : List Ex → Env → Res (List D)
  | [], _ => .ok []
  | e :: es, ρ => (evalE C e ρ).bind fun d => (evalEs C es ρ).bind fun ds => .ok (d :: ds)
/-- the tests of a comprehension, one after the other -/
def evalAll (C : Nat → List D → Res D) : List Ex → Env → Res Bool
  | [], _ => .ok true
  | e :: es, ρ => (evalE C e ρ).bind fun d => (asBool d).bind fun t => if t = true then evalAll C es ρ else .ok false
end

/-! ### statements -/
inductive Fl where
  | nx (ρ : Env)
  | rt (d : D)
  | ex (c : Nat)
  | bad
def Res.fl {α : Type} (r : Res α) (f : α → Fl) : Fl := match r with
  | .ok a => f a
  | .exc c => .ex c
  | .bad => .bad
def Fl.next (r : Fl) (f : Env → Fl) : Fl := match r with
  | .nx ρ => f ρ
  | r => r
def optFl {α : Type} (o : Option α) (f : α → Fl) : Fl := match o with
  | some a => f a
  | none => .bad
def putKV (kvs : List (D × D)) (x y : D) : List (D × D) :=
  if hasKey kvs x = true then kvs.map fun p => if PyData.eqv p.1 x = true then (p.1, y) else p else kvs ++ [(x, y)]
/-- the own list or dict at a place, changed -/
def chg (ρ : Env) (i : Nat) (f : D → Option D) : Fl := match ρ[i]? with
  | some (.own d) => match f d with
    | some d' => .nx (ρ.set i (.own d'))
    | none => .bad
  | _ => .bad
def ownL (ρ : Env) (i : Nat) : Bool := match ρ[i]? with
  | some (.own (.list _)) => true
  | _ => false
def ownA (ρ : Env) (i : Nat) : Bool := match ρ[i]? with
  | some (.own _) => true
  | _ => false
def appD (y : D) : D → Option D
  | .list xs => if xs.length < sizeLine then some (.list (xs ++ [y])) else none
  | _ => none
def extD (y : D) : D → Option D
  | .list xs => match itemsOf y with
    | some ys => if xs.length + ys.length ≤ sizeLine then some (.list (xs ++ ys)) else none
    | none => none
  | _ => none
def putD (x y : D) : D → Option D
  | .list xs => match x with
    | .int i => (L2.ixN xs.length i).map fun j => .list (xs.set j y)
    | _ => none
  | .dict kvs => if kvs.length < sizeLine ∧ keyFor kvs x = true then some (.dict (putKV kvs x y)) else none
  | _ => none
def dpopD (x : D) : D → Option D
  | .dict kvs => if keyOk x = true ∧ hasKey kvs x = true then some (.dict (kvs.filter fun p => !PyData.eqv p.1 x)) else none
  | _ => none
def ownD : D → Bool
  | .list _ => true
  | .dict _ => true
  | _ => false
def loopL (turn : Env → D → Fl) : List D → Env → Fl
  | [], ρ => .nx ρ
  | x :: xs, ρ => (turn ρ x).next fun ρ' => loopL turn xs ρ'
def whileL (test : Env → Res D) (body : Env → Fl) : Nat → Env → Fl
  | 0, _ => .bad
  | n + 1, ρ => ((test ρ).bind asBool).fl fun t => if t = true then (body ρ).next fun ρ' => whileL test body n ρ' else .nx ρ
/-- what a deed tells: ("told", it), or ("refused", whether by an exception of the class c) -/
def toldR (c : Nat) : Res D → Res D
  | .ok d => .ok (.tuple [.str (Str.ofString "told"), d])
  | .exc k => .ok (.tuple [.str (Str.ofString "refused"), .bool (decide (k = c))])
  | .bad => .bad
/-- turns that a while is given -/
def whileTurns : Nat := 4096
mutual
def evalS (C : Nat → List D → Res D) : Stm → Env → Fl
  | .fz is, ρ => .nx (freezes ρ is)
  | .set t e, ρ => (evalE C e ρ).fl fun d => optFl (bindT ρ t d) .nx
  | .own i e, ρ => (evalE C e ρ).fl fun d => if ownD d = true then .nx (ρ.set i (.own d)) else .nx (ρ.set i (.val d))
  | .app i e, ρ => if ownL ρ i = true then (evalE C e ρ).fl fun y => chg ρ i (appD y) else .bad
  | .ext i e, ρ => if ownL ρ i = true then (evalE C e ρ).fl fun y => chg ρ i (extD y) else .bad
  | .put i x e, ρ => if ownA ρ i = true then (evalE C e ρ).fl fun y => (evalE C x ρ).fl fun k => chg ρ i (putD k y) else .bad
  | .dpop i x, ρ => if ownA ρ i = true then (evalE C x ρ).fl fun k => chg ρ i (dpopD k) else .bad
  | .ite c a b, ρ => ((evalE C c ρ).bind asBool).fl fun t => if t = true then evalSs C a ρ else evalSs C b ρ
  | .loop t sk src body, ρ => ((evalEs C src ρ).bind (evalSrc sk)).fl fun items => loopL (fun ρ d => optFl (bindT ρ t d) fun ρ' => evalSs C body ρ') items ρ
  | .loopPop t f i body, ρ => (match ρ[i]? with
    | some (.own (.list xs)) => (match xs.getLast? with
      | some d => ((C f [d]).bind seqS).fl fun items => loopL (fun ρ d => optFl (bindT ρ t d) fun ρ' => evalSs C body ρ') items (ρ.set i (.own (.list xs.dropLast)))
      | none => .bad)
    | _ => .bad)
  | .while c body, ρ => whileL (evalE C c) (evalSs C body) whileTurns ρ
  | .ret e, ρ => (evalE C e ρ).fl .rt
  | .raise c, _ => .ex c
  | .told c e r a, ρ => (toldR c (evalE C e ρ)).fl fun d => (evalE C r ρ).fl fun d' => ((evalCmp .ne d d').bind asBool).fl fun t => if t = true then evalSs C a ρ else .nx ρ
def evalSs (C : Nat → List D → Res D) : List Stm → Env → Fl
  | [], ρ => .nx ρ
  | s :: ss, ρ => (evalS C s ρ).next fun ρ' => evalSs C ss ρ'
end

/-- a def: how many parameters, how many slots, its body -/
structure Fn where
  np : Nat
  ns : Nat
  body : List Stm
def startR (f : Fn) (ds : List D) : Env := ds.map .val ++ List.replicate (f.ns - ds.length) .non
def runFn (C : Nat → List D → Res D) (f : Fn) (ds : List D) : Res D :=
  if ds.length = f.np then match evalSs C f.body (startR f ds) with
    | .rt d => .ok d
    | .nx _ => .ok .none
    | .ex c => .exc c
    | .bad => .bad
  else .bad
/-- the call of a def of the table, n calls deep at most -/
def callF (T : Nat → Option Fn) : Nat → Nat → List D → Res D
  | 0, _, _ => .bad
  | n + 1, f, ds => match T f with
    | some fn => runFn (callF T n) fn ds
    | none => .bad
end BP
/-! How data lie in the heap; slots; what is wanted behind a term. -/
namespace BP
open PySem PySem.Spec PyProof.Rows L2

/-- a list that stays: tracked (none of O), or an object of the written part -/
def LsO (K : PySem.W.Frag) (O : Addr → Prop) (H : Hp) (a : Addr) (xs : List V) : Prop :=
  (¬ O a ∧ Rd H a (.lst xs)) ∨
    ∃ (o : Obj) (its : Array Value) (n : Nat), K.lookup a = some o ∧ o.cls = .type "list" ∧ o.dict = none ∧ o.data = .seq its n ∧ its.size ≤ sizeLine ∧ Vals xs its.toList
def TsO (_ : PySem.W.Frag) (O : Addr → Prop) (H : Hp) (a : Addr) (xs : List V) : Prop := ¬ O a ∧ H a = some (.tup xs)
theorem LsO.sq {K : PySem.W.Frag} {O : Addr → Prop} {H : Hp} {a : Addr} {xs : List V} (h : LsO K O H a xs) : SqL K H a xs := h.elim (fun z => .inl z.2) .inr
theorem TsO.sq {K : PySem.W.Frag} {O : Addr → Prop} {H : Hp} {a : Addr} {xs : List V} (h : TsO K O H a xs) : SqT K H a xs := .inl (.inl h.2)

/-! d stands at v, in objects that are none of O -/
mutual
inductive Rep (K : PySem.W.Frag) (O : Addr → Prop) (H : Hp) : V → D → Prop
  | non : Rep K O H .non .none
  | bl (b : Bool) : Rep K O H (.bl b) (.bool b)
  | int (i : Int) : Rep K O H (.int i) (.int i)
  | str (x : Str) : Rep K O H (.str x) (.str x)
  | lst {a : Addr} {xs : List V} {ds : List D} (h : LsO K O H a xs) (hs : Reps K O H xs ds) : Rep K O H (.ref a) (.list ds)
  | tup {a : Addr} {xs : List V} {ds : List D} (h : TsO K O H a xs) (hs : Reps K O H xs ds) : Rep K O H (.ref a) (.tuple ds)
  | dct {a : Addr} {kvs : List (List Key × V)} {ps : List (D × D)} (ho : ¬ O a) (h : H a = some (.dT kvs)) (hs : RepK K O H kvs ps) : Rep K O H (.ref a) (.dict ps)
  | dci {a : Addr} {kvs : List (Key × V)} {ps : List (D × D)} (ho : ¬ O a) (h : H a = some (.dK kvs)) (hs : RepI K O H kvs ps) (hn : ps ≠ []) : Rep K O H (.ref a) (.dict ps)
inductive Reps (K : PySem.W.Frag) (O : Addr → Prop) (H : Hp) : List V → List D → Prop
  | nil : Reps K O H [] []
  | cons {v : V} {vs : List V} {d : D} {ds : List D} (h : Rep K O H v d) (hs : Reps K O H vs ds) : Reps K O H (v :: vs) (d :: ds)
inductive RepK (K : PySem.W.Frag) (O : Addr → Prop) (H : Hp) : List (List Key × V) → List (D × D) → Prop
  | nil : RepK K O H [] []
  | cons {ns : List Int} {v : V} {kvs : List (List Key × V)} {d : D} {ps : List (D × D)} (h : Rep K O H v d) (hs : RepK K O H kvs ps) :
      RepK K O H ((ns.map Sum.inl, v) :: kvs) ((.tuple (ns.map PyData.int), d) :: ps)
inductive RepI (K : PySem.W.Frag) (O : Addr → Prop) (H : Hp) : List (Key × V) → List (D × D) → Prop
  | nil : RepI K O H [] []
  | cons {n : Int} {v : V} {kvs : List (Key × V)} {d : D} {ps : List (D × D)} (h : Rep K O H v d) (hs : RepI K O H kvs ps) :
      RepI K O H ((Sum.inl n, v) :: kvs) ((.int n, d) :: ps)
end
/-- a list or dict that stands nowhere else -/
inductive Own (K : PySem.W.Frag) (O : Addr → Prop) (H : Hp) : Addr → D → Prop
  | lst {a : Addr} {xs : List V} {ds : List D} (h : H a = some (.lst xs)) (hs : Reps K O H xs ds) : Own K O H a (.list ds)
  | dct {a : Addr} {kvs : List (List Key × V)} {ps : List (D × D)} (h : H a = some (.dT kvs)) (hs : RepK K O H kvs ps) : Own K O H a (.dict ps)
  | dci {a : Addr} {kvs : List (Key × V)} {ps : List (D × D)} (h : H a = some (.dK kvs)) (hs : RepI K O H kvs ps) (hn : ps ≠ []) : Own K O H a (.dict ps)

/-! what is none of O stays -/
def Keep (O : Addr → Prop) (H H' : Hp) : Prop := ∀ b o, ¬ O b → H b = some o → H' b = some o
theorem Keep.of {O : Addr → Prop} {H H' : Hp} (s : Same H H') : Keep O H H' := fun b o _ h => s b o h
theorem Keep.rd {O : Addr → Prop} {H H' : Hp} {a : Addr} {u : HO} (e : Keep O H H') (ho : ¬ O a) (h : Rd H a u) : Rd H' a u := by
  rcases h with h | ⟨o, h⟩
  · exact .inl (e _ _ ho h)
  · exact .inr ⟨o, e _ _ ho h⟩
theorem LsO.keep {O : Addr → Prop} {K : PySem.W.Frag} {H H' : Hp} {a : Addr} {xs : List V} (e : Keep O H H') (h : LsO K O H a xs) : LsO K O H' a xs :=
  h.elim (fun z => .inl ⟨z.1, e.rd z.1 z.2⟩) .inr
theorem TsO.keep {O : Addr → Prop} {K : PySem.W.Frag} {H H' : Hp} {a : Addr} {xs : List V} (e : Keep O H H') (h : TsO K O H a xs) : TsO K O H' a xs := ⟨h.1, e _ _ h.1 h.2⟩
theorem rd_none {H : Hp} {a : Addr} {u : HO} (h : Rd H a u) (z : H a = none) : False := by
  rcases h with h | ⟨o, h⟩ <;> (rw [z] at h; cases h)
section
variable {K : PySem.W.Frag} {O O' : Addr → Prop} {H H' : Hp}
theorem LsO.weak (w : ∀ b, O' b → O b ∨ H b = none) {a : Addr} {xs : List V} (h : LsO K O H a xs) : LsO K O' H a xs :=
  h.elim (fun z => .inl ⟨fun q => (w _ q).elim z.1 (rd_none z.2), z.2⟩) .inr
theorem TsO.weak (w : ∀ b, O' b → O b ∨ H b = none) {a : Addr} {xs : List V} (h : TsO K O H a xs) : TsO K O' H a xs := ⟨fun q => (w _ q).elim h.1 (rd_none (.inl h.2)), h.2⟩
mutual
theorem Rep.keep (e : Keep O H H') : ∀ {v : V} {d : D}, Rep K O H v d → Rep K O H' v d
  | _, _, .non => .non
  | _, _, .bl b => .bl b
  | _, _, .int i => .int i
  | _, _, .str x => .str x
  | _, _, .lst h hs => .lst (h.keep e) (Reps.keep e hs)
  | _, _, .tup h hs => .tup (h.keep e) (Reps.keep e hs)
  | _, _, .dct ho h hs => .dct ho (e _ _ ho h) (RepK.keep e hs)
  | _, _, .dci ho h hs hn => .dci ho (e _ _ ho h) (RepI.keep e hs) hn
theorem Reps.keep (e : Keep O H H') : ∀ {vs : List V} {ds : List D}, Reps K O H vs ds → Reps K O H' vs ds
  | _, _, .nil => .nil
  | _, _, .cons h hs => .cons (Rep.keep e h) (Reps.keep e hs)
theorem RepK.keep (e : Keep O H H') : ∀ {vs : List (List Key × V)} {ds : List (D × D)}, RepK K O H vs ds → RepK K O H' vs ds
  | _, _, .nil => .nil
  | _, _, .cons h hs => .cons (Rep.keep e h) (RepK.keep e hs)
theorem RepI.keep (e : Keep O H H') : ∀ {vs : List (Key × V)} {ds : List (D × D)}, RepI K O H vs ds → RepI K O H' vs ds
  | _, _, .nil => .nil
  | _, _, .cons h hs => .cons (Rep.keep e h) (RepI.keep e hs)
end
mutual
/-- fewer are shut out; and those shut out anew aren't there -/
theorem Rep.weak (w : ∀ b, O' b → O b ∨ H b = none) : ∀ {v : V} {d : D}, Rep K O H v d → Rep K O' H v d
  | _, _, .non => .non
  | _, _, .bl b => .bl b
  | _, _, .int i => .int i
  | _, _, .str x => .str x
  | _, _, .lst h hs => .lst (h.weak w) (Reps.weak w hs)
  | _, _, .tup h hs => .tup (h.weak w) (Reps.weak w hs)
  | _, _, .dct ho h hs => .dct (fun q => by
      rcases w _ q with z | z
      · exact ho z
      · rw [z] at h; cases h) h (RepK.weak w hs)
  | _, _, .dci ho h hs hn => .dci (fun q => by
      rcases w _ q with z | z
      · exact ho z
      · rw [z] at h; cases h) h (RepI.weak w hs) hn
theorem Reps.weak (w : ∀ b, O' b → O b ∨ H b = none) : ∀ {vs : List V} {ds : List D}, Reps K O H vs ds → Reps K O' H vs ds
  | _, _, .nil => .nil
  | _, _, .cons h hs => .cons (Rep.weak w h) (Reps.weak w hs)
theorem RepK.weak (w : ∀ b, O' b → O b ∨ H b = none) : ∀ {vs : List (List Key × V)} {ds : List (D × D)}, RepK K O H vs ds → RepK K O' H vs ds
  | _, _, .nil => .nil
  | _, _, .cons h hs => .cons (Rep.weak w h) (RepK.weak w hs)
theorem RepI.weak (w : ∀ b, O' b → O b ∨ H b = none) : ∀ {vs : List (Key × V)} {ds : List (D × D)}, RepI K O H vs ds → RepI K O' H vs ds
  | _, _, .nil => .nil
  | _, _, .cons h hs => .cons (Rep.weak w h) (RepI.weak w hs)
end
theorem Own.keep (e : Keep O H H') {a : Addr} (ha : ∀ o, H a = some o → H' a = some o) {d : D} (h : Own K O H a d) : Own K O H' a d := by
  cases h with
  | lst h hs => exact .lst (ha _ h) (hs.keep e)
  | dct h hs => exact .dct (ha _ h) (hs.keep e)
  | dci h hs hn => exact .dci (ha _ h) (hs.keep e) hn
theorem Own.same (e : Same H H') {a : Addr} {d : D} (h : Own K O H a d) : Own K O H' a d := h.keep (.of e) fun o q => e a o q
theorem Own.weak (w : ∀ b, O' b → O b ∨ H b = none) {a : Addr} {d : D} (h : Own K O H a d) : Own K O' H a d := by
  cases h with
  | lst h hs => exact .lst h (hs.weak w)
  | dct h hs => exact .dct h (hs.weak w)
  | dci h hs hn => exact .dci h (hs.weak w) hn
theorem Own.rep {a : Addr} {d : D} (h : Own K O H a d) (ho : ¬ O a) : Rep K O H (.ref a) d := by
  cases h with
  | lst h hs => exact .lst (.inl ⟨ho, .inl h⟩) hs
  | dct h hs => exact .dct ho h hs
  | dci h hs hn => exact .dci ho h hs hn
theorem Own.there {a : Addr} {d : D} (h : Own K O H a d) : H a ≠ none := by
  cases h with
  | lst h _ => rw [h]; intro z; cases z
  | dct h _ => rw [h]; intro z; cases z
  | dci h _ _ => rw [h]; intro z; cases z
theorem Own.ownD {a : Addr} {d : D} (h : Own K O H a d) : BP.ownD d = true := by cases h <;> rfl

theorem Rep.same (e : Same H H') {v : V} {d : D} (h : Rep K O H v d) : Rep K O H' v d := h.keep (.of e)
theorem Reps.same (e : Same H H') {v : List V} {d : List D} (h : Reps K O H v d) : Reps K O H' v d := h.keep (.of e)
theorem RepK.same (e : Same H H') {v : List (List Key × V)} {d : List (D × D)} (h : RepK K O H v d) : RepK K O H' v d := h.keep (.of e)

/-! lists of them -/
theorem Reps.length : ∀ {vs : List V} {ds : List D}, Reps K O H vs ds → vs.length = ds.length
  | _, _, .nil => rfl
  | _, _, .cons _ hs => by rw [List.length_cons, List.length_cons, Reps.length hs]
theorem RepI.length : ∀ {vs : List (Key × V)} {ds : List (D × D)}, RepI K O H vs ds → vs.length = ds.length
  | _, _, .nil => rfl
  | _, _, .cons _ hs => by rw [List.length_cons, List.length_cons, RepI.length hs]
theorem RepK.length : ∀ {vs : List (List Key × V)} {ds : List (D × D)}, RepK K O H vs ds → vs.length = ds.length
  | _, _, .nil => rfl
  | _, _, .cons _ hs => by rw [List.length_cons, List.length_cons, RepK.length hs]
theorem Reps.append : ∀ {vs ws : List V} {ds es : List D}, Reps K O H vs ds → Reps K O H ws es → Reps K O H (vs ++ ws) (ds ++ es)
  | _, _, _, _, .nil, s => s
  | _, _, _, _, .cons h hs, s => .cons h (Reps.append hs s)
theorem Reps.take : ∀ {vs : List V} {ds : List D} (n : Nat), Reps K O H vs ds → Reps K O H (vs.take n) (ds.take n)
  | _, _, 0, _ => .nil
  | _, _, _ + 1, .nil => .nil
  | _, _, n + 1, .cons h hs => .cons h (Reps.take n hs)
theorem Reps.drop : ∀ {vs : List V} {ds : List D} (n : Nat), Reps K O H vs ds → Reps K O H (vs.drop n) (ds.drop n)
  | _, _, 0, r => r
  | _, _, _ + 1, .nil => .nil
  | _, _, n + 1, .cons h hs => Reps.drop n hs
theorem Reps.get : ∀ {vs : List V} {ds : List D} {i : Nat} {d : D}, Reps K O H vs ds → ds[i]? = some d → ∃ v, vs[i]? = some v ∧ Rep K O H v d
  | _, _, _, _, .nil, e => by simp at e
  | _, _, 0, _, .cons h _, e => by simp at e; subst e; exact ⟨_, rfl, h⟩
  | _, _, i + 1, _, .cons _ hs, e => by
    obtain ⟨v, h1, h2⟩ := Reps.get (i := i) hs (by simpa using e)
    exact ⟨v, by simpa using h1, h2⟩
theorem Reps.get' : ∀ {vs : List V} {ds : List D} {i : Nat} {v : V}, Reps K O H vs ds → vs[i]? = some v → ∃ d, ds[i]? = some d ∧ Rep K O H v d
  | _, _, _, _, .nil, e => by simp at e
  | _, _, 0, _, .cons h _, e => by simp at e; subst e; exact ⟨_, rfl, h⟩
  | _, _, i + 1, _, .cons _ hs, e => by
    obtain ⟨v, h1, h2⟩ := Reps.get' (i := i) hs (by simpa using e)
    exact ⟨v, by simpa using h1, h2⟩
theorem Reps.set {v : V} {d : D} (r : Rep K O H v d) : ∀ {vs : List V} {ds : List D} (i : Nat), Reps K O H vs ds → Reps K O H (vs.set i v) (ds.set i d)
  | _, _, _, .nil => .nil
  | _, _, 0, .cons _ t => .cons r t
  | _, _, i + 1, .cons q t => .cons q (Reps.set r i t)
theorem Reps.snoc {v : V} {d : D} (r : Rep K O H v d) {vs : List V} {ds : List D} (h : Reps K O H vs ds) : Reps K O H (vs ++ [v]) (ds ++ [d]) := h.append (.cons r .nil)
theorem Reps.reverse : ∀ {vs : List V} {ds : List D}, Reps K O H vs ds → Reps K O H vs.reverse ds.reverse
  | _, _, .nil => .nil
  | _, _, .cons h hs => by
    rw [List.reverse_cons, List.reverse_cons]
    exact (Reps.reverse hs).append (.cons h .nil)
theorem Reps.rep : ∀ {vs : List V} {ds : List D} (n : Nat), Reps K O H vs ds → Reps K O H (List.replicate n vs).flatten (List.replicate n ds).flatten
  | _, _, 0, _ => .nil
  | _, _, n + 1, h => by
    rw [List.replicate_succ, List.replicate_succ, List.flatten_cons, List.flatten_cons]
    exact h.append (Reps.rep n h)
theorem Reps.cut {vs : List V} {ds : List D} (lo hi : Option Int) (h : Reps K O H vs ds) : Reps K O H (cutV vs lo hi) (cutD ds lo hi) := by
  unfold cutV cutD
  rw [h.length]
  exact (h.drop _).take _
theorem Reps.ints : ∀ {vs : List V} {ns : List Int}, Reps K O H vs (ns.map PyData.int) → vs = ns.map V.int
  | _, [], .nil => rfl
  | _, n :: ns, .cons h hs => by
    cases h
    rw [Reps.ints hs]
    rfl
theorem Reps.of_ints : ∀ ns : List Int, Reps K O H (ns.map V.int) (ns.map PyData.int)
  | [] => .nil
  | n :: ns => .cons (.int n) (Reps.of_ints ns)
theorem intsOf_eq : ∀ {ds : List D} {ns : List Int}, intsOf ds = some ns → ds = ns.map PyData.int
  | [], ns, h => by simp [intsOf] at h; subst h; rfl
  | d :: ds, ns, h => by
    cases d with
    | int i =>
      simp only [intsOf, Option.map_eq_some_iff] at h
      obtain ⟨m, h1, h2⟩ := h
      subst h2
      rw [intsOf_eq h1]
      rfl
    | _ => simp [intsOf] at h
theorem boolsOf_eq : ∀ {ds : List D} {ns : List Bool}, boolsOf ds = some ns → ds = ns.map PyData.bool
  | [], ns, h => by simp [boolsOf] at h; subst h; rfl
  | d :: ds, ns, h => by
    cases d with
    | bool i =>
      simp only [boolsOf, Option.map_eq_some_iff] at h
      obtain ⟨m, h1, h2⟩ := h
      subst h2
      rw [boolsOf_eq h1]
      rfl
    | _ => simp [boolsOf] at h
theorem Reps.bools : ∀ {vs : List V} {ns : List Bool}, Reps K O H vs (ns.map PyData.bool) → vs = ns.map V.bl
  | _, [], .nil => rfl
  | _, n :: ns, .cons h hs => by
    cases h
    rw [Reps.bools hs]
    rfl

/-! d stands at v, or v is an own list or dict -/
inductive RB (K : PySem.W.Frag) (O : Addr → Prop) (H : Hp) : V → D → Prop
  | r {v : V} {d : D} (h : Rep K O H v d) : RB K O H v d
  | o {a : Addr} {d : D} (ho : O a) (h : Own K O H a d) : RB K O H (.ref a) d
inductive RBs (K : PySem.W.Frag) (O : Addr → Prop) (H : Hp) : List V → List D → Prop
  | nil : RBs K O H [] []
  | cons {v : V} {vs : List V} {d : D} {ds : List D} (h : RB K O H v d) (hs : RBs K O H vs ds) : RBs K O H (v :: vs) (d :: ds)
theorem RB.same (e : Same H H') {v : V} {d : D} (h : RB K O H v d) : RB K O H' v d := by
  cases h with
  | r h => exact .r (h.same e)
  | o ho h => exact .o ho (h.same e)
theorem RB.list {v : V} {ds : List D} (h : RB K O H v (.list ds)) : ∃ a xs, v = .ref a ∧ SqL K H a xs ∧ Reps K O H xs ds := by
  cases h with
  | r h => cases h with
    | lst h hs => exact ⟨_, _, rfl, h.sq, hs⟩
  | o ho h => cases h with
    | lst h hs => exact ⟨_, _, rfl, .inl (.inl h), hs⟩
theorem RB.tuple {v : V} {ds : List D} (h : RB K O H v (.tuple ds)) : ∃ a xs, v = .ref a ∧ H a = some (.tup xs) ∧ Reps K O H xs ds := by
  cases h with
  | r h => cases h with
    | tup h hs => exact ⟨_, _, rfl, h.2, hs⟩
  | o ho h => cases h
theorem RB.tupleR {v : V} {ds : List D} (h : RB K O H v (.tuple ds)) : Rep K O H v (.tuple ds) := by
  cases h with
  | r h => exact h
  | o ho h => cases h
/-- a dict: its keys are tuples of ints, or (some) ints -/
inductive Dic (K : PySem.W.Frag) (O : Addr → Prop) (H : Hp) (a : Addr) (ps : List (D × D)) : Prop
  | t {kvs : List (List Key × V)} (h : H a = some (.dT kvs)) (hs : RepK K O H kvs ps)
  | k {kvs : List (Key × V)} (h : H a = some (.dK kvs)) (hs : RepI K O H kvs ps) (hn : ps ≠ [])
theorem RB.dict {v : V} {ps : List (D × D)} (h : RB K O H v (.dict ps)) : ∃ a, v = .ref a ∧ Dic K O H a ps := by
  cases h with
  | r h => cases h with
    | dct ho h hs => exact ⟨_, rfl, .t h hs⟩
    | dci ho h hs hn => exact ⟨_, rfl, .k h hs hn⟩
  | o ho h => cases h with
    | dct h hs => exact ⟨_, rfl, .t h hs⟩
    | dci h hs hn => exact ⟨_, rfl, .k h hs hn⟩
theorem RB.int {v : V} {i : Int} (h : RB K O H v (.int i)) : v = .int i := by
  cases h with
  | r h => cases h; rfl
  | o ho h => cases h
theorem RB.bool {v : V} {i : Bool} (h : RB K O H v (.bool i)) : v = .bl i := by
  cases h with
  | r h => cases h; rfl
  | o ho h => cases h
theorem RB.str {v : V} {i : Str} (h : RB K O H v (.str i)) : v = .str i := by
  cases h with
  | r h => cases h; rfl
  | o ho h => cases h
theorem RB.none {v : V} (h : RB K O H v .none) : v = .non := by
  cases h with
  | r h => cases h; rfl
  | o ho h => cases h
/-! data as the library's equality reads them -/
mutual
theorem Rep.dp : ∀ {v : V} {d : D}, Rep K O H v d → d.canLay0 = true → Dp K H v d
  | _, _, .non, _ => .non
  | _, _, .bl b, _ => .bl b
  | _, _, .int i, _ => .int i
  | _, _, .str x, _ => .str x
  | _, _, .lst h hs, c => .lst h.sq (Reps.dp hs (by simpa [PyData.canLay0] using c))
  | _, _, .tup h hs, c => .tup h.sq (Reps.dp hs (by simpa [PyData.canLay0] using c))
  | _, _, .dct _ _ _, c => by simp [PyData.canLay0] at c
  | _, _, .dci _ _ _ _, c => by simp [PyData.canLay0] at c
theorem Reps.dp : ∀ {vs : List V} {ds : List D}, Reps K O H vs ds → PyData.canLayAll0 ds = true → DpAll K H vs ds
  | _, _, .nil, _ => .nil
  | _, _, .cons (d := d) (ds := ds) h hs, c => by
    have c' : PyData.canLay0 d = true ∧ PyData.canLayAll0 ds = true := by simpa [PyData.canLayAll0] using c
    exact .cons (Rep.dp h c'.1) (Reps.dp hs c'.2)
end
theorem RB.dp {v : V} {d : D} (h : RB K O H v d) (c : d.canLay0 = true) : Dp K H v d := by
  cases h with
  | r h => exact h.dp c
  | o ho h => cases h with
    | lst h hs => exact .lst (.inl (.inl h)) (hs.dp (by simpa [PyData.canLay0] using c))
    | dct h hs => simp [PyData.canLay0] at c
    | dci h hs _ => simp [PyData.canLay0] at c
end
/-! ### slots -/
structure Sok (K : PySem.W.Frag) (O : Addr → Prop) (σ : L2.St) (ρ : Env) (H : Hp) : Prop where
  len : σ.length = ρ.length
  val : ∀ (i : Nat) (d : D), ρ[i]? = some (Slot.val d) → ∃ v, σ[i]? = some (some v) ∧ Rep K O H v d
  own : ∀ (i : Nat) (d : D), ρ[i]? = some (Slot.own d) → ∃ a, σ[i]? = some (some (.ref a)) ∧ O a ∧ Own K O H a d
  inj : ∀ (i j : Nat) (d e : D) (a : Addr), ρ[i]? = some (Slot.own d) → ρ[j]? = some (Slot.own e) → σ[i]? = some (some (.ref a)) → σ[j]? = some (some (.ref a)) → i = j
  dom : ∀ a, O a → H a ≠ none
section
variable {K : PySem.W.Frag} {O O' : Addr → Prop} {H H' : Hp} {σ : L2.St} {ρ : Env}
theorem Sok.same (e : Same H H') (h : Sok K O σ ρ H) : Sok K O σ ρ H' :=
  ⟨h.len, fun i d q => let ⟨v, a, b⟩ := h.val i d q; ⟨v, a, b.same e⟩, fun i d q => let ⟨a, x, y, z⟩ := h.own i d q; ⟨a, x, y, z.same e⟩, h.inj,
    fun a oa z => h.dom a oa (by
      cases q : H a with
      | none => rfl
      | some u => rw [e a u q] at z; cases z)⟩
/-- what is wanted behind a term, in two strengths -/
def EB (K : PySem.W.Frag) (O : Addr → Prop) (E : Nat → Hp → Prop) (r : Res D) (Q : VK) (H : Hp) : Prop := match r with
  | .ok d => ∀ v H', Same H H' → RB K O H' v d → Q v H'
  | .exc c => ∀ H', Same H H' → E c H'
  | .bad => False
def Fresh (K : PySem.W.Frag) (O : Addr → Prop) (H H' : Hp) (v : V) (d : D) : Prop := ∃ a, v = .ref a ∧ H a = none ∧ Own K (fun b => O b ∨ b = a) H' a d
def ES (K : PySem.W.Frag) (O : Addr → Prop) (fr : Bool) (E : Nat → Hp → Prop) (r : Res D) (Q : VK) (H : Hp) : Prop := match r with
  | .ok d => ∀ v H', Same H H' → Rep K O H' v d → (fr = true → ownD d = true → Fresh K O H H' v d) → Q v H'
  | .exc c => ∀ H', Same H H' → E c H'
  | .bad => False
def EBs (K : PySem.W.Frag) (O : Addr → Prop) (E : Nat → Hp → Prop) (r : Res (List D)) (Q : List V → Hp → Prop) (H : Hp) : Prop := match r with
  | .ok d => ∀ v H', Same H H' → RBs K O H' v d → Q v H'
  | .exc c => ∀ H', Same H H' → E c H'
  | .bad => False
def ESs (K : PySem.W.Frag) (O : Addr → Prop) (E : Nat → Hp → Prop) (r : Res (List D)) (Q : List V → Hp → Prop) (H : Hp) : Prop := match r with
  | .ok d => ∀ v H', Same H H' → Reps K O H' v d → Q v H'
  | .exc c => ∀ H', Same H H' → E c H'
  | .bad => False
def ET (E : Nat → Hp → Prop) (r : Res Bool) (Q : Bool → Hp → Prop) (H : Hp) : Prop := match r with
  | .ok t => ∀ H', Same H H' → Q t H'
  | .exc c => ∀ H', Same H H' → E c H'
  | .bad => False
variable {E : Nat → Hp → Prop}
theorem Fresh.weak {v : V} {d : D} {H1 : Hp} (e : Same H H1) (h : Fresh K O H1 H' v d) : Fresh K O H H' v d := by
  obtain ⟨a, h1, h2, h3⟩ := h
  exact ⟨a, h1, e.free h2, h3⟩
theorem ES.same {fr : Bool} {r : Res D} {Q : VK} (e : Same H H') (h : ES K O fr E r Q H) : ES K O fr E r Q H' := by
  cases r with
  | ok d => exact fun v H2 s r f => h v H2 (e.trans s) r fun q q2 => (f q q2).weak e
  | exc c => exact fun H2 s => h H2 (e.trans s)
  | bad => exact h
theorem EB.same {r : Res D} {Q : VK} (e : Same H H') (h : EB K O E r Q H) : EB K O E r Q H' := by
  cases r with
  | ok d => exact fun v H2 s r => h v H2 (e.trans s) r
  | exc c => exact fun H2 s => h H2 (e.trans s)
  | bad => exact h
theorem ESs.same {r : Res (List D)} {Q : List V → Hp → Prop} (e : Same H H') (h : ESs K O E r Q H) : ESs K O E r Q H' := by
  cases r with
  | ok d => exact fun v H2 s r => h v H2 (e.trans s) r
  | exc c => exact fun H2 s => h H2 (e.trans s)
  | bad => exact h
theorem EBs.same {r : Res (List D)} {Q : List V → Hp → Prop} (e : Same H H') (h : EBs K O E r Q H) : EBs K O E r Q H' := by
  cases r with
  | ok d => exact fun v H2 s r => h v H2 (e.trans s) r
  | exc c => exact fun H2 s => h H2 (e.trans s)
  | bad => exact h
theorem ET.same {r : Res Bool} {Q : Bool → Hp → Prop} (e : Same H H') (h : ET E r Q H) : ET E r Q H' := by
  cases r with
  | ok d => exact fun H2 s => h H2 (e.trans s)
  | exc c => exact fun H2 s => h H2 (e.trans s)
  | bad => exact h
theorem Same.refl' (H : Hp) : Same H H := fun _ _ h => h
/-- first a part, borrowed; then the rest -/
theorem EB.bindS {fr : Bool} {r : Res D} {f : D → Res D} {Q : VK} (h : ES K O fr E (r.bind f) Q H) : EB K O E r (fun v H1 => ∃ d, RB K O H1 v d ∧ Same H H1 ∧ ES K O fr E (f d) Q H1) H := by
  cases r with
  | ok d => exact fun v H1 s rb => ⟨d, rb, s, h.same s⟩
  | exc c => exact h
  | bad => exact h
theorem EBs.bindS {fr : Bool} {r : Res (List D)} {f : List D → Res D} {Q : VK} (h : ES K O fr E (r.bind f) Q H) : EBs K O E r (fun v H1 => ∃ d, RBs K O H1 v d ∧ Same H H1 ∧ ES K O fr E (f d) Q H1) H := by
  cases r with
  | ok d => exact fun v H1 s rb => ⟨d, rb, s, h.same s⟩
  | exc c => exact h
  | bad => exact h
theorem ESs.bindS {fr : Bool} {r : Res (List D)} {f : List D → Res D} {Q : VK} (h : ES K O fr E (r.bind f) Q H) : ESs K O E r (fun v H1 => ∃ d, Reps K O H1 v d ∧ Same H H1 ∧ ES K O fr E (f d) Q H1) H := by
  cases r with
  | ok d => exact fun v H1 s rb => ⟨d, rb, s, h.same s⟩
  | exc c => exact h
  | bad => exact h
theorem ET.bindS {fr : Bool} {r : Res Bool} {f : Bool → Res D} {Q : VK} (h : ES K O fr E (r.bind f) Q H) : ET E r (fun v H1 => Same H H1 ∧ ES K O fr E (f v) Q H1) H := by
  cases r with
  | ok d => exact fun H1 s => ⟨s, h.same s⟩
  | exc c => exact h
  | bad => exact h
theorem ET.bindT {r : Res Bool} {f : Bool → Res Bool} {Q : Bool → Hp → Prop} (h : ET E (r.bind f) Q H) : ET E r (fun v H1 => Same H H1 ∧ ET E (f v) Q H1) H := by
  cases r with
  | ok d => exact fun H1 s => ⟨s, h.same s⟩
  | exc c => exact h
  | bad => exact h
theorem ES.toEB {fr : Bool} {r : Res D} {Q : VK} (h : EB K O E r Q H) : ES K O fr E r Q H := by
  cases r with
  | ok d => exact fun v H1 s rb _ => h v H1 s (.r rb)
  | exc c => exact h
  | bad => exact h
theorem ES.mono {fr : Bool} {r : Res D} {Q Q' : VK} (h : ES K O fr E r Q H) (w : ∀ v H', Same H H' → Q v H' → Q' v H') : ES K O fr E r Q' H := by
  cases r with
  | ok d => exact fun v H1 s rb f => w v H1 s (h v H1 s rb f)
  | exc c => exact h
  | bad => exact h
theorem EB.mono {r : Res D} {Q Q' : VK} (h : EB K O E r Q H) (w : ∀ v H', Same H H' → Q v H' → Q' v H') : EB K O E r Q' H := by
  cases r with
  | ok d => exact fun v H1 s rb => w v H1 s (h v H1 s rb)
  | exc c => exact h
  | bad => exact h
theorem EBs.mono {r : Res (List D)} {Q Q' : List V → Hp → Prop} (h : EBs K O E r Q H) (w : ∀ v H', Same H H' → Q v H' → Q' v H') : EBs K O E r Q' H := by
  cases r with
  | ok d => exact fun v H1 s rb => w v H1 s (h v H1 s rb)
  | exc c => exact h
  | bad => exact h
theorem ESs.mono {r : Res (List D)} {Q Q' : List V → Hp → Prop} (h : ESs K O E r Q H) (w : ∀ v H', Same H H' → Q v H' → Q' v H') : ESs K O E r Q' H := by
  cases r with
  | ok d => exact fun v H1 s rb => w v H1 s (h v H1 s rb)
  | exc c => exact h
  | bad => exact h
end
end BP
/-! The rules by values: operators, comparisons, items, slices, calls of built-ins. -/
namespace BP
open PySem PySem.Spec PyProof.Rows L2

theorem same_upd {H : Hp} {p : Addr} {o : HO} (h : H p = none) : Same H (upd H p o) := fun b x e => by
  rw [upd_ne (ne_of_none e h)]
  exact e
def Dom (O : Addr → Prop) (H : Hp) : Prop := ∀ a, O a → H a ≠ none
theorem Dom.not {O : Addr → Prop} {H : Hp} (d : Dom O H) {p : Addr} (h : H p = none) : ¬ O p := fun z => d p z h
theorem Dom.same {O : Addr → Prop} {H H' : Hp} (d : Dom O H) (s : Same H H') : Dom O H' := fun a oa z => d a oa (s.free z)
section
variable {K : PySem.W.Frag} {O : Addr → Prop} {H : Hp} {E : Nat → Hp → Prop} {Q : VK} {xs : List V} {ds : List D}
theorem new_tup (dm : Dom O H) {p : Addr} (h : H p = none) (r : Reps K O H xs ds) : Rep K O (upd H p (.tup xs)) (.ref p) (.tuple ds) :=
  .tup ⟨dm.not h, upd_same⟩ (r.same (same_upd h))
theorem new_lst (dm : Dom O H) {p : Addr} (h : H p = none) (r : Reps K O H xs ds) : Rep K O (upd H p (.lst xs)) (.ref p) (.list ds) :=
  .lst (.inl ⟨dm.not h, .inl upd_same⟩) (r.same (same_upd h))
theorem new_own {p : Addr} (h : H p = none) (r : Reps K O H xs ds) : Own K (fun b => O b ∨ b = p) (upd H p (.lst xs)) p (.list ds) :=
  .lst upd_same ((r.weak fun b z => z.elim .inl fun e => .inr (by rw [e]; exact h)).same (same_upd h))
theorem ES.newTup {fr : Bool} (dm : Dom O H) (h : ES K O fr E (.ok (.tuple ds)) Q H) (r : Reps K O H xs ds) : ∀ p, H p = none → Q (.ref p) (upd H p (.tup xs)) :=
  fun p hp => h _ _ (same_upd hp) (new_tup dm hp r) fun _ z => nomatch z
theorem ES.newLst {fr : Bool} (dm : Dom O H) (h : ES K O fr E (.ok (.list ds)) Q H) (r : Reps K O H xs ds) : ∀ p, H p = none → Q (.ref p) (upd H p (.lst xs)) :=
  fun p hp => h _ _ (same_upd hp) (new_lst dm hp r) fun _ _ => ⟨p, rfl, hp, new_own hp r⟩
theorem ES.int {fr : Bool} {i : Int} (h : ES K O fr E (.ok (.int i)) Q H) : Q (.int i) H := h _ _ (Same.refl H) (.int i) fun _ z => nomatch z
theorem ES.bool {fr : Bool} {i : Bool} (h : ES K O fr E (.ok (.bool i)) Q H) : Q (.bl i) H := h _ _ (Same.refl H) (.bl i) fun _ z => nomatch z
theorem ES.str {fr : Bool} {i : Str} (h : ES K O fr E (.ok (.str i)) Q H) : Q (.str i) H := h _ _ (Same.refl H) (.str i) fun _ z => nomatch z
theorem ES.none {fr : Bool} (h : ES K O fr E (.ok .none) Q H) : Q .non H := h _ _ (Same.refl H) .non fun _ z => nomatch z
theorem ES.rep {fr : Bool} {d : D} {v : V} (h : ES K O fr E (.ok d) Q H) (r : Rep K O H v d) (n : fr = true → ownD d = false) : Q v H := h _ _ (Same.refl H) r fun z z2 => by rw [n z] at z2; cases z2
end

/-- what an operator asks: the data at its sides -/
def rOp (K : PySem.W.Frag) (fr : Bool) (E : Nat → Hp → Prop) (g : D → D → Res D) : R2 := fun x y H Q =>
  ∃ O a b, Dom O H ∧ RB K O H x a ∧ RB K O H y b ∧ ES K O fr E (g a b) Q H
section
variable {X : Cx} {E : Nat → Hp → Prop}
/-- lists, wherever they stand -/
theorem op_catL : OpR X (binaryOp .Add) (fun x y H Q => ∃ l b xs zs, x = .ref l ∧ y = .ref b ∧ SqL X.K H l xs ∧ SqL X.K H b zs ∧ xs.length + zs.length ≤ sizeLine ∧ ∀ p, H p = none → Q (.ref p) (upd H p (.lst (xs ++ zs)))) := by
  intro pins s σ H x y v u Q I rx ry h
  obtain ⟨l, b, xs, zs, rfl, rfl, hH, hB, hz, q⟩ := h
  cases rx
  cases ry
  obtain ⟨its, r, ⟨⟨cls, dd, data, sl⟩, n, ho, hc, _, hd⟩, _⟩ := I.list hH
  obtain ⟨its2, r2, ⟨⟨cls2, dd2, data2, sl2⟩, n2, ho2, hc2, _, hd2⟩, _⟩ := I.list hB
  simp only at hc hd hc2 hd2
  subst hc hd hc2 hd2
  have l1 := r.length
  have l2 := r2.length
  have e : its.toArray ++ its2.toArray = (its ++ its2).toArray := by simp
  refine concat_meets ⟨_, ho, rfl⟩ ⟨_, ho2, rfl⟩ noFill_list_add seq_list_add PySem.F.slot_list_add PySem.F.entry_list_add (PySem.F.args_list_add_2 _ _) (list_addW l b its.toArray its2.toArray n n2 dd dd2 sl sl2 (by simp; omega)) ⟨ho, ho2, ?_⟩
  rw [e]
  exact ⟨.ref _, _, I.lnew (t' := s.toks) (r.append r2) (by rw [List.length_append]; exact hz), rfl, q _ I.fresh⟩
theorem op_addD {fr : Bool} : OpR X (binaryOp .Add) (rOp X.K fr E (evalBin .add)) := by
  intro pins s σ H x y v u Q I rx ry h
  obtain ⟨O, a, b, dm, ra, rb, q⟩ := h
  cases a with
  | int i => cases b with
    | int j => exact op_add pins s σ H x y v u Q I rx ry ⟨i, j, ra.int, rb.int, q.int⟩
    | _ => exact q.elim
  | tuple xs => cases b with
    | tuple ys =>
      simp only [evalBin] at q
      split at q
      · rename_i hz
        obtain ⟨p1, vs, e1, h1, r1⟩ := ra.tuple
        obtain ⟨p2, ws, e2, h2, r2⟩ := rb.tuple
        refine op_catA pins s σ H x y v u Q I rx ry ⟨p1, p2, vs, ws, e1, e2, .of h1, .of h2, by rw [r1.length, r2.length]; exact hz, fun z => ?_, fun _ z => ?_, fun _ _ => q.newTup dm (r1.append r2)⟩
        · subst z
          cases r1
          exact q.rep (by rw [← e2]; exact rb.tupleR) fun _ => rfl
        · subst z
          cases r2
          rw [List.append_nil] at q
          exact q.rep (by rw [← e1]; exact ra.tupleR) fun _ => rfl
      · exact q.elim
    | _ => exact q.elim
  | list xs => cases b with
    | list ys =>
      simp only [evalBin] at q
      split at q
      · rename_i hz
        obtain ⟨p1, vs, e1, h1, r1⟩ := ra.list
        obtain ⟨p2, ws, e2, h2, r2⟩ := rb.list
        exact op_catL pins s σ H x y v u Q I rx ry ⟨p1, p2, vs, ws, e1, e2, h1, h2, by rw [r1.length, r2.length]; exact hz, q.newLst dm (r1.append r2)⟩
      · exact q.elim
    | _ => exact q.elim
  | str z => cases b with
    | str z' =>
      simp only [evalBin] at q
      split at q
      · rename_i hz
        exact op_add_str pins s σ H x y v u Q I rx ry ⟨z, z', ra.str, rb.str, hz, q.str⟩
      · exact q.elim
    | _ => exact q.elim
  | _ => exact q.elim
theorem op_subD {fr : Bool} : OpR X (binaryOp .Sub) (rOp X.K fr E (evalBin .sub)) := by
  intro pins s σ H x y v u Q I rx ry h
  obtain ⟨O, a, b, dm, ra, rb, q⟩ := h
  cases a with
  | int i => cases b with
    | int j => exact op_sub pins s σ H x y v u Q I rx ry ⟨i, j, ra.int, rb.int, q.int⟩
    | _ => exact q.elim
  | _ => exact q.elim
theorem smallI_iff {i : Int} : smallI i = true ↔ (-(2 ^ 64) < i ∧ i < 2 ^ 64) := by
  unfold smallI
  rw [Bool.and_eq_true, decide_eq_true_eq, decide_eq_true_eq]
theorem op_fdivD {fr : Bool} : OpR X (binaryOp .FloorDiv) (rOp X.K fr E (evalBin .fdiv)) := by
  intro pins s σ H x y v u Q I rx ry h
  obtain ⟨O, a, b, dm, ra, rb, q⟩ := h
  cases a with
  | int i => cases b with
    | int j =>
      simp only [evalBin] at q
      split at q
      · rename_i hz
        exact op_fdiv pins s σ H x y v u Q I rx ry ⟨i, j, ra.int, rb.int, hz, q.int⟩
      · exact q.elim
    | _ => exact q.elim
  | _ => exact q.elim
theorem op_modD {fr : Bool} : OpR X (binaryOp .Mod) (rOp X.K fr E (evalBin .mod)) := by
  intro pins s σ H x y v u Q I rx ry h
  obtain ⟨O, a, b, dm, ra, rb, q⟩ := h
  cases a with
  | int i => cases b with
    | int j =>
      simp only [evalBin] at q
      split at q
      · rename_i hz
        exact op_mod pins s σ H x y v u Q I rx ry ⟨i, j, ra.int, rb.int, hz, q.int⟩
      · exact q.elim
    | _ => exact q.elim
  | _ => exact q.elim

/-! ### comparisons -/
theorem op_eqDD (hu : X.A.units + 64 < cLine) : OpR X (compareOp .Eq) (rOp X.K false E (evalCmp .eq)) := by
  intro pins s σ H x y v u Q I rx ry h
  obtain ⟨O, a, b, dm, ra, rb, q⟩ := h
  simp only [evalCmp] at q
  split at q
  · rename_i hz
    exact op_eqD hu pins s σ H x y v u Q I rx ry ⟨a, b, ra.dp (SeqAt.canLay_of_shaped hz.1), rb.dp (SeqAt.canLay_of_shaped hz.2), hz.1, hz.2, q.bool⟩
  · exact q.elim
theorem op_neDD (hu : X.A.units + 64 < cLine) : OpR X (compareOp .NotEq) (rOp X.K false E (evalCmp .ne)) := by
  intro pins s σ H x y v u Q I rx ry h
  obtain ⟨O, a, b, dm, ra, rb, q⟩ := h
  simp only [evalCmp] at q
  split at q
  · rename_i hz
    exact op_neD hu pins s σ H x y v u Q I rx ry ⟨a, b, ra.dp (SeqAt.canLay_of_shaped hz.1), rb.dp (SeqAt.canLay_of_shaped hz.2), hz.1, hz.2, q.bool⟩
  · exact q.elim
theorem op_ltD : OpR X (compareOp .Lt) (rOp X.K false E (evalCmp .lt)) := by
  intro pins s σ H x y v u Q I rx ry h
  obtain ⟨O, a, b, dm, ra, rb, q⟩ := h
  cases a with
  | int i => cases b with
    | int j => exact op_lt pins s σ H x y v u Q I rx ry ⟨i, j, ra.int, rb.int, q.bool⟩
    | _ => exact q.elim
  | _ => exact q.elim
theorem op_leD : OpR X (compareOp .LtE) (rOp X.K false E (evalCmp .le)) := by
  intro pins s σ H x y v u Q I rx ry h
  obtain ⟨O, a, b, dm, ra, rb, q⟩ := h
  cases a with
  | int i => cases b with
    | int j => exact op_le pins s σ H x y v u Q I rx ry ⟨i, j, ra.int, rb.int, q.bool⟩
    | _ => exact q.elim
  | _ => exact q.elim
theorem op_gtD : OpR X (compareOp .Gt) (rOp X.K false E (evalCmp .gt)) := by
  intro pins s σ H x y v u Q I rx ry h
  obtain ⟨O, a, b, dm, ra, rb, q⟩ := h
  cases a with
  | int i => cases b with
    | int j => exact op_gt pins s σ H x y v u Q I rx ry ⟨i, j, ra.int, rb.int, q.bool⟩
    | _ => exact q.elim
  | _ => exact q.elim
theorem op_geD : OpR X (compareOp .GtE) (rOp X.K false E (evalCmp .ge)) := by
  intro pins s σ H x y v u Q I rx ry h
  obtain ⟨O, a, b, dm, ra, rb, q⟩ := h
  cases a with
  | int i => cases b with
    | int j => exact op_ge pins s σ H x y v u Q I rx ry ⟨i, j, ra.int, rb.int, q.bool⟩
    | _ => exact q.elim
  | _ => exact q.elim
theorem RB.isNone {K : PySem.W.Frag} {O : Addr → Prop} {H : Hp} {v : V} {d : D} (h : RB K O H v d) : decide (v = .non) = isNoneD d := by
  cases h with
  | r h => cases h <;> rfl
  | o ho h => cases h <;> rfl
theorem op_isND : OpR X (compareOp .Is) (rOp X.K false E (evalCmp .isN)) := by
  intro pins s σ H x y v u Q I rx ry h
  obtain ⟨O, a, b, dm, ra, rb, q⟩ := h
  cases b with
  | none =>
    have q' := ES.bool q
    rw [← ra.isNone] at q'
    exact op_isN pins s σ H x y v u Q I rx ry ⟨rb.none, q'⟩
  | _ => cases a <;> exact q.elim
theorem op_notND : OpR X (compareOp .IsNot) (rOp X.K false E (evalCmp .notN)) := by
  intro pins s σ H x y v u Q I rx ry h
  obtain ⟨O, a, b, dm, ra, rb, q⟩ := h
  cases b with
  | none =>
    have q' := ES.bool q
    rw [← ra.isNone] at q'
    exact op_notN pins s σ H x y v u Q I rx ry ⟨rb.none, q'⟩
  | _ => cases a <;> exact q.elim
theorem op_isBD : OpR X (compareOp .Is) (rOp X.K false E (evalCmp .isB)) := by
  intro pins s σ H x y v u Q I rx ry h
  obtain ⟨O, a, b, dm, ra, rb, q⟩ := h
  cases a with
  | bool i => cases b with
    | bool j => exact op_is_bl pins s σ H x y v u Q I rx ry ⟨i, j, ra.bool, rb.bool, q.bool⟩
    | _ => exact q.elim
  | _ => exact q.elim
theorem op_notBD : OpR X (compareOp .IsNot) (rOp X.K false E (evalCmp .notB)) := by
  intro pins s σ H x y v u Q I rx ry h
  obtain ⟨O, a, b, dm, ra, rb, q⟩ := h
  cases a with
  | bool i => cases b with
    | bool j => exact op_isnot_bl pins s σ H x y v u Q I rx ry ⟨i, j, ra.bool, rb.bool, q.bool⟩
    | _ => exact q.elim
  | _ => exact q.elim
/-- x in a tuple of data -/
theorem op_inTD (hu : X.A.units + 65 < cLine) : OpR X (compareOp .In) (fun x y H Q => ∃ d ds, Dp X.K H x d ∧ Dp X.K H y (.tuple ds) ∧ SeqAt.shaped d = true ∧ SeqAt.shaped (.tuple ds) = true ∧ Q (.bl (ds.any fun z => PyData.eqv z d)) H) := by
  intro pins s σ H x y v u Q I rx ry h
  obtain ⟨d, ds, hd, he, sd, se, q⟩ := h
  obtain ⟨as, r1⟩ := Dp.reads I d x v hd rx
  obtain ⟨bs, r2⟩ := Dp.reads I (.tuple ds) y u he ry
  exact SeqAt.in_tuple_reads r2 r1 (SeqAt.canLay_of_shaped se) (SeqAt.canLay_of_shaped sd) (room_in_shaped sd hu) ⟨.bl _, H, I, rfl, q⟩
theorem op_notInTD (hu : X.A.units + 65 < cLine) : OpR X (compareOp .NotIn) (fun x y H Q => ∃ d ds, Dp X.K H x d ∧ Dp X.K H y (.tuple ds) ∧ SeqAt.shaped d = true ∧ SeqAt.shaped (.tuple ds) = true ∧ Q (.bl (!ds.any fun z => PyData.eqv z d)) H) := by
  intro pins s σ H x y v u Q I rx ry h
  obtain ⟨d, ds, hd, he, sd, se, q⟩ := h
  obtain ⟨as, r1⟩ := Dp.reads I d x v hd rx
  obtain ⟨bs, r2⟩ := Dp.reads I (.tuple ds) y u he ry
  exact SeqAt.notIn_tuple_reads r2 r1 (SeqAt.canLay_of_shaped se) (SeqAt.canLay_of_shaped sd) (room_in_shaped sd hu) ⟨.bl _, H, I, rfl, q⟩
end
end BP
/-! The rules by values, further: in, items, slices, built-ins. -/
namespace BP
open PySem PySem.Spec PyProof.Rows L2

/-! ### dicts by their keys -/
theorem keyOf_eq {d : D} (h : keyOk d = true) : ∃ ns : List Int, d = .tuple (ns.map PyData.int) := by
  unfold keyOk at h
  cases d with
  | tuple xs =>
    cases q : intsOf xs with
    | none => simp [keyOf, q] at h
    | some ns => exact ⟨ns, by rw [intsOf_eq q]⟩
  | _ => simp [keyOf] at h
theorem eqvAll_ints : ∀ ns ms : List Int, PyData.eqvAll (ns.map PyData.int) (ms.map PyData.int) = decide (ns = ms)
  | [], [] => rfl
  | [], m :: ms => rfl
  | n :: ns, [] => rfl
  | n :: ns, m :: ms => by
    have e := eqvAll_ints ns ms
    simp only [List.map_cons, PyData.eqvAll, PyData.eqv, e]
    by_cases h1 : n = m
    · subst h1; simp
    · have : (n == m) = false := beq_eq_false_iff_ne.mpr h1
      simp [this, h1]
theorem eqv_key (ns ms : List Int) : PyData.eqv (.tuple (ns.map PyData.int)) (.tuple (ms.map PyData.int)) = decide (ns = ms) := by
  simp only [PyData.eqv]
  exact eqvAll_ints ns ms
theorem inl_inj {ns ms : List Int} : (ns.map (Sum.inl : Int → Key)) = ms.map Sum.inl ↔ ns = ms := by
  constructor
  · intro h
    induction ns generalizing ms with
    | nil => cases ms with
      | nil => rfl
      | cons m ms => simp at h
    | cons n ns ih => cases ms with
      | nil => simp at h
      | cons m ms =>
        simp only [List.map_cons, List.cons.injEq] at h
        rw [Sum.inl.inj h.1, ih h.2]
  · intro h; rw [h]
section
variable {K : PySem.W.Frag} {O : Addr → Prop} {H : Hp}
theorem RepK.find {ns : List Int} : ∀ {kvs : List (List Key × V)} {ps : List (D × D)}, RepK K O H kvs ps →
    (∃ v d, valV kvs (ns.map Sum.inl) = some v ∧ getD' ps (.tuple (ns.map PyData.int)) = some d ∧ Rep K O H v d ∧ hasKey ps (.tuple (ns.map PyData.int)) = true) ∨
      (valV kvs (ns.map Sum.inl) = none ∧ getD' ps (.tuple (ns.map PyData.int)) = none ∧ hasKey ps (.tuple (ns.map PyData.int)) = false)
  | _, _, .nil => .inr ⟨rfl, rfl, rfl⟩
  | _, _, .cons (ns := ms) (v := v) (kvs := kvs) (d := d) (ps := ps) h hs => by
    by_cases e : ms = ns
    · subst e
      refine .inl ⟨v, d, valV_pos rfl, ?_, h, ?_⟩
      · simp [getD', List.find?_cons, eqv_key]
      · simp [hasKey, eqv_key]
    · have e' : ¬ (ms.map (Sum.inl : Int → Key)) = ns.map Sum.inl := fun z => e (inl_inj.mp z)
      have q : PyData.eqv (.tuple (ms.map PyData.int)) (.tuple (ns.map PyData.int)) = false := by rw [eqv_key]; exact decide_eq_false e
      rcases RepK.find (ns := ns) hs with ⟨v', d', a, b, c, c2⟩ | ⟨a, b, c⟩
      · refine .inl ⟨v', d', by rw [valV_neg e']; exact a, ?_, c, ?_⟩
        · simp only [getD', List.find?_cons, q]; exact b
        · simp only [hasKey, List.any_cons, q, Bool.false_or]; exact c2
      · refine .inr ⟨by rw [valV_neg e']; exact a, ?_, ?_⟩
        · simp only [getD', List.find?_cons, q]; exact b
        · simp only [hasKey, List.any_cons, q, Bool.false_or]; exact c
theorem RepI.find {n : Int} : ∀ {kvs : List (Key × V)} {ps : List (D × D)}, RepI K O H kvs ps →
    (∃ v d, valV kvs (Sum.inl n) = some v ∧ getD' ps (.int n) = some d ∧ Rep K O H v d ∧ hasKey ps (.int n) = true) ∨
      (valV kvs (Sum.inl n) = none ∧ getD' ps (.int n) = none ∧ hasKey ps (.int n) = false)
  | _, _, .nil => .inr ⟨rfl, rfl, rfl⟩
  | _, _, .cons (n := m) (v := v) (kvs := kvs) (d := d) (ps := ps) h hs => by
    by_cases e : m = n
    · subst e
      refine .inl ⟨v, d, valV_pos rfl, ?_, h, ?_⟩
      · simp [getD', List.find?_cons, PyData.eqv]
      · simp [hasKey, PyData.eqv]
    · have e' : ¬ (Sum.inl m : Key) = Sum.inl n := fun z => e (Sum.inl.inj z)
      have q : PyData.eqv (.int m) (.int n) = false := by simp [PyData.eqv, e]
      rcases RepI.find (n := n) hs with ⟨v', d', a, b, c, c2⟩ | ⟨a, b, c⟩
      · refine .inl ⟨v', d', by rw [valV_neg e']; exact a, ?_, c, ?_⟩
        · simp only [getD', List.find?_cons, q]; exact b
        · simp only [hasKey, List.any_cons, q, Bool.false_or]; exact c2
      · refine .inr ⟨by rw [valV_neg e']; exact a, ?_, ?_⟩
        · simp only [getD', List.find?_cons, q]; exact b
        · simp only [hasKey, List.any_cons, q, Bool.false_or]; exact c
theorem RepI.keysT_false {kvs : List (Key × V)} {ps : List (D × D)} (h : RepI K O H kvs ps) (hn : ps ≠ []) : keysT ps = false := by
  cases h with
  | nil => exact absurd rfl hn
  | cons _ _ => rfl
theorem RepI.keysI : ∀ {kvs : List (Key × V)} {ps : List (D × D)}, RepI K O H kvs ps → BP.keysI ps = true
  | _, _, .nil => rfl
  | _, _, .cons _ hs => by
    have := RepI.keysI hs
    unfold BP.keysI at this ⊢
    rw [List.all_cons, this]
    rfl
theorem RepK.keysI_nil {kvs : List (List Key × V)} {ps : List (D × D)} (h : RepK K O H kvs ps) (hk : BP.keysI ps = true) : ps = [] := by
  cases h with
  | nil => rfl
  | cons _ _ => cases hk
theorem keyI_eq {d : D} (h : keyI d = true) : ∃ n : Int, d = .int n := by
  cases d with
  | int n => exact ⟨n, rfl⟩
  | _ => cases h
theorem key_at {v : V} {ns : List Int} (h : RB K O H v (.tuple (ns.map PyData.int))) : ∃ b, v = .ref b ∧ H b = some (.tup ((ns.map (Sum.inl : Int → Key)).map kV)) := by
  obtain ⟨a, xs, e, h, hs⟩ := h.tuple
  refine ⟨a, e, ?_⟩
  rw [h, hs.ints, List.map_map]
  rfl
/-- what the dict holds at the key -/
theorem dget_of {v : V} {a : Addr} {d : D} {ps : List (D × D)} (h : Dic K O H a ps) (hk : (keyOk d && keysT ps) = true) (rk : RB K O H v d) :
    (∃ w e, DGet H a v (some w) ∧ getD' ps d = some e ∧ Rep K O H w e ∧ hasKey ps d = true) ∨ (DGet H a v none ∧ getD' ps d = none ∧ hasKey ps d = false) := by
  rw [Bool.and_eq_true] at hk
  obtain ⟨ns, rfl⟩ := keyOf_eq hk.1
  obtain ⟨b, rfl, hb⟩ := key_at rk
  cases h with
  | t h r =>
    have g := DGet.t h hb
    rcases r.find (ns := ns) with ⟨w, e, q1, q2, q3, q4⟩ | ⟨q1, q2, q3⟩
    · rw [q1] at g; exact .inl ⟨w, e, g, q2, q3, q4⟩
    · rw [q1] at g; exact .inr ⟨g, q2, q3⟩
  | k h r hn =>
    rw [r.keysT_false hn] at hk
    cases hk.2
theorem dget_ix {v : V} {a : Addr} {d : D} {ps : List (D × D)} (h : Dic K O H a ps) (hk : keyFor ps d = true) (rk : RB K O H v d) :
    (∃ w e, DGet H a v (some w) ∧ getD' ps d = some e ∧ Rep K O H w e) ∨ getD' ps d = none := by
  unfold keyFor at hk
  rw [Bool.or_eq_true] at hk
  rcases hk with hk | hk
  · rcases dget_of h hk rk with ⟨w, e, g, q2, q3, _⟩ | ⟨_, q2, _⟩
    · exact .inl ⟨w, e, g, q2, q3⟩
    · exact .inr q2
  · rw [Bool.and_eq_true] at hk
    obtain ⟨n, rfl⟩ := keyI_eq hk.1
    obtain rfl := rk.int
    cases h with
    | t h r =>
      obtain rfl := r.keysI_nil hk.2
      exact .inr rfl
    | k h r hn =>
      have g := DGet.k (k := Sum.inl n) h
      rcases r.find (n := n) with ⟨w, e, q1, q2, q3, _⟩ | ⟨q1, q2, _⟩
      · rw [q1] at g; exact .inl ⟨w, e, g, q2, q3⟩
      · exact .inr q2
end
section
variable {X : Cx} {E : Nat → Hp → Prop}
theorem op_inDict (hu : X.A.units + 1 < cLine) : OpR X (compareOp .In) (fun y x H Q => ∃ a o, x = .ref a ∧ DGet H a y o ∧ Q (.bl o.isSome) H) := by
  intro pins s σ H x y v u Q I rx ry h
  obtain ⟨a, o, rfl, g, q⟩ := h
  cases ry
  exact d_in hu I g rx fun s' I' => ⟨.bl _, H, I', rfl, q⟩
theorem op_notInDict (hu : X.A.units + 1 < cLine) : OpR X (compareOp .NotIn) (fun y x H Q => ∃ a o, x = .ref a ∧ DGet H a y o ∧ Q (.bl (!o.isSome)) H) := by
  intro pins s σ H x y v u Q I rx ry h
  obtain ⟨a, o, rfl, g, q⟩ := h
  cases ry
  exact d_notIn hu I g rx fun s' I' => ⟨.bl _, H, I', rfl, q⟩
theorem op_innD (hu : X.A.units + 65 < cLine) : OpR X (compareOp .In) (rOp X.K false E (evalCmp .inn)) := by
  intro pins s σ H x y v u Q I rx ry h
  obtain ⟨O, a, b, dm, ra, rb, q⟩ := h
  cases b with
  | tuple ys =>
    simp only [evalCmp] at q
    split at q
    · rename_i hz
      exact op_inTD hu pins s σ H x y v u Q I rx ry ⟨a, ys, ra.dp (SeqAt.canLay_of_shaped hz.1), rb.dp (SeqAt.canLay_of_shaped hz.2), hz.1, hz.2, q.bool⟩
    · exact q.elim
  | list ys =>
    simp only [evalCmp] at q
    split at q
    · rename_i hz
      exact op_inD hu pins s σ H x y v u Q I rx ry ⟨a, ys, ra.dp (SeqAt.canLay_of_shaped hz.1), rb.dp (SeqAt.canLay_of_shaped hz.2), hz.1, hz.2, q.bool⟩
    · exact q.elim
  | str z => cases a with
    | str z' => exact op_in_str pins s σ H x y v u Q I rx ry ⟨z', z, ra.str, rb.str, q.bool⟩
    | _ => exact q.elim
  | dict kvs =>
    have q : ES X.K O false E (if (keyOk a && keysT kvs) = true then .ok (.bool (hasKey kvs a)) else .bad) Q H := by cases a <;> exact q
    split at q
    · rename_i hk
      obtain ⟨p, rfl, hp⟩ := rb.dict
      rcases dget_of hp hk ra with ⟨w, e, g, _, _, hh⟩ | ⟨g, _, hh⟩
      · rw [hh] at q
        exact op_inDict (by omega) pins s σ H x _ v u Q I rx ry ⟨p, _, rfl, g, q.bool⟩
      · rw [hh] at q
        exact op_inDict (by omega) pins s σ H x _ v u Q I rx ry ⟨p, _, rfl, g, q.bool⟩
    · exact q.elim
  | _ => cases a <;> exact q.elim
theorem op_ninD (hu : X.A.units + 65 < cLine) : OpR X (compareOp .NotIn) (rOp X.K false E (evalCmp .nin)) := by
  intro pins s σ H x y v u Q I rx ry h
  obtain ⟨O, a, b, dm, ra, rb, q⟩ := h
  cases b with
  | tuple ys =>
    simp only [evalCmp] at q
    split at q
    · rename_i hz
      exact op_notInTD hu pins s σ H x y v u Q I rx ry ⟨a, ys, ra.dp (SeqAt.canLay_of_shaped hz.1), rb.dp (SeqAt.canLay_of_shaped hz.2), hz.1, hz.2, q.bool⟩
    · exact q.elim
  | list ys =>
    simp only [evalCmp] at q
    split at q
    · rename_i hz
      exact op_notInD hu pins s σ H x y v u Q I rx ry ⟨a, ys, ra.dp (SeqAt.canLay_of_shaped hz.1), rb.dp (SeqAt.canLay_of_shaped hz.2), hz.1, hz.2, q.bool⟩
    · exact q.elim
  | str z => cases a with
    | str z' => exact op_notIn_str pins s σ H x y v u Q I rx ry ⟨z', z, ra.str, rb.str, q.bool⟩
    | _ => exact q.elim
  | dict kvs =>
    have q : ES X.K O false E (if (keyOk a && keysT kvs) = true then .ok (.bool (!hasKey kvs a)) else .bad) Q H := by cases a <;> exact q
    split at q
    · rename_i hk
      obtain ⟨p, rfl, hp⟩ := rb.dict
      rcases dget_of hp hk ra with ⟨w, e, g, _, _, hh⟩ | ⟨g, _, hh⟩
      · rw [hh] at q
        exact op_notInDict (by omega) pins s σ H x _ v u Q I rx ry ⟨p, _, rfl, g, q.bool⟩
      · rw [hh] at q
        exact op_notInDict (by omega) pins s σ H x _ v u Q I rx ry ⟨p, _, rfl, g, q.bool⟩
    · exact q.elim
  | _ => cases a <;> exact q.elim

/-! ### items, slices -/
theorem atI_rep {K : PySem.W.Frag} {O : Addr → Prop} {H : Hp} {xs : List V} {ds : List D} {i : Int} {d : D} (r : Reps K O H xs ds) (h : atI ds i = some d) : ∃ v, atI xs i = some v ∧ Rep K O H v d := by
  unfold atI at h ⊢
  rw [r.length]
  cases q : ixN ds.length i with
  | none => rw [q] at h; cases h
  | some j =>
    rw [q] at h
    exact r.get h
theorem ix_D (hu : X.A.units + 1 < cLine) : IxR X (rOp X.K false E evalIx) := by
  intro value slice pins s σ H x y v u Q I rx ry h hs
  obtain ⟨O, a, b, dm, ra, rb, q⟩ := h
  cases a with
  | tuple xs => cases b with
    | int i =>
      simp only [evalIx] at q
      split at q
      · rename_i d e
        obtain ⟨p, vs, e1, h1, r1⟩ := ra.tuple
        obtain ⟨w, ew, rw'⟩ := atI_rep r1 e
        exact ix_tup value slice pins s σ H x y v u Q I rx ry ⟨p, vs, i, w, e1, rb.int, .of h1, ew, q.rep rw' fun z => nomatch z⟩ hs
      · exact q.elim
    | _ => exact q.elim
  | list xs => cases b with
    | int i =>
      simp only [evalIx] at q
      split at q
      · rename_i d e
        obtain ⟨p, vs, e1, h1, r1⟩ := ra.list
        obtain ⟨w, ew, rw'⟩ := atI_rep r1 e
        exact ix_list value slice pins s σ H x y v u Q I rx ry ⟨p, vs, i, w, e1, rb.int, h1, ew, q.rep rw' fun z => nomatch z⟩ hs
      · exact q.elim
    | _ => exact q.elim
  | str z => cases b with
    | int i =>
      simp only [evalIx] at q
      split at q
      · rename_i hz
        split at q
        · rename_i c e
          exact ix_str value slice pins s σ H x y v u Q I rx ry ⟨z, i, c, ra.str, rb.int, hz, e, q.str⟩ hs
        · exact q.elim
      · exact q.elim
    | _ => exact q.elim
  | dict kvs =>
    have q : ES X.K O false E (if keyFor kvs b = true then (match getD' kvs b with
      | some d => .ok d
      | none => .bad) else .bad) Q H := by cases b <;> exact q
    split at q
    · rename_i hk
      obtain ⟨p, rfl, hp⟩ := ra.dict
      rcases dget_ix hp hk rb with ⟨w, e, g, hg, rw'⟩ | hg
      · rw [hg] at q
        cases rx
        exact tail_any (dict_typeIs I g) PySem.F.slot_dict_getitem.lookup (d_getItem hu I g ry fun w' s' I' r' => ⟨w, H, I', r', q.rep rw' fun z => nomatch z⟩) hs
      · rw [hg] at q
        exact q.elim
    · exact q.elim
  | _ => cases b <;> exact q.elim
def rSlD (K : PySem.W.Frag) (E : Nat → Hp → Prop) : V → Option Int → Option Int → Hp → VK → Prop := fun x lo hi H Q => ∃ O a, Dom O H ∧ RB K O H x a ∧ ES K O true E (evalSl a lo hi) Q H
theorem cutD_whole {α : Type} (xs : List α) (lo hi : Option Int) (h : HT.sIx xs.length 0 lo = 0 ∧ HT.sIx xs.length xs.length hi = xs.length) : cutD xs lo hi = xs := by
  unfold cutD
  rw [h.1, h.2]
  simp
theorem sl_D : SlR X (rSlD X.K E) := by
  intro pins s σ H x v vl vu lo hi sl Q I rx hs pl pu h
  obtain ⟨O, a, dm, ra, q⟩ := h
  cases a with
  | tuple xs =>
    simp only [evalSl] at q
    obtain ⟨p, vs, e1, h1, r1⟩ := ra.tuple
    refine sl_tupA pins s σ H x v vl vu lo hi sl Q I rx hs pl pu ⟨p, vs, e1, .of h1, fun hw => ?_, fun _ => q.newTup dm (r1.cut lo hi)⟩
    rw [r1.length] at hw
    rw [cutD_whole xs lo hi hw] at q
    exact q.rep (by rw [← e1]; exact ra.tupleR) fun _ => rfl
  | list xs =>
    simp only [evalSl] at q
    obtain ⟨p, vs, e1, h1, r1⟩ := ra.list
    exact sl_list pins s σ H x v vl vu lo hi sl Q I rx hs pl pu ⟨p, vs, e1, h1, q.newLst dm (r1.cut lo hi)⟩
  | str z =>
    simp only [evalSl] at q
    split at q
    · rename_i hz
      exact sl_str pins s σ H x v vl vu lo hi sl Q I rx hs pl pu ⟨z, ra.str, hz, q.str⟩
    · exact q.elim
  | _ => exact q.elim

/-! ### calls of built-ins -/
def rBt (K : PySem.W.Frag) (fr : Bool) (E : Nat → Hp → Prop) (f : Bt) : List V → Hp → VK → Prop := fun xs H Q =>
  ∃ O ds, Dom O H ∧ RBs K O H xs ds ∧ ES K O fr E (evalBt f ds) Q H
theorem RBs.one {K : PySem.W.Frag} {O : Addr → Prop} {H : Hp} {xs : List V} {d : D} (h : RBs K O H xs [d]) : ∃ v, xs = [v] ∧ RB K O H v d := by
  cases h with
  | cons h hs => cases hs; exact ⟨_, rfl, h⟩
theorem RBs.two {K : PySem.W.Frag} {O : Addr → Prop} {H : Hp} {xs : List V} {d e : D} (h : RBs K O H xs [d, e]) : ∃ v w, xs = [v, w] ∧ RB K O H v d ∧ RB K O H w e := by
  cases h with
  | cons h hs => cases hs with
    | cons h' hs => cases hs; exact ⟨_, _, rfl, h, h'⟩
theorem RBs.three {K : PySem.W.Frag} {O : Addr → Prop} {H : Hp} {xs : List V} {d e f : D} (h : RBs K O H xs [d, e, f]) : ∃ v w z, xs = [v, w, z] ∧ RB K O H v d ∧ RB K O H w e ∧ RB K O H z f := by
  cases h with
  | cons h hs => cases hs with
    | cons h' hs => cases hs with
      | cons h'' hs => cases hs; exact ⟨_, _, _, rfl, h, h', h''⟩
/-- one argument -/
theorem rBt.one {K : PySem.W.Frag} {fr : Bool} {E : Nat → Hp → Prop} {f : D → Res D} {O : Addr → Prop} {ds : List D} {xs : List V} {H : Hp} {Q : VK} (rs : RBs K O H xs ds) (q : ES K O fr E (bt1 f ds) Q H) :
    ∃ v d, xs = [v] ∧ RB K O H v d ∧ ES K O fr E (f d) Q H := by
  match ds, rs, q with
  | [d], rs, q =>
    obtain ⟨v, e, rb⟩ := rs.one
    exact ⟨v, d, e, rb, q⟩
  | [], _, q => exact False.elim q
  | _ :: _ :: _, _, q => exact False.elim q
theorem rBt.two {K : PySem.W.Frag} {fr : Bool} {E : Nat → Hp → Prop} {f : D → D → Res D} {O : Addr → Prop} {ds : List D} {xs : List V} {H : Hp} {Q : VK} (rs : RBs K O H xs ds) (q : ES K O fr E (bt2 f ds) Q H) :
    ∃ v w d e, xs = [v, w] ∧ RB K O H v d ∧ RB K O H w e ∧ ES K O fr E (f d e) Q H := by
  match ds, rs, q with
  | [d, e], rs, q =>
    obtain ⟨v, w, z, rb, rc⟩ := rs.two
    exact ⟨v, w, d, e, z, rb, rc, q⟩
  | [], _, q => exact False.elim q
  | [_], _, q => exact False.elim q
  | _ :: _ :: _ :: _, _, q => exact False.elim q
theorem rBt.three {K : PySem.W.Frag} {fr : Bool} {E : Nat → Hp → Prop} {f : D → D → D → Res D} {O : Addr → Prop} {ds : List D} {xs : List V} {H : Hp} {Q : VK} (rs : RBs K O H xs ds) (q : ES K O fr E (bt3 f ds) Q H) :
    ∃ v w z d e g, xs = [v, w, z] ∧ RB K O H v d ∧ RB K O H w e ∧ RB K O H z g ∧ ES K O fr E (f d e g) Q H := by
  match ds, rs, q with
  | [d, e, g], rs, q =>
    obtain ⟨v, w, z, h, rb, rc, rd⟩ := rs.three
    exact ⟨v, w, z, d, e, g, h, rb, rc, rd, q⟩
  | [], _, q => exact False.elim q
  | [_], _, q => exact False.elim q
  | [_, _], _, q => exact False.elim q
  | _ :: _ :: _ :: _ :: _, _, q => exact False.elim q
theorem ES.okO {K : PySem.W.Frag} {fr : Bool} {E : Nat → Hp → Prop} {O : Addr → Prop} {H : Hp} {Q : VK} {α : Type} {o : Option α} {f : α → D} (q : ES K O fr E (okO o f) Q H) : ∃ a, o = some a ∧ ES K O fr E (.ok (f a)) Q H := by
  cases o with
  | none => exact False.elim q
  | some a => exact ⟨a, rfl, q⟩
/-- the items, wherever they stand -/
theorem RB.items {K : PySem.W.Frag} {O : Addr → Prop} {H : Hp} {v : V} {d : D} {ds : List D} (h : RB K O H v d) (e : itemsOf d = some ds) :
    ∃ a xs, v = .ref a ∧ (SqL K H a xs ∨ SqT K H a xs) ∧ Reps K O H xs ds := by
  cases d with
  | list ys =>
    cases e
    obtain ⟨a, xs, q1, q2, q3⟩ := h.list
    exact ⟨a, xs, q1, .inl q2, q3⟩
  | tuple ys =>
    cases e
    obtain ⟨a, xs, q1, q2, q3⟩ := h.tuple
    exact ⟨a, xs, q1, .inr (.of q2), q3⟩
  | _ => cases e
theorem RB.listOf {K : PySem.W.Frag} {O : Addr → Prop} {H : Hp} {v : V} {d : D} {ds : List D} (h : RB K O H v d) (e : listOf d = some ds) :
    ∃ a xs, v = .ref a ∧ SqL K H a xs ∧ Reps K O H xs ds := by
  cases d with
  | list ys =>
    cases e
    exact h.list
  | _ => cases e
theorem cr_len : CallR X (.builtin "len") (rBt X.K false E .len) := by
  intro pins s σ H xs us Q I r h
  obtain ⟨O, ds, dm, rs, q⟩ := h
  obtain ⟨v, d, rfl, rb, q⟩ := rBt.one rs q
  cases d with
  | tuple ys =>
    obtain ⟨p, vs, rfl, h1, r1⟩ := rb.tuple
    exact call_len_seq pins s σ H _ us Q I r ⟨p, vs, rfl, .inr (.of h1), by rw [r1.length]; exact q.int⟩
  | list ys =>
    obtain ⟨p, vs, rfl, h1, r1⟩ := rb.list
    exact call_len_seq pins s σ H _ us Q I r ⟨p, vs, rfl, .inl h1, by rw [r1.length]; exact q.int⟩
  | str z =>
    simp only [lenD] at q
    split at q
    · rename_i hz
      obtain rfl := rb.str
      exact call_len_str pins s σ H _ us Q I r ⟨z, rfl, hz, q.int⟩
    · exact False.elim q
  | dict kvs =>
    obtain ⟨p, rfl, h1⟩ := rb.dict
    cases h1 with
    | t h1 r1 => exact call_len_dT pins s σ H _ us Q I r ⟨p, _, rfl, h1, by rw [r1.length]; exact q.int⟩
    | k h1 r1 _ =>
      obtain ⟨u, rfl, rx⟩ := vals1 r
      obtain rfl : u = .ref p := rx
      exact d_len I (.inl h1) fun t s' I' => ⟨.int _, H, I', ⟨t, rfl⟩, by rw [r1.length]; exact q.int⟩
  | _ => exact False.elim q
theorem cr_tuple : CallR X (.type "tuple") (rBt X.K false E .tuple) := by
  intro pins s σ H xs us Q I r h
  obtain ⟨O, ds, dm, rs, q⟩ := h
  obtain ⟨v, d, rfl, rb, q⟩ := rBt.one rs q
  cases d with
  | tuple ys =>
    obtain ⟨p, vs, rfl, h1, r1⟩ := rb.tuple
    exact call_tuple_of pins s σ H _ us Q I r ⟨p, vs, rfl, .inr ⟨.of h1, q.rep rb.tupleR fun _ => rfl⟩⟩
  | list ys =>
    obtain ⟨p, vs, rfl, h1, r1⟩ := rb.list
    exact call_tuple_of pins s σ H _ us Q I r ⟨p, vs, rfl, .inl ⟨h1, q.newTup dm r1⟩⟩
  | _ => exact False.elim q
theorem cr_list : CallR X (.type "list") (rBt X.K true E .list) := by
  intro pins s σ H xs us Q I r h
  obtain ⟨O, ds, dm, rs, q⟩ := h
  obtain ⟨v, d, rfl, rb, q⟩ := rBt.one rs q
  cases d with
  | tuple ys =>
    obtain ⟨p, vs, rfl, h1, r1⟩ := rb.tuple
    exact call_list_of pins s σ H _ us Q I r ⟨p, vs, rfl, .inr (.of h1), q.newLst dm r1⟩
  | list ys =>
    obtain ⟨p, vs, rfl, h1, r1⟩ := rb.list
    exact call_list_of pins s σ H _ us Q I r ⟨p, vs, rfl, .inl h1, q.newLst dm r1⟩
  | _ => exact False.elim q
/-- sum of a tuple of ints -/
theorem cr_sumT (hc : X.calm = true) : CallR X (.builtin "sum") (fun vs H Q => ∃ (a : Addr) (ns : List Int), vs = [V.ref a] ∧ SqT X.K H a (ns.map V.int) ∧ Q (.int ns.sum) H) := by
  intro pins s σ H vs us Q I r h
  obtain ⟨a, ns, rfl, hs, q⟩ := h
  obtain ⟨its, rv, ht, _⟩ := I.tuple hs
  rw [Vals.ref1 r]
  have hi := rv.ints
  obtain ⟨xs, e⟩ := hi.allInts.items
  have hn : numsOf (intItems xs).toList = ns := by rw [← e]; exact hi.numsOf
  rw [nums_intItems] at hn
  rw [e] at ht
  have hlt : a < s.heap.objs.size := ht.lt
  refine call_sum_walkG (iter_tuple ht ?_)
  refine ⟨_, _, _, _, _, _, numAt xs, rfl, Walks.tuple (A := X.A.in1) (I.ok.hd hc) _ a (Nat.ne_of_lt hlt) (intItems xs), ⟨⟨_, Heap.get?_push_size _ rfl, rfl, rfl⟩, ?_⟩, fun b hb => ?_, (fun _ _ => intItems_at), fun h' tk t' hk => ?_⟩
  · obtain ⟨o, h1, h2, n, h3⟩ := ht
    exact ⟨o, Heap.get?_push_of_some _ h1, h2, n, h3⟩
  · show b < (s.heap.push _).objs.size
    rw [Heap.size_push]
    have e' : b = s.heap.objs.size ∨ b = a := by simpa using hb
    rcases e' with e' | e'
    · rw [e']; exact Nat.lt_succ_self _
    · rw [e']; exact Nat.lt_succ_of_lt hlt
  · have hn' : preSum (numAt xs) (intItems xs).size = ns.sum := by
      rw [preSum_eq, List.take_of_length_le (by simp [intItems]), hn]
    rw [hn']
    refine ⟨.int ns.sum, H, I.kept fun b o eo => hk b o (fun hm => ?_) (Heap.get?_push_of_some _ eo), ⟨_, rfl⟩, q⟩
    have e1 : b = s.heap.objs.size := by simpa using hm
    exact absurd (e1 ▸ Heap.lt_size eo) (Nat.lt_irrefl _)
theorem cr_sumD (hc : X.calm = true) : CallR X (.builtin "sum") (rBt X.K false E .sum) := by
  intro pins s σ H xs us Q I r h
  obtain ⟨O, ds, dm, rs, q⟩ := h
  obtain ⟨v, d, rfl, rb, q⟩ := rBt.one rs q
  obtain ⟨ns, e, q⟩ := q.okO
  obtain ⟨ys, e1, e2⟩ := Option.bind_eq_some_iff.mp e
  obtain ⟨p, vs, rfl, h1, r1⟩ := rb.items e1
  have e3 := intsOf_eq e2
  subst e3
  rw [r1.ints] at h1
  rcases h1 with h1 | h1
  · exact L2.cr_sum hc pins s σ H _ us Q I r ⟨p, ns, rfl, h1, q.int⟩
  · exact cr_sumT hc pins s σ H _ us Q I r ⟨p, ns, rfl, h1, q.int⟩
theorem cr_allD (hc : X.calm = true) : CallR X (.builtin "all") (rBt X.K false E .all) := by
  intro pins s σ H xs us Q I r h
  obtain ⟨O, ds, dm, rs, q⟩ := h
  obtain ⟨v, d, rfl, rb, q⟩ := rBt.one rs q
  obtain ⟨ns, e, q⟩ := q.okO
  obtain ⟨ys, e1, e2⟩ := Option.bind_eq_some_iff.mp e
  obtain ⟨p, vs, rfl, h1, r1⟩ := rb.listOf e1
  have e3 := boolsOf_eq e2
  subst e3
  rw [r1.bools] at h1
  exact L2.cr_all hc pins s σ H _ us Q I r ⟨p, ns, rfl, h1, q.bool⟩
theorem cr_anyD (hc : X.calm = true) : CallR X (.builtin "any") (rBt X.K false E .any) := by
  intro pins s σ H xs us Q I r h
  obtain ⟨O, ds, dm, rs, q⟩ := h
  obtain ⟨v, d, rfl, rb, q⟩ := rBt.one rs q
  obtain ⟨ns, e, q⟩ := q.okO
  obtain ⟨ys, e1, e2⟩ := Option.bind_eq_some_iff.mp e
  obtain ⟨p, vs, rfl, h1, r1⟩ := rb.listOf e1
  have e3 := boolsOf_eq e2
  subst e3
  rw [r1.bools] at h1
  exact L2.cr_any hc pins s σ H _ us Q I r ⟨p, ns, rfl, h1, q.bool⟩
theorem cr_max2D (hc : X.calm = true) : CallR X (.builtin "max") (rBt X.K false E .max2) := by
  intro pins s σ H xs us Q I r h
  obtain ⟨O, ds, dm, rs, q⟩ := h
  obtain ⟨v, w, d, e, rfl, r1, r2, q⟩ := rBt.two rs q
  cases d with
  | int i => cases e with
    | int j =>
      obtain rfl := r1.int
      obtain rfl := r2.int
      exact call_max2 hc pins s σ H _ us Q I r ⟨i, j, rfl, q.int⟩
    | _ => exact False.elim q
  | _ => exact False.elim q
theorem cr_min2D (hc : X.calm = true) : CallR X (.builtin "min") (rBt X.K false E .min2) := by
  intro pins s σ H xs us Q I r h
  obtain ⟨O, ds, dm, rs, q⟩ := h
  obtain ⟨v, w, d, e, rfl, r1, r2, q⟩ := rBt.two rs q
  cases d with
  | int i => cases e with
    | int j =>
      obtain rfl := r1.int
      obtain rfl := r2.int
      exact call_min2 hc pins s σ H _ us Q I r ⟨i, j, rfl, q.int⟩
    | _ => exact False.elim q
  | _ => exact False.elim q
theorem cr_intD : CallR X (.type "int") (rBt X.K false E .toInt) := by
  intro pins s σ H xs us Q I r h
  obtain ⟨O, ds, dm, rs, q⟩ := h
  obtain ⟨v, d, rfl, rb, q⟩ := rBt.one rs q
  cases d with
  | int i =>
    obtain rfl := rb.int
    exact call_int1 pins s σ H _ us Q I r (.inl ⟨i, rfl, q.int⟩)
  | bool b =>
    obtain rfl := rb.bool
    exact call_int1 pins s σ H _ us Q I r (.inr ⟨b, rfl, q.int⟩)
  | str z =>
    obtain rfl := rb.str
    simp only [toIntD] at q
    split at q
    · rename_i n e
      split at q
      · rename_i hz
        exact call_int_str pins s σ H _ us Q I r ⟨z, n, rfl, e, hz, q.int⟩
      · exact False.elim q
    · exact False.elim q
  | _ => exact False.elim q
theorem cr_strD : CallR X (.type "str") (rBt X.K false E .toStr) := by
  intro pins s σ H xs us Q I r h
  obtain ⟨O, ds, dm, rs, q⟩ := h
  obtain ⟨v, d, rfl, rb, q⟩ := rBt.one rs q
  cases d with
  | int i =>
    obtain rfl := rb.int
    simp only [toStrD] at q
    split at q
    · rename_i hz
      exact call_str_int pins s σ H _ us Q I r ⟨i, rfl, hz, q.str⟩
    · exact False.elim q
  | _ => exact False.elim q

/-! ### isinstance of built-in types -/
def tyD : D → String
  | .none => "NoneType"
  | .bool _ => "bool"
  | .int _ => "int"
  | .str _ => "str"
  | .list _ => "list"
  | .tuple _ => "tuple"
  | .dict _ => "dict"
theorem RB.ty {K : PySem.W.Frag} {O : Addr → Prop} {H : Hp} {v : V} {d : D} (h : RB K O H v d) : TyX K H v (.type (tyD d)) := by
  cases h with
  | r h =>
    cases h with
    | non => exact .base .non
    | bl b => exact .base (.bl b)
    | int i => exact .base (.int i)
    | str x => exact .base (.str x)
    | lst h hs =>
      rcases h with ⟨_, h | ⟨o, h⟩⟩ | ⟨o, its, n, h, hc, _⟩
      · exact .base (.lst h)
      · exact .base (.frz h)
      · exact .kList h hc
    | tup h hs => exact .base (.tup h.2)
    | dct ho h hs => exact .base (.dT h)
    | dci ho h hs _ => exact .base (.dK h)
  | o ho h =>
    cases h with
    | lst h hs => exact .base (.lst h)
    | dct h hs => exact .base (.dT h)
    | dci h hs _ => exact .base (.dK h)
theorem cr_isi {T : String} {g : D → Bool} (hg : ∀ d, kitB (tyD d) T = some (g d)) : CallR X (.builtin "isinstance") (fun xs H Q => ∃ O v d, Dom O H ∧ xs = [v, .ty T] ∧ RB X.K O H v d ∧ ES X.K O false E (.ok (.bool (g d))) Q H) := by
  intro pins s σ H xs us Q I r h
  obtain ⟨O, v, d, dm, rfl, rb, q⟩ := h
  exact call_isi pins s σ H _ us Q I r ⟨v, .ty T, _, _, g d, rfl, .ty T, rb.ty, kit_ty (hg d), q.bool⟩
theorem kit_tuple : ∀ d, kitB (tyD d) "tuple" = some (isTupleD d) := fun d => by cases d <;> simp only [tyD, isTupleD] <;> decide +kernel
theorem kit_int : ∀ d, kitB (tyD d) "int" = some (isIntD d) := fun d => by cases d <;> simp only [tyD, isIntD] <;> decide +kernel
theorem kit_bool : ∀ d, kitB (tyD d) "bool" = some (isBoolD d) := fun d => by cases d <;> simp only [tyD, isBoolD] <;> decide +kernel
theorem kit_str : ∀ d, kitB (tyD d) "str" = some (isStrD d) := fun d => by cases d <;> simp only [tyD, isStrD] <;> decide +kernel
end
end BP
/-! Terms over the layer's judgements. -/
namespace BP
open PySem PySem.Spec PyProof.Rows L2

/-- what is known of the module: its defs, constants, exception classes, by name -/
structure Gc where
  N : List Str
  fns : List (Str × Nat)
  consts : List (Str × D)
  excs : List (Str × Nat)
/-- a block's names -/
structure Sc where
  sc : Scope
  fn : Str → Bool
abbrev Ecl (cls : Nat → Value) (E : XK) : Nat → Hp → Prop := fun c H => E (cls c) none H
/-- what the call of a def is worth, n calls deep -/
def spF (T : Nat → Option Fn) (K : PySem.W.Frag) (cls : Nat → Value) (n f : Nat) : Sp := fun vs H Q E =>
  ∃ O ds, Dom O H ∧ Reps K O H vs ds ∧ ES K O false (Ecl cls E) (callF T n f ds) Q H
def bltNames : List Str := ["len", "tuple", "list", "sum", "max", "min", "all", "any", "sorted", "int", "str", "set", "range", "dict", "isinstance", "enumerate", "zip", "bool", "ValueError"]
/-- an own exception class: made with a text, raised -/
structure ExcOk (K : PySem.W.Frag) (mg : Str → Option Value) (x : Str) (c : Value) : Prop where
  ex : ∃ C : Addr, c = .ref C ∧ mg x = some (.ref C) ∧ PySem.W.keepIn K (.ref C) = true ∧ PySem.W.subIn K (.ref C) (.type "BaseException") = some true ∧ PySem.W.typeIn K (.ref C) = some (.type "type") ∧
    PySem.W.excIn K C [.type "ValueError", .type "Exception", .type "BaseException", .type "object"] "ValueError.__new__" = true
structure Wok (g : Gc) (T : Nat → Option Fn) (n : Nat) (cls : Nat → Value) (P : Program) (w : World) (K : PySem.W.Frag) (mg : Str → Option Value) (base : Heap) : Prop where
  blt : ∀ x ∈ bltNames, mg x = none
  con : ∀ p ∈ g.consts, ∃ v u, mg p.1 = some u ∧ RelV v u ∧ ∀ O H, Rep K O H v p.2
  fns : ∀ p ∈ g.fns, ∃ a fd ps, mg p.1 = some (.ref a) ∧ PySem.W.keepIn K (.ref a) = true ∧ L2.Binds K fd ps [] ∧ FnOk P w K mg base (L2.CX P w) n a fd ps (spF T K cls n p.2)
  exc : ∀ p ∈ g.excs, ExcOk K mg p.1 (cls p.2)
structure Cok (g : Gc) (S : Sc) (T : Nat → Option Fn) (n : Nat) (cls : Nat → Value) (E : XK) (X : Cx) : Prop where
  w : Wok g T n cls X.prog X.w X.K X.mg X.base
  calm : X.calm = true
  hN : X.N = g.N
  nd : X.N.Nodup
  sc : X.env.scope = S.sc
  fn : X.fn = S.fn
  room : Room n X.A
  takes : Takes X fun c d _ H => E c d H

theorem pe_imp {X : Cx} {e : Expr} {t t' : TE} (h : PE X e t) (w : ∀ σ H Q, t' σ H Q → t σ H Q) : PE X e t' := ⟨fun pins s σ H Q I q => h.run pins s σ H Q I (w σ H Q q)⟩
theorem pt_imp {X : Cx} {e : Expr} {t t' : TT} (h : PT X e t) (w : ∀ σ H Q, t' σ H Q → t σ H Q) : PT X e t' := ⟨fun pins s σ H Q I q => h.run pins s σ H Q I (w σ H Q q)⟩
theorem pw_imp {X : Cx} {e : Expr} {t t' : TT} (h : PW X e t) (w : ∀ σ H Q, t' σ H Q → t σ H Q) : PW X e t' := ⟨fun wh pins s σ H Q I q => h.run wh pins s σ H Q I (w σ H Q q)⟩
theorem pa_imp {X : Cx} {e : List Expr} {t t' : TA} (h : PA X e t) (w : ∀ σ H Q, t' σ H Q → t σ H Q) : PA X e t' := ⟨fun pos pins s σ H Q I q => h.run pos pins s σ H Q I (w σ H Q q)⟩

/-! which terms give a list or dict that stands nowhere else -/
def freshE : Ex → Bool
  | .lst _ => true
  | .comp .. => true
  | .bin .. => true
  | .sl .. => true
  | .rev _ => true
  | .dict0 => true
  | .dict1 .. => true
  | .bt .list _ => true
  | .bt .sorted _ => true
  | .bt .sortedSet _ => true
  | .bt .listRange1 _ => true
  | .bt .listRange2 _ => true
  | .bt .dict _ => true
  | _ => false

section
variable {X : Cx} {E : Nat → Hp → Prop} {C : Nat → List D → Res D}
def tS (K : PySem.W.Frag) (C : Nat → List D → Res D) (E : Nat → Hp → Prop) (ir : Ex) : TE := fun σ H Q => ∃ O ρ, Sok K O σ ρ H ∧ ES K O (freshE ir) E (evalE C ir ρ) Q H
def tBo (K : PySem.W.Frag) (C : Nat → List D → Res D) (E : Nat → Hp → Prop) (ir : Ex) : TE := fun σ H Q => ∃ O ρ, Sok K O σ ρ H ∧ EB K O E (evalE C ir ρ) Q H
def tTs (K : PySem.W.Frag) (C : Nat → List D → Res D) (E : Nat → Hp → Prop) (ir : Ex) : TT := fun σ H Q => ∃ O ρ, Sok K O σ ρ H ∧ ET E ((evalE C ir ρ).bind asBool) Q H
def tSs (K : PySem.W.Frag) (C : Nat → List D → Res D) (E : Nat → Hp → Prop) (irs : List Ex) : TA := fun σ H Q => ∃ O ρ, Sok K O σ ρ H ∧ ESs K O E (evalEs C irs ρ) Q H
def tBs (K : PySem.W.Frag) (C : Nat → List D → Res D) (E : Nat → Hp → Prop) (irs : List Ex) : TA := fun σ H Q => ∃ O ρ, Sok K O σ ρ H ∧ EBs K O E (evalEs C irs ρ) Q H
abbrev PEs (X : Cx) (C : Nat → List D → Res D) (E : Nat → Hp → Prop) (e : Expr) (ir : Ex) : Prop := PE X e (tS X.K C E ir)
abbrev PEb (X : Cx) (C : Nat → List D → Res D) (E : Nat → Hp → Prop) (e : Expr) (ir : Ex) : Prop := PE X e (tBo X.K C E ir)
abbrev PTs' (X : Cx) (C : Nat → List D → Res D) (E : Nat → Hp → Prop) (e : Expr) (ir : Ex) : Prop := PT X e (tTs X.K C E ir)
abbrev PAs (X : Cx) (C : Nat → List D → Res D) (E : Nat → Hp → Prop) (es : List Expr) (irs : List Ex) : Prop := PA X es (tSs X.K C E irs)
abbrev PAb (X : Cx) (C : Nat → List D → Res D) (E : Nat → Hp → Prop) (es : List Expr) (irs : List Ex) : Prop := PA X es (tBs X.K C E irs)
theorem PEs.b {e : Expr} {ir : Ex} (h : PEs X C E e ir) : PEb X C E e ir := pe_imp h fun σ H Q ⟨O, ρ, so, q⟩ => ⟨O, ρ, so, ES.toEB q⟩

/-! ### names, constants -/
theorem pd_const {e : Expr} {v : V} {d : D} (h : PE X e (tC v)) (r : ∀ O H, Rep X.K O H v d) : PEs X C E e (.k d) := pe_imp h fun σ H Q ⟨O, ρ, so, q⟩ =>
  q v H (Same.refl H) (r O H) fun z => nomatch z
theorem pd_var {i : Nat} {e : Expr} (h : PE X e (tVar i)) : PEs X C E e (.v i) := pe_imp h fun σ H Q ⟨O, ρ, so, q⟩ => by
  simp only [evalE, getV] at q
  split at q
  · rename_i d hd
    obtain ⟨v, h1, h2⟩ := so.val i d hd
    exact ⟨v, h1, q v H (Same.refl H) h2 fun z => nomatch z⟩
  · exact False.elim q
theorem pd_varB {i : Nat} {e : Expr} (h : PE X e (tVar i)) : PEb X C E e (.b i) := pe_imp h fun σ H Q ⟨O, ρ, so, q⟩ => by
  simp only [evalE, getB] at q
  split at q
  · rename_i d hd
    obtain ⟨v, h1, h2⟩ := so.val i d hd
    exact ⟨v, h1, q v H (Same.refl H) (.r h2)⟩
  · rename_i d hd
    obtain ⟨a, h1, h2, h3⟩ := so.own i d hd
    exact ⟨.ref a, h1, q (.ref a) H (Same.refl H) (.o h2 h3)⟩
  · exact False.elim q

/-! ### several -/
theorem pd_nilS : PAs X C E [] [] := pa_imp pa_nil fun σ H Q ⟨O, ρ, so, q⟩ => q [] H (Same.refl H) .nil
theorem pd_nilB : PAb X C E [] [] := pa_imp pa_nil fun σ H Q ⟨O, ρ, so, q⟩ => q [] H (Same.refl H) .nil
def notStar : Expr → Bool
  | .Starred .. => false
  | _ => true
theorem star_of {e : Expr} (h : notStar e = true) (es : List Expr) (env : PySem.Env) : starEach (e :: es) env = (false, eval e env) :: starEach es env := by
  cases e <;> first | rfl | cases h
theorem pd_consS {e : Expr} {es : List Expr} {ir : Ex} {irs : List Ex} (h : PEs X C E e ir) (hs : PAs X C E es irs) (ns : notStar e = true) : PAs X C E (e :: es) (ir :: irs) := by
  refine pa_imp (pa_cons h hs (star_of ns es _)) fun σ H Q ⟨O, ρ, so, q⟩ => ⟨O, ρ, so, ?_⟩
  simp only [evalEs] at q
  cases e1 : evalE C ir ρ with
  | bad => rw [e1] at q; exact False.elim q
  | exc c => rw [e1] at q; exact q
  | ok d =>
    rw [e1, Res.bind_ok] at q
    refine fun v H1 s1 r1 _ => ⟨O, ρ, so.same s1, ?_⟩
    cases e2 : evalEs C irs ρ with
    | bad => rw [e2] at q; exact False.elim q
    | exc c => rw [e2] at q; exact fun H2 s2 => q H2 (s1.trans s2)
    | ok ds =>
      rw [e2, Res.bind_ok] at q
      exact fun vs H2 s2 r2 => q (v :: vs) H2 (s1.trans s2) (.cons (r1.same s2) r2)
theorem pd_consB {e : Expr} {es : List Expr} {ir : Ex} {irs : List Ex} (h : PEb X C E e ir) (hs : PAb X C E es irs) (ns : notStar e = true) : PAb X C E (e :: es) (ir :: irs) := by
  refine pa_imp (pa_cons h hs (star_of ns es _)) fun σ H Q ⟨O, ρ, so, q⟩ => ⟨O, ρ, so, ?_⟩
  simp only [evalEs] at q
  cases e1 : evalE C ir ρ with
  | bad => rw [e1] at q; exact False.elim q
  | exc c => rw [e1] at q; exact q
  | ok d =>
    rw [e1, Res.bind_ok] at q
    refine fun v H1 s1 r1 => ⟨O, ρ, so.same s1, ?_⟩
    cases e2 : evalEs C irs ρ with
    | bad => rw [e2] at q; exact False.elim q
    | exc c => rw [e2] at q; exact fun H2 s2 => q H2 (s1.trans s2)
    | ok ds =>
      rw [e2, Res.bind_ok] at q
      exact fun vs H2 s2 r2 => q (v :: vs) H2 (s1.trans s2) (.cons (r1.same s2) r2)
theorem pd_tup {es : List Expr} {irs : List Ex} {k : Nat} {pos : Pos} (h : PAs X C E es irs) : PEs X C E (.Tuple es k pos) (.tup irs) := by
  refine pe_imp (pe_tup h) fun σ H Q ⟨O, ρ, so, q⟩ => ⟨O, ρ, so, ?_⟩
  simp only [evalE] at q
  refine (ESs.bindS q).mono fun vs H1 s1 ⟨ds, r, s, q⟩ => ?_
  split at q
  · rename_i hz
    exact ⟨by rw [r.length]; exact hz, q.newTup (Dom.same so.dom s) r⟩
  · exact False.elim q
theorem pd_lst {es : List Expr} {irs : List Ex} {pos : Pos} (h : PAs X C E es irs) : PEs X C E (.List es pos) (.lst irs) := by
  refine pe_imp (pe_lst h) fun σ H Q ⟨O, ρ, so, q⟩ => ⟨O, ρ, so, ?_⟩
  simp only [evalE] at q
  refine (ESs.bindS q).mono fun vs H1 s1 ⟨ds, r, s, q⟩ => ?_
  split at q
  · rename_i hz
    exact ⟨by rw [r.length]; exact hz, q.newLst (Dom.same so.dom s) r⟩
  · exact False.elim q

/-! ### two sides -/
theorem two {a b : Ex} {fr : Bool} {f : D → D → Res D} {σ : L2.St} {H : Hp} {Q : VK} {O : Addr → Prop} {ρ : Env} (so : Sok X.K O σ ρ H)
    (q : ES X.K O fr E ((evalE C a ρ).bind fun x => (evalE C b ρ).bind fun y => f x y) Q H) :
    tBo X.K C E a σ H fun x H1 => tBo X.K C E b σ H1 fun y H2 => rOp X.K fr E f x y H2 Q := by
  refine ⟨O, ρ, so, (EB.bindS q).mono fun x H1 _ ⟨d, r, s1, q⟩ => ⟨O, ρ, so.same s1, (EB.bindS q).mono fun y H2 _ ⟨d2, r2, s2, q⟩ => ⟨O, d, d2, (Dom.same so.dom s1).same s2, r.same s2, r2, q⟩⟩⟩
theorem pd_bin {a b : Expr} {op : Operator} {o : Bop} {ia ib : Ex} {pos : Pos} (ho : OpR X (binaryOp op) (rOp X.K true E (evalBin o))) (ha : PEb X C E a ia) (hb : PEb X C E b ib) : PEs X C E (.BinOp a op b pos) (.bin o ia ib) := by
  refine pe_imp (pe_op ho ha hb) fun σ H Q ⟨O, ρ, so, q⟩ => ?_
  simp only [evalE] at q
  exact two so q
theorem pd_ix {a b : Expr} {ia ib : Ex} {pos : Pos} (hu : X.A.units + 1 < cLine) (ha : PEb X C E a ia) (hb : PEb X C E b ib) (hs : PlainIx b) : PEs X C E (.Subscript a b pos) (.ix ia ib) := by
  refine pe_imp (pe_ix (ix_D (E := E) hu) ha hb hs) fun σ H Q ⟨O, ρ, so, q⟩ => ?_
  simp only [evalE] at q
  exact two so q
theorem pd_cmp {a b : Expr} {op : CmpOp} {o : Cop} {ia ib : Ex} {pos : Pos} (ho : OpR X (compareOp op) (rOp X.K false E (evalCmp o))) (ha : PEb X C E a ia) (hb : PEb X C E b ib) (hm : behindInMarks op b = false) :
    PEs X C E (.Compare a [op] [b] pos) (.cmp o ia ib) := by
  refine pe_imp (pe_cmpR ho ha hb hm) fun σ H Q ⟨O, ρ, so, q⟩ => ?_
  simp only [evalE] at q
  exact two so q
theorem bind_assoc {α β γ : Type} (r : Res α) (f : α → Res β) (g : β → Res γ) : (r.bind f).bind g = r.bind fun a => (f a).bind g := by cases r <;> rfl
/-- a test's wish as a term's -/
theorem ET.es {K : PySem.W.Frag} {O : Addr → Prop} {r : Res D} {Q : Bool → Hp → Prop} {H : Hp} (h : ET E (r.bind asBool) Q H) : ES K O false E r (fun x H' => ∃ k, x = .bl k ∧ Q k H') H := by
  cases r with
  | ok d =>
    cases d with
    | bool b =>
      intro v H' s r _
      cases r
      exact ⟨b, rfl, h H' s⟩
    | _ => exact False.elim h
  | exc c => exact h
  | bad => exact h
theorem pd_cmpT {a b : Expr} {op : CmpOp} {o : Cop} {ia ib : Ex} {pos : Pos} (ho : OpR X (compareOp op) (rOp X.K false E (evalCmp o))) (ha : PEb X C E a ia) (hb : PEb X C E b ib) (hm : behindInMarks op b = false) :
    PTs' X C E (.Compare a [op] [b] pos) (.cmp o ia ib) := by
  refine pt_imp (pt_cmpR ho ha hb hm) fun σ H Q ⟨O, ρ, so, q⟩ => ?_
  have q := ET.es (K := X.K) (O := O) q
  simp only [evalE] at q
  exact two so q
theorem chain_of {a b c : Ex} {fr : Bool} {f f' : D → D → Res D} {σ : L2.St} {H : Hp} {Q : VK} {O : Addr → Prop} {ρ : Env} (so : Sok X.K O σ ρ H)
    (q : ES X.K O false E ((evalE C a ρ).bind fun x => (evalE C b ρ).bind fun y => (f x y).bind fun r => (asBool r).bind fun t => if t = true then (evalE C c ρ).bind fun z => f' y z else .ok (.bool false)) Q H) :
    tChain (rOp X.K false E f) (rOp X.K false E f') (tBo X.K C E a) (tBo X.K C E b) (tBo X.K C E c) σ H Q := by
  refine ⟨O, ρ, so, (EB.bindS q).mono fun x H1 _ ⟨d, r, s1, q⟩ => ⟨O, ρ, so.same s1, (EB.bindS q).mono fun y H2 _ ⟨d2, r2, s2, q⟩ => ⟨O, d, d2, (Dom.same so.dom s1).same s2, r.same s2, r2, ?_⟩⟩⟩
  cases e : f d d2 with
  | bad => rw [e] at q; exact False.elim q
  | exc c => rw [e] at q; exact q
  | ok t =>
    rw [e, Res.bind_ok] at q
    cases t with
    | bool k =>
      intro v H3 s3 r3 _
      cases r3
      refine ⟨k, rfl, ?_⟩
      cases k with
      | false =>
        have q' : ES X.K O false E (.ok (.bool false)) Q H2 := q
        exact iteF (q'.same s3).bool
      | true =>
        refine iteT ⟨O, ρ, (so.same s1).same (s2.trans s3), ?_⟩
        have q' : ES X.K O false E ((evalE C c ρ).bind fun z => f' d2 z) Q H2 := q
        exact (EB.bindS (q'.same s3)).mono fun z H4 _ ⟨d3, r4, s4, q⟩ => ⟨O, d2, d3, ((Dom.same so.dom s1).same s2).same (s3.trans s4), (r2.same s3).same s4, r4, q⟩
    | _ => exact False.elim q
theorem pd_chain {a b c : Expr} {op op' : CmpOp} {o o' : Cop} {ia ib ic : Ex} {pos : Pos} (ho : OpR X (compareOp op) (rOp X.K false E (evalCmp o))) (ho' : OpR X (compareOp op') (rOp X.K false E (evalCmp o')))
    (ha : PEb X C E a ia) (hb : PEb X C E b ib) (hc : PEb X C E c ic) (hm : lastMarks [op, op'] [b, c] = false) : PEs X C E (.Compare a [op, op'] [b, c] pos) (.chain o o' ia ib ic) := by
  refine pe_imp (pe_chain ho ho' ha hb hc hm) fun σ H Q ⟨O, ρ, so, q⟩ => ?_
  simp only [evalE] at q
  exact chain_of (fr := false) so q
theorem pd_chainT {a b c : Expr} {op op' : CmpOp} {o o' : Cop} {ia ib ic : Ex} {pos : Pos} (ho : OpR X (compareOp op) (rOp X.K false E (evalCmp o))) (ho' : OpR X (compareOp op') (rOp X.K false E (evalCmp o')))
    (ha : PEb X C E a ia) (hb : PEb X C E b ib) (hc : PEb X C E c ic) (hm : lastMarks [op, op'] [b, c] = false) : PTs' X C E (.Compare a [op, op'] [b, c] pos) (.chain o o' ia ib ic) := by
  refine pt_imp (pt_chain ho ho' ha hb hc hm) fun σ H Q ⟨O, ρ, so, q⟩ => ?_
  have q := ET.es (K := X.K) (O := O) q
  simp only [evalE] at q
  exact chain_of (fr := false) so q

/-! ### not, and, or -/
theorem pd_neg {a : Expr} {ia : Ex} {pos : Pos} (ha : PEb X C E a ia) : PEs X C E (.UnaryOp .USub a pos) (.neg ia) := by
  refine pe_imp (pe_un un_neg ha) fun σ H Q ⟨O, ρ, so, q⟩ => ⟨O, ρ, so, ?_⟩
  simp only [evalE] at q
  refine (EB.bindS q).mono fun x H1 _ ⟨d, r, s1, q⟩ => ?_
  cases d with
  | int i => exact ⟨i, r.int, q.int⟩
  | _ => exact False.elim q
theorem asBool_bind {K : PySem.W.Frag} {O : Addr → Prop} {fr : Bool} {d : D} {f : Bool → Res D} {Q : VK} {H : Hp} {v : V} (r : RB K O H v d) (q : ES K O fr E ((asBool d).bind f) Q H) : ∃ t, v = .bl t ∧ ES K O fr E (f t) Q H := by
  cases d with
  | bool t => exact ⟨t, r.bool, q⟩
  | _ => exact False.elim q
theorem pd_not {a : Expr} {ia : Ex} {pos : Pos} (ha : PEb X C E a ia) : PEs X C E (.UnaryOp .Not a pos) (.not ia) := by
  refine pe_imp (pe_not ha) fun σ H Q ⟨O, ρ, so, q⟩ => ⟨O, ρ, so, ?_⟩
  simp only [evalE] at q
  refine (EB.bindS q).mono fun x H1 _ ⟨d, r, s1, q⟩ => ?_
  obtain ⟨t, e, q⟩ := asBool_bind r q
  exact ⟨t, e, q.bool⟩
theorem pd_notT {a : Expr} {ia : Ex} {pos : Pos} (ha : PTs' X C E a ia) : PTs' X C E (.UnaryOp .Not a pos) (.not ia) := by
  refine pt_imp (pt_not ha) fun σ H Q ⟨O, ρ, so, q⟩ => ⟨O, ρ, so, ?_⟩
  simp only [evalE, bind_assoc] at q
  rw [← bind_assoc] at q
  cases e : (evalE C ia ρ).bind asBool with
  | ok t => rw [e] at q; exact q
  | exc c => rw [e] at q; exact q
  | bad => rw [e] at q; exact q
/-- a value that is no test's own form, as a test -/
theorem pd_val {e : Expr} {ir : Ex} (h : PEs X C E e ir) (hf : freshE ir = false) (he : ∀ whole, isTrue e X.env whole = (do let v ← whole; standAt e.pos; holding [v] (truthy v))) : PTs' X C E e ir := by
  refine pt_imp (pt_val h he) fun σ H Q ⟨O, ρ, so, q⟩ => ⟨O, ρ, so, ?_⟩
  rw [hf]
  exact ET.es q
theorem ES.any {K : PySem.W.Frag} {O : Addr → Prop} {fr fr' : Bool} {r : Res D} {Q : VK} {H : Hp} (h : ES K O fr E r Q H) (z : fr = false) : ES K O fr' E r Q H := by
  subst z
  cases r with
  | ok d => exact fun v H1 s rb _ => h v H1 s rb fun q => nomatch q
  | exc c => exact h
  | bad => exact h
def andAll : List Ex → Ex
  | [] => .k .none
  | [x] => x
  | x :: y :: r => .and x (andAll (y :: r))
def orAll : List Ex → Ex
  | [] => .k .none
  | [x] => x
  | x :: y :: r => .or x (orAll (y :: r))
theorem pd_and {a b : Expr} {rest : List Expr} {ia ib : Ex} {pos : Pos} (ha : PEb X C E a ia) (hb : PEs X C E (.BoolOp .And (b :: rest) pos) ib) : PEs X C E (.BoolOp .And (a :: b :: rest) pos) (.and ia ib) := by
  refine pe_imp (pe_and ha hb) fun σ H Q ⟨O, ρ, so, q⟩ => ⟨O, ρ, so, ?_⟩
  simp only [evalE] at q
  refine (EB.bindS q).mono fun x H1 _ ⟨d, r, s1, q⟩ => ?_
  obtain ⟨t, e, q⟩ := asBool_bind r q
  refine ⟨t, e, ?_⟩
  cases t with
  | true => exact iteT ⟨O, ρ, so.same s1, ES.any q rfl⟩
  | false => exact iteF (ES.bool q)
theorem pd_or {a b : Expr} {rest : List Expr} {ia ib : Ex} {pos : Pos} (ha : PEb X C E a ia) (hb : PEs X C E (.BoolOp .Or (b :: rest) pos) ib) : PEs X C E (.BoolOp .Or (a :: b :: rest) pos) (.or ia ib) := by
  refine pe_imp (pe_or ha hb) fun σ H Q ⟨O, ρ, so, q⟩ => ⟨O, ρ, so, ?_⟩
  simp only [evalE] at q
  refine (EB.bindS q).mono fun x H1 _ ⟨d, r, s1, q⟩ => ?_
  obtain ⟨t, e, q⟩ := asBool_bind r q
  refine ⟨t, e, ?_⟩
  cases t with
  | true => exact iteT (ES.bool q)
  | false => exact iteF ⟨O, ρ, so.same s1, ES.any q rfl⟩
theorem ET.split {r : Res D} {f : Bool → Res D} {Q : Bool → Hp → Prop} {H : Hp} (h : ET E ((r.bind fun a => (asBool a).bind f).bind asBool) Q H) : ET E (r.bind asBool) (fun t H1 => Same H H1 ∧ ET E ((f t).bind asBool) Q H1) H := by
  have e : ((r.bind fun a => (asBool a).bind f).bind asBool) = (r.bind asBool).bind fun t => (f t).bind asBool := by
    rw [bind_assoc, bind_assoc]
    congr
    funext a
    rw [bind_assoc]
  rw [e] at h
  exact ET.bindT h
theorem ET.mono {r : Res Bool} {Q Q' : Bool → Hp → Prop} {H : Hp} (h : ET E r Q H) (w : ∀ v H', Same H H' → Q v H' → Q' v H') : ET E r Q' H := by
  cases r with
  | ok d => exact fun H1 s => w d H1 s (h H1 s)
  | exc c => exact h
  | bad => exact h
theorem ET.of {t : Bool} {Q : Bool → Hp → Prop} {H : Hp} (h : ET E ((Res.ok (PyData.bool t)).bind asBool) Q H) : Q t H := h H (Same.refl H)
abbrev PWs (X : Cx) (C : Nat → List D → Res D) (E : Nat → Hp → Prop) (e : Expr) (ir : Ex) : Prop := PW X e (tTs X.K C E ir)
theorem pd_andT {a b : Expr} {rest : List Expr} {ia ib : Ex} {pos : Pos} (ha : PTs' X C E a ia) (hb : PWs X C E (.BoolOp .And (b :: rest) pos) ib) : PWs X C E (.BoolOp .And (a :: b :: rest) pos) (.and ia ib) := by
  refine pw_imp (pw_and ha hb) fun σ H Q ⟨O, ρ, so, q⟩ => ⟨O, ρ, so, ?_⟩
  simp only [evalE] at q
  refine (ET.split q).mono fun t H1 s1 ⟨_, q⟩ => ?_
  cases t with
  | true => exact iteT ⟨O, ρ, so.same s1, q⟩
  | false => exact iteF (ET.of q)
theorem pd_orT {a b : Expr} {rest : List Expr} {ia ib : Ex} {pos : Pos} (ha : PTs' X C E a ia) (hb : PWs X C E (.BoolOp .Or (b :: rest) pos) ib) : PWs X C E (.BoolOp .Or (a :: b :: rest) pos) (.or ia ib) := by
  refine pw_imp (pw_or ha hb) fun σ H Q ⟨O, ρ, so, q⟩ => ⟨O, ρ, so, ?_⟩
  simp only [evalE] at q
  refine (ET.split q).mono fun t H1 s1 ⟨_, q⟩ => ?_
  cases t with
  | true => exact iteT (ET.of q)
  | false => exact iteF ⟨O, ρ, so.same s1, q⟩
theorem pd_andL {pos : Pos} : ∀ {es : List Expr} {irs : List Ex}, es ≠ [] → Paired (fun e ir => PEs X C E e ir) es irs → PEs X C E (.BoolOp .And es pos) (andAll irs)
  | [], _, h, _ => absurd rfl h
  | [a], _, _, .cons ha .nil => pe_one ha
  | a :: b :: r, _, _, .cons ha (.cons hb hr) => pd_and ha.b (pd_andL (List.cons_ne_nil b r) (.cons hb hr))
theorem pd_orL {pos : Pos} : ∀ {es : List Expr} {irs : List Ex}, es ≠ [] → Paired (fun e ir => PEs X C E e ir) es irs → PEs X C E (.BoolOp .Or es pos) (orAll irs)
  | [], _, h, _ => absurd rfl h
  | [a], _, _, .cons ha .nil => pe_one ha
  | a :: b :: r, _, _, .cons ha (.cons hb hr) => pd_or ha.b (pd_orL (List.cons_ne_nil b r) (.cons hb hr))
theorem pd_andLT {pos : Pos} : ∀ {es : List Expr} {irs : List Ex}, es ≠ [] → Paired (fun e ir => PTs' X C E e ir) es irs → PWs X C E (.BoolOp .And es pos) (andAll irs)
  | [], _, h, _ => absurd rfl h
  | [a], _, _, .cons ha .nil => pw_and1 ha
  | a :: b :: r, _, _, .cons ha (.cons hb hr) => pd_andT ha (pd_andLT (List.cons_ne_nil b r) (.cons hb hr))
theorem pd_orLT {pos : Pos} : ∀ {es : List Expr} {irs : List Ex}, es ≠ [] → Paired (fun e ir => PTs' X C E e ir) es irs → PWs X C E (.BoolOp .Or es pos) (orAll irs)
  | [], _, h, _ => absurd rfl h
  | [a], _, _, .cons ha .nil => pw_or1 ha
  | a :: b :: r, _, _, .cons ha (.cons hb hr) => pd_orT ha (pd_orLT (List.cons_ne_nil b r) (.cons hb hr))
theorem ET.cond {K : PySem.W.Frag} {O : Addr → Prop} {fr : Bool} {r : Res D} {f : Bool → Res D} {Q : VK} {H : Hp} (h : ES K O fr E (r.bind fun a => (asBool a).bind f) Q H) : ET E (r.bind asBool) (fun t H1 => Same H H1 ∧ ES K O fr E (f t) Q H1) H := by
  rw [← bind_assoc] at h
  exact ET.bindS h
theorem pd_ife {c a b : Expr} {ic ia ib : Ex} {pos : Pos} (hc : PTs' X C E c ic) (ha : PEs X C E a ia) (hb : PEs X C E b ib) : PEs X C E (.IfExp c a b pos) (.ife ic ia ib) := by
  refine pe_imp (pe_ifExp hc ha hb) fun σ H Q ⟨O, ρ, so, q⟩ => ⟨O, ρ, so, ?_⟩
  simp only [evalE] at q
  refine (ET.cond q).mono fun t H1 s1 ⟨_, q⟩ => ?_
  cases t with
  | true => exact iteT ⟨O, ρ, so.same s1, ES.any q rfl⟩
  | false => exact iteF ⟨O, ρ, so.same s1, ES.any q rfl⟩

/-! ### calls -/
theorem pl_of {es : List Expr} {pos : Pos} (h : es.all notStar = true) (env : PySem.Env) : (backTo pos (starEach es env)).any (·.1) = false := by
  induction es with
  | nil => rfl
  | cons e es ih =>
    rw [List.all_cons, Bool.and_eq_true] at h
    rw [star_of h.1]
    have := ih h.2
    simp only [backTo, List.map_cons, List.any_cons, Bool.false_or] at this ⊢
    exact this
end
section
variable {g : Gc} {S : Sc} {T : Nat → Option Fn} {n : Nat} {cls : Nat → Value} {EX : XK} {X : Cx}
theorem kind_of (ok : Cok g S T n cls EX X) {x : Str} {k : NameKind} (h : S.sc.names.lookup x = some k) : X.env.kindOf x = some k := by
  show X.env.scope.names.lookup x = some k
  rw [ok.sc]
  exact h
theorem pd_call (ok : Cok g S T n cls EX X) {x : Str} {f : Nat} {e : Expr} {es : List Expr} {irs : List Ex} {p pos : Pos} (hf : (x, f) ∈ g.fns) (hg : S.sc.names.lookup x = some .globalImplicit) (hd : (x == ("__debug__" : Str)) = false)
    (ns : (e :: es).all notStar = true) (ha : PAs X (callF T n) (Ecl cls EX) (e :: es) irs) : PEs X (callF T n) (Ecl cls EX) (.Call (.Name x p) (e :: es) [] pos) (.call f irs) := by
  obtain ⟨a, fd, ps, hm, hk, hb, F⟩ := ok.w.fns _ hf
  rw [List.all_cons, Bool.and_eq_true] at ns
  refine pe_imp (pe_callS F ok.room (kind_of ok hg) hm hk hb (passAt ok.takes) ha hd (star_of ns.1 _ _) (pl_of ns.2 _)) fun σ H Q ⟨O, ρ, so, q⟩ => ⟨O, ρ, so, ?_⟩
  simp only [evalE] at q
  exact (ESs.bindS q).mono fun vs H1 _ ⟨ds, r, s1, q⟩ => ⟨O, ds, Dom.same so.dom s1, r, q⟩
theorem pd_blt (ok : Cok g S T n cls EX X) {x : Str} {id : String} {f : Bt} {e : Expr} {es : List Expr} {irs : List Ex} {p pos : Pos} {C : Nat → List D → Res D} {E : Nat → Hp → Prop} (hc : CallR X (.builtin id) (rBt X.K (freshE (.bt f irs)) E f))
    (hx : x ∈ bltNames) (hg : S.sc.names.lookup x = some .globalImplicit) (hv : bootBuiltins x = some (.builtin id)) (hn : x ≠ "__name__") (hd : (x == ("__debug__" : Str)) = false)
    (ns : (e :: es).all notStar = true) (ha : PAb X C E (e :: es) irs) : PEs X C E (.Call (.Name x p) (e :: es) [] pos) (.bt f irs) := by
  rw [List.all_cons, Bool.and_eq_true] at ns
  refine pe_imp (pe_callB hc (kind_of ok hg) (ok.w.blt x hx) hv ha hn hd (star_of ns.1 _ _) (pl_of ns.2 _)) fun σ H Q ⟨O, ρ, so, q⟩ => ⟨O, ρ, so, ?_⟩
  simp only [evalE] at q
  exact (EBs.bindS q).mono fun vs H1 _ ⟨ds, r, s1, q⟩ => ⟨O, ds, Dom.same so.dom s1, r, q⟩
theorem pd_bltTy (ok : Cok g S T n cls EX X) {x : Str} {id : String} {f : Bt} {e : Expr} {es : List Expr} {irs : List Ex} {p pos : Pos} {C : Nat → List D → Res D} {E : Nat → Hp → Prop} (hc : CallR X (.type id) (rBt X.K (freshE (.bt f irs)) E f))
    (hx : x ∈ bltNames) (hg : S.sc.names.lookup x = some .globalImplicit) (hv : bootBuiltins x = some (.type id)) (hn : x ≠ "__name__") (hd : (x == ("__debug__" : Str)) = false)
    (ns : (e :: es).all notStar = true) (ha : PAb X C E (e :: es) irs) : PEs X C E (.Call (.Name x p) (e :: es) [] pos) (.bt f irs) := by
  rw [List.all_cons, Bool.and_eq_true] at ns
  refine pe_imp (pe_callTy hc (kind_of ok hg) (ok.w.blt x hx) hv ha hn hd (star_of ns.1 _ _) (pl_of ns.2 _)) fun σ H Q ⟨O, ρ, so, q⟩ => ⟨O, ρ, so, ?_⟩
  simp only [evalE] at q
  exact (EBs.bindS q).mono fun vs H1 _ ⟨ds, r, s1, q⟩ => ⟨O, ds, Dom.same so.dom s1, r, q⟩
/-- isinstance(e, T) -/
theorem pd_isi (ok : Cok g S T n cls EX X) {tn : Str} {ty : String} {f : Bt} {gf : D → Bool} {e : Expr} {ir : Ex} {p p2 pos : Pos} {C : Nat → List D → Res D} {E : Nat → Hp → Prop} (hk : ∀ d, kitB (tyD d) ty = some (gf d)) (hf : evalBt f = bt1 fun d => .ok (.bool (gf d)))
    (hfr : freshE (.bt f [ir]) = false) (hx : ("isinstance" : Str) ∈ bltNames) (ht : tn ∈ bltNames) (hg : S.sc.names.lookup ("isinstance" : Str) = some .globalImplicit) (hgt : S.sc.names.lookup tn = some .globalImplicit)
    (hv : bootBuiltins tn = some (.type ty)) (hn : tn ≠ "__name__") (hd : (tn == ("__debug__" : Str)) = false) (ns : notStar e = true) (ha : PEb X C E e ir) :
    PEs X C E (.Call (.Name "isinstance" p) [e, .Name tn p2] [] pos) (.bt f [ir]) := by
  refine pe_imp (pe_callB (cr_isi (E := E) hk) (kind_of ok hg) (ok.w.blt _ hx) (by decide +kernel) (pa_cons ha (pa_cons (pe_bltn (v := .ty ty) (kind_of ok hgt) (ok.w.blt _ ht) hv rfl hn hd) pa_nil (star_of rfl _ _)) (star_of ns _ _)) (by decide) (by decide) (star_of ns _ _)
    (pl_of (by rfl) _)) fun σ H Q ⟨O, ρ, so, q⟩ => ⟨O, ρ, so, ?_⟩
  simp only [evalE, evalEs] at q
  rw [bind_assoc] at q
  refine (EB.bindS q).mono fun v H1 _ ⟨d, r, s1, q⟩ => ⟨O, v, d, Dom.same so.dom s1, rfl, r, ?_⟩
  rw [Res.bind_ok, Res.bind_ok, hf] at q
  exact ES.any q hfr
/-! ### slices -/
theorem po_of {X : Cx} {C : Nat → List D → Res D} {E : Nat → Hp → Prop} {e : Expr} {ir : Ex} (h : PEb X C E e ir) : PO X (some e) (fun σ H Q => ∃ O ρ, Sok X.K O σ ρ H ∧
    (match (evalEs C [ir] ρ).bind partL with | .ok l => ∀ H', Same H H' → Q l H' | .exc c => ∀ H', Same H H' → E c H' | .bad => False)) := by
  refine ⟨fun pins s σ H Q I q => (po_some h).run pins s σ H Q I ?_⟩
  obtain ⟨O, ρ, so, q⟩ := q
  refine ⟨O, ρ, so, ?_⟩
  simp only [evalEs] at q
  cases e1 : evalE C ir ρ with
  | bad => rw [e1] at q; exact False.elim q
  | exc c => rw [e1] at q; exact q
  | ok d =>
    rw [e1] at q
    intro v H1 s1 r1
    cases d with
    | int i =>
      obtain rfl := r1.int
      exact ⟨i, rfl, q H1 s1⟩
    | _ => exact False.elim q
def tPo (K : PySem.W.Frag) (C : Nat → List D → Res D) (E : Nat → Hp → Prop) (irs : List Ex) : TO := fun σ H Q => ∃ O ρ, Sok K O σ ρ H ∧
    (match (evalEs C irs ρ).bind partL with | .ok l => ∀ H', Same H H' → Q l H' | .exc c => ∀ H', Same H H' → E c H' | .bad => False)
theorem po_nil {X : Cx} {C : Nat → List D → Res D} {E : Nat → Hp → Prop} : PO X none (tPo X.K C E []) :=
  ⟨fun pins s σ H Q I q => po_none.run pins s σ H Q I (by
    obtain ⟨O, ρ, so, q⟩ := q
    exact q H (Same.refl H))⟩
theorem pd_sl {X : Cx} {C : Nat → List D → Res D} {E : Nat → Hp → Prop} {a : Expr} {lo hi : Option Expr} {ia : Ex} {il ih : List Ex} {p2 pos : Pos} (ha : PEb X C E a ia) (hl : PO X lo (tPo X.K C E il)) (hh : PO X hi (tPo X.K C E ih)) :
    PEs X C E (.Subscript a (.Slice lo hi none p2) pos) (.sl ia il ih) := by
  refine pe_imp (pe_slice (sl_D (E := E)) ha hl hh) fun σ H Q ⟨O, ρ, so, q⟩ => ⟨O, ρ, so, ?_⟩
  simp only [evalE] at q
  refine (EB.bindS q).mono fun x H1 _ ⟨d, r, s1, q⟩ => ⟨O, ρ, so.same s1, ?_⟩
  cases e1 : (evalEs C il ρ).bind partL with
  | bad => rw [e1] at q; exact False.elim q
  | exc c => rw [e1] at q; exact q
  | ok l =>
    rw [e1, Res.bind_ok] at q
    refine fun H2 s2 => ⟨O, ρ, (so.same s1).same s2, ?_⟩
    cases e2 : (evalEs C ih ρ).bind partL with
    | bad => rw [e2] at q; exact False.elim q
    | exc c => rw [e2] at q; exact fun H3 s3 => q H3 (s2.trans s3)
    | ok h =>
      rw [e2, Res.bind_ok] at q
      exact fun H3 s3 => ⟨O, d, ((Dom.same so.dom s1).same s2).same s3, (r.same s2).same s3, ES.same (s2.trans s3) q⟩
end
end BP
/-! What a loop or a comprehension walks. -/
namespace BP
open PySem PySem.Spec PyProof.Rows L2

/-! ### a list or a tuple, by its kind -/
def SqK (k : Bool) (K : PySem.W.Frag) (H : Hp) (a : Addr) (xs : List V) : Prop := if k = true then SqL K H a xs else SqT K H a xs
def IterK (k : Bool) (h : Heap) (it a : Addr) (i : Nat) : Prop := if k = true then h.IsListIter it a i else h.IsTupleIter it a i
def IsK (k : Bool) (h : Heap) (a : Addr) (its : Array Value) : Prop := if k = true then h.IsList a its else h.IsTuple a its
def itObj (k : Bool) (a : Addr) : Obj := { cls := .type (if k = true then "list_iterator" else "tuple_iterator"), data := .fields #[.ref a, .int 0 0] }
theorem IterK.keep {k : Bool} {h h' : Heap} {it a : Addr} {i : Nat} (st : IterK k h it a i) (e : ∀ o, h.get? it = some o → h'.get? it = some o) : IterK k h' it a i := by
  cases k with
  | true => exact Heap.IsListIter.at st e
  | false => exact Heap.IsTupleIter.at st e
theorem IterK.obj {k : Bool} {h : Heap} {it a : Addr} {i : Nat} (st : IterK k h it a i) : ∃ o, h.get? it = some o ∧ (∀ v, o.data ≠ .cell v) ∧ o.cls = .type (if k = true then "list_iterator" else "tuple_iterator") := by
  cases k with
  | true => obtain ⟨o, h1, h2, h3⟩ := st; exact ⟨o, h1, (fun v z => by rw [h3] at z; cases z), h2⟩
  | false => obtain ⟨o, h1, h2, h3⟩ := st; exact ⟨o, h1, (fun v z => by rw [h3] at z; cases z), h2⟩
theorem IsK.obj {k : Bool} {h : Heap} {a : Addr} {its : Array Value} (st : IsK k h a its) : ∃ o, h.get? a = some o ∧ o.cls = .type (if k = true then "list" else "tuple") := by
  cases k with
  | true => obtain ⟨o, h1, h2, _⟩ := st; exact ⟨o, h1, h2⟩
  | false => obtain ⟨o, h1, h2, _⟩ := st; exact ⟨o, h1, h2⟩
theorem IsK.push {k : Bool} {h h' : Heap} {a : Addr} {its : Array Value} (st : IsK k h a its) (e : ∀ o, h.get? a = some o → h'.get? a = some o) : IsK k h' a its := by
  cases k with
  | true => exact Heap.IsList.at st e
  | false => exact Heap.IsTuple.at st e
theorem drawsK {prog : Program} {w : World} {A : Around} (hh : A.handled = none) (k : Bool) (it a : Addr) (hne : a ≠ it) (its : Array Value) :
    Draws prog w A it [it, a] its.size (fun i v => its[i]? = some v) (fun i h => IterK k h it a i ∧ IsK k h a its) := by
  cases k with
  | true => exact Draws.list hh it a hne its
  | false => exact Draws.tuple hh it a hne its
theorem beginsK (k : Bool) (a : Addr) (its : Array Value) : Begins (.ref a) (itObj k a) fun h => IsK k h a its := by
  cases k with
  | true => exact begins_list a its
  | false => exact begins_tuple a its
theorem IterK.new {k : Bool} {h : Heap} {it a : Addr} (e : h.get? it = some (itObj k a)) : IterK k h it a 0 := by
  cases k with
  | true => exact ⟨_, e, rfl, rfl⟩
  | false => exact ⟨_, e, rfl, rfl⟩
section
variable {X : Cx} {pins : List (Addr × Obj)} {σ : L2.St} {H : Hp} {s : Shared} {a : Addr} {xs ys : List V}
theorem seqK (k : Bool) (I : Inv X pins σ H s) (h : SqK k X.K H a xs) : ∃ its : List Value, Vals xs its ∧ IsK k s.heap a its.toArray := by
  cases k with
  | true => obtain ⟨its, r, p, _⟩ := I.list h; exact ⟨its, r, p.isList⟩
  | false => obtain ⟨its, r, p, _⟩ := I.tuple h; exact ⟨its, r, p⟩
theorem seqK_inj (k : Bool) (I : Inv X pins σ H s) (h : SqK k X.K H a xs) (h' : SqK k X.K H a ys) : xs = ys := by
  cases k with
  | true => exact I.list_inj h h'
  | false => exact I.tuple_inj h h'
theorem IterK.apart {k k' : Bool} {h : Heap} {it a b : Addr} {i : Nat} {its : Array Value} (st : IterK k h it a i) (q : IsK k' h b its) : b ≠ it := by
  obtain ⟨o, h1, _, h2⟩ := st.obj
  obtain ⟨o', h1', h2'⟩ := q.obj
  intro e
  rw [e, h1] at h1'
  cases h1'
  rw [h2] at h2'
  cases k <;> cases k' <;> simp at h2'
end

/-! ### enumerate -/
def IteK (k : Bool) (K : PySem.W.Frag) (a : Addr) : It :=
  ⟨fun i H => ∃ xs x, SqK k K H a xs ∧ xs[i]? = some x,
    fun i H v H' => ∃ T x, v = .ref T ∧ H T = none ∧ H' = upd H T (.tup [.int (i : Nat), x]) ∧ ∀ xs, SqK k K H a xs → xs[i]? = some x,
    fun i H => ∃ xs, SqK k K H a xs ∧ xs.length = i⟩
theorem turn_enumK {P : Program} {w : World} {K : PySem.W.Frag} {elts : List Expr} {kk : Nat} {tpos : Pos} (k : Bool) (a e it : Addr) :
    Turn P w K (.Tuple elts kk tpos) (IteK k K a) [e, it] e (fun i h => (∃ old, IsEnum h e it ((0 : Int) + (i : Nat)) old) ∧ IterK k h it a i ∧ e ≠ it ∧ e ≠ a) where
  mem := by simp
  obj := fun i h st b hb => by
    obtain ⟨⟨old, he⟩, hi, _⟩ := st
    have e' : b = e ∨ b = it := by simpa using hb
    rcases e' with z | z
    · rw [z]; exact ⟨_, he, fun v q => nomatch q⟩
    · rw [z]; obtain ⟨o, h1, h2, _⟩ := hi.obj; exact ⟨o, h1, h2⟩
  keep := fun i h h' st k => let ⟨⟨old, he⟩, hi, hne⟩ := st; ⟨⟨old, k e (by simp) _ he⟩, hi.keep fun o q => k it (by simp) o q, hne⟩
  item := by
    intro X hP hw hK hc i pins s σ H E I hf st hg
    subst hP hw hK
    obtain ⟨he, hit, hne, hna⟩ := st
    obtain ⟨xs, x, hq, hx⟩ := hg
    obtain ⟨its, rv, p⟩ := seqK k I hq
    obtain ⟨u, hu, ru⟩ := rv.get hx
    have hel : e < s.heap.objs.size := by obtain ⟨_, q⟩ := he; exact Heap.lt_size q
    have hil : it < s.heap.objs.size := by obtain ⟨_, q, _⟩ := hit.obj; exact Heap.lt_size q
    have hlt : i < its.toArray.size := by
      have := (List.getElem?_eq_some_iff.mp hu).1
      simpa using this
    have G := GoesN.enumFrom (elts := elts) (x1 := kk) (pos := tpos) (0 : Int) (drawsK (prog := X.prog) (w := X.w) (A := X.A.in1) (I.ok.hd hc) k it a (hit.apart p) its.toArray) e hne (by simp [hne, hna]) (by simp)
    refine G.goes i s _ E hlt ⟨he, hit, p⟩ fun v h' tk hY st' hk _ => ?_
    obtain ⟨T, t, x', rfl, hT, hx', hTT⟩ := hY
    have ex : x' = u := by
      have : its[i]? = some x' := by simpa using hx'
      rw [hu] at this
      exact (Option.some.inj this).symm
    subst ex
    have i0 : (0 : Int) + (i : Nat) = (i : Nat) := Int.zero_add _
    rw [i0] at hTT
    have new : ObjOk X.prog X.w (upd H T (.tup [.int (i : Nat), x])) h' T (.tup [.int (i : Nat), x]) :=
      ⟨by show 2 ≤ sizeLine; decide, [.int i t, x'], .cons ⟨_, rfl⟩ (.cons ru .nil), hTT⟩
    have I1 : Inv X pins σ (upd H T (.tup [.int (i : Nat), x])) { s with heap := h', toks := tk } :=
      I.turnedNew (ch := [e, it]) (fun b ob hb q => hk b ob (by simpa using hb) q) hf hT new
    refine ⟨.ref T, _, I1, rfl, ⟨T, x, rfl, I.hok.fresh hT, rfl, fun ys hy => by rw [seqK_inj k I hy hq]; exact hx⟩, ⟨st'.1, st'.2.1, hne, hna⟩, fun b hb => ?_⟩
    have hb' : b < s.heap.objs.size := by
      have e' : b = e ∨ b = it := by simpa using hb
      rcases e' with z | z
      · rw [z]; exact hel
      · rw [z]; exact hil
    rw [upd_ne (Nat.ne_of_lt (Nat.lt_of_lt_of_le hb' hT))]
    exact (hf b hb).1
  done := by
    intro X hP hw hK hc i pins s σ H E I hf st hg
    subst hP hw hK
    obtain ⟨he, hit, hne, hna⟩ := st
    obtain ⟨xs, hq, hx⟩ := hg
    obtain ⟨its, rv, p⟩ := seqK k I hq
    have hl := rv.length
    have en : i = its.toArray.size := by simp; omega
    subst en
    have G := GoesN.enumFrom (elts := elts) (x1 := kk) (pos := tpos) (0 : Int) (drawsK (prog := X.prog) (w := X.w) (A := X.A.in1) (I.ok.hd hc) k it a (hit.apart p) its.toArray) e hne (by simp [hne, hna]) (by simp)
    exact G.stops s _ E ⟨he, hit, p⟩ fun h' tk hk _ => I.turnedL (ch := [e, it]) (fun b o hb q => hk b o (by simpa using hb) q) hf
  self := fun A i s Q E st h => let ⟨⟨_, he⟩, _⟩ := st; wpAny_pyIter_enum he h

/-! ### zip of two -/
def Itz2K (k1 k2 : Bool) (K : PySem.W.Frag) (a b : Addr) : It :=
  ⟨fun i H => ∃ (xs ys : List V) (x y : V), SqK k1 K H a xs ∧ SqK k2 K H b ys ∧ xs[i]? = some x ∧ ys[i]? = some y,
    fun i H v H' => ∃ T x y, v = .ref T ∧ H T = none ∧ H' = upd H T (.tup [x, y]) ∧ (∀ xs, SqK k1 K H a xs → xs[i]? = some x) ∧ ∀ ys, SqK k2 K H b ys → ys[i]? = some y,
    fun i H => ∃ xs ys : List V, SqK k1 K H a xs ∧ SqK k2 K H b ys ∧ min xs.length ys.length = i⟩
/-- the cells of a zip of two -/
structure Z2 (z TI TO i1 i2 a b : Addr) : Prop where
  sep : ZipSep2 z TI TO i1 i2 [i1, a] [i2, b]
theorem turn_zip2K {P : Program} {w : World} {K : PySem.W.Frag} {elts : List Expr} {kk : Nat} {tpos : Pos} (k1 k2 : Bool) {a b z TI TO i1 i2 : Addr} (S : ZipSep2 z TI TO i1 i2 [i1, a] [i2, b]) :
    Turn P w K (.Tuple elts kk tpos) (Itz2K k1 k2 K a b) [z, TI, TO, i1, i2] z (fun i h => IsZip h z TI TO .none ∧ IsTupOf2 h TI (.ref i1) (.ref i2) ∧ (∃ x y, IsTupOf2 h TO x y) ∧ IterK k1 h i1 a i ∧ IterK k2 h i2 b i) where
  mem := by simp
  obj := fun i h st c hc => by
    obtain ⟨hz, eT, ⟨x, y, eO⟩, h1, h2⟩ := st
    have e' : c = z ∨ c = TI ∨ c = TO ∨ c = i1 ∨ c = i2 := by simpa using hc
    rcases e' with q | q | q | q | q
    · rw [q]; exact ⟨_, hz, fun v q => nomatch q⟩
    · rw [q]; exact ⟨_, eT, fun v q => nomatch q⟩
    · rw [q]; exact ⟨_, eO, fun v q => nomatch q⟩
    · rw [q]; obtain ⟨o, e1, e2, _⟩ := h1.obj; exact ⟨o, e1, e2⟩
    · rw [q]; obtain ⟨o, e1, e2, _⟩ := h2.obj; exact ⟨o, e1, e2⟩
  keep := fun i h h' st k => by
    obtain ⟨hz, eT, ⟨x, y, eO⟩, h1, h2⟩ := st
    exact ⟨k z (by simp) _ hz, k TI (by simp) _ eT, ⟨x, y, k TO (by simp) _ eO⟩, h1.keep fun o q => k i1 (by simp) o q, h2.keep fun o q => k i2 (by simp) o q⟩
  item := by
    intro X hP hw hK hc i pins s σ H E I hf st hg
    subst hP hw hK
    have st0 := st
    obtain ⟨hz, hTI, hTO, h1, h2⟩ := st
    obtain ⟨xs, ys, x, y, hqx, hqy, hx, hy⟩ := hg
    obtain ⟨its, rv, p⟩ := seqK k1 I hqx
    obtain ⟨its2, rv2, p2⟩ := seqK k2 I hqy
    obtain ⟨u, hu, ru⟩ := rv.get hx
    obtain ⟨u2, hu2, ru2⟩ := rv2.get hy
    have l1 := (List.getElem?_eq_some_iff.mp hu).1
    have l2 := (List.getElem?_eq_some_iff.mp hu2).1
    have hhd := I.ok.hd hc
    have G := GoesN.zip2 (elts := elts) (x1 := kk) (pos := tpos) S (drawsK (prog := X.prog) (w := X.w) (A := X.A.in1) hhd k1 i1 a (h1.apart p) its.toArray) (drawsK (prog := X.prog) (w := X.w) (A := X.A.in1) hhd k2 i2 b (h2.apart p2) its2.toArray)
    have hlt : i < min its.toArray.size its2.toArray.size := by simp; omega
    have live : ∀ c ∈ [z, TI, TO, i1, i2], c < s.heap.objs.size := fun c hcm => by
      have e' : c = z ∨ c = TI ∨ c = TO ∨ c = i1 ∨ c = i2 := by simpa using hcm
      have eT := hTI
      obtain ⟨_, _, eO⟩ := hTO
      obtain ⟨_, e1, _⟩ := h1.obj
      obtain ⟨_, e2, _⟩ := h2.obj
      rcases e' with q | q | q | q | q
      · rw [q]; exact Heap.lt_size hz
      · rw [q]; exact Heap.lt_size eT
      · rw [q]; exact Heap.lt_size eO
      · rw [q]; exact Heap.lt_size e1
      · rw [q]; exact Heap.lt_size e2
    refine G.goes i s _ E hlt ⟨hz, hTI, hTO, ⟨h1, p⟩, h2, p2⟩ fun v h' tk hY st' hk _ => ?_
    obtain ⟨T, x', y', rfl, hT, hx', hy', hTT⟩ := hY
    have ex : x' = u := by
      have : its[i]? = some x' := by simpa using hx'
      rw [hu] at this
      exact (Option.some.inj this).symm
    have ey : y' = u2 := by
      have : its2[i]? = some y' := by simpa using hy'
      rw [hu2] at this
      exact (Option.some.inj this).symm
    subst ex ey
    have new : ObjOk X.prog X.w (upd H T (.tup [x, y])) h' T (.tup [x, y]) :=
      ⟨by show 2 ≤ sizeLine; decide, [x', y'], .cons ru (.cons ru2 .nil), hTT⟩
    have I1 : Inv X pins σ (upd H T (.tup [x, y])) { s with heap := h', toks := tk } :=
      I.turnedNew (ch := [z, TI, TO, i1, i2]) (fun c ob hb q => hk c ob (fun hm => hb (by
        have e' : c = z ∨ c = TO ∨ c = i1 ∨ c = i2 := by simpa using hm
        rcases e' with q | q | q | q <;> simp [q])) q) hf hT new
    refine ⟨.ref T, _, I1, rfl, ⟨T, x, y, rfl, I.hok.fresh hT, rfl, fun l hl => by rw [seqK_inj k1 I hl hqx]; exact hx, fun l hl => by rw [seqK_inj k2 I hl hqy]; exact hy⟩, ⟨st'.1, st'.2.1, st'.2.2.1, st'.2.2.2.1.1, st'.2.2.2.2.1⟩, fun c hcm => ?_⟩
    rw [upd_ne (Nat.ne_of_lt (Nat.lt_of_lt_of_le (live c hcm) hT))]
    exact (hf c hcm).1
  done := by
    intro X hP hw hK hc i pins s σ H E I hf st hg
    subst hP hw hK
    obtain ⟨hz, hTI, hTO, h1, h2⟩ := st
    obtain ⟨xs, ys, hqx, hqy, hend⟩ := hg
    obtain ⟨its, rv, p⟩ := seqK k1 I hqx
    obtain ⟨its2, rv2, p2⟩ := seqK k2 I hqy
    have l1 := rv.length
    have l2 := rv2.length
    have hhd := I.ok.hd hc
    have en : i = min its.toArray.size its2.toArray.size := by simp; omega
    subst en
    have G := GoesN.zip2 (elts := elts) (x1 := kk) (pos := tpos) S (drawsK (prog := X.prog) (w := X.w) (A := X.A.in1) hhd k1 i1 a (h1.apart p) its.toArray) (drawsK (prog := X.prog) (w := X.w) (A := X.A.in1) hhd k2 i2 b (h2.apart p2) its2.toArray)
    exact G.stops s _ E ⟨hz, hTI, hTO, ⟨h1, p⟩, h2, p2⟩ fun h' tk hk _ => I.turnedL (ch := [z, TI, TO, i1, i2]) (fun c o hb q => hk c o (fun hm => hb (by
        have e' : c = z ∨ c = TO ∨ c = i1 ∨ c = i2 := by simpa using hm
        rcases e' with q | q | q | q <;> simp [q])) q) hf
  self := fun A i s Q E st h => wpAny_pyIter_zip st.1 h

/-! ### zip of three -/
def Itz3K (k1 k2 k3 : Bool) (K : PySem.W.Frag) (a b c : Addr) : It :=
  ⟨fun i H => ∃ (xs ys zs : List V) (x y z : V), SqK k1 K H a xs ∧ SqK k2 K H b ys ∧ SqK k3 K H c zs ∧ xs[i]? = some x ∧ ys[i]? = some y ∧ zs[i]? = some z,
    fun i H v H' => ∃ T x y z, v = .ref T ∧ H T = none ∧ H' = upd H T (.tup [x, y, z]) ∧ (∀ xs, SqK k1 K H a xs → xs[i]? = some x) ∧ (∀ ys, SqK k2 K H b ys → ys[i]? = some y) ∧ ∀ zs, SqK k3 K H c zs → zs[i]? = some z,
    fun i H => ∃ xs ys zs : List V, SqK k1 K H a xs ∧ SqK k2 K H b ys ∧ SqK k3 K H c zs ∧ min (min xs.length ys.length) zs.length = i⟩
theorem turn_zip3K {P : Program} {w : World} {K : PySem.W.Frag} {elts : List Expr} {kk : Nat} {tpos : Pos} (k1 k2 k3 : Bool) {a b c z TI TO i1 i2 i3 : Addr} (S : ZipSep3 z TI TO i1 i2 i3 [i1, a] [i2, b] [i3, c]) :
    Turn P w K (.Tuple elts kk tpos) (Itz3K k1 k2 k3 K a b c) [z, TI, TO, i1, i2, i3] z
      (fun i h => IsZip h z TI TO .none ∧ IsTupOf3 h TI (.ref i1) (.ref i2) (.ref i3) ∧ (∃ x y z, IsTupOf3 h TO x y z) ∧ IterK k1 h i1 a i ∧ IterK k2 h i2 b i ∧ IterK k3 h i3 c i) where
  mem := by simp
  obj := fun i h st d hc => by
    obtain ⟨hz, eT, ⟨x, y, _, eO⟩, h1, h2, h3⟩ := st
    have e' : d = z ∨ d = TI ∨ d = TO ∨ d = i1 ∨ d = i2 ∨ d = i3 := by simpa using hc
    rcases e' with q | q | q | q | q | q
    · rw [q]; exact ⟨_, hz, fun v q => nomatch q⟩
    · rw [q]; exact ⟨_, eT, fun v q => nomatch q⟩
    · rw [q]; exact ⟨_, eO, fun v q => nomatch q⟩
    · rw [q]; obtain ⟨o, e1, e2, _⟩ := h1.obj; exact ⟨o, e1, e2⟩
    · rw [q]; obtain ⟨o, e1, e2, _⟩ := h2.obj; exact ⟨o, e1, e2⟩
    · rw [q]; obtain ⟨o, e1, e2, _⟩ := h3.obj; exact ⟨o, e1, e2⟩
  keep := fun i h h' st k => by
    obtain ⟨hz, eT, ⟨x, y, u, eO⟩, h1, h2, h3⟩ := st
    exact ⟨k z (by simp) _ hz, k TI (by simp) _ eT, ⟨x, y, u, k TO (by simp) _ eO⟩, h1.keep fun o q => k i1 (by simp) o q, h2.keep fun o q => k i2 (by simp) o q, h3.keep fun o q => k i3 (by simp) o q⟩
  item := by
    intro X hP hw hK hc i pins s σ H E I hf st hg
    subst hP hw hK
    obtain ⟨hz, hTI, hTO, h1, h2, h3⟩ := st
    obtain ⟨xs, ys, zs, x, y, u, hqx, hqy, hqz, hx, hy, hu⟩ := hg
    obtain ⟨its, rv, p⟩ := seqK k1 I hqx
    obtain ⟨its2, rv2, p2⟩ := seqK k2 I hqy
    obtain ⟨its3, rv3, p3⟩ := seqK k3 I hqz
    obtain ⟨u1, hu1, ru⟩ := rv.get hx
    obtain ⟨u2, hu2, ru2⟩ := rv2.get hy
    obtain ⟨u3, hu3, ru3⟩ := rv3.get hu
    have l1 := (List.getElem?_eq_some_iff.mp hu1).1
    have l2 := (List.getElem?_eq_some_iff.mp hu2).1
    have l3 := (List.getElem?_eq_some_iff.mp hu3).1
    have hhd := I.ok.hd hc
    have G := GoesN.zip3 (elts := elts) (x1 := kk) (pos := tpos) S (drawsK (prog := X.prog) (w := X.w) (A := X.A.in1) hhd k1 i1 a (h1.apart p) its.toArray) (drawsK (prog := X.prog) (w := X.w) (A := X.A.in1) hhd k2 i2 b (h2.apart p2) its2.toArray)
      (drawsK (prog := X.prog) (w := X.w) (A := X.A.in1) hhd k3 i3 c (h3.apart p3) its3.toArray)
    have hlt : i < min (min its.toArray.size its2.toArray.size) its3.toArray.size := by simp; omega
    have live : ∀ d ∈ [z, TI, TO, i1, i2, i3], d < s.heap.objs.size := fun d hcm => by
      have e' : d = z ∨ d = TI ∨ d = TO ∨ d = i1 ∨ d = i2 ∨ d = i3 := by simpa using hcm
      have eT := hTI
      obtain ⟨_, _, _, eO⟩ := hTO
      obtain ⟨_, e1, _⟩ := h1.obj
      obtain ⟨_, e2, _⟩ := h2.obj
      obtain ⟨_, e3, _⟩ := h3.obj
      rcases e' with q | q | q | q | q | q
      · rw [q]; exact Heap.lt_size hz
      · rw [q]; exact Heap.lt_size eT
      · rw [q]; exact Heap.lt_size eO
      · rw [q]; exact Heap.lt_size e1
      · rw [q]; exact Heap.lt_size e2
      · rw [q]; exact Heap.lt_size e3
    refine G.goes i s _ E hlt ⟨hz, hTI, hTO, ⟨h1, p⟩, ⟨h2, p2⟩, h3, p3⟩ fun v h' tk hY st' hk _ => ?_
    obtain ⟨T, x', y', z', rfl, hT, hx', hy', hz', hTT⟩ := hY
    have ex : x' = u1 := by
      have : its[i]? = some x' := by simpa using hx'
      rw [hu1] at this
      exact (Option.some.inj this).symm
    have ey : y' = u2 := by
      have : its2[i]? = some y' := by simpa using hy'
      rw [hu2] at this
      exact (Option.some.inj this).symm
    have ez : z' = u3 := by
      have : its3[i]? = some z' := by simpa using hz'
      rw [hu3] at this
      exact (Option.some.inj this).symm
    subst ex ey ez
    have new : ObjOk X.prog X.w (upd H T (.tup [x, y, u])) h' T (.tup [x, y, u]) :=
      ⟨by show 3 ≤ sizeLine; decide, [x', y', z'], .cons ru (.cons ru2 (.cons ru3 .nil)), hTT⟩
    have I1 : Inv X pins σ (upd H T (.tup [x, y, u])) { s with heap := h', toks := tk } :=
      I.turnedNew (ch := [z, TI, TO, i1, i2, i3]) (fun c ob hb q => hk c ob (fun hm => hb (by
        have e' : c = z ∨ c = TO ∨ c = i1 ∨ c = i2 ∨ c = i3 := by simpa using hm
        rcases e' with q | q | q | q | q <;> simp [q])) q) hf hT new
    refine ⟨.ref T, _, I1, rfl, ⟨T, x, y, u, rfl, I.hok.fresh hT, rfl, fun l hl => by rw [seqK_inj k1 I hl hqx]; exact hx, fun l hl => by rw [seqK_inj k2 I hl hqy]; exact hy, fun l hl => by rw [seqK_inj k3 I hl hqz]; exact hu⟩,
      ⟨st'.1, st'.2.1, st'.2.2.1, st'.2.2.2.1.1, st'.2.2.2.2.1.1, st'.2.2.2.2.2.1⟩, fun d hcm => ?_⟩
    rw [upd_ne (Nat.ne_of_lt (Nat.lt_of_lt_of_le (live d hcm) hT))]
    exact (hf d hcm).1
  done := by
    intro X hP hw hK hc i pins s σ H E I hf st hg
    subst hP hw hK
    obtain ⟨hz, hTI, hTO, h1, h2, h3⟩ := st
    obtain ⟨xs, ys, zs, hqx, hqy, hqz, hend⟩ := hg
    obtain ⟨its, rv, p⟩ := seqK k1 I hqx
    obtain ⟨its2, rv2, p2⟩ := seqK k2 I hqy
    obtain ⟨its3, rv3, p3⟩ := seqK k3 I hqz
    have l1 := rv.length
    have l2 := rv2.length
    have l3 := rv3.length
    have hhd := I.ok.hd hc
    have en : i = min (min its.toArray.size its2.toArray.size) its3.toArray.size := by simp; omega
    subst en
    have G := GoesN.zip3 (elts := elts) (x1 := kk) (pos := tpos) S (drawsK (prog := X.prog) (w := X.w) (A := X.A.in1) hhd k1 i1 a (h1.apart p) its.toArray) (drawsK (prog := X.prog) (w := X.w) (A := X.A.in1) hhd k2 i2 b (h2.apart p2) its2.toArray)
      (drawsK (prog := X.prog) (w := X.w) (A := X.A.in1) hhd k3 i3 c (h3.apart p3) its3.toArray)
    exact G.stops s _ E ⟨hz, hTI, hTO, ⟨h1, p⟩, ⟨h2, p2⟩, h3, p3⟩ fun h' tk hk _ => I.turnedL (ch := [z, TI, TO, i1, i2, i3]) (fun d o hb q => hk d o (fun hm => hb (by
        have e' : d = z ∨ d = TO ∨ d = i1 ∨ d = i2 ∨ d = i3 := by simpa using hm
        rcases e' with q | q | q | q | q <;> simp [q])) q) hf
  self := fun A i s Q E st h => wpAny_pyIter_zip st.1 h
end BP
/-! Walked things as the layer's PI. -/
namespace PySem
set_option maxHeartbeats 1000000 in
theorem bp_meets_enum1 {v : Value} {o : Obj} {H : Heap → Prop} (B : Begins v o H) :
    Meets (Builtin.«enumerate.__new__» ⟨[.type "enumerate", v], []⟩) (fun _ R s => H s.heap ∧
      R (.ok (.ret (.ref (s.heap.push o).objs.size))) { s with heap := (s.heap.push o).push { cls := .type "enumerate", data := .fields #[.none, .bool false, .ref s.heap.objs.size, rawInt 0, .none, .none] } }) :=
  .of_wp fun prog w A R s h => by
    obtain ⟨hp, g, d, tk, os⟩ := s; obtain ⟨h1, h⟩ := h
    have hsub := sub_enumerate
    have q1 : ∀ {A' : Around} {E : Value → Shared → Prop} {Q : Value → Shared → Prop}, Q (.ref hp.objs.size) ⟨hp.push o, g, d, tk, os⟩ → wpAny (model prog w) A' (pyIter v) Q E ⟨hp, g, d, tk, os⟩ :=
      fun q => B.iter prog w _ _ ⟨hp, g, d, tk, os⟩ _ h1 q
    wp_walk using q1
    refine wpAny_stack_any fun st => wpAny_pure ?_
    split
    · rename_i c _ _ _ _ _
      cases (c == Value.type "enumerate")
      · wp_walk using q1
        exact ⟨_, rfl, h⟩
      · wp_walk using q1
        exact ⟨_, rfl, h⟩
    · wp_walk using q1
      exact ⟨_, rfl, h⟩
end PySem
namespace PySem
section
variable {prog : Program} {w : World} {A : Around} {E : Value → Shared → Prop} {s : Shared}
theorem bp_enum_begins1 {v : Value} {o : Obj} {H : Heap → Prop} {Q : Value → Shared → Prop} (B : Begins v o H) (h1 : H s.heap)
    (h : ∀ h', IsEnum h' (s.heap.objs.size + 1) s.heap.objs.size 0 .none → h'.get? s.heap.objs.size = some o → h'.objs.size = s.heap.objs.size + 2 →
      (∀ b o, s.heap.get? b = some o → h'.get? b = some o) → Q (.ref (s.heap.objs.size + 1)) { s with heap := h' }) :
    wpAny (model prog w) A (call (.type "enumerate") [v]) Q E s := by
  refine callType_new F.called_enumerate (by decide) (F.typeCall_enumerate_1 _) (F.newCall_enumerate_1 _) (fun obj => F.args_object_init_2 obj _) F.entry_enumerate_new
    (bp_meets_enum1 B) ⟨h1, ?_⟩
  have hz : (s.heap.push o).objs.size = s.heap.objs.size + 1 := Heap.size_push ..
  show _ ∧ _
  rw [hz]
  have he : IsEnum ((s.heap.push o).push { cls := .type "enumerate", data := .fields #[.none, .bool false, .ref s.heap.objs.size, rawInt 0, .none, .none] }) (s.heap.objs.size + 1) s.heap.objs.size 0 .none := by
    have := Heap.get?_push_size (s.heap.push o) (o := { cls := .type "enumerate", data := .fields #[.none, .bool false, .ref s.heap.objs.size, rawInt 0, .none, .none] }) rfl
    rw [hz] at this; exact this
  refine ⟨⟨_, he, rfl⟩, h _ he (Heap.get?_push_of_some _ (Heap.get?_push_size _ B.free)) (by rw [Heap.size_push, hz]) fun b o x => Heap.get?_push_of_some _ (Heap.get?_push_of_some _ x)⟩
end
end PySem
namespace BP
open PySem PySem.Spec PyProof.Rows L2

/-! ### what stays while it is walked; what it yields -/
def Gm (st : Bool) (O : Addr → Prop) (H1 H : Hp) : Prop := if st = true then Keep O H1 H else Same H1 H
theorem Gm.keep {st : Bool} {O : Addr → Prop} {H1 H : Hp} (h : Gm st O H1 H) : Keep O H1 H := by
  cases st with
  | true => exact h
  | false => exact .of h
def RM (st : Bool) (K : PySem.W.Frag) (O : Addr → Prop) (H : Hp) (v : V) (d : D) : Prop := if st = true then Rep K O H v d else RB K O H v d
theorem RM.rb {st : Bool} {K : PySem.W.Frag} {O : Addr → Prop} {H : Hp} {v : V} {d : D} (h : RM st K O H v d) : RB K O H v d := by
  cases st with
  | true => exact .r h
  | false => exact h
inductive RMs (st : Bool) (K : PySem.W.Frag) (O : Addr → Prop) (H : Hp) : List V → List D → Prop
  | nil : RMs st K O H [] []
  | cons {v : V} {vs : List V} {d : D} {ds : List D} (h : RM st K O H v d) (hs : RMs st K O H vs ds) : RMs st K O H (v :: vs) (d :: ds)
theorem Reps.toM {K : PySem.W.Frag} {O : Addr → Prop} {H : Hp} : ∀ {vs : List V} {ds : List D}, Reps K O H vs ds → RMs true K O H vs ds
  | _, _, .nil => .nil
  | _, _, .cons h hs => .cons h (Reps.toM hs)
theorem RBs.toM {K : PySem.W.Frag} {O : Addr → Prop} {H : Hp} : ∀ {vs : List V} {ds : List D}, RBs K O H vs ds → RMs false K O H vs ds
  | _, _, .nil => .nil
  | _, _, .cons h hs => .cons h (RBs.toM hs)
/-- J walks the items -/
def Wk (st : Bool) (K : PySem.W.Frag) (O : Addr → Prop) (H1 : Hp) (J : It) (items : List D) : Prop := ∀ (O' : Addr → Prop) (i : Nat) (H : Hp), (∀ b, O' b → O b ∨ H1 b = none) → Dom O' H → Gm st O H1 H →
  (i < items.length → J.go i H) ∧ (i = items.length → J.stop i H) ∧ ∀ x H' d, items[i]? = some d → J.yld i H x H' → Same H H' ∧ Rep K O' H' x d
/-- an item of what was there at the start -/
theorem rep_later {K : PySem.W.Frag} {O O' : Addr → Prop} {H1 H : Hp} {x : V} {d : D} (w : ∀ b, O' b → O b ∨ H1 b = none) (k : Keep O H1 H) (r : Rep K O H1 x d) : Rep K O' H x d := by
  have r1 : Rep K (fun b => O b ∨ O' b) H1 x d := r.weak fun b z => z.elim .inl (w b)
  have r2 : Rep K (fun b => O b ∨ O' b) H x d := r1.keep fun b o n e => k b o (fun z => n (.inl z)) e
  exact r2.weak fun b z => .inl (.inr z)
/-- a list or tuple that may be walked -/
def View (st : Bool) (K : PySem.W.Frag) (O : Addr → Prop) (H1 : Hp) (v : V) (ds : List D) : Prop := ∃ k a xs, v = .ref a ∧ (∀ H, Gm st O H1 H → SqK k K H a xs) ∧ Reps K O H1 xs ds
theorem RM.view {st : Bool} {K : PySem.W.Frag} {O : Addr → Prop} {H1 : Hp} {v : V} {d : D} {ds : List D} (h : RM st K O H1 v d) (e : itemsOf d = some ds) : View st K O H1 v ds := by
  cases st with
  | false =>
    have h : RB K O H1 v d := h
    cases d with
    | list ys =>
      cases e
      obtain ⟨a, xs, q1, q2, q3⟩ := h.list
      exact ⟨true, a, xs, q1, fun H g => Same.seq (show Same H1 H from g) q2, q3⟩
    | tuple ys =>
      cases e
      obtain ⟨a, xs, q1, q2, q3⟩ := h.tuple
      exact ⟨false, a, xs, q1, fun H g => SqT.of ((show Same H1 H from g) _ _ q2), q3⟩
    | _ => cases e
  | true =>
    have h : Rep K O H1 v d := h
    cases h with
    | lst hl hs => cases e; exact ⟨true, _, _, rfl, fun H g => (LsO.keep (show Keep O H1 H from g) hl).sq, hs⟩
    | tup hl hs => cases e; exact ⟨false, _, _, rfl, fun H g => (TsO.keep (show Keep O H1 H from g) hl).sq, hs⟩
    | _ => cases e
theorem Gm.refl (st : Bool) (O : Addr → Prop) (H : Hp) : Gm st O H H := by
  cases st with
  | true => exact .of (Same.refl H)
  | false => exact Same.refl H
section
variable {st : Bool} {K : PySem.W.Frag} {O : Addr → Prop} {H1 : Hp} {a : Addr} {xs : List V} {ds : List D}
theorem wk_list (hq : ∀ H, Gm st O H1 H → SqL K H a xs) (r : Reps K O H1 xs ds) : Wk st K O H1 (Itl K a) ds := by
  intro O' i H w dm g
  refine ⟨fun hi => ?_, fun hi => ⟨xs, hq H g, by rw [r.length]; omega⟩, fun x H' d hd y => ?_⟩
  · obtain ⟨v, hv, _⟩ := r.get (List.getElem?_eq_getElem hi)
    exact ⟨xs, v, hq H g, hv⟩
  · obtain ⟨e, y⟩ := y
    subst e
    obtain ⟨v, hv, rv⟩ := r.get hd
    have ex := y xs (hq _ g)
    rw [hv] at ex
    cases ex
    exact ⟨Same.refl _, rep_later w g.keep rv⟩
theorem wk_tup (hq : ∀ H, Gm st O H1 H → SqT K H a xs) (r : Reps K O H1 xs ds) : Wk st K O H1 (Itt K a) ds := by
  intro O' i H w dm g
  refine ⟨fun hi => ?_, fun hi => ⟨xs, hq H g, by rw [r.length]; omega⟩, fun x H' d hd y => ?_⟩
  · obtain ⟨v, hv, _⟩ := r.get (List.getElem?_eq_getElem hi)
    exact ⟨xs, v, hq H g, hv⟩
  · obtain ⟨e, y⟩ := y
    subst e
    obtain ⟨v, hv, rv⟩ := r.get hd
    have ex := y xs (hq _ g)
    rw [hv] at ex
    cases ex
    exact ⟨Same.refl _, rep_later w g.keep rv⟩
theorem wk_range {lo : Int} {n : Nat} : Wk st K O H1 (Itr lo n) ((List.range n).map fun i => .int (lo + (i : Nat))) := by
  intro O' i H w dm g
  refine ⟨fun hi => show i < n by simpa using hi, fun hi => by simp at hi; exact Nat.le_of_eq hi.symm, fun x H' d hd y => ?_⟩
  obtain ⟨e1, e2⟩ := y
  subst e1 e2
  rw [List.getElem?_map, Option.map_eq_some_iff] at hd
  obtain ⟨j, hj, rfl⟩ := hd
  have e : j = i := by
    obtain ⟨_, q⟩ := List.getElem?_eq_some_iff.mp hj
    rw [List.getElem_range] at q
    exact q.symm
  subst e
  exact ⟨Same.refl _, .int _⟩
theorem wk_rangeC {lo c : Int} {n : Nat} : Wk st K O H1 (Itc lo c n) ((List.range n).map fun i => .int (lo + (i : Nat) * c)) := by
  intro O' i H w dm g
  refine ⟨fun hi => show i < n by simpa using hi, fun hi => by simp at hi; exact Nat.le_of_eq hi.symm, fun x H' d hd y => ?_⟩
  obtain ⟨e1, e2⟩ := y
  subst e1 e2
  rw [List.getElem?_map, Option.map_eq_some_iff] at hd
  obtain ⟨j, hj, rfl⟩ := hd
  have e : j = i := by
    obtain ⟨_, q⟩ := List.getElem?_eq_some_iff.mp hj
    rw [List.getElem_range] at q
    exact q.symm
  subst e
  exact ⟨Same.refl _, .int _⟩
theorem wk_str {z : Str} : Wk st K O H1 (Its z) (z.cps.toList.map fun c => .str ⟨#[c]⟩) := by
  intro O' i H w dm g
  refine ⟨fun hi => show i < z.cps.size by simpa using hi, fun hi => by simp at hi; exact Nat.le_of_eq hi.symm, fun x H' d hd y => ?_⟩
  obtain ⟨e1, c, hc, e2⟩ := y
  subst e1 e2
  rw [List.getElem?_map, Option.map_eq_some_iff] at hd
  obtain ⟨j, hj, rfl⟩ := hd
  have e : z.cps.toList[i]? = some c := by simpa using hc
  rw [e] at hj
  cases hj
  exact ⟨Same.refl _, .str _⟩
theorem enumD_get : ∀ (ds : List D) (k i : Nat), (enumD k ds)[i]? = (ds[i]?).map fun d => PyData.tuple [.int ((k + i : Nat) : Int), d]
  | [], _, _ => by simp [enumD]
  | d :: ds, k, 0 => by simp [enumD]
  | d :: ds, k, i + 1 => by
    simp only [enumD, List.getElem?_cons_succ]
    rw [enumD_get ds (k + 1) i]
    have : k + 1 + i = k + (i + 1) := by omega
    rw [this]
theorem enumD_length : ∀ (ds : List D) (k : Nat), (enumD k ds).length = ds.length
  | [], _ => rfl
  | d :: ds, k => by simp [enumD, enumD_length ds (k + 1)]
theorem new_tup' {O' : Addr → Prop} {H : Hp} (dm : Dom O' H) {p : Addr} (h : H p = none) {vs : List V} {es : List D} (r : Reps K O' H vs es) : Same H (upd H p (.tup vs)) ∧ Rep K O' (upd H p (.tup vs)) (.ref p) (.tuple es) := ⟨same_upd h, new_tup dm h r⟩
theorem wk_enum {k : Bool} (hq : ∀ H, Gm st O H1 H → SqK k K H a xs) (r : Reps K O H1 xs ds) : Wk st K O H1 (IteK k K a) (enumD 0 ds) := by
  intro O' i H w dm g
  refine ⟨fun hi => ?_, fun hi => ⟨xs, hq H g, by rw [enumD_length] at hi; rw [r.length]; omega⟩, fun x H' d hd y => ?_⟩
  · rw [enumD_length] at hi
    obtain ⟨v, hv, _⟩ := r.get (List.getElem?_eq_getElem hi)
    exact ⟨xs, v, hq H g, hv⟩
  · obtain ⟨T, x', rfl, hT, rfl, hy⟩ := y
    rw [enumD_get, Option.map_eq_some_iff] at hd
    obtain ⟨d', hd', rfl⟩ := hd
    obtain ⟨v, hv, rv⟩ := r.get hd'
    have ex := hy xs (hq _ g)
    rw [hv] at ex
    cases ex
    rw [Nat.zero_add]
    exact new_tup' dm hT (.cons (.int _) (.cons (rep_later w g.keep rv) .nil))
theorem zip2D_get : ∀ (ds es : List D) (i : Nat), (zip2D ds es)[i]? = (match ds[i]?, es[i]? with | some d, some e => some (PyData.tuple [d, e]) | _, _ => none)
  | [], es, i => by cases es <;> simp [zip2D]
  | d :: ds, [], i => by
    simp only [zip2D]
    cases i <;> simp
  | d :: ds, e :: es, 0 => by simp [zip2D]
  | d :: ds, e :: es, i + 1 => by
    simp only [zip2D, List.getElem?_cons_succ]
    exact zip2D_get ds es i
theorem zip2D_length : ∀ (ds es : List D), (zip2D ds es).length = min ds.length es.length
  | [], es => by cases es <;> simp [zip2D]
  | d :: ds, [] => by simp [zip2D]
  | d :: ds, e :: es => by simp only [zip2D, List.length_cons, zip2D_length ds es]; omega
theorem wk_zip2 {k k2 : Bool} {b : Addr} {ys : List V} {es : List D} (hq : ∀ H, Gm st O H1 H → SqK k K H a xs) (r : Reps K O H1 xs ds) (hq2 : ∀ H, Gm st O H1 H → SqK k2 K H b ys) (r2 : Reps K O H1 ys es) :
    Wk st K O H1 (Itz2K k k2 K a b) (zip2D ds es) := by
  intro O' i H w dm g
  refine ⟨fun hi => ?_, fun hi => ⟨xs, ys, hq H g, hq2 H g, by rw [zip2D_length] at hi; rw [r.length, r2.length]; omega⟩, fun x H' d hd y => ?_⟩
  · rw [zip2D_length] at hi
    obtain ⟨v, hv, _⟩ := r.get (List.getElem?_eq_getElem (show i < ds.length by omega))
    obtain ⟨v2, hv2, _⟩ := r2.get (List.getElem?_eq_getElem (show i < es.length by omega))
    exact ⟨xs, ys, v, v2, hq H g, hq2 H g, hv, hv2⟩
  · obtain ⟨T, x', y', rfl, hT, rfl, hy, hy2⟩ := y
    rw [zip2D_get] at hd
    split at hd
    · rename_i d1 d2 e1 e2
      cases hd
      obtain ⟨v, hv, rv⟩ := r.get e1
      obtain ⟨v2, hv2, rv2⟩ := r2.get e2
      have ex := hy xs (hq _ g)
      rw [hv] at ex
      cases ex
      have ex2 := hy2 ys (hq2 _ g)
      rw [hv2] at ex2
      cases ex2
      exact new_tup' dm hT (.cons (rep_later w g.keep rv) (.cons (rep_later w g.keep rv2) .nil))
    · cases hd
theorem zip3D_get : ∀ (ds es fs : List D) (i : Nat), (zip3D ds es fs)[i]? = (match ds[i]?, es[i]?, fs[i]? with | some d, some e, some f => some (PyData.tuple [d, e, f]) | _, _, _ => none)
  | [], es, fs, i => by simp [zip3D]
  | d :: ds, [], fs, i => by
    simp only [zip3D]
    cases i <;> simp
  | d :: ds, e :: es, [], i => by
    simp only [zip3D]
    cases i <;> simp
  | d :: ds, e :: es, f :: fs, 0 => by simp [zip3D]
  | d :: ds, e :: es, f :: fs, i + 1 => by
    simp only [zip3D, List.getElem?_cons_succ]
    exact zip3D_get ds es fs i
theorem zip3D_length : ∀ (ds es fs : List D), (zip3D ds es fs).length = min (min ds.length es.length) fs.length
  | [], es, fs => by simp [zip3D]
  | d :: ds, [], fs => by simp [zip3D]
  | d :: ds, e :: es, [] => by simp [zip3D]
  | d :: ds, e :: es, f :: fs => by simp only [zip3D, List.length_cons, zip3D_length ds es fs]; omega
theorem wk_zip3 {k k2 k3 : Bool} {b c : Addr} {ys zs : List V} {es fs : List D} (hq : ∀ H, Gm st O H1 H → SqK k K H a xs) (r : Reps K O H1 xs ds) (hq2 : ∀ H, Gm st O H1 H → SqK k2 K H b ys) (r2 : Reps K O H1 ys es)
    (hq3 : ∀ H, Gm st O H1 H → SqK k3 K H c zs) (r3 : Reps K O H1 zs fs) : Wk st K O H1 (Itz3K k k2 k3 K a b c) (zip3D ds es fs) := by
  intro O' i H w dm g
  refine ⟨fun hi => ?_, fun hi => ⟨xs, ys, zs, hq H g, hq2 H g, hq3 H g, by rw [zip3D_length] at hi; rw [r.length, r2.length, r3.length]; omega⟩, fun x H' d hd y => ?_⟩
  · rw [zip3D_length] at hi
    obtain ⟨v, hv, _⟩ := r.get (List.getElem?_eq_getElem (show i < ds.length by omega))
    obtain ⟨v2, hv2, _⟩ := r2.get (List.getElem?_eq_getElem (show i < es.length by omega))
    obtain ⟨v3, hv3, _⟩ := r3.get (List.getElem?_eq_getElem (show i < fs.length by omega))
    exact ⟨xs, ys, zs, v, v2, v3, hq H g, hq2 H g, hq3 H g, hv, hv2, hv3⟩
  · obtain ⟨T, x', y', z', rfl, hT, rfl, hy, hy2, hy3⟩ := y
    rw [zip3D_get] at hd
    split at hd
    · rename_i d1 d2 d3 e1 e2 e3
      cases hd
      obtain ⟨v, hv, rv⟩ := r.get e1
      obtain ⟨v2, hv2, rv2⟩ := r2.get e2
      obtain ⟨v3, hv3, rv3⟩ := r3.get e3
      have ex := hy xs (hq _ g)
      rw [hv] at ex
      cases ex
      have ex2 := hy2 ys (hq2 _ g)
      rw [hv2] at ex2
      cases ex2
      have ex3 := hy3 zs (hq3 _ g)
      rw [hv3] at ex3
      cases ex3
      exact new_tup' dm hT (.cons (rep_later w g.keep rv) (.cons (rep_later w g.keep rv2) (.cons (rep_later w g.keep rv3) .nil)))
    · cases hd
end

/-! ### iterators begin -/
theorem pi_imp {X : Cx} {tg it : Expr} {t t' : TI} (h : PI X tg it t) (w : ∀ σ H Q, t' σ H Q → t σ H Q) : PI X tg it t' := ⟨fun pins s σ H Q I q => h.run pins s σ H Q I (w σ H Q q)⟩
section
variable {X : Cx} {pins : List (Addr × Obj)} {σ : L2.St} {H : Hp} {s : Shared} {R : It → Hp → Prop} {tg : Expr}
theorem pie_list {a : Addr} {xs : List V} (I : Inv X pins σ H s) (hq : SqL X.K H a xs) (q : R (Itl X.K a) H) : wpAny (model X.prog X.w) X.A (pyIter (.ref a)) (PIE X pins σ tg R) X.xe s := by
  obtain ⟨its, rv, p, hz⟩ := I.list hq
  refine wpAny_pyIter_list p.isList ?_
  refine ⟨s.heap.objs.size, [s.heap.objs.size], _, _, H, rfl, I.kept (t' := s.toks) fun b o e => Heap.get?_push_of_some _ e, turn_list a _, ⟨_, Heap.get?_push_size _ rfl, rfl, rfl⟩, fun b hb => ?_, q⟩
  have e : b = s.heap.objs.size := by simpa using hb
  subst e
  exact I.fpOk (Nat.le_refl _) (I.hok.fresh (Nat.le_refl _))
theorem pie_tup {a : Addr} {xs : List V} (I : Inv X pins σ H s) (hq : SqT X.K H a xs) (q : R (Itt X.K a) H) : wpAny (model X.prog X.w) X.A (pyIter (.ref a)) (PIE X pins σ tg R) X.xe s := by
  obtain ⟨its, rv, p, hz⟩ := I.tuple hq
  refine wpAny_pyIter_tuple (show s.heap.IsTuple a its.toArray from p) ?_
  refine ⟨s.heap.objs.size, [s.heap.objs.size], _, _, H, rfl, I.kept (t' := s.toks) fun b o e => Heap.get?_push_of_some _ e, turn_tuple a _, ⟨_, Heap.get?_push_size _ rfl, rfl, rfl⟩, fun b hb => ?_, q⟩
  have e : b = s.heap.objs.size := by simpa using hb
  subst e
  exact I.fpOk (Nat.le_refl _) (I.hok.fresh (Nat.le_refl _))
end
end BP
/-! Walked terms; comprehensions. -/
namespace BP
open PySem PySem.Spec PyProof.Rows L2

def EM (st : Bool) (K : PySem.W.Frag) (O : Addr → Prop) (E : Nat → Hp → Prop) (r : Res D) (Q : VK) (H : Hp) : Prop := match r with
  | .ok d => ∀ v H', Same H H' → RM st K O H' v d → Q v H'
  | .exc c => ∀ H', Same H H' → E c H'
  | .bad => False
def EMs (st : Bool) (K : PySem.W.Frag) (O : Addr → Prop) (E : Nat → Hp → Prop) (r : Res (List D)) (Q : List V → Hp → Prop) (H : Hp) : Prop := match r with
  | .ok d => ∀ v H', Same H H' → RMs st K O H' v d → Q v H'
  | .exc c => ∀ H', Same H H' → E c H'
  | .bad => False
def EI (st : Bool) (K : PySem.W.Frag) (O : Addr → Prop) (E : Nat → Hp → Prop) (r : Res (List D)) (R : It → Hp → Prop) (H : Hp) : Prop := match r with
  | .ok items => ∀ J H1, Same H H1 → Wk st K O H1 J items → R J H1
  | .exc c => ∀ H', Same H H' → E c H'
  | .bad => False
def tM (st : Bool) (K : PySem.W.Frag) (C : Nat → List D → Res D) (E : Nat → Hp → Prop) (ir : Ex) : TE := fun σ H Q => ∃ O ρ, Sok K O σ ρ H ∧ EM st K O E (evalE C ir ρ) Q H
def tMs (st : Bool) (K : PySem.W.Frag) (C : Nat → List D → Res D) (E : Nat → Hp → Prop) (irs : List Ex) : TA := fun σ H Q => ∃ O ρ, Sok K O σ ρ H ∧ EMs st K O E (evalEs C irs ρ) Q H
def tI (st : Bool) (K : PySem.W.Frag) (C : Nat → List D → Res D) (E : Nat → Hp → Prop) (sk : Sk) (irs : List Ex) : TI := fun σ H R => ∃ O ρ, Sok K O σ ρ H ∧ EI st K O E ((evalEs C irs ρ).bind (evalSrc sk)) R H
section
variable {X : Cx} {E : Nat → Hp → Prop} {C : Nat → List D → Res D} {st : Bool}
abbrev PEm (st : Bool) (X : Cx) (C : Nat → List D → Res D) (E : Nat → Hp → Prop) (e : Expr) (ir : Ex) : Prop := PE X e (tM st X.K C E ir)
abbrev PAm (st : Bool) (X : Cx) (C : Nat → List D → Res D) (E : Nat → Hp → Prop) (es : List Expr) (irs : List Ex) : Prop := PA X es (tMs st X.K C E irs)
abbrev PIs (st : Bool) (X : Cx) (C : Nat → List D → Res D) (E : Nat → Hp → Prop) (tg it : Expr) (sk : Sk) (irs : List Ex) : Prop := PI X tg it (tI st X.K C E sk irs)
theorem PEs.m {e : Expr} {ir : Ex} (h : PEs X C E e ir) : PEm true X C E e ir := pe_imp h fun σ H Q ⟨O, ρ, so, q⟩ => ⟨O, ρ, so, by
  cases e1 : evalE C ir ρ with
  | ok d => rw [e1] at q; exact fun v H1 s r _ => q v H1 s r
  | exc c => rw [e1] at q; exact q
  | bad => rw [e1] at q; exact q⟩
theorem PEb.m {e : Expr} {ir : Ex} (h : PEb X C E e ir) : PEm false X C E e ir := h
theorem PAs.m {e : List Expr} {ir : List Ex} (h : PAs X C E e ir) : PAm true X C E e ir := pa_imp h fun σ H Q ⟨O, ρ, so, q⟩ => ⟨O, ρ, so, by
  cases e1 : evalEs C ir ρ with
  | ok d => rw [e1] at q; exact fun v H1 s r => q v H1 s r.toM
  | exc c => rw [e1] at q; exact q
  | bad => rw [e1] at q; exact q⟩
theorem PAb.m {e : List Expr} {ir : List Ex} (h : PAb X C E e ir) : PAm false X C E e ir := pa_imp h fun σ H Q ⟨O, ρ, so, q⟩ => ⟨O, ρ, so, by
  cases e1 : evalEs C ir ρ with
  | ok d => rw [e1] at q; exact fun v H1 s r => q v H1 s r.toM
  | exc c => rw [e1] at q; exact q
  | bad => rw [e1] at q; exact q⟩
theorem PAm.nil : PAm st X C E [] [] := pa_imp pa_nil fun σ H Q ⟨O, ρ, so, q⟩ => q [] H (Same.refl H) .nil
theorem RM.same {K : PySem.W.Frag} {O : Addr → Prop} {H H' : Hp} {v : V} {d : D} (s : Same H H') (h : RM st K O H v d) : RM st K O H' v d := by
  cases st with
  | true => exact Rep.same s h
  | false => exact RB.same s h
theorem PAm.cons {e : Expr} {es : List Expr} {ir : Ex} {irs : List Ex} (h : PEm st X C E e ir) (hs : PAm st X C E es irs) (ns : notStar e = true) : PAm st X C E (e :: es) (ir :: irs) := by
  refine pa_imp (pa_cons h hs (star_of ns es _)) fun σ H Q ⟨O, ρ, so, q⟩ => ⟨O, ρ, so, ?_⟩
  simp only [evalEs] at q
  cases e1 : evalE C ir ρ with
  | bad => rw [e1] at q; exact False.elim q
  | exc c => rw [e1] at q; exact q
  | ok d =>
    rw [e1, Res.bind_ok] at q
    refine fun v H1 s1 r1 => ⟨O, ρ, so.same s1, ?_⟩
    cases e2 : evalEs C irs ρ with
    | bad => rw [e2] at q; exact False.elim q
    | exc c => rw [e2] at q; exact fun H2 s2 => q H2 (s1.trans s2)
    | ok ds =>
      rw [e2, Res.bind_ok] at q
      exact fun vs H2 s2 r2 => q (v :: vs) H2 (s1.trans s2) (.cons (r1.same s2) r2)
theorem RMs.one {K : PySem.W.Frag} {O : Addr → Prop} {H : Hp} {xs : List V} {d : D} (h : RMs st K O H xs [d]) : ∃ v, xs = [v] ∧ RM st K O H v d := by
  cases h with
  | cons h hs => cases hs; exact ⟨_, rfl, h⟩
theorem RMs.two {K : PySem.W.Frag} {O : Addr → Prop} {H : Hp} {xs : List V} {d e : D} (h : RMs st K O H xs [d, e]) : ∃ v w, xs = [v, w] ∧ RM st K O H v d ∧ RM st K O H w e := by
  cases h with
  | cons h hs => cases hs with
    | cons h' hs => cases hs; exact ⟨_, _, rfl, h, h'⟩
theorem RMs.three {K : PySem.W.Frag} {O : Addr → Prop} {H : Hp} {xs : List V} {d e f : D} (h : RMs st K O H xs [d, e, f]) : ∃ v w z, xs = [v, w, z] ∧ RM st K O H v d ∧ RM st K O H w e ∧ RM st K O H z f := by
  cases h with
  | cons h hs => cases hs with
    | cons h' hs => cases hs with
      | cons h'' hs => cases hs; exact ⟨_, _, _, rfl, h, h', h''⟩
/-- the arguments first -/
theorem EI.args {K : PySem.W.Frag} {O : Addr → Prop} {r : Res (List D)} {f : List D → Res (List D)} {R : It → Hp → Prop} {H : Hp} (q : EI st K O E (r.bind f) R H) :
    EMs st K O E r (fun vs H1 => ∃ ds, RMs st K O H1 vs ds ∧ EI st K O E (f ds) R H1) H := by
  cases r with
  | ok ds =>
    refine fun vs H1 s1 rm => ⟨ds, rm, ?_⟩
    have q : EI st K O E (f ds) R H := q
    cases e : f ds with
    | ok items => rw [e] at q; exact fun J H2 s2 wk => q J H2 (s1.trans s2) wk
    | exc c => rw [e] at q; exact fun H2 s2 => q H2 (s1.trans s2)
    | bad => rw [e] at q; exact q
  | exc c => exact q
  | bad => exact q
theorem EI.ok {K : PySem.W.Frag} {O : Addr → Prop} {items : List D} {R : It → Hp → Prop} {H : Hp} (q : EI st K O E (.ok items) R H) {J : It} (w : Wk st K O H J items) : R J H := q J H (Same.refl H) w

/-! ### a value itself is walked -/
theorem pd_seq {tg e : Expr} {ir : Ex} (he : PEm st X C E e ir) : PIs st X C E tg e .seq [ir] := by
  refine ⟨fun pins s σ H R I h => ?_⟩
  obtain ⟨O, ρ, so, q⟩ := h
  have hq : tM st X.K C E ir σ H (fun v H1 => ∃ d, RM st X.K O H1 v d ∧ EI st X.K O E (evalSrc .seq [d]) R H1) := by
    refine ⟨O, ρ, so, ?_⟩
    have q := EI.args q
    simp only [evalEs] at q
    cases e1 : evalE C ir ρ with
    | bad => rw [e1] at q; exact q
    | exc c => rw [e1] at q; exact q
    | ok d =>
      rw [e1] at q
      intro v H1 s1 rm
      obtain ⟨ds, r2, q⟩ := q [v] H1 s1 (.cons rm .nil)
      match ds, r2, q with
      | [d'], r2, q =>
        obtain ⟨v', e', r3⟩ := r2.one
        cases e'
        exact ⟨d', r3, q⟩
      | [], r2, _ => cases r2
      | _ :: _ :: _, r2, _ => cases r2 with
        | cons _ t => cases t
  refine thn (he.run pins s σ H _ I hq) fun v s1 ⟨x, H1, I1, r1, d, rm, q⟩ => ?_
  cases d with
  | list ys =>
    have q : EI st X.K O E (.ok ys) R H1 := q
    obtain ⟨k, a, xs, e1, hs, rs⟩ := rm.view (ds := ys) rfl
    subst e1
    cases r1
    have hk := hs H1 (Gm.refl st O H1)
    cases k with
    | true => exact pie_list I1 hk (q.ok (wk_list hs rs))
    | false => exact pie_tup I1 hk (q.ok (wk_tup hs rs))
  | tuple ys =>
    have q : EI st X.K O E (.ok ys) R H1 := q
    obtain ⟨k, a, xs, e1, hs, rs⟩ := rm.view (ds := ys) rfl
    subst e1
    cases r1
    have hk := hs H1 (Gm.refl st O H1)
    cases k with
    | true => exact pie_list I1 hk (q.ok (wk_list hs rs))
    | false => exact pie_tup I1 hk (q.ok (wk_tup hs rs))
  | str z =>
    obtain rfl := rm.rb.str
    obtain ⟨t, rfl⟩ := r1
    have q : R (Its z) H1 := EI.ok (items := z.cps.toList.map fun c => .str ⟨#[c]⟩) q wk_str
    cases ha : z.cps.all (· < 128)
    · exact wpAny_pyIter_wide ha (pi_one (tk := s1.toks) I1 _ (turn_str _ z t "str_iterator" (.inr rfl)) ⟨_, Heap.get?_push_size _ rfl, rfl, rfl⟩ q)
    · exact wpAny_pyIter_ascii ha (pi_one (tk := s1.toks) I1 _ (turn_str _ z t "str_ascii_iterator" (.inl rfl)) ⟨_, Heap.get?_push_size _ rfl, rfl, rfl⟩ q)
  | _ => exact False.elim q
end

/-! ### range, enumerate, zip -/
section
variable {st : Bool} {K : PySem.W.Frag} {O : Addr → Prop} {E : Nat → Hp → Prop} {H1 : Hp} {vs : List V} {ds : List D} {R : It → Hp → Prop}
theorem sr1_of {f : D → Res (List D)} (rm : RMs st K O H1 vs ds) (q : EI st K O E (sr1 f ds) R H1) : ∃ v d, vs = [v] ∧ RM st K O H1 v d ∧ EI st K O E (f d) R H1 := by
  match ds, rm, q with
  | [d], rm, q =>
    obtain ⟨v, e, r⟩ := rm.one
    exact ⟨v, d, e, r, q⟩
  | [], _, q => exact False.elim q
  | _ :: _ :: _, _, q => exact False.elim q
theorem sr2_of {f : D → D → Res (List D)} (rm : RMs st K O H1 vs ds) (q : EI st K O E (sr2 f ds) R H1) : ∃ v w d e, vs = [v, w] ∧ RM st K O H1 v d ∧ RM st K O H1 w e ∧ EI st K O E (f d e) R H1 := by
  match ds, rm, q with
  | [d, e], rm, q =>
    obtain ⟨v, w, z, r, r2⟩ := rm.two
    exact ⟨v, w, d, e, z, r, r2, q⟩
  | [], _, q => exact False.elim q
  | [_], _, q => exact False.elim q
  | _ :: _ :: _ :: _, _, q => exact False.elim q
theorem sr3_of {f : D → D → D → Res (List D)} (rm : RMs st K O H1 vs ds) (q : EI st K O E (sr3 f ds) R H1) :
    ∃ v w z d e g, vs = [v, w, z] ∧ RM st K O H1 v d ∧ RM st K O H1 w e ∧ RM st K O H1 z g ∧ EI st K O E (f d e g) R H1 := by
  match ds, rm, q with
  | [d, e, g], rm, q =>
    obtain ⟨v, w, z, h, r, r2, r3⟩ := rm.three
    exact ⟨v, w, z, d, e, g, h, r, r2, r3, q⟩
  | [], _, q => exact False.elim q
  | [_], _, q => exact False.elim q
  | [_, _], _, q => exact False.elim q
  | _ :: _ :: _ :: _ :: _, _, q => exact False.elim q
theorem okL_of {α : Type} {o : Option α} {f : α → List D} (q : EI st K O E (okL o f) R H1) : ∃ a, o = some a ∧ EI st K O E (.ok (f a)) R H1 := by
  cases o with
  | none => exact False.elim q
  | some a => exact ⟨a, rfl, q⟩
theorem EMs.mono {r : Res (List D)} {Q Q' : List V → Hp → Prop} {H : Hp} (h : EMs st K O E r Q H) (w : ∀ v H', Same H H' → Q v H' → Q' v H') : EMs st K O E r Q' H := by
  cases r with
  | ok d => exact fun v H1 s rb => w v H1 s (h v H1 s rb)
  | exc c => exact h
  | bad => exact h
end
section
variable {g : Gc} {S : Sc} {T : Nat → Option Fn} {n : Nat} {cls : Nat → Value} {EX : XK} {X : Cx} {C : Nat → List D → Res D} {E : Nat → Hp → Prop} {st : Bool}
theorem bnd_iff {i : Int} : bnd i = true ↔ (-(2 ^ 62) ≤ i ∧ i < 2 ^ 62) := by
  unfold bnd
  rw [Bool.and_eq_true, decide_eq_true_eq, decide_eq_true_eq]
theorem star1 {a : Expr} (ns : [a].all notStar = true) (env : PySem.Env) : starEach [a] env = [(false, eval a env)] := star_of (by simpa using ns) [] env
theorem pd_range1 (ok : Cok g S T n cls EX X) {tg a : Expr} {irs : List Ex} {p pos : Pos} (hg : S.sc.names.lookup ("range" : Str) = some .globalImplicit) (ns : [a].all notStar = true) (ha : PAm st X C E [a] irs) :
    PIs st X C E tg (.Call (.Name "range" p) [a] [] pos) .range1 irs := by
  refine pi_imp (pi_range1 (kind_of ok hg) (ok.w.blt _ (by decide)) ha (star1 ns _)) fun σ H R ⟨O, ρ, so, q⟩ => ⟨O, ρ, so, ?_⟩
  refine (EI.args q).mono fun vs H1 s1 ⟨ds, rm, q⟩ => ?_
  obtain ⟨v, d, rfl, rv, q⟩ := sr1_of rm q
  cases d with
  | int j =>
    obtain rfl := rv.rb.int
    simp only [rg1S] at q
    split at q
    · rename_i hb
      obtain ⟨b1, b2⟩ := bnd_iff.mp hb
      refine ⟨j, rfl, b1, b2, q.ok ?_⟩
      have := wk_range (st := st) (K := X.K) (O := O) (H1 := H1) (lo := 0) (n := j.toNat)
      unfold rangeL
      simpa using this
    · exact False.elim q
  | _ => exact False.elim q
theorem pd_range2 (ok : Cok g S T n cls EX X) {tg a b : Expr} {irs : List Ex} {p pos : Pos} (hg : S.sc.names.lookup ("range" : Str) = some .globalImplicit) (ns : [a, b].all notStar = true) (ha : PAm st X C E [a, b] irs) :
    PIs st X C E tg (.Call (.Name "range" p) [a, b] [] pos) .range2 irs := by
  have n1 : notStar a = true ∧ notStar b = true := by simpa using ns
  refine pi_imp (pi_range2 (kind_of ok hg) (ok.w.blt _ (by decide)) ha ((star_of n1.1 _ _).trans (by rw [star_of n1.2]; rfl)) (star_of n1.2 _ _)) fun σ H R ⟨O, ρ, so, q⟩ => ⟨O, ρ, so, ?_⟩
  refine (EI.args q).mono fun vs H1 s1 ⟨ds, rm, q⟩ => ?_
  obtain ⟨v, w, d, e, rfl, rv, rw', q⟩ := sr2_of rm q
  cases d with
  | int i => cases e with
    | int j =>
      obtain rfl := rv.rb.int
      obtain rfl := rw'.rb.int
      simp only [rg2S] at q
      split at q
      · rename_i hb
        obtain ⟨b1, b2⟩ := bnd_iff.mp hb.1
        obtain ⟨c1, c2⟩ := bnd_iff.mp hb.2
        exact ⟨i, j, rfl, ⟨b1, b2, c1, c2⟩, q.ok wk_range⟩
      · exact False.elim q
    | _ => exact False.elim q
  | _ => exact False.elim q
theorem pd_range3 (ok : Cok g S T n cls EX X) {tg a b c : Expr} {irs : List Ex} {p pos : Pos} (hg : S.sc.names.lookup ("range" : Str) = some .globalImplicit) (ns : [a, b, c].all notStar = true) (ha : PAm st X C E [a, b, c] irs) :
    PIs st X C E tg (.Call (.Name "range" p) [a, b, c] [] pos) .range3 irs := by
  have n1 : notStar a = true ∧ notStar b = true ∧ notStar c = true := by simpa [Bool.and_assoc] using ns
  refine pi_imp (pi_range3 (kind_of ok hg) (ok.w.blt _ (by decide)) ha (star_of n1.1 _ _) (pl_of (es := [b, c]) (by simp [n1.2.1, n1.2.2]) _)) fun σ H R ⟨O, ρ, so, q⟩ => ⟨O, ρ, so, ?_⟩
  refine (EI.args q).mono fun vs H1 s1 ⟨ds, rm, q⟩ => ?_
  obtain ⟨v, w, z, d, e, f, rfl, rv, rw', rz, q⟩ := sr3_of rm q
  cases d with
  | int i => cases e with
    | int j => cases f with
      | int k =>
        obtain rfl := rv.rb.int
        obtain rfl := rw'.rb.int
        obtain rfl := rz.rb.int
        simp only [rg3S] at q
        split at q
        · rename_i hb
          obtain ⟨b1, b2⟩ := bnd_iff.mp hb.2.1
          obtain ⟨c1, c2⟩ := bnd_iff.mp hb.2.2
          obtain rfl := hb.1
          exact ⟨i, j, -1, (i - j).toNat, rfl, RgC.neg b1 b2 c1 c2, q.ok wk_rangeC⟩
        · exact False.elim q
      | _ => exact False.elim q
    | _ => exact False.elim q
  | _ => exact False.elim q
end
end BP
/-! enumerate, zip. -/
namespace BP
open PySem PySem.Spec PyProof.Rows L2

theorem IsK.lt {k : Bool} {h : Heap} {a : Addr} {its : Array Value} (st : IsK k h a its) : a < h.objs.size := by
  obtain ⟨o, e, _⟩ := st.obj
  exact Heap.lt_size e
section
variable {g : Gc} {S : Sc} {T : Nat → Option Fn} {n : Nat} {cls : Nat → Value} {EX : XK} {X : Cx} {C : Nat → List D → Res D} {E : Nat → Hp → Prop} {st : Bool}
theorem pd_enum (ok : Cok g S T n cls EX X) {elts : List Expr} {kk : Nat} {a : Expr} {irs : List Ex} {p pos tpos : Pos} (hg : S.sc.names.lookup ("enumerate" : Str) = some .globalImplicit) (ns : [a].all notStar = true) (ha : PAm st X C E [a] irs) :
    PIs st X C E (.Tuple elts kk tpos) (.Call (.Name "enumerate" p) [a] [] pos) .enum irs := by
  refine ⟨fun pins s σ H R I h => ?_⟩
  have hq : tMs st X.K C E irs σ H (fun vs H1 => ∃ O, ∃ v d, vs = [v] ∧ RM st X.K O H1 v d ∧ EI st X.K O E (enumS d) R H1) := by
    obtain ⟨O, ρ, so, q⟩ := h
    exact ⟨O, ρ, so, (EI.args q).mono fun vs H1 s1 ⟨ds, rm, q⟩ => let ⟨v, d, e, r, q⟩ := sr1_of rm q; ⟨O, v, d, e, r, q⟩⟩
  refine Call_ (ld_blt I (kind_of ok hg) (ok.w.blt _ (by decide)) boot_enumerate (PyProof.Rows.callWith_type1 (thn (ha.run pos pins s σ H _ I hq) fun us s1 ⟨vs, H1, I1, r1, q1⟩ => ?_) (star1 ns _) rfl))
  obtain ⟨O, v, d, rfl, rm, q⟩ := q1
  obtain ⟨ds, hd, q⟩ := okL_of q
  obtain ⟨k, b, xs, rfl, hs, rs⟩ := rm.view hd
  cases r1 with
  | cons r rr =>
    cases rr
    cases r
    obtain ⟨its, rv, p'⟩ := seqK k I1 (hs H1 (Gm.refl st O H1))
    refine bp_enum_begins1 (beginsK k b its.toArray) p' fun h' he hit hsz hk => wpAny_pyIter_enum he ?_
    have I2 : Inv X pins σ H1 { s1 with heap := h' } := I1.kept (t' := s1.toks) hk
    refine ⟨s1.heap.objs.size + 1, [s1.heap.objs.size + 1, s1.heap.objs.size], _, _, H1, rfl, I2, turn_enumK k b (s1.heap.objs.size + 1) s1.heap.objs.size, ⟨⟨.none, he⟩, .new hit, Nat.succ_ne_self _, ?_⟩, fun c hc => ?_, q.ok (wk_enum hs rs)⟩
    · exact Ne.symm (Nat.ne_of_lt (Nat.lt_succ_of_lt p'.lt))
    · have e' : c = s1.heap.objs.size + 1 ∨ c = s1.heap.objs.size := by simpa using hc
      have hle : s1.heap.objs.size ≤ c := by rcases e' with z | z <;> (rw [z]; first | exact Nat.le_refl _ | exact Nat.le_add_right _ _)
      exact I1.fpOk hle (I1.hok.fresh hle)
theorem two_of {α β γ : Type} {x : Option α} {y : Option β} {f : α → β → γ} {c : γ} (h : (x.bind fun a => y.map fun b => f a b) = some c) : ∃ a b, x = some a ∧ y = some b ∧ c = f a b := by
  cases x with
  | none => cases h
  | some a => cases y with
    | none => cases h
    | some b => cases h; exact ⟨a, b, rfl, rfl, rfl⟩
theorem pd_zip2 (ok : Cok g S T n cls EX X) {elts : List Expr} {kk : Nat} {a b : Expr} {irs : List Ex} {p pos tpos : Pos} (hg : S.sc.names.lookup ("zip" : Str) = some .globalImplicit) (ns : [a, b].all notStar = true) (ha : PAm st X C E [a, b] irs) :
    PIs st X C E (.Tuple elts kk tpos) (.Call (.Name "zip" p) [a, b] [] pos) .zip2 irs := by
  have n1 : notStar a = true ∧ notStar b = true := by simpa using ns
  refine ⟨fun pins s σ H R I h => ?_⟩
  have hq : tMs st X.K C E irs σ H (fun vs H1 => ∃ O, ∃ v w d e, vs = [v, w] ∧ RM st X.K O H1 v d ∧ RM st X.K O H1 w e ∧ EI st X.K O E (zip2S d e) R H1) := by
    obtain ⟨O, ρ, so, q⟩ := h
    exact ⟨O, ρ, so, (EI.args q).mono fun vs H1 s1 ⟨ds, rm, q⟩ => let ⟨v, w, d, e, z, r, r2, q⟩ := sr2_of rm q; ⟨O, v, w, d, e, z, r, r2, q⟩⟩
  refine Call_ (ld_blt I (kind_of ok hg) (ok.w.blt _ (by decide)) PyProof.Rows.boot_zip (PyProof.Rows.callWith_type1 (thn (ha.run pos pins s σ H _ I hq) fun us s1 ⟨vs, H1, I1, r1, q1⟩ => ?_) (star_of n1.1 _ _) (pl_of (es := [b]) (by simp [n1.2]) _)))
  obtain ⟨O, v, w, d, e, rfl, rm, rm2, q⟩ := q1
  obtain ⟨⟨ds, es⟩, hd, q⟩ := okL_of q
  obtain ⟨_, _, hd, he, z⟩ := two_of hd
  cases z
  obtain ⟨k, b, xs, rfl, hs, rs⟩ := rm.view hd
  obtain ⟨k2, b2, ys, rfl, hs2, rs2⟩ := rm2.view he
  cases r1 with
  | cons r rr =>
    cases rr with
    | cons r' rr =>
      cases rr
      cases r
      cases r'
      obtain ⟨its, rv, p'⟩ := seqK k I1 (hs H1 (Gm.refl st O H1))
      obtain ⟨its2, rv2, p2⟩ := seqK k2 I1 (hs2 H1 (Gm.refl st O H1))
      refine zip_begins2 (beginsK k b its.toArray) (beginsK k2 b2 its2.toArray) p' p2 fun h' hz hT hO h1 h2 hsz hk => wpAny_pyIter_zip hz ?_
      have I2 : Inv X pins σ H1 { s1 with heap := h' } := I1.kept (t' := s1.toks) hk
      refine ⟨s1.heap.objs.size + 4, [s1.heap.objs.size + 4, s1.heap.objs.size + 2, s1.heap.objs.size + 3, s1.heap.objs.size, s1.heap.objs.size + 1], _, _, H1, rfl, I2,
        turn_zip2K k k2 (zip_sep2 (fp1 := [b]) (fp2 := [b2]) (by simpa using p'.lt) (by simpa using p2.lt)), ⟨hz, hT, ⟨_, _, hO⟩, .new h1, .new h2⟩, fun c hc => ?_, q.ok (wk_zip2 hs rs hs2 rs2)⟩
      have e' : c = s1.heap.objs.size + 4 ∨ c = s1.heap.objs.size + 2 ∨ c = s1.heap.objs.size + 3 ∨ c = s1.heap.objs.size ∨ c = s1.heap.objs.size + 1 := by simpa using hc
      have hle : s1.heap.objs.size ≤ c := by rcases e' with z | z | z | z | z <;> (rw [z]; first | exact Nat.le_refl _ | exact Nat.le_add_right _ _)
      exact I1.fpOk hle (I1.hok.fresh hle)
theorem pd_zip3 (ok : Cok g S T n cls EX X) {elts : List Expr} {kk : Nat} {a b c : Expr} {irs : List Ex} {p pos tpos : Pos} (hg : S.sc.names.lookup ("zip" : Str) = some .globalImplicit) (ns : [a, b, c].all notStar = true) (ha : PAm st X C E [a, b, c] irs) :
    PIs st X C E (.Tuple elts kk tpos) (.Call (.Name "zip" p) [a, b, c] [] pos) .zip3 irs := by
  have n1 : notStar a = true ∧ notStar b = true ∧ notStar c = true := by simpa [Bool.and_assoc] using ns
  refine ⟨fun pins s σ H R I h => ?_⟩
  have hq : tMs st X.K C E irs σ H (fun vs H1 => ∃ O, ∃ v w z d e f, vs = [v, w, z] ∧ RM st X.K O H1 v d ∧ RM st X.K O H1 w e ∧ RM st X.K O H1 z f ∧ EI st X.K O E (zip3S d e f) R H1) := by
    obtain ⟨O, ρ, so, q⟩ := h
    exact ⟨O, ρ, so, (EI.args q).mono fun vs H1 s1 ⟨ds, rm, q⟩ => let ⟨v, w, z, d, e, f, u, r, r2, r3, q⟩ := sr3_of rm q; ⟨O, v, w, z, d, e, f, u, r, r2, r3, q⟩⟩
  refine Call_ (ld_blt I (kind_of ok hg) (ok.w.blt _ (by decide)) PyProof.Rows.boot_zip (PyProof.Rows.callWith_type1 (thn (ha.run pos pins s σ H _ I hq) fun us s1 ⟨vs, H1, I1, r1, q1⟩ => ?_) (star_of n1.1 _ _) (pl_of (es := [b, c]) (by simp [n1.2.1, n1.2.2]) _)))
  obtain ⟨O, v, w, z, d, e, f, rfl, rm, rm2, rm3, q⟩ := q1
  obtain ⟨⟨ds, es, fs⟩, hd, q⟩ := okL_of q
  obtain ⟨hd, he, hf⟩ : itemsOf d = some ds ∧ itemsOf e = some es ∧ itemsOf f = some fs := by
    cases h1 : itemsOf d with
    | none => rw [h1] at hd; cases hd
    | some x => cases h2 : itemsOf e with
      | none => rw [h1, h2] at hd; cases hd
      | some y => cases h3 : itemsOf f with
        | none => rw [h1, h2, h3] at hd; cases hd
        | some z => rw [h1, h2, h3] at hd; cases hd; exact ⟨rfl, rfl, rfl⟩
  obtain ⟨k, b, xs, rfl, hs, rs⟩ := rm.view hd
  obtain ⟨k2, b2, ys, rfl, hs2, rs2⟩ := rm2.view he
  obtain ⟨k3, b3, zs, rfl, hs3, rs3⟩ := rm3.view hf
  cases r1 with
  | cons r rr =>
    cases rr with
    | cons r' rr =>
      cases rr with
      | cons r'' rr =>
        cases rr
        cases r
        cases r'
        cases r''
        obtain ⟨its, rv, p'⟩ := seqK k I1 (hs H1 (Gm.refl st O H1))
        obtain ⟨its2, rv2, p2⟩ := seqK k2 I1 (hs2 H1 (Gm.refl st O H1))
        obtain ⟨its3, rv3, p3⟩ := seqK k3 I1 (hs3 H1 (Gm.refl st O H1))
        refine zip_begins3 (beginsK k b its.toArray) (beginsK k2 b2 its2.toArray) (beginsK k3 b3 its3.toArray) p' p2 p3 fun h' hz hT hO h1 h2 h3 hsz hk => wpAny_pyIter_zip hz ?_
        have I2 : Inv X pins σ H1 { s1 with heap := h' } := I1.kept (t' := s1.toks) hk
        refine ⟨s1.heap.objs.size + 5, [s1.heap.objs.size + 5, s1.heap.objs.size + 3, s1.heap.objs.size + 4, s1.heap.objs.size, s1.heap.objs.size + 1, s1.heap.objs.size + 2], _, _, H1, rfl, I2,
          turn_zip3K k k2 k3 (zip_sep3 (fp1 := [b]) (fp2 := [b2]) (fp3 := [b3]) (by simpa using p'.lt) (by simpa using p2.lt) (by simpa using p3.lt)), ⟨hz, hT, ⟨_, _, _, hO⟩, .new h1, .new h2, .new h3⟩, fun c hc => ?_, q.ok (wk_zip3 hs rs hs2 rs2 hs3 rs3)⟩
        have e' : c = s1.heap.objs.size + 5 ∨ c = s1.heap.objs.size + 3 ∨ c = s1.heap.objs.size + 4 ∨ c = s1.heap.objs.size ∨ c = s1.heap.objs.size + 1 ∨ c = s1.heap.objs.size + 2 := by simpa using hc
        have hle : s1.heap.objs.size ≤ c := by rcases e' with z | z | z | z | z | z <;> (rw [z]; first | exact Nat.le_refl _ | exact Nat.le_add_right _ _)
        exact I1.fpOk hle (I1.hok.fresh hle)
end
end BP
/-! Targets; comprehensions. -/
namespace BP
open PySem PySem.Spec PyProof.Rows L2

/-! ### slots set, forgotten -/
theorem wipe_get {σ : L2.St} {i : Nat} : ∀ {vs : List Nat}, (wipe σ vs)[i]? = if i ∈ vs then (if i < σ.length then some none else none) else σ[i]?
  | [] => by simp [wipe]
  | v :: vs => by
    unfold wipe
    by_cases h : v = i
    · subst h
      by_cases hv : v < σ.length
      · rw [List.getElem?_set_self (by rw [wipe_length]; exact hv)]; simp [hv]
      · rw [List.getElem?_eq_none (by simp [wipe_length]; omega)]; simp [hv]
    · rw [List.getElem?_set_ne h, wipe_get]
      have : (i ∈ v :: vs) ↔ i ∈ vs := by simp [Ne.symm h]
      simp only [this]
theorem wipe_set {σ : L2.St} {i : Nat} {x : Option V} {vs : List Nat} (h : i ∈ vs) : wipe (σ.set i x) vs = wipe σ vs := by
  apply List.ext_getElem?
  intro j
  rw [wipe_get, wipe_get, List.length_set]
  by_cases hj : j ∈ vs
  · rw [if_pos hj, if_pos hj]
  · rw [if_neg hj, if_neg hj, List.getElem?_set_ne (fun e => hj (by rw [← e]; exact h))]
theorem wipeR_length (ρ : Env) : ∀ vs : List Nat, (wipeR ρ vs).length = ρ.length
  | [] => rfl
  | v :: vs => by unfold wipeR; rw [List.length_set, wipeR_length ρ vs]
theorem wipeR_some {ρ : Env} {i : Nat} {x : Slot} (hx : x ≠ .non) : ∀ {vs : List Nat}, (wipeR ρ vs)[i]? = some x → ρ[i]? = some x ∧ i ∉ vs
  | [], h => ⟨h, by simp⟩
  | v :: vs, h => by
    unfold wipeR at h
    by_cases hi : v = i
    · subst hi
      by_cases hv : v < (wipeR ρ vs).length
      · rw [List.getElem?_set_self hv] at h; cases h; exact absurd rfl hx
      · rw [List.getElem?_eq_none (by simpa using hv)] at h; cases h
    · rw [List.getElem?_set_ne hi] at h
      obtain ⟨h1, h2⟩ := wipeR_some hx h
      exact ⟨h1, by simp only [List.mem_cons, not_or]; exact ⟨fun e => hi e.symm, h2⟩⟩
section
variable {K : PySem.W.Frag} {O O' : Addr → Prop} {H H' : Hp} {σ : L2.St} {ρ : Env}
theorem Sok.wipe (h : Sok K O σ ρ H) (vs : List Nat) : Sok K O (wipe σ vs) (wipeR ρ vs) H where
  len := by rw [wipe_length, wipeR_length, h.len]
  val := fun i d e => by
    obtain ⟨e1, e2⟩ := wipeR_some (by intro z; cases z) e
    obtain ⟨v, q, r⟩ := h.val i d e1
    exact ⟨v, by rw [wipe_out e2]; exact q, r⟩
  own := fun i d e => by
    obtain ⟨e1, e2⟩ := wipeR_some (by intro z; cases z) e
    obtain ⟨v, q, r⟩ := h.own i d e1
    exact ⟨v, by rw [wipe_out e2]; exact q, r⟩
  inj := fun i j d e a e1 e2 e3 e4 => h.inj i j d e a (wipeR_some (by intro z; cases z) e1).1 (wipeR_some (by intro z; cases z) e2).1 (wipe_some e3).1 (wipe_some e4).1
  dom := h.dom
theorem Sok.setV (h : Sok K O σ ρ H) (i : Nat) {v : V} {d : D} (r : Rep K O H v d) : Sok K O (σ.set i (some v)) (ρ.set i (.val d)) H := by
  have key : ∀ (j : Nat) (x : Slot), (ρ.set i (.val d))[j]? = some x → (j = i ∧ j < σ.length ∧ x = .val d) ∨ (j ≠ i ∧ ρ[j]? = some x) := fun j x e => by
    by_cases hj : j = i
    · subst hj
      by_cases hl : j < ρ.length
      · rw [List.getElem?_set_self hl] at e
        cases e
        exact .inl ⟨rfl, by rw [h.len]; exact hl, rfl⟩
      · rw [List.getElem?_eq_none (by simp; omega)] at e; cases e
    · rw [List.getElem?_set_ne (Ne.symm hj)] at e
      exact .inr ⟨hj, e⟩
  refine ⟨by rw [List.length_set, List.length_set, h.len], fun j e hj => ?_, fun j e hj => ?_, fun j k d' e' a e1 e2 e3 e4 => ?_, h.dom⟩
  · rcases key j _ hj with ⟨rfl, hl, z⟩ | ⟨hn, z⟩
    · cases z
      exact ⟨v, by rw [List.getElem?_set_self hl], r⟩
    · obtain ⟨w, q, r'⟩ := h.val j e z
      exact ⟨w, by rw [List.getElem?_set_ne (Ne.symm hn)]; exact q, r'⟩
  · rcases key j _ hj with ⟨rfl, hl, z⟩ | ⟨hn, z⟩
    · cases z
    · obtain ⟨w, q, r'⟩ := h.own j e z
      exact ⟨w, by rw [List.getElem?_set_ne (Ne.symm hn)]; exact q, r'⟩
  · rcases key j _ e1 with ⟨rfl, hl, z⟩ | ⟨hn, z⟩
    · cases z
    · rcases key k _ e2 with ⟨rfl, hl', z'⟩ | ⟨hn', z'⟩
      · cases z'
      · rw [List.getElem?_set_ne (Ne.symm hn)] at e3
        rw [List.getElem?_set_ne (Ne.symm hn')] at e4
        exact h.inj j k d' e' a z z' e3 e4
theorem Sok.weak (h : Sok K O σ ρ H) (w : ∀ b, O' b → O b ∨ H b = none) (m : ∀ b, O b → O' b) (s : Same H H') (dm : Dom O' H') : Sok K O' σ ρ H' :=
  ⟨h.len, fun i d e => let ⟨v, q, r⟩ := h.val i d e; ⟨v, q, (r.weak w).same s⟩, fun i d e => let ⟨a, q, oa, r⟩ := h.own i d e; ⟨a, q, m a oa, (r.weak w).same s⟩, h.inj, dm⟩
end

/-- what is own behind was own ahead -/
def OwnSub (σ : L2.St) (ρ : Env) (σ' : L2.St) (ρ' : Env) : Prop := ∀ (i : Nat) (d : D) (a : Addr), ρ'[i]? = some (Slot.own d) → σ'[i]? = some (some (V.ref a)) → ρ[i]? = some (Slot.own d) ∧ σ[i]? = some (some (V.ref a))
theorem OwnSub.refl (σ : L2.St) (ρ : Env) : OwnSub σ ρ σ ρ := fun _ _ _ h h' => ⟨h, h'⟩
theorem OwnSub.trans {σ σ' σ'' : L2.St} {ρ ρ' ρ'' : Env} (h : OwnSub σ ρ σ' ρ') (h' : OwnSub σ' ρ' σ'' ρ'') : OwnSub σ ρ σ'' ρ'' := fun i d a e e' => let ⟨x, y⟩ := h' i d a e e'; h i d a x y
theorem OwnSub.setV (σ : L2.St) (ρ : Env) (i : Nat) (v : Option V) (d : D) : OwnSub σ ρ (σ.set i v) (ρ.set i (.val d)) := fun j e a h h' => by
  by_cases hj : i = j
  · subst hj
    by_cases hl : i < ρ.length
    · rw [List.getElem?_set_self hl] at h; cases h
    · rw [List.getElem?_eq_none (by simp; omega)] at h; cases h
  · rw [List.getElem?_set_ne hj] at h h'
    exact ⟨h, h'⟩

/-! ### targets -/
def tgIx : Tg → List Nat
  | .n i => [i]
  | .t is => is
/-- the target takes what stands at v -/
def gD (K : PySem.W.Frag) (t : Tg) : TG := fun v σ H Q => ∃ O ρ d ρ', Sok K O σ ρ H ∧ Rep K O H v d ∧ bindT ρ t d = some ρ' ∧
  ∀ σ', Sok K O σ' ρ' H → (∀ vs, (∀ i ∈ tgIx t, i ∈ vs) → wipe σ' vs = wipe σ vs) → OwnSub σ ρ σ' ρ' → Q σ' H
theorem pg_imp {X : Cx} {tg : Expr} {t t' : TG} (h : PG X tg t) (w : ∀ v σ H Q, t' v σ H Q → t v σ H Q) : PG X tg t' := ⟨fun pins s σ H v u Q I r q => h.run pins s σ H v u Q I r (w v σ H Q q)⟩
def NameAt (X : Cx) (e : Expr) (i : Nat) : Prop := ∃ x pos, e = .Name x pos ∧ X.N[i]? = some x ∧ Loc X.env.scope x ∧ (X.fn x = true ∨ X.env.scope.names.lookup x = some .local)
section
variable {X : Cx}
theorem pg_one (hN : X.N.Nodup) {e : Expr} {i : Nat} (h : NameAt X e i) : PG X e (gD X.K (.n i)) := by
  obtain ⟨x, pos, rfl, h1, h2, h3⟩ := h
  refine pg_imp (pg_name hN h1 h2 h3) fun v σ H Q ⟨O, ρ, d, ρ', so, r, e, q⟩ => ?_
  cases e
  exact q _ (so.setV i r) (fun vs hv => wipe_set (hv i (by simp [tgIx]))) (.setV _ _ _ _ _)
def gNames : List Nat → TGs
  | [] => gNil
  | i :: is => gCons (gName i) (gNames is)
theorem pgs_names (hN : X.N.Nodup) : ∀ {es : List Expr} {is : List Nat}, Paired (NameAt X) es is → PGs X es (gNames is)
  | _, _, .nil => pgs_nil
  | _, _, .cons h hs => by
    obtain ⟨x, pos, rfl, h1, h2, h3⟩ := h
    exact pgs_cons (pg_name hN h1 h2 h3) (pgs_names hN hs)
theorem names_each : ∀ {es : List Expr} {is : List Nat}, Paired (NameAt X) es is → (assignEach es X.env).length = is.length ∧ (assignEach es X.env).findIdx? (·.1) = none
  | _, _, .nil => ⟨rfl, rfl⟩
  | _, _, .cons h hs => by
    obtain ⟨x, pos, rfl, h1, h2, h3⟩ := h
    obtain ⟨q1, q2⟩ := names_each hs
    refine ⟨by simp only [assignEach, List.length_cons, q1], ?_⟩
    rw [assignEach, List.findIdx?_cons]
    · simp only [q2]; rfl
    · intro a b z; cases z
theorem gNames_ok {K : PySem.W.Frag} {O : Addr → Prop} {H : Hp} {σ0 : L2.St} {ρ0 : Env} {js : List Nat} : ∀ {is : List Nat} {vs : List V} {ds : List D} {σ : L2.St} {ρ ρ' : Env} {Q : L2.St → Hp → Prop}, (∀ i ∈ is, i ∈ js) → Sok K O σ ρ H → Reps K O H vs ds → putsV ρ is ds = some ρ' →
    (∀ vs, (∀ i ∈ js, i ∈ vs) → wipe σ vs = wipe σ0 vs) → OwnSub σ0 ρ0 σ ρ → (∀ σ', Sok K O σ' ρ' H → (∀ vs, (∀ i ∈ js, i ∈ vs) → wipe σ' vs = wipe σ0 vs) → OwnSub σ0 ρ0 σ' ρ' → Q σ' H) → gNames is vs σ H Q
  | [], _, _, _, _, _, _, _, so, .nil, e, hw, ow, q => by
    cases e
    exact ⟨rfl, q _ so hw ow⟩
  | i :: is, _, _, _, _, _, _, hj, so, .cons r rs, e, hw, ow, q => by
    refine ⟨_, _, rfl, ?_⟩
    exact gNames_ok (fun k hk => hj k (List.mem_cons_of_mem _ hk)) (so.setV i r) rs e (fun vs hv => by rw [wipe_set (hv i (hj i List.mem_cons_self))]; exact hw vs hv) (ow.trans (.setV _ _ _ _ _)) q
  | [], _, _, _, _, _, _, _, _, .cons _ _, e, _, _, _ => by cases e
  | _ :: _, _, _, _, _, _, _, _, _, .nil, e, _, _, _ => by cases e
theorem pg_many (hc : X.calm = true) (hN : X.N.Nodup) {es : List Expr} {is : List Nat} {k : Nat} {pos : Pos} (h : Paired (NameAt X) es is) : PG X (.Tuple es k pos) (gD X.K (.t is)) := by
  have hs := pgs_names hN h
  obtain ⟨hn, hst⟩ := names_each h
  refine ⟨fun pins s σ H v u Q I r ⟨O, ρ, d, ρ', so, rp, e, q⟩ => ?_⟩
  cases d with
  | tuple ds =>
    simp only [bindT] at e
    split at e
    · rename_i hl
      obtain ⟨a, xs, rfl, hq, rs⟩ := RB.tuple (.r rp)
      exact (pg_tup hc hs hn hst).run pins s σ H _ u Q I r ⟨a, xs, rfl, .of hq, by rw [rs.length, hl], gNames_ok (js := is) (fun _ z => z) so rs e (fun _ _ => rfl) (.refl _ _) q⟩
    · cases e
  | list ds =>
    simp only [bindT] at e
    split at e
    · rename_i hl
      obtain ⟨a, xs, rfl, hq, rs⟩ := RB.list (.r rp)
      exact (pg_lst hc hs hn hst).run pins s σ H _ u Q I r ⟨a, xs, rfl, hq, by rw [rs.length, hl], gNames_ok (js := is) (fun _ z => z) so rs e (fun _ _ => rfl) (.refl _ _) q⟩
    · cases e
  | _ => cases e
end

/-! ### comprehensions -/
theorem compL_exc {turn : D → Res (Option D)} {items : List D} {c : Nat} (h : noExc (compL turn items) = .exc c) : False := by
  unfold noExc at h
  split at h <;> rename_i q
  · cases h
  · exact q _ h
theorem noExc_ok {α : Type} {r : Res α} {a : α} (h : noExc r = .ok a) : r = .ok a := by
  cases r <;> first | exact h | cases h
theorem bind_ok_iff {α β : Type} {r : Res α} {f : α → Res β} {b : β} (h : r.bind f = .ok b) : ∃ a, r = .ok a ∧ f a = .ok b := by
  cases r with
  | ok a => exact ⟨a, rfl, h⟩
  | exc c => cases h
  | bad => cases h
def tAll (K : PySem.W.Frag) (C : Nat → List D → Res D) (E : Nat → Hp → Prop) (irs : List Ex) : TT := fun σ H Q => ∃ O ρ, Sok K O σ ρ H ∧ ET E (evalAll C irs ρ) Q H
theorem pts_all0 {X : Cx} {C : Nat → List D → Res D} {E : Nat → Hp → Prop} : PTs X [] (tAll X.K C E []) :=
  ⟨fun pins s σ H Q I ⟨O, ρ, so, q⟩ => pts_nil.run pins s σ H Q I (q H (Same.refl H))⟩
theorem pts_all1 {X : Cx} {C : Nat → List D → Res D} {E : Nat → Hp → Prop} {c : Expr} {ic : Ex} (h : PTs' X C E c ic) : PTs X [c] (tAll X.K C E [ic]) :=
  ⟨fun pins s σ H Q I ⟨O, ρ, so, q⟩ => (pts_one h).run pins s σ H Q I (by
    refine ⟨O, ρ, so, ?_⟩
    simp only [evalAll] at q
    cases e : evalE C ic ρ with
    | bad => rw [e] at q; exact q
    | exc c => rw [e] at q; exact q
    | ok d =>
      rw [e, Res.bind_ok] at q
      rw [Res.bind_ok]
      cases e2 : asBool d with
      | bad => rw [e2] at q; exact q
      | exc c => rw [e2] at q; exact q
      | ok t =>
        rw [e2, Res.bind_ok] at q
        cases t with
        | true => exact q
        | false => exact q)⟩
section
variable {X : Cx} {C : Nat → List D → Res D} {E : Nat → Hp → Prop}
/-- one turn -/
def turnD (C : Nat → List D → Res D) (e : Ex) (own : List Nat) (t : Tg) (conds : List Ex) (ρ : Env) : D → Res (Option D) := fun d => match bindT (wipeR ρ own) t d with
  | some ρ' => (evalAll C conds ρ').bind fun ok => if ok = true then (evalE C e ρ').bind fun y => .ok (some y) else .ok none
  | none => .bad
theorem eval_comp (e : Ex) (own : List Nat) (t : Tg) (sk : Sk) (src conds : List Ex) (ρ : Env) : evalE C (.comp e own t sk src conds) ρ = ((evalEs C src ρ).bind (evalSrc sk)).bind fun items =>
    (noExc (compL (turnD C e own t conds ρ) items)).bind fun r => if items.length ≤ sizeLine then .ok (.list r) else .bad := by
  rw [bind_assoc, evalE]
  rfl
theorem comp_ok {e : Ex} {own : List Nat} {t : Tg} {sk : Sk} {src conds : List Ex} {σ : L2.St} {H : Hp} {Q : VK} {E' : Nat → Hp → Prop} (ht : ∀ i ∈ tgIx t, i ∈ own)
    (h : tS X.K C E (.comp e own t sk src conds) σ H Q) : tLc (tI false X.K C E sk src) (gD X.K t) (tAll X.K C E' conds) (tS X.K C E' e) own σ H Q := by
  obtain ⟨O, ρ, so, q⟩ := h
  rw [eval_comp] at q
  refine ⟨O, ρ, so, ?_⟩
  generalize (evalEs C src ρ).bind (evalSrc sk) = rs at q
  cases rs with
  | bad => exact False.elim q
  | exc c => exact q
  | ok items =>
    rw [Res.bind_ok] at q
    cases hr : noExc (compL (turnD C e own t conds ρ) items) with
    | bad => rw [hr] at q; exact False.elim q
    | exc c => exact (compL_exc hr).elim
    | ok r =>
      rw [hr, Res.bind_ok] at q
      split at q
      · rename_i hz
        have hr := noExc_ok hr
        intro J H1 s1 wk D hD
        have so1 := so.same s1
        let O' : Addr → Prop := fun b => O b ∨ b = D
        have w : ∀ b, O' b → O b ∨ H1 b = none := fun b z => z.elim .inl fun z => .inr (by rw [z]; exact hD)
        have hOD : ¬ O D := fun z => so1.dom D z hD
        have dm1 : ∀ {H' : Hp}, Same H1 H' → H' D ≠ none → Dom O' H' := fun {H'} s hd b z => by
          rcases z with z | z
          · exact Dom.same so1.dom s b z
          · rw [z]; exact hd
        let Inv' : Nat → Hp → Prop := fun i H' => ∃ acc ds rest, Same H1 H' ∧ H' D = some (.lst acc) ∧ Reps X.K O' H' acc ds ∧ acc.length ≤ i ∧ compL (turnD C e own t conds ρ) (items.drop i) = .ok rest ∧ r = ds ++ rest
        have s3 : Same H1 (upd H1 D (.lst [])) := same_upd hD
        refine ⟨fun i m H' => m = items.length - i ∧ i ≤ items.length ∧ Inv' i H', ⟨items.length, by simp, Nat.zero_le _, [], [], r, s3, upd_same, .nil, Nat.zero_le _, by simpa using hr, rfl⟩, ?_⟩
        rintro i m H' ⟨rfl, hi, acc, ds, rest, s4, hD4, rp, hl, hc, rfl⟩
        have dm4 : Dom O' H' := dm1 s4 (by rw [hD4]; intro z; cases z)
        obtain ⟨k1, k2, k3⟩ := wk O' i H' w dm4 (show Gm false O H1 H' from s4)
        by_cases hlt : i < items.length
        · refine .inr ⟨k1 hlt, Inv' (i + 1), fun H5 z => ⟨items.length - (i + 1), by omega, rfl, hlt, z⟩, fun x H5 y => ?_⟩
          obtain ⟨s5, rx⟩ := k3 x H5 items[i] (List.getElem?_eq_getElem hlt) y
          have hdrop : items.drop i = items[i] :: items.drop (i + 1) := List.drop_eq_getElem_cons hlt
          rw [hdrop, compL] at hc
          obtain ⟨o, ho, hc⟩ := bind_ok_iff hc
          obtain ⟨r2, hr2, hc⟩ := bind_ok_iff hc
          have so5 : Sok X.K O' (wipe σ own) (wipeR ρ own) H5 := (so1.wipe own).weak w (fun _ => .inl) (s4.trans s5) (dm1 (s4.trans s5) (by rw [s5 D _ hD4]; intro z; cases z))
          unfold turnD at ho
          split at ho
          · rename_i ρ' hb
            refine ⟨O', _, _, ρ', so5, rx, hb, fun σ' so' hw _ => ⟨?_, ?_⟩⟩
            · have := hw own ht
              rw [this]
              apply List.ext_getElem?
              intro j
              rw [wipe_get, wipe_length, wipe_get]
              split <;> rfl
            · refine ⟨O', ρ', so', ?_⟩
              obtain ⟨b, hb1, ho⟩ := bind_ok_iff ho
              rw [hb1]
              intro H6 s6
              cases b with
              | false =>
                simp only [Bool.false_eq_true, if_false] at ho ⊢
                cases ho
                cases hc
                exact ⟨acc, ds, _, (s4.trans s5).trans s6, s6 _ _ (s5 _ _ hD4), (rp.same s5).same s6, by omega, hr2, rfl⟩
              | true =>
                simp only [if_true] at ho ⊢
                obtain ⟨yd, hy, ho⟩ := bind_ok_iff ho
                cases ho
                cases hc
                refine ⟨O', ρ', so'.same s6, ?_⟩
                rw [hy]
                intro y7 H7 s7 r7 _
                have hD7 := s7 _ _ (s6 _ _ (s5 _ _ hD4))
                refine ⟨acc, hD7, by omega, acc ++ [y7], ds ++ [yd], r2, ?_, upd_same, ?_, ?_, hr2, by simp⟩
                · exact fun b o z => by
                    rw [upd_ne (ne_of_none z hD)]
                    exact s7 _ _ (s6 _ _ (s5 _ _ (s4 _ _ z)))
                · refine (Reps.snoc r7 (((rp.same s5).same s6).same s7)).keep fun b o nb z => ?_
                  rw [upd_ne fun z2 => nb (.inr z2)]
                  exact z
                · rw [List.length_append]; simp; omega
          · cases ho
        · have ei : i = items.length := by omega
          subst ei
          refine .inl ⟨k2 rfl, ?_⟩
          rw [List.drop_length, compL] at hc
          cases hc
          rw [List.append_nil] at q
          have rp' : Reps X.K O H' acc ds := rp.weak fun b z => .inl (.inl z)
          exact q (.ref D) H' (s1.trans s4) (.lst (.inl ⟨hOD, .inl hD4⟩) rp') fun _ _ => ⟨D, rfl, s1.free hD, .lst hD4 rp⟩
      · exact False.elim q
end
end BP
/-! Statements: the state, its steps. -/
namespace BP
open PySem PySem.Spec PyProof.Rows L2

/-- what a stretch of a body starts from: M may be changed of what is there, C are the caller's own, U the owned ones there -/
structure Bs where
  M : Addr → Prop
  C : Addr → Prop
  U : Addr → Prop
  H : Hp
structure Stt (K : PySem.W.Frag) (B : Bs) (O : Addr → Prop) (σ : L2.St) (ρ : Env) (H : Hp) : Prop where
  ok : Sok K O σ ρ H
  lo : ∀ b, B.C b → O b
  hi : ∀ b, O b → B.U b ∨ B.H b = none
  kp : Keep B.M B.H H
  ow : ∀ (i : Nat) (d : D) (a : Addr), ρ[i]? = some (Slot.own d) → σ[i]? = some (some (V.ref a)) → ¬ B.C a ∧ (B.M a ∨ B.H a = none)
def St' (K : PySem.W.Frag) (B : Bs) (σ : L2.St) (ρ : Env) (H : Hp) : Prop := ∃ O, Stt K B O σ ρ H
section
variable {K : PySem.W.Frag} {B : Bs} {O : Addr → Prop} {σ : L2.St} {ρ : Env} {H H' : Hp}
theorem Keep.trans {M : Addr → Prop} {H H1 H2 : Hp} (h : Keep M H H1) (h' : Keep M H1 H2) : Keep M H H2 := fun b o n e => h' b o n (h b o n e)
theorem Stt.same (h : Stt K B O σ ρ H) (s : Same H H') : Stt K B O σ ρ H' := ⟨h.ok.same s, h.lo, h.hi, h.kp.trans (.of s), h.ow⟩
theorem Stt.sub {σ' : L2.St} {ρ' : Env} (h : Stt K B O σ ρ H) (so : Sok K O σ' ρ' H) (w : OwnSub σ ρ σ' ρ') : Stt K B O σ' ρ' H :=
  ⟨so, h.lo, h.hi, h.kp, fun i d a e e' => let ⟨x, y⟩ := w i d a e e'; h.ow i d a x y⟩
/-- an address that wasn't there a moment ago -/
theorem Stt.new (h : Stt K B O σ ρ H) {a : Addr} (n : H a = none) : ¬ O a ∧ ¬ B.C a ∧ (B.M a ∨ B.H a = none) := by
  have no : ¬ O a := fun z => h.ok.dom a z n
  refine ⟨no, fun z => no (h.lo a z), ?_⟩
  cases e : B.H a with
  | none => exact .inr rfl
  | some o =>
    by_cases m : B.M a
    · exact .inl m
    · rw [h.kp a o m e] at n; cases n
/-- a new list or dict gets an owner -/
theorem Stt.own_new (bM : ∀ b, B.M b → B.U b) (h : Stt K B O σ ρ H) (s : Same H H') {a : Addr} (n : H a = none) {d : D} (r : Own K (fun b => O b ∨ b = a) H' a d) (i : Nat) :
    St' K B (σ.set i (some (.ref a))) (ρ.set i (.own d)) H' := by
  obtain ⟨n1, n2, n3⟩ := h.new n
  let O' : Addr → Prop := fun b => O b ∨ b = a
  have ok' : Sok K O' σ ρ H' := h.ok.weak (fun b z => z.elim .inl fun z => .inr (by rw [z]; exact n)) (fun _ => .inl) s fun b z => by
    rcases z with z | z
    · exact Dom.same h.ok.dom s b z
    · rw [z]; exact r.there
  have key : ∀ (j : Nat) (x : Slot), (ρ.set i (.own d))[j]? = some x → (j = i ∧ j < σ.length ∧ x = .own d) ∨ (j ≠ i ∧ ρ[j]? = some x) := fun j x e => by
    by_cases hj : j = i
    · subst hj
      by_cases hl : j < ρ.length
      · rw [List.getElem?_set_self hl] at e
        cases e
        exact .inl ⟨rfl, by rw [h.ok.len]; exact hl, rfl⟩
      · rw [List.getElem?_eq_none (by simp; omega)] at e; cases e
    · rw [List.getElem?_set_ne (Ne.symm hj)] at e
      exact .inr ⟨hj, e⟩
  -- the addresses of the others aren't the new one
  have other : ∀ (j : Nat) (e : D), ρ[j]? = some (.own e) → σ[j]? = some (some (.ref a)) → False := fun j e z q => by
    obtain ⟨a', q', _, r'⟩ := h.ok.own j e z
    rw [q] at q'
    cases q'
    exact r'.there n
  refine ⟨O', ⟨by rw [List.length_set, List.length_set, h.ok.len], fun j e hj => ?_, fun j e hj => ?_, fun j k d' e' a' e1 e2 e3 e4 => ?_, ok'.dom⟩, fun b z => .inl (h.lo b z), fun b z => ?_, h.kp.trans (.of s), fun j e a' hj hs => ?_⟩
  · rcases key j _ hj with ⟨rfl, hl, z⟩ | ⟨hn, z⟩
    · cases z
    · obtain ⟨w, q, r'⟩ := ok'.val j e z
      exact ⟨w, by rw [List.getElem?_set_ne (Ne.symm hn)]; exact q, r'⟩
  · rcases key j _ hj with ⟨rfl, hl, z⟩ | ⟨hn, z⟩
    · cases z
      exact ⟨a, by rw [List.getElem?_set_self hl], .inr rfl, r⟩
    · obtain ⟨w, q, r'⟩ := ok'.own j e z
      exact ⟨w, by rw [List.getElem?_set_ne (Ne.symm hn)]; exact q, r'⟩
  · rcases key j _ e1 with ⟨rfl, hl, z⟩ | ⟨hn, z⟩
    · rcases key k _ e2 with ⟨rfl, hl', z'⟩ | ⟨hn', z'⟩
      · rfl
      · rw [List.getElem?_set_self hl] at e3
        cases e3
        rw [List.getElem?_set_ne (Ne.symm hn')] at e4
        exact (other k _ z' e4).elim
    · rcases key k _ e2 with ⟨rfl, hl', z'⟩ | ⟨hn', z'⟩
      · rw [List.getElem?_set_self hl'] at e4
        cases e4
        rw [List.getElem?_set_ne (Ne.symm hn)] at e3
        exact (other j _ z e3).elim
      · rw [List.getElem?_set_ne (Ne.symm hn)] at e3
        rw [List.getElem?_set_ne (Ne.symm hn')] at e4
        exact h.ok.inj j k d' e' a' z z' e3 e4
  · rcases z with z | z
    · exact h.hi b z
    · rw [z]; exact n3.elim (fun m => .inl (bM _ m)) .inr
  · rcases key j _ hj with ⟨rfl, hl, z⟩ | ⟨hn, z⟩
    · rw [List.getElem?_set_self hl] at hs
      cases hs
      exact ⟨n2, n3⟩
    · rw [List.getElem?_set_ne (Ne.symm hn)] at hs
      exact h.ow j e a' z hs
/-- an own list or dict is changed -/
theorem Stt.chg (h : Stt K B O σ ρ H) {i : Nat} {d d' : D} {a : Addr} (e : ρ[i]? = some (.own d)) (e' : σ[i]? = some (some (.ref a))) {o : HO} (r : Own K O (upd H a o) a d') :
    Stt K B O σ (ρ.set i (.own d')) (upd H a o) := by
  obtain ⟨a2, q1, oa, _⟩ := h.ok.own i d e
  rw [e'] at q1
  cases q1
  obtain ⟨n2, n3⟩ := h.ow i d a e e'
  have kO : Keep O H (upd H a o) := fun b x nb z => by rw [upd_ne fun y => nb (by rw [y]; exact oa)]; exact z
  have hl : i < ρ.length := (List.getElem?_eq_some_iff.mp e).1
  have key : ∀ (j : Nat) (x : Slot), (ρ.set i (.own d'))[j]? = some x → (j = i ∧ x = .own d') ∨ (j ≠ i ∧ ρ[j]? = some x) := fun j x z => by
    by_cases hj : j = i
    · subst hj
      rw [List.getElem?_set_self hl] at z
      cases z
      exact .inl ⟨rfl, rfl⟩
    · rw [List.getElem?_set_ne (Ne.symm hj)] at z
      exact .inr ⟨hj, z⟩
  have back : ∀ (j : Nat) (x : D), (ρ.set i (.own d'))[j]? = some (.own x) → ∃ y, ρ[j]? = some (.own y) := fun j x z => by
    rcases key j _ z with ⟨rfl, _⟩ | ⟨_, z⟩
    · exact ⟨d, e⟩
    · exact ⟨x, z⟩
  refine ⟨⟨by rw [List.length_set, h.ok.len], fun j x hj => ?_, fun j x hj => ?_, fun j k x y a' e1 e2 e3 e4 => ?_, fun b ob => ?_⟩, h.lo, h.hi, fun b x nb z => ?_, fun j x a' hj hs => ?_⟩
  · rcases key j _ hj with ⟨rfl, z⟩ | ⟨hn, z⟩
    · cases z
    · obtain ⟨w, q, r'⟩ := h.ok.val j x z
      exact ⟨w, q, r'.keep kO⟩
  · rcases key j _ hj with ⟨rfl, z⟩ | ⟨hn, z⟩
    · cases z
      exact ⟨a, e', oa, r⟩
    · obtain ⟨w, q, ow, r'⟩ := h.ok.own j x z
      refine ⟨w, q, ow, r'.keep kO fun o' z' => ?_⟩
      rw [upd_ne fun y => hn (h.ok.inj j i x d a z e (by rw [q, y]) e')]
      exact z'
  · obtain ⟨x', z1⟩ := back j x e1
    obtain ⟨y', z2⟩ := back k y e2
    exact h.ok.inj j k x' y' a' z1 z2 e3 e4
  · by_cases hb : b = a
    · rw [hb, upd_same]; intro z; cases z
    · rw [upd_ne hb]; exact h.ok.dom b ob
  · have z' := h.kp b x nb z
    rw [upd_ne fun y => ?_]
    · exact z'
    · rcases n3 with m | m
      · exact nb (by rw [y]; exact m)
      · rw [← y, z] at m; cases m
  · obtain ⟨y, z⟩ := back j x hj
    exact h.ow j y a' z hs
/-- an own one becomes a value as others -/
theorem Stt.freeze (h : St' K B σ ρ H) (i : Nat) : St' K B σ (freeze ρ i) H := by
  unfold BP.freeze
  split
  · rename_i d e
    obtain ⟨O, h⟩ := h
    obtain ⟨a, q, oa, r⟩ := h.ok.own i d e
    obtain ⟨n2, n3⟩ := h.ow i d a e q
    have hl : i < ρ.length := (List.getElem?_eq_some_iff.mp e).1
    have key : ∀ (j : Nat) (x : Slot), (ρ.set i (.val d))[j]? = some x → (j = i ∧ x = .val d) ∨ (j ≠ i ∧ ρ[j]? = some x) := fun j x z => by
      by_cases hj : j = i
      · subst hj
        rw [List.getElem?_set_self hl] at z
        cases z
        exact .inl ⟨rfl, rfl⟩
      · rw [List.getElem?_set_ne (Ne.symm hj)] at z
        exact .inr ⟨hj, z⟩
    refine ⟨fun b => O b ∧ b ≠ a, ⟨by rw [List.length_set, h.ok.len], fun j x hj => ?_, fun j x hj => ?_, fun j k x y a' e1 e2 e3 e4 => ?_, fun b ob => h.ok.dom b ob.1⟩, fun b z => ⟨h.lo b z, fun y => n2 (y ▸ z)⟩, fun b z => h.hi b z.1, h.kp, fun j x a' hj hs => ?_⟩
    · rcases key j _ hj with ⟨rfl, z⟩ | ⟨hn, z⟩
      · cases z
        exact ⟨.ref a, q, (r.weak fun b z => .inl z.1).rep fun z => z.2 rfl⟩
      · obtain ⟨w, q', r'⟩ := h.ok.val j x z
        exact ⟨w, q', r'.weak fun b z => .inl z.1⟩
    · rcases key j _ hj with ⟨rfl, z⟩ | ⟨hn, z⟩
      · cases z
      · obtain ⟨w, q', ow, r'⟩ := h.ok.own j x z
        exact ⟨w, q', ⟨ow, fun y => hn (h.ok.inj j i x d a z e (by rw [q', y]) q)⟩, r'.weak fun b z => .inl z.1⟩
    · rcases key j _ e1 with ⟨rfl, z⟩ | ⟨hn, z⟩
      · cases z
      · rcases key k _ e2 with ⟨rfl, z'⟩ | ⟨hn', z'⟩
        · cases z'
        · exact h.ok.inj j k x y a' z z' e3 e4
    · rcases key j _ hj with ⟨rfl, z⟩ | ⟨hn, z⟩
      · cases z
      · exact h.ow j x a' z hs
  · exact h
theorem Stt.freezes (is : List Nat) : ∀ {ρ : Env}, St' K B σ ρ H → St' K B σ (freezes ρ is) H := by
  unfold BP.freezes
  induction is with
  | nil => exact fun h => h
  | cons i is ih => exact fun h => ih (Stt.freeze h i)
end

/-! ### another start, later -/
structure Later (B B1 : Bs) : Prop where
  kp : Keep B.M B.H B1.H
  m : ∀ b, B1.M b → B.M b ∨ B.H b = none
  c : B1.C = B.C
  u : ∀ b, B1.U b → B.U b ∨ B.H b = none
  mu : ∀ b, B.M b → B.U b
theorem Later.none {B B1 : Bs} (l : Later B B1) {a : Addr} (n : B1.H a = none) : B.M a ∨ B.H a = none := by
  cases e : B.H a with
  | none => exact .inr rfl
  | some o =>
    by_cases m : B.M a
    · exact .inl m
    · rw [l.kp a o m e] at n; cases n
theorem Later.keep {B B1 : Bs} (l : Later B B1) {H' : Hp} (k : Keep B1.M B1.H H') : Keep B.M B.H H' := fun b o nb e => by
  refine k b o (fun m => ?_) (l.kp b o nb e)
  rcases l.m b m with z | z
  · exact nb z
  · rw [z] at e; cases e
theorem Later.up {K : PySem.W.Frag} {B B1 : Bs} (l : Later B B1) {σ : L2.St} {ρ : Env} {H : Hp} (h : St' K B1 σ ρ H) : St' K B σ ρ H := by
  obtain ⟨O, h⟩ := h
  refine ⟨O, h.ok, fun b z => h.lo b (by rw [l.c]; exact z), fun b z => ?_, l.keep h.kp, fun i d a e e' => ?_⟩
  · rcases h.hi b z with z | z
    · exact l.u b z
    · exact (l.none z).elim (fun m => .inl (l.mu b m)) .inr
  · obtain ⟨n1, n2⟩ := h.ow i d a e e'
    rw [l.c] at n1
    refine ⟨n1, ?_⟩
    rcases n2 with z | z
    · exact l.m a z
    · exact l.none z
/-- a start here and now -/
def nowB (B : Bs) (O : Addr → Prop) (σ : L2.St) (ρ : Env) (H : Hp) : Bs := ⟨fun a => ∃ (i : Nat) (d : D), ρ[i]? = some (Slot.own d) ∧ σ[i]? = some (some (V.ref a)), B.C, O, H⟩
theorem now_M {K : PySem.W.Frag} {B : Bs} {O : Addr → Prop} {σ : L2.St} {ρ : Env} {H : Hp} (h : Stt K B O σ ρ H) : ∀ b, (nowB B O σ ρ H).M b → O b := fun b ⟨i, d, e, e'⟩ => by
  obtain ⟨a, q, oa, _⟩ := h.ok.own i d e
  rw [e'] at q
  cases q
  exact oa
theorem Stt.now {K : PySem.W.Frag} {B : Bs} {O : Addr → Prop} {σ : L2.St} {ρ : Env} {H : Hp} (bM : ∀ b, B.M b → B.U b) (h : Stt K B O σ ρ H) : Stt K (nowB B O σ ρ H) O σ ρ H ∧ Later B (nowB B O σ ρ H) := by
  refine ⟨⟨h.ok, h.lo, fun b z => .inl z, fun b o _ e => e, fun i d a e e' => ⟨(h.ow i d a e e').1, .inl ⟨i, d, e, e'⟩⟩⟩, ⟨h.kp, fun b ⟨i, d, e, e'⟩ => (h.ow i d b e e').2, rfl, h.hi, bM⟩⟩

/-! ### what a statement is to reach -/
def FlP (K : PySem.W.Frag) (B : Bs) (E : Nat → Hp → Prop) (r : Fl) (D : Ends) : Prop := match r with
  | .nx ρ' => ∀ σ' H', St' K B σ' ρ' H' → D.nx σ' H'
  | .rt d => ∀ v H', Keep B.M B.H H' → Rep K B.C H' v d → D.rt v H'
  | .ex c => ∀ H', Keep B.M B.H H' → E c H'
  | .bad => False
def tSt (K : PySem.W.Frag) (E : Nat → Hp → Prop) (f : Env → Fl) : TS := fun D σ H => ∃ B ρ, (∀ b, B.M b → B.U b) ∧ St' K B σ ρ H ∧ FlP K B E (f ρ) D
theorem FlP.later {K : PySem.W.Frag} {B B1 : Bs} {E : Nat → Hp → Prop} {r : Fl} {D D' : Ends} (l : Later B B1) (h : FlP K B E r D) (nx : ∀ ρ', r = .nx ρ' → ∀ σ' H', St' K B1 σ' ρ' H' → D'.nx σ' H') (rt : D'.rt = D.rt) : FlP K B1 E r D' := by
  cases r with
  | nx ρ' => exact fun σ' H' s => nx ρ' rfl σ' H' s
  | rt d => exact fun v H' k r => by rw [rt]; exact h v H' (l.keep k) (by rw [← l.c]; exact r)
  | ex c => exact fun H' k => h H' (l.keep k)
  | bad => exact h
theorem FlP.ends {K : PySem.W.Frag} {B : Bs} {E : Nat → Hp → Prop} {r : Fl} {D D' : Ends} (h : FlP K B E r D) (nx : ∀ ρ', r = .nx ρ' → ∀ σ' H', St' K B σ' ρ' H' → D'.nx σ' H') (rt : D'.rt = D.rt) : FlP K B E r D' := by
  cases r with
  | nx ρ' => exact fun σ' H' s => nx ρ' rfl σ' H' s
  | rt d => exact fun v H' k r => by rw [rt]; exact h v H' k r
  | ex c => exact h
  | bad => exact h
section
variable {X : Cx} {C : Nat → List D → Res D} {E : Nat → Hp → Prop}
abbrev PSd (X : Cx) (E : Nat → Hp → Prop) (s : Stmt) (f : Env → Fl) : Prop := PS X s (tSt X.K E f)
abbrev PSsd (X : Cx) (E : Nat → Hp → Prop) (s : List Stmt) (f : Env → Fl) : Prop := PSs X s (tSt X.K E f)
theorem ps_imp {s : Stmt} {t t' : TS} (h : PS X s t) (w : ∀ D σ H, t' D σ H → t D σ H) : PS X s t' := ⟨fun pins s σ H D I q => h.run pins s σ H D I (w D σ H q)⟩
theorem pss_imp {s : List Stmt} {t t' : TS} (h : PSs X s t) (w : ∀ D σ H, t' D σ H → t D σ H) : PSs X s t' := ⟨fun pins s σ H D I q => h.run pins s σ H D I (w D σ H q)⟩
theorem sd_nil : PSsd X E [] .nx := pss_imp pss_nil fun D σ H ⟨B, ρ, bM, st, q⟩ => q σ H st
theorem sd_cons {s : Stmt} {ss : List Stmt} {f g : Env → Fl} (h : PSd X E s f) (hs : PSsd X E ss g) : PSsd X E (s :: ss) (fun ρ => (f ρ).next g) :=
  pss_imp (pss_cons h hs) fun D σ H ⟨B, ρ, bM, st, q⟩ => ⟨B, ρ, bM, st, by
    have q : FlP X.K B E ((f ρ).next g) D := q
    cases e : f ρ with
    | nx ρ' => rw [e] at q; exact fun σ' H' s => ⟨B, ρ', bM, s, q⟩
    | rt d => rw [e] at q; exact q
    | ex c => rw [e] at q; exact q
    | bad => rw [e] at q; exact q⟩
/-- own ones frozen ahead -/
theorem sd_fz {ss : List Stmt} {f : Env → Fl} (is : List Nat) (h : PSsd X E ss f) : PSsd X E ss fun ρ => f (freezes ρ is) :=
  pss_imp h fun D σ H ⟨B, ρ, bM, st, q⟩ => ⟨B, freezes ρ is, bM, Stt.freezes is st, q⟩
theorem sd_fz1 {s : Stmt} {f : Env → Fl} (is : List Nat) (h : PSd X E s f) : PSd X E s fun ρ => f (freezes ρ is) :=
  ps_imp h fun D σ H ⟨B, ρ, bM, st, q⟩ => ⟨B, freezes ρ is, bM, Stt.freezes is st, q⟩
theorem sd_pass {pos : Pos} : PSd X E (.Pass pos) .nx := ps_imp ps_pass fun D σ H ⟨B, ρ, bM, st, q⟩ => q σ H st
theorem sd_doc {x : Str} {j : Nat} {pos pos' : Pos} : PSd X E (.Expr (.Constant (.str x) j pos) pos') .nx := ps_imp ps_doc fun D σ H ⟨B, ρ, bM, st, q⟩ => q σ H st
/-- a term first -/
theorem fl_tS {K : PySem.W.Frag} {ir : Ex} {σ : L2.St} {H : Hp} {D : Ends} {B : Bs} {ρ : Env} {f : PyData → Fl} (st : St' K B σ ρ H) (q : FlP K B E ((evalE C ir ρ).fl f) D) :
    tS K C E ir σ H fun v H1 => ∃ O d, Stt K B O σ ρ H1 ∧ Rep K O H1 v d ∧ (freshE ir = true → ownD d = true → ∃ H0, Same H0 H1 ∧ Stt K B O σ ρ H0 ∧ Fresh K O H0 H1 v d) ∧ FlP K B E (f d) D := by
  obtain ⟨O, st⟩ := st
  refine ⟨O, ρ, st.ok, ?_⟩
  cases e : evalE C ir ρ with
  | ok d => rw [e] at q; exact fun v H1 s1 r1 fr => ⟨O, d, st.same s1, r1, fun a b => ⟨H, s1, st, fr a b⟩, q⟩
  | exc c => rw [e] at q; exact fun H1 s1 => q H1 (st.kp.trans (.of s1))
  | bad => rw [e] at q; exact q
theorem fl_tSO {K : PySem.W.Frag} {ir : Ex} {σ : L2.St} {H : Hp} {D : Ends} {B : Bs} {O : Addr → Prop} {ρ : Env} {f : PyData → Fl} (st : Stt K B O σ ρ H) (q : FlP K B E ((evalE C ir ρ).fl f) D) :
    tS K C E ir σ H fun v H1 => ∃ d, Same H H1 ∧ Stt K B O σ ρ H1 ∧ Rep K O H1 v d ∧ FlP K B E (f d) D := by
  refine ⟨O, ρ, st.ok, ?_⟩
  cases e : evalE C ir ρ with
  | ok d => rw [e] at q; exact fun v H1 s1 r1 fr => ⟨d, s1, st.same s1, r1, q⟩
  | exc c => rw [e] at q; exact fun H1 s1 => q H1 (st.kp.trans (.of s1))
  | bad => rw [e] at q; exact q
/-- name = a new list or dict -/
theorem sd_own {i : Nat} {s : Stmt} {ir : Ex} (h : PS X s (tAsg (tS X.K C E ir) (gName i))) (hf : freshE ir = true) : PSd X E s (evalS C (.own i ir)) := by
  refine ps_imp h fun D σ H ⟨B, ρ, bM, st, q⟩ => ?_
  simp only [evalS] at q
  have w := fl_tS st q
  obtain ⟨O, ρ2, so, q2⟩ := w
  refine ⟨O, ρ2, so, q2.mono fun v H1 s1 ⟨O, d, st1, r1, fr, q⟩ => ?_⟩
  show D.nx _ _
  split at q
  · rename_i ho
    obtain ⟨H0, s0, st0, a, rfl, n, ow⟩ := fr hf ho
    exact q _ _ (Stt.own_new bM st0 s0 n ow i)
  · exact q _ _ ⟨O, st1.sub (st1.ok.setV i r1) (.setV _ _ _ _ _)⟩
/-- target = value -/
theorem sd_set {t : Tg} {s : Stmt} {ir : Ex} (h : PS X s (tAsg (tS X.K C E ir) (gD X.K t))) : PSd X E s (evalS C (.set t ir)) := by
  refine ps_imp h fun D σ H ⟨B, ρ, bM, st, q⟩ => ?_
  simp only [evalS] at q
  have w := fl_tS st q
  obtain ⟨O, ρ2, so, q2⟩ := w
  refine ⟨O, ρ2, so, q2.mono fun v H1 s1 ⟨O, d, st1, r1, fr, q⟩ => ?_⟩
  cases e : bindT ρ t d with
  | none => rw [e] at q; exact False.elim q
  | some ρ' =>
    rw [e] at q
    exact ⟨O, ρ, d, ρ', st1.ok, r1, e, fun σ' so' _ ow => q _ _ ⟨O, st1.sub so' ow⟩⟩
theorem sd_ret {e : Expr} {ir : Ex} {pos : Pos} (h : PEs X C E e ir) : PSd X E (.Return (some e) pos) (evalS C (.ret ir)) := by
  refine ps_imp (ps_ret h) fun D σ H ⟨B, ρ, bM, st, q⟩ => ?_
  simp only [evalS] at q
  obtain ⟨O, ρ2, so, q2⟩ := fl_tS st q
  exact ⟨O, ρ2, so, q2.mono fun v H1 s1 ⟨O, d, st1, r1, fr, q⟩ => q v H1 st1.kp (r1.weak fun b z => .inl (st1.lo b z))⟩
theorem fl_tT {K : PySem.W.Frag} {ir : Ex} {σ : L2.St} {H : Hp} {D : Ends} {B : Bs} {ρ : Env} {f : Bool → Fl} (st : St' K B σ ρ H) (q : FlP K B E (((evalE C ir ρ).bind asBool).fl f) D) :
    tTs K C E ir σ H fun t H1 => St' K B σ ρ H1 ∧ FlP K B E (f t) D := by
  obtain ⟨O, st⟩ := st
  refine ⟨O, ρ, st.ok, ?_⟩
  cases e : (evalE C ir ρ).bind asBool with
  | ok d => rw [e] at q; exact fun H1 s1 => ⟨⟨O, st.same s1⟩, q⟩
  | exc c => rw [e] at q; exact fun H1 s1 => q H1 (st.kp.trans (.of s1))
  | bad => rw [e] at q; exact q
theorem ET.mono' {r : Res Bool} {Q Q' : Bool → Hp → Prop} {H : Hp} (h : ET E r Q H) (w : ∀ v H', Q v H' → Q' v H') : ET E r Q' H := ET.mono h fun v H' _ => w v H'
theorem sd_if {c : Expr} {a b : List Stmt} {ic : Ex} {fa fb : Env → Fl} {pos : Pos} (hc : PTs' X C E c ic) (ha : PSsd X E a fa) (hb : PSsd X E b fb) :
    PSd X E (.If c a b pos) fun ρ => ((evalE C ic ρ).bind asBool).fl fun t => if t = true then fa ρ else fb ρ := by
  refine ps_imp (ps_if hc ha hb) fun D σ H ⟨B, ρ, bM, st, q⟩ => ?_
  obtain ⟨O, ρ2, so, q2⟩ := fl_tT st q
  refine ⟨O, ρ2, so, ET.mono' q2 fun t H1 ⟨st1, q⟩ => ?_⟩
  cases t with
  | true => exact iteT ⟨B, ρ, bM, st1, q⟩
  | false => exact iteF ⟨B, ρ, bM, st1, q⟩
theorem sd_while {c : Expr} {body : List Stmt} {ic : Ex} {fb : Env → Fl} {pos : Pos} (hp : PassesOwn (model X.prog X.w) X.A X.env X.xe) (hc : PTs' X C E c ic) (hb : PSsd X E body fb) :
    PSd X E (.While c body [] pos) (whileL (evalE C ic) fb whileTurns) := by
  refine ps_imp (ps_while hp hc hb) fun D σ H ⟨B, ρ, bM, st, q⟩ => ?_
  refine ⟨fun m σ H => ∃ ρ, St' X.K B σ ρ H ∧ FlP X.K B E (whileL (evalE C ic) fb m ρ) D, ⟨whileTurns, ρ, st, q⟩, fun m σ1 H1 ⟨ρ1, st1, q1⟩ => ?_⟩
  cases m with
  | zero => exact False.elim q1
  | succ m =>
    simp only [whileL] at q1
    obtain ⟨O, ρ2, so, q2⟩ := fl_tT st1 q1
    refine ⟨O, ρ2, so, ET.mono' q2 fun t H2 ⟨st2, q3⟩ => ?_⟩
    cases t with
    | false => exact iteF (q3 _ _ st2)
    | true =>
      refine iteT ⟨fun σ' H' => ∃ ρ', St' X.K B σ' ρ' H' ∧ FlP X.K B E (whileL (evalE C ic) fb m ρ') D, fun σ' H' ⟨ρ', s', q'⟩ => ⟨m, Nat.lt_succ_self m, ρ', s', q'⟩, B, ρ1, bM, st2, ?_⟩
      have q3 : FlP X.K B E ((fb ρ1).next fun ρ' => whileL (evalE C ic) fb m ρ') D := q3
      cases e : fb ρ1 with
      | nx ρ' => rw [e] at q3; exact fun σ' H' s => ⟨ρ', s, q3⟩
      | rt d => rw [e] at q3; exact q3
      | ex c => rw [e] at q3; exact q3
      | bad => rw [e] at q3; exact q3
theorem sd_for {tg iter : Expr} {body : List Stmt} {t : Tg} {sk : Sk} {src : List Ex} {fb : Env → Fl} {pos : Pos} (hp : PassesOwn (model X.prog X.w) X.A X.env X.xe) (hc : X.calm = true) (hi : PIs true X C E tg iter sk src) (hg : PG X tg (gD X.K t)) (hb : PSsd X E body fb)
    (hs : ∀ x, foldedSetIterable iter X.env x = pure x) : PSd X E (.For tg iter body [] pos) fun ρ => ((evalEs C src ρ).bind (evalSrc sk)).fl fun items => loopL (fun ρ d => optFl (bindT ρ t d) fb) items ρ := by
  refine ps_imp (ps_for hp hc hi hg hb hs) fun D σ H ⟨B, ρ, bM, ⟨O, st⟩, q⟩ => ?_
  refine ⟨O, ρ, st.ok, ?_⟩
  have q : FlP X.K B E (((evalEs C src ρ).bind (evalSrc sk)).fl fun items => loopL (fun ρ d => optFl (bindT ρ t d) fb) items ρ) D := q
  cases e : (evalEs C src ρ).bind (evalSrc sk) with
  | bad => rw [e] at q; exact q
  | exc c => rw [e] at q; exact fun H1 s1 => q H1 (st.kp.trans (.of s1))
  | ok items =>
    rw [e] at q
    intro J H1 s1 wk
    obtain ⟨st1, lt⟩ := (st.same s1).now bM
    generalize hB1 : nowB B O σ ρ H1 = B1 at st1 lt
    have hU : B1.U = O := by rw [← hB1]; rfl
    have hH : B1.H = H1 := by rw [← hB1]; rfl
    have hMO : ∀ b, B1.M b → O b := by rw [← hB1]; exact now_M (st.same s1)
    have bM1 : ∀ b, B1.M b → B1.U b := by rw [hU]; exact hMO
    have q : FlP X.K B E (loopL (fun ρ d => optFl (bindT ρ t d) fb) items ρ) D := q
    let G : Nat → L2.St → Hp → Prop := fun i σ' H' => ∃ ρ', St' X.K B1 σ' ρ' H' ∧ FlP X.K B E (loopL (fun ρ d => optFl (bindT ρ t d) fb) (items.drop i) ρ') D
    refine ⟨fun i m σ' H' => m = items.length - i ∧ i ≤ items.length ∧ G i σ' H', ⟨items.length, by simp, Nat.zero_le _, ρ, ⟨O, st1⟩, by simpa using q⟩, ?_⟩
    rintro i m σ2 H2 ⟨rfl, hi, ρ2, ⟨O2, st2⟩, q2⟩
    have w2 : ∀ b, O2 b → O b ∨ H1 b = none := fun b z => by
      have := st2.hi b z
      rw [hU, hH] at this
      exact this
    have k2 : Keep O H1 H2 := fun b o nb z => st2.kp b o (fun y => nb (hMO b y)) (by rw [hH]; exact z)
    obtain ⟨k1, k3, k4⟩ := wk O2 i H2 w2 st2.ok.dom (show Gm true O H1 H2 from k2)
    by_cases hlt : i < items.length
    · refine .inr ⟨k1 hlt, G (i + 1), fun σ' H' g => ⟨items.length - (i + 1), by omega, rfl, hlt, g⟩, fun x H3 y => ?_⟩
      obtain ⟨s3, r3⟩ := k4 x H3 items[i] (List.getElem?_eq_getElem hlt) y
      have st3 := st2.same s3
      rw [List.drop_eq_getElem_cons hlt] at q2
      simp only [loopL] at q2
      cases eb : bindT ρ2 t items[i] with
      | none => rw [eb] at q2; exact False.elim q2
      | some ρ' =>
        rw [eb] at q2
        refine ⟨O2, ρ2, items[i], ρ', st3.ok, r3, eb, fun σ' so' _ ow => ⟨B1, ρ', bM1, ⟨O2, st3.sub so' ow⟩, ?_⟩⟩
        have q2 : FlP X.K B E ((fb ρ').next fun ρ'' => loopL (fun ρ d => optFl (bindT ρ t d) fb) (items.drop (i + 1)) ρ'') D := q2
        cases ef : fb ρ' with
        | nx ρ'' => rw [ef] at q2; exact fun σ'' H'' s => ⟨ρ'', s, q2⟩
        | rt d => rw [ef] at q2; exact fun v H' k r => q2 v H' (lt.keep k) (by rw [← lt.c]; exact r)
        | ex c => rw [ef] at q2; exact fun H' k => q2 H' (lt.keep k)
        | bad => rw [ef] at q2; exact q2
    · have ei : i = items.length := by omega
      subst ei
      refine .inl ⟨k3 rfl, ?_⟩
      rw [List.drop_length] at q2
      exact q2 σ2 H2 (lt.up ⟨O2, st2⟩)
end
end BP
/-! Own lists and dicts changed: append, extend, x[i] = v. -/
namespace PySem
open AutoSeq1
set_option maxRecDepth 8000 in
theorem bp_extendL (l : Addr) (items : Array Value) (n : Nat) (b : Addr) (items2 : Array Value) (n2 : Nat) (dd : Option Addr) (sl : Array (Option Value)) (hs0 : ¬(!items.isEmpty && Builtin.List.listTooLong (items.size + items2.size)) = true) (hs1 : items.size ≤ sizeLine) (hs2 : items.size + items2.size ≤ sizeLine + 1) :
    Meets (Builtin.«list.extend» ⟨[.ref l, .ref b], []⟩) (fun _ R s => s.heap.get? l = some { cls := .type "list", dict := none, data := .seq items n, slots := #[] } ∧ s.heap.get? b = some { cls := .type "list", dict := dd, data := .seq items2 n2, slots := sl } ∧ R (.ok (.ret Value.none)) { s with heap := s.heap.update l (Obj.mapSeq fun x => x ++ items2), toks := s.toks }) :=
  .of_wp fun prog w A R s h => by
    obtain ⟨hp, g, d, tk, os⟩ := s; obtain ⟨hl, hb, h⟩ := h; have f1 := idx_int; have f2 := sub_tuple_tuple; have f3 := sub_list_list; have f4 := sub_tuple_list; have f5 := sub_list_tuple;
    have hz' : (items ++ items2).size ≤ sizeLine + 1 := by rw [Array.size_append]; exact hs2
    wp_walk using (wpAny_updateSeq hl rfl (hz := hs1) (_hz' := hz')), wpAny_loadPart' hl, wpAny_loadPart' hb; exact ⟨_, rfl, h⟩
theorem bp_extendT (l : Addr) (items : Array Value) (n : Nat) (b : Addr) (items2 : Array Value) (n2 : Nat) (dd : Option Addr) (sl : Array (Option Value)) (hs0 : ¬(!items.isEmpty && Builtin.List.listTooLong (items.size + items2.size)) = true) (hs1 : items.size ≤ sizeLine) (hs2 : items.size + items2.size ≤ sizeLine + 1) :
    Meets (Builtin.«list.extend» ⟨[.ref l, .ref b], []⟩) (fun _ R s => s.heap.get? l = some { cls := .type "list", dict := none, data := .seq items n, slots := #[] } ∧ s.heap.get? b = some { cls := .type "tuple", dict := dd, data := .seq items2 n2, slots := sl } ∧ R (.ok (.ret Value.none)) { s with heap := s.heap.update l (Obj.mapSeq fun x => x ++ items2), toks := s.toks }) :=
  .of_wp fun prog w A R s h => by
    obtain ⟨hp, g, d, tk, os⟩ := s; obtain ⟨hl, hb, h⟩ := h; have f1 := idx_int; have f2 := sub_tuple_tuple; have f3 := sub_list_list; have f4 := sub_tuple_list; have f5 := sub_list_tuple;
    have hz' : (items ++ items2).size ≤ sizeLine + 1 := by rw [Array.size_append]; exact hs2
    wp_walk using (wpAny_updateSeq hl rfl (hz := hs1) (_hz' := hz')), wpAny_loadPart' hl, wpAny_loadPart' hb; exact ⟨_, rfl, h⟩
end PySem
namespace BP
open PySem PySem.Spec PyProof.Rows L2

def rExtD (K : PySem.W.Frag) : V → List V → Hp → VK → Prop := fun x vs H Q => ∃ l b xs zs, x = .ref l ∧ vs = [.ref b] ∧ H l = some (.lst xs) ∧ (SqL K H b zs ∨ SqT K H b zs) ∧ xs.length + zs.length ≤ sizeLine ∧ Q .non (upd H l (.lst (xs ++ zs)))
theorem mt_extD {X : Cx} : MtM X "list.extend" (rExtD X.K) := by
  intro pins s σ H x vs v us Q I rx rv h
  obtain ⟨l, b, xs, zs, rfl, rfl, hH, hB, hz, q⟩ := h
  cases rx
  obtain ⟨u, rfl, ru⟩ := rv.one
  cases ru
  obtain ⟨z, its, n, r, hl, e⟩ := I.lstM hH
  have fin : ∀ {its2 : List Value}, Vals zs its2 → EP X pins σ Q Value.none { s with heap := s.heap.update l (Obj.mapSeq fun x => x ++ its2.toArray), toks := s.toks } := fun {its2} r2 => by
    refine ⟨.non, _, I.lset (its' := its ++ its2) hH e (by simp) (r.append r2) ?_, rfl, q⟩
    rw [List.length_append]
    omega
  have big : ∀ {its2 : List Value}, Vals zs its2 → its.toArray.size + its2.toArray.size ≤ sizeLine := fun {its2} r2 => by
    have := r2.length
    rw [List.size_toArray, List.size_toArray]; omega
  have hlong : ∀ {its2 : List Value}, Vals zs its2 → ¬ (!its.toArray.isEmpty && Builtin.List.listTooLong (its.toArray.size + its2.toArray.size)) = true := fun {its2} r2 => by
    rw [notLongL (big r2), Bool.and_false]
    exact Bool.false_ne_true
  rcases hB with hB | hB
  · obtain ⟨its2, r2, ⟨⟨cls2, dd2, data2, sl2⟩, n2, ho2, hc2, _, hd2⟩, _⟩ := I.list hB
    simp only at hc2 hd2
    subst hc2 hd2
    exact call_meets F.slot_list_extend ⟨_, e, rfl⟩ F.entry_list_extend (F.args_list_extend_2 _ _)
      (bp_extendL l its.toArray n b its2.toArray n2 dd2 sl2 (hlong r2) (by rw [List.size_toArray]; omega) (by have := big r2; omega)) ⟨e, ho2, fin r2⟩
  · obtain ⟨its2, r2, ⟨⟨cls2, dd2, data2, sl2⟩, ho2, hc2, n2, hd2⟩, _⟩ := I.tuple hB
    simp only at hc2 hd2
    subst hc2 hd2
    exact call_meets F.slot_list_extend ⟨_, e, rfl⟩ F.entry_list_extend (F.args_list_extend_2 _ _)
      (bp_extendT l its.toArray n b its2.toArray n2 dd2 sl2 (hlong r2) (by rw [List.size_toArray]; omega) (by have := big r2; omega)) ⟨e, ho2, fin r2⟩

section
variable {X : Cx} {C : Nat → List D → Res D} {E : Nat → Hp → Prop}
theorem chg_own {ρ : Env} {i : Nat} {f : PyData → Option PyData} {K : PySem.W.Frag} {B : Bs} {D : Ends} (q : FlP K B E (chg ρ i f) D) : ∃ d d', ρ[i]? = some (.own d) ∧ f d = some d' ∧ FlP K B E (.nx (ρ.set i (.own d'))) D := by
  unfold chg at q
  split at q
  · rename_i d e
    split at q
    · rename_i d' e'
      exact ⟨d, d', e, e', q⟩
    · exact False.elim q
  · exact False.elim q
theorem attr_var {y : Str} {p : Pos} {name : Str} : attributeBase (.Name y p) name X.env (eval (.Name y p) X.env) = eval (.Name y p) X.env := rfl
theorem few1 {e : Expr} {cpos : Pos} (ns : notStar e = true) : ((backTo cpos (starEach [e] X.env)).all (fun x => !x.1) && (backToKw cpos (keywordEach [] X.env)).all (fun x => x.1.isSome)
      && decide (([e] : List Expr).length + ([] : List Keyword).length + (if ([] : List Keyword).isEmpty then 0 else 1) < 30)) = true := by rw [star_of ns]; rfl
theorem ty_list {K : PySem.W.Frag} {H : Hp} {a : Addr} {xs : List V} (h : H a = some (.lst xs)) : tyV K "list" (.ref a) H := .inl ⟨rfl, xs, .inl (.inl h)⟩
theorem ownL_at {K : PySem.W.Frag} {O : Addr → Prop} {σ : L2.St} {ρ : Env} {H : Hp} {i : Nat} (so : Sok K O σ ρ H) (h : ownL ρ i = true) : ∃ a, σ[i]? = some (some (.ref a)) ∧ tyV K "list" (.ref a) H := by
  unfold ownL at h
  split at h
  · rename_i xs e
    obtain ⟨a, q1, oa, r⟩ := so.own i _ e
    cases r with
    | lst h hs => exact ⟨a, q1, ty_list h⟩
  · cases h
theorem sd_app {i : Nat} {y : Str} {e : Expr} {ir : Ex} {p apos cpos pos : Pos} (hN : X.N[i]? = some y) (hv : Vis X.env.scope y) (hd : (y == ("__debug__" : Str)) = false) (hcd : (y == ("__classdict__" : Str)) = false) (hl : (apos.endLine == cpos.line) = true) (ns : notStar e = true)
    (he : PEs X C E e ir) : PSd X E (.Expr (.Call (.Attribute (.Name y p) "append" apos) [e] [] cpos) pos) (evalS C (.app i ir)) := by
  refine ps_imp (ps_expr (pe_bm PySem.F.plainAttrs_list PySem.F.slot_list_append PySem.F.type_list_append mt_append (pe_var hN hv hd hcd) (pa_cons he pa_nil (star_of ns [] _)) rfl (few1 ns) hl (star_of ns [] _) rfl)) fun D σ H ⟨B, ρ, bM, st, q⟩ => ?_
  simp only [evalS] at q
  split at q
  · rename_i hw
    obtain ⟨a, ev, ty⟩ := ownL_at st.choose_spec.ok hw
    refine ⟨.ref a, ev, ty, ?_⟩
    obtain ⟨O, ρ2, so, q2⟩ := fl_tS st q
    refine ⟨O, ρ2, so, q2.mono fun w H1 s1 ⟨O, d, st1, r1, fr, q⟩ => ?_⟩
    obtain ⟨d0, d1, e2, e3, q⟩ := chg_own q
    obtain ⟨a', q1, oa, r⟩ := st1.ok.own i d0 e2
    rw [ev] at q1
    cases q1
    cases r with
    | dct h hs => cases e3
    | dci h hs _ => cases e3
    | lst h hs =>
      simp only [appD] at e3
      split at e3
      · rename_i hz
        cases e3
        refine ⟨a, _, w, rfl, rfl, h, by rw [hs.length]; exact hz, q _ _ ⟨O, st1.chg e2 ev (.lst upd_same ?_)⟩⟩
        refine (hs.snoc r1).keep fun b x nb z => ?_
        rw [upd_ne fun y => nb (by rw [y]; exact oa)]
        exact z
      · cases e3
  · exact False.elim q
theorem sd_ext {i : Nat} {y : Str} {e : Expr} {ir : Ex} {p apos cpos pos : Pos} (hN : X.N[i]? = some y) (hv : Vis X.env.scope y) (hd : (y == ("__debug__" : Str)) = false) (hcd : (y == ("__classdict__" : Str)) = false) (hl : (apos.endLine == cpos.line) = true) (ns : notStar e = true)
    (he : PEs X C E e ir) : PSd X E (.Expr (.Call (.Attribute (.Name y p) "extend" apos) [e] [] cpos) pos) (evalS C (.ext i ir)) := by
  refine ps_imp (ps_expr (pe_bm PySem.F.plainAttrs_list PySem.F.slot_list_extend PySem.F.type_list_extend mt_extD (pe_var hN hv hd hcd) (pa_cons he pa_nil (star_of ns [] _)) rfl (few1 ns) hl (star_of ns [] _) rfl)) fun D σ H ⟨B, ρ, bM, st, q⟩ => ?_
  simp only [evalS] at q
  split at q
  · rename_i hw
    obtain ⟨a, ev, ty⟩ := ownL_at st.choose_spec.ok hw
    refine ⟨.ref a, ev, ty, ?_⟩
    obtain ⟨O, ρ2, so, q2⟩ := fl_tS st q
    refine ⟨O, ρ2, so, q2.mono fun w H1 s1 ⟨O, d, st1, r1, fr, q⟩ => ?_⟩
    obtain ⟨d0, d1, e2, e3, q⟩ := chg_own q
    obtain ⟨a', q1, oa, r⟩ := st1.ok.own i d0 e2
    rw [ev] at q1
    cases q1
    have kO : ∀ u, Keep O H1 (upd H1 a u) := fun u b x nb z => by
      rw [upd_ne fun y => nb (by rw [y]; exact oa)]
      exact z
    cases r with
    | dct h hs => cases e3
    | dci h hs _ => cases e3
    | lst h hs =>
      simp only [extD] at e3
      cases d with
      | list ys =>
        simp only [itemsOf] at e3
        split at e3
        · rename_i hz
          cases e3
          obtain ⟨b, zs, rfl, hq, rs⟩ := RB.list (.r r1)
          exact ⟨a, b, _, zs, rfl, rfl, h, .inl hq, by rw [hs.length, rs.length]; exact hz, q _ _ ⟨O, st1.chg e2 ev (.lst upd_same ((hs.append rs).keep (kO _)))⟩⟩
        · cases e3
      | tuple ys =>
        simp only [itemsOf] at e3
        split at e3
        · rename_i hz
          cases e3
          obtain ⟨b, zs, rfl, hq, rs⟩ := RB.tuple (.r r1)
          exact ⟨a, b, _, zs, rfl, rfl, h, .inr (.of hq), by rw [hs.length, rs.length]; exact hz, q _ _ ⟨O, st1.chg e2 ev (.lst upd_same ((hs.append rs).keep (kO _)))⟩⟩
        · cases e3
      | _ => cases e3
  · exact False.elim q
theorem RepK.putK {K : PySem.W.Frag} {O : Addr → Prop} {H : Hp} {ns : List Int} {v : V} {d : D} (r : Rep K O H v d) : ∀ {kvs : List (List Key × V)} {ps : List (D × D)}, RepK K O H kvs ps →
    RepK K O H (kvs.map fun kv => if kv.1 = ns.map Sum.inl then (kv.1, v) else kv) (ps.map fun p => if PyData.eqv p.1 (.tuple (ns.map PyData.int)) = true then (p.1, d) else p)
  | _, _, .nil => .nil
  | _, _, .cons (ns := ms) h hs => by
    rw [List.map_cons, List.map_cons]
    by_cases e : ms = ns
    · subst e
      simp only [eqv_key, decide_true, if_true]
      exact .cons r (RepK.putK r hs)
    · have e' : ¬ (ms.map (Sum.inl : Int → Key)) = ns.map Sum.inl := fun z => e (inl_inj.mp z)
      simp only [eqv_key, decide_eq_true_eq, e, e', if_false]
      exact .cons h (RepK.putK r hs)
theorem RepK.snoc {K : PySem.W.Frag} {O : Addr → Prop} {H : Hp} {ns : List Int} {v : V} {d : D} (r : Rep K O H v d) : ∀ {kvs : List (List Key × V)} {ps : List (D × D)}, RepK K O H kvs ps →
    RepK K O H (kvs ++ [(ns.map Sum.inl, v)]) (ps ++ [(.tuple (ns.map PyData.int), d)])
  | _, _, .nil => .cons r .nil
  | _, _, .cons h hs => .cons h (RepK.snoc r hs)
theorem RepK.put {K : PySem.W.Frag} {O : Addr → Prop} {H : Hp} {ns : List Int} {v : V} {d : D} (r : Rep K O H v d) {kvs : List (List Key × V)} {ps : List (D × D)} (h : RepK K O H kvs ps) :
    RepK K O H (L2.putK kvs (ns.map Sum.inl) v) (putKV ps (.tuple (ns.map PyData.int)) d) := by
  unfold L2.putK putKV
  have e := valV_any (ns.map Sum.inl) kvs
  rcases h.find (ns := ns) with ⟨w, x, q1, q2, q3, q4⟩ | ⟨q1, q2, q3⟩
  · rw [q1] at e
    have e : (kvs.any fun kv => decide (kv.1 = ns.map Sum.inl)) = true := e
    rw [if_pos e, if_pos q4]
    exact h.putK r
  · rw [q1] at e
    have e : (kvs.any fun kv => decide (kv.1 = ns.map Sum.inl)) = false := e
    rw [if_neg (by rw [e]; decide), if_neg (by rw [q3]; decide)]
    exact h.snoc r
theorem RepI.putK {K : PySem.W.Frag} {O : Addr → Prop} {H : Hp} {n : Int} {v : V} {d : D} (r : Rep K O H v d) : ∀ {kvs : List (Key × V)} {ps : List (D × D)}, RepI K O H kvs ps →
    RepI K O H (kvs.map fun kv => if kv.1 = Sum.inl n then (kv.1, v) else kv) (ps.map fun p => if PyData.eqv p.1 (.int n) = true then (p.1, d) else p)
  | _, _, .nil => .nil
  | _, _, .cons (n := m) h hs => by
    rw [List.map_cons, List.map_cons]
    by_cases e : m = n
    · subst e
      simp only [PyData.eqv, beq_self_eq_true, if_true]
      exact .cons r (RepI.putK r hs)
    · have e' : ¬ (Sum.inl m : Key) = Sum.inl n := fun z => e (Sum.inl.inj z)
      have q : ¬ PyData.eqv (.int m) (.int n) = true := by simp [PyData.eqv, e]
      rw [if_neg e', if_neg q]
      exact .cons h (RepI.putK r hs)
theorem RepI.snoc {K : PySem.W.Frag} {O : Addr → Prop} {H : Hp} {n : Int} {v : V} {d : D} (r : Rep K O H v d) : ∀ {kvs : List (Key × V)} {ps : List (D × D)}, RepI K O H kvs ps →
    RepI K O H (kvs ++ [(Sum.inl n, v)]) (ps ++ [(.int n, d)])
  | _, _, .nil => .cons r .nil
  | _, _, .cons h hs => .cons h (RepI.snoc r hs)
theorem RepI.put {K : PySem.W.Frag} {O : Addr → Prop} {H : Hp} {n : Int} {v : V} {d : D} (r : Rep K O H v d) {kvs : List (Key × V)} {ps : List (D × D)} (h : RepI K O H kvs ps) :
    RepI K O H (L2.putK kvs (Sum.inl n) v) (putKV ps (.int n) d) ∧ putKV ps (.int n) d ≠ [] := by
  unfold L2.putK putKV
  have e := valV_any (Sum.inl n) kvs
  rcases h.find (n := n) with ⟨w, x, q1, q2, q3, q4⟩ | ⟨q1, q2, q3⟩
  · rw [q1] at e
    have e : (kvs.any fun kv => decide (kv.1 = Sum.inl n)) = true := e
    rw [if_pos e, if_pos q4]
    refine ⟨h.putK r, fun z => ?_⟩
    rw [List.map_eq_nil_iff] at z
    subst z
    cases q4
  · rw [q1] at e
    have e : (kvs.any fun kv => decide (kv.1 = Sum.inl n)) = false := e
    rw [if_neg (by rw [e]; decide), if_neg (by rw [q3]; decide)]
    exact ⟨h.snoc r, by simp⟩
/-- an empty dict takes keys of either kind -/
theorem Inv.toK {X : Cx} {pins : List (Addr × Obj)} {σ : L2.St} {H : Hp} {s : Shared} {a : Addr} (I : Inv X pins σ H s) (h : H a = some (.dT [])) : Inv X pins σ (upd H a (.dK [])) s := by
  obtain ⟨z, hd, ys, rel, o, es, ep, ho, hx, hdat, hes, _, _⟩ := dt_of I.hok h
  cases rel
  have he : es = #[] := Array.toList_inj.mp hes
  subst he
  exact d_write (t' := s.toks) (h' := s.heap) I (by rw [h]; exact True.intro) ⟨rfl, fun _ _ => rfl⟩ ⟨o, ho⟩ ⟨Nat.zero_le _, hd, [], .nil, o, #[], ep, ho, hx, hdat, (fun e he => absurd he (by simp)), Pairs.nil, List.nodup_nil⟩
theorem sd_put {i : Nat} {y : Str} {x e : Expr} {ix ir : Ex} {p pos' pos : Pos} (hu : X.A.units + 1 < cLine) (hN : X.N[i]? = some y) (hv : Vis X.env.scope y) (hd : (y == ("__debug__" : Str)) = false) (hcd : (y == ("__classdict__" : Str)) = false) (hs : swapsWith e (some (.Subscript (.Name y p) x pos')) pos.line X.env = pure false)
    (hx : PEs X C E x ix) (he : PEs X C E e ir) : PSd X E (.Assign [.Subscript (.Name y p) x pos'] e pos) (evalS C (.put i ix ir)) := by
  refine ⟨fun pins s σ H D I ⟨B, ρ, bM, ⟨O, st⟩, q⟩ => ?_⟩
  simp only [evalS] at q
  split at q
  · rename_i hw
    obtain ⟨a, ev⟩ : ∃ a, σ[i]? = some (some (.ref a)) := by
      unfold ownA at hw
      split at hw
      · rename_i d e
        obtain ⟨a, q1, _⟩ := st.ok.own i d e
        exact ⟨a, q1⟩
      · cases hw
    refine wpAny_Assign_Subscript (thn (he.run pins s σ H _ I (fl_tSO st q)) fun r s1 ⟨v, H1, I1, rv, d, _, st1, r1, q1⟩ => ?_) hs
    refine thn ((pe_var hN hv hd hcd).run pins s1 σ H1 (fun w H2 => w = .ref a ∧ H2 = H1) I1 ⟨.ref a, ev, rfl, rfl⟩) fun ov s2 ⟨w, H2, I2, rw2, ew, eH⟩ => ?_
    subst ew eH
    cases rw2
    refine thn (hx.run pins s2 σ H2 _ I2 (fl_tSO st1 q1)) fun iv s3 ⟨k, H3, I3, rk, dk, s13, st3, r3, q3⟩ => ?_
    have r1' := r1.same s13
    obtain ⟨d0, d1, e2, e3, q3⟩ := chg_own q3
    obtain ⟨a', q4, oa, r⟩ := st3.ok.own i d0 e2
    rw [ev] at q4
    cases q4
    have kO : ∀ u, Keep O H3 (upd H3 a u) := fun u b x nb z => by
      rw [upd_ne fun y => nb (by rw [y]; exact oa)]
      exact z
    cases r with
    | lst h hs' =>
      simp only [putD] at e3
      cases dk with
      | int j =>
        simp only [Option.map_eq_some_iff] at e3
        obtain ⟨m, hm, rfl⟩ := e3
        have ek : k = .int j := RB.int (.r r3)
        subst ek
        refine thn (set_list pins s3 σ H3 (.ref a) (.int j) v _ iv r (fun H' => D.nx σ H') I3 rfl rk rv ⟨a, _, j, m, rfl, rfl, h, by rw [hs'.length]; exact hm, ?_⟩) fun _ s4 ⟨H4, I4, q5⟩ => ⟨σ, H4, I4, q5⟩
        exact q3 _ _ ⟨O, st3.chg e2 ev (.lst upd_same ((hs'.set r1' m).keep (kO _)))⟩
      | _ => cases e3
    | dct h hs' =>
      simp only [putD] at e3
      split at e3
      · rename_i hz
        cases e3
        have hz2 := hz.2
        unfold keyFor at hz2
        rw [Bool.or_eq_true, Bool.and_eq_true, Bool.and_eq_true] at hz2
        rcases hz2 with ⟨hk, _⟩ | ⟨hk, hi⟩
        · obtain ⟨ns, rfl⟩ := keyOf_eq hk
          obtain ⟨b, rfl, hb⟩ := key_at (.r r3)
          refine d_setItem hu I3 (DPut.t h hb (by rw [hs'.length]; exact hz.1)) rk rv fun s4 I4 => ⟨σ, _, I4, ?_⟩
          exact q3 _ _ ⟨O, st3.chg e2 ev (.dct upd_same ((hs'.put r1').keep (kO _)))⟩
        · obtain ⟨n, rfl⟩ := keyI_eq hk
          have ek := RB.int (.r r3)
          subst ek
          obtain rfl := hs'.keysI_nil hi
          cases hs'
          have I4 := Inv.toK I3 h
          refine d_setItem hu I4 (DPut.k (k := Sum.inl n) upd_same (Nat.lt_of_le_of_lt (Nat.zero_le _) hz.1)) rk rv fun s4 I5 => ⟨σ, _, I5, ?_⟩
          rw [upd_upd]
          have rp := RepI.put (n := n) r1' (.nil : RepI X.K O H3 [] [])
          exact q3 _ _ ⟨O, st3.chg e2 ev (.dci upd_same (rp.1.keep (kO _)) rp.2)⟩
      · cases e3
    | dci h hs' hn =>
      simp only [putD] at e3
      split at e3
      · rename_i hz
        cases e3
        have hz2 := hz.2
        unfold keyFor at hz2
        rw [Bool.or_eq_true, Bool.and_eq_true, Bool.and_eq_true] at hz2
        rcases hz2 with ⟨hk, hT⟩ | ⟨hk, hi⟩
        · rw [hs'.keysT_false hn] at hT
          cases hT
        · obtain ⟨n, rfl⟩ := keyI_eq hk
          have ek := RB.int (.r r3)
          subst ek
          refine d_setItem hu I3 (DPut.k (k := Sum.inl n) h (by rw [hs'.length]; exact hz.1)) rk rv fun s4 I4 => ⟨σ, _, I4, ?_⟩
          have rp := RepI.put (n := n) r1' hs'
          exact q3 _ _ ⟨O, st3.chg e2 ev (.dci upd_same (rp.1.keep (kO _)) rp.2)⟩
      · cases e3
  · exact False.elim q
end
end BP
namespace PySem
open PySem.Spec PyProof.Rows L2
theorem bp_mulSame (l : Addr) (items : Array Value) (n : Nat) (dd : Option Addr) (sl : Array (Option Value)) (x : Int) (u : Tok) (c0 : (decide (x < -(2 ^ 63)) || decide (x ≥ 2 ^ 63)) = false) (c1 : (items.isEmpty || x == 1) = true) :
    Meets (Builtin.«tuple.__mul__» ⟨[.ref l, .int x u], []⟩) (fun _ R s => s.heap.get? l = some { cls := .type "tuple", dict := dd, data := .seq items n, slots := sl } ∧
      R (.ok (.ret (Value.ref l))) s) :=
  .of_wp fun prog w A R s h => by
    obtain ⟨hp, g, d, tk, os⟩ := s
    obtain ⟨hl, h⟩ := h
    have f1 := AutoSeq1.idx_int
    wp_walk using AutoSeq1.wpAny_loadPart' hl
    repeat (first
      | (refine wpAny_ite_false (decide_eq_false (by rw [c0]; exact Bool.false_ne_true)) ?_; wp_walk using AutoSeq1.wpAny_loadPart' hl)
      | (refine wpAny_ite_true (decide_eq_true c1) ?_; wp_walk using AutoSeq1.wpAny_loadPart' hl))
    exact ⟨_, rfl, h⟩
theorem bp_mulNil (l : Addr) (items : Array Value) (n : Nat) (dd : Option Addr) (sl : Array (Option Value)) (x : Int) (u : Tok) (c0 : (decide (x < -(2 ^ 63)) || decide (x ≥ 2 ^ 63)) = false) (c1 : (items.isEmpty || x == 1) = false) (c2 : (decide (x ≤ 0) || items.isEmpty) = true) :
    Meets (Builtin.«tuple.__mul__» ⟨[.ref l, .int x u], []⟩) (fun _ R s => s.heap.get? l = some { cls := .type "tuple", dict := dd, data := .seq items n, slots := sl } ∧
      R (.ok (.ret (Value.ref s.heap.objs.size))) { s with heap := s.heap.push { cls := Value.type "tuple", data := Data.seq #[] }, toks := s.toks }) :=
  .of_wp fun prog w A R s h => by
    obtain ⟨hp, g, d, tk, os⟩ := s
    obtain ⟨hl, h⟩ := h
    have f1 := AutoSeq1.idx_int
    wp_walk using AutoSeq1.wpAny_loadPart' hl
    repeat (first
      | (refine wpAny_ite_false (decide_eq_false (by rw [c0]; exact Bool.false_ne_true)) ?_; wp_walk using AutoSeq1.wpAny_loadPart' hl)
      | (refine wpAny_ite_false (decide_eq_false (by rw [c1]; exact Bool.false_ne_true)) ?_; wp_walk using AutoSeq1.wpAny_loadPart' hl)
      | (refine wpAny_ite_true (decide_eq_true c2) ?_; wp_walk using AutoSeq1.wpAny_loadPart' hl))
    exact ⟨_, rfl, h⟩
theorem bp_mulLst (l : Addr) (items : Array Value) (n : Nat) (dd : Option Addr) (sl : Array (Option Value)) (x : Int) (u : Tok) (hs0 : ¬(!Builtin.List.listFitsIndex x) = true) (hs1 : ¬items.size * x.toNat > (2 ^ 63 - 1) / 8) (hc2 : ¬Builtin.List.listTooLong (items.size * x.toNat) = true) :
    Meets (Builtin.«list.__mul__» ⟨[.ref l, .int x u], []⟩) (fun _ R s => s.heap.get? l = some { cls := .type "list", dict := dd, data := .seq items n, slots := sl } ∧
      R (.ok (.ret (Value.ref s.heap.objs.size))) { s with heap := s.heap.push { cls := Value.type "list", data := Data.seq (List.foldl (fun x1 x2 => x1 ++ x2) #[] (List.replicate (if items.isEmpty = true then 0 else x.toNat) items)) }, toks := s.toks }) :=
  .of_wp fun prog w A R s h => by
    obtain ⟨hp, g, d, tk, os⟩ := s
    obtain ⟨hl, h⟩ := h
    have f1 := AutoSeq1.idx_int
    have hsz := AutoListH.joined_fits hc2
    wp_walk using AutoSeq1.wpAny_loadPart' hl
    refine wpAny_ite_false (decide_eq_false (Nat.not_lt.mpr hsz)) ?_
    wp_walk using AutoSeq1.wpAny_loadPart' hl
    exact ⟨_, rfl, h⟩
theorem bp_rmulLst (a : Int) (t : Tok) (l : Addr) (items : Array Value) (n : Nat) (dd : Option Addr) (sl : Array (Option Value)) :
    Meets (Builtin.«int.__rmul__» ⟨[.int a t, .ref l], []⟩) (fun _ R s => s.heap.get? l = some { cls := .type "list", dict := dd, data := .seq items n, slots := sl } ∧ R (.ok (.ret Value.notImplemented)) s) :=
  .of_wp fun prog w A R s h => by obtain ⟨hp, g, d, tk, os⟩ := s; obtain ⟨hl, h⟩ := h; wp_walk using AutoSeq1.wpAny_loadPart' hl; exact ⟨_, rfl, h⟩
end PySem
namespace BP
open PySem PySem.Spec PyProof.Rows L2
section
variable {X : Cx} {E : Nat → Hp → Prop}
theorem rep_len {α : Type} {k : Int} {xs : List α} (h : k ≤ 1000 ∧ xs.length ≤ 1000) : (List.replicate k.toNat xs).flatten.length ≤ sizeLine := by
  rw [PyProof.Rows.lm_len_rep_flat, sizeLine_eq]
  have a1 : k.toNat * xs.length ≤ 1000 * 1000 := Nat.mul_le_mul (by omega) h.2
  omega
/-- a tuple times an int -/
theorem op_mulTup {l : Addr} {k : Int} {xs : List V} {u : Value} {pins : List (Addr × Obj)} {s : Shared} {σ : L2.St} {H : Hp} {Q : VK} (I : Inv X pins σ H s) (ry : RelV (.int k) u) (hT : SqT X.K H l xs) (h0 : -(2 ^ 63) ≤ k) (h : k ≤ 1000 ∧ xs.length ≤ 1000)
    (q1 : xs = [] ∨ k = 1 → Q (.ref l) H) (q : ∀ p, H p = none → Q (.ref p) (upd H p (.tup (List.replicate k.toNat xs).flatten))) : wpAny (model X.prog X.w) X.A (binaryOp .Mult (.ref l) u) (EP X pins σ Q) X.xe s := by
  by_cases hg : xs ≠ [] ∧ 2 ≤ k
  · exact op_repT pins s σ H (.ref l) (.int k) (.ref l) u Q I rfl ry ⟨l, k, xs, rfl, rfl, hT, hg.1, hg.2, h.1, h.2, q⟩
  · obtain ⟨t, rfl⟩ := ry
    obtain ⟨its, r, ⟨⟨cls, dd, data, sl⟩, ho, hc, n, hd⟩, hs⟩ := I.tuple hT
    simp only at hc hd
    subst hc hd
    have hle : its.length = xs.length := r.length.symm
    have c0 : (decide (k < -(2 ^ 63)) || decide (k ≥ 2 ^ 63)) = false := by
      rw [decide_eq_false (by omega), decide_eq_false (by omega)] <;> rfl
    by_cases e : xs = [] ∨ k = 1
    · have c1 : (its.toArray.isEmpty || k == 1) = true := by
        rcases e with e | e
        · subst e
          cases r
          rfl
        · subst e
          simp
      exact wpAny_binaryOp_repeat_ref (T := "tuple") (U := "int") (by decide) ⟨_, ho, rfl⟩ (fun s' => typeIs_int s' k t) noFill_tuple_mul F.fills_int_mul F.slot_int_rmul repeat_tuple F.slot_int_index.lookup
        (call_meets F.slot_int_rmul (typeIs_int s k t) F.entry_int_rmul (F.args_int_rmul_2 _ _) (int_rmul_tuple k t l its.toArray n dd sl)
          ⟨ho, rfl, ⟨_, ho, rfl⟩, call_meets F.slot_tuple_mul ⟨_, ho, rfl⟩ F.entry_tuple_mul (F.args_tuple_mul_2 _ _) (bp_mulSame l its.toArray n dd sl k t c0 c1) ⟨ho, .ref l, H, I, rfl, q1 e⟩⟩)
    · have hne : xs ≠ [] := fun z => e (.inl z)
      have hk1 : k ≠ 1 := fun z => e (.inr z)
      have hk0 : k ≤ 0 := by
        rcases Int.lt_or_le 1 k with z | z
        · exact absurd ⟨hne, by omega⟩ hg
        · omega
      have hi : its.toArray.isEmpty = false := by
        cases its with
        | nil => cases r; exact absurd rfl hne
        | cons a b => rfl
      have c1 : (its.toArray.isEmpty || k == 1) = false := by
        rw [hi, Bool.false_or]
        exact beq_eq_false_iff_ne.mpr hk1
      have c2 : (decide (k ≤ 0) || its.toArray.isEmpty) = true := by rw [decide_eq_true hk0]; rfl
      have e0 : (List.replicate k.toNat xs).flatten = [] := by
        have : k.toNat = 0 := by omega
        rw [this]; rfl
      rw [e0] at q
      refine wpAny_binaryOp_repeat_ref (T := "tuple") (U := "int") (by decide) ⟨_, ho, rfl⟩ (fun s' => typeIs_int s' k t) noFill_tuple_mul F.fills_int_mul F.slot_int_rmul repeat_tuple F.slot_int_index.lookup
        (call_meets F.slot_int_rmul (typeIs_int s k t) F.entry_int_rmul (F.args_int_rmul_2 _ _) (int_rmul_tuple k t l its.toArray n dd sl)
          ⟨ho, rfl, ⟨_, ho, rfl⟩, call_meets F.slot_tuple_mul ⟨_, ho, rfl⟩ F.entry_tuple_mul (F.args_tuple_mul_2 _ _) (bp_mulNil l its.toArray n dd sl k t c0 c1 c2) ⟨ho, ?_⟩⟩)
      exact ⟨.ref s.heap.objs.size, _, I.laid (t' := s.toks) (o := .tup []) (fun b ob q => Heap.get?_push_of_some _ q) (Nat.le_refl _) ⟨Nat.zero_le _, [], .nil, IsTup.new _ _⟩, rfl, q _ (I.hok.fresh (Nat.le_refl _))⟩
/-- a list times an int -/
theorem op_mulLst {l : Addr} {k : Int} {xs : List V} {u : Value} {pins : List (Addr × Obj)} {s : Shared} {σ : L2.St} {H : Hp} {Q : VK} (I : Inv X pins σ H s) (ry : RelV (.int k) u) (hT : SqL X.K H l xs) (h1 : -(2 ^ 63) ≤ k) (h : k ≤ 1000 ∧ xs.length ≤ 1000)
    (q : ∀ p, H p = none → Q (.ref p) (upd H p (.lst (List.replicate k.toNat xs).flatten))) : wpAny (model X.prog X.w) X.A (binaryOp .Mult (.ref l) u) (EP X pins σ Q) X.xe s := by
  obtain ⟨t, rfl⟩ := ry
  obtain ⟨its, r, ⟨⟨cls, dd, data, sl⟩, n, ho, hc, _, hd⟩, _⟩ := I.list hT
  simp only at hc hd
  subst hc hd
  have hl : its.length = xs.length := r.length.symm
  have hm : its.toArray.size * k.toNat ≤ 1000000 := by
    rw [List.size_toArray, hl]
    have a1 : xs.length * k.toNat ≤ 1000 * 1000 := Nat.mul_le_mul h.2 (by omega)
    omega
  have hz : (sizeLine : Nat) = 1048576 ∨ 1000000 ≤ sizeLine := .inr (by rw [sizeLine_eq]; omega)
  have hlen : its.toArray.size * k.toNat ≤ sizeLine := by
    rcases hz with z | z <;> omega
  have hcap : ¬ its.toArray.size * k.toNat > (2 ^ 63 - 1) / 8 := by omega
  have hfit : ¬ (!Builtin.List.listFitsIndex k) = true := by
    rw [fitsIndex_both h1 (by omega)]
    exact Bool.false_ne_true
  have hlong : ¬ Builtin.List.listTooLong (its.toArray.size * k.toNat) = true := by
    rw [notLongL hlen]
    exact Bool.false_ne_true
  have hnew : List.foldl (fun x1 x2 => x1 ++ x2) #[] (List.replicate (if its.toArray.isEmpty = true then 0 else k.toNat) its.toArray) = (List.replicate k.toNat its).flatten.toArray := by
    rw [size_rep]
    cases its with
    | nil => simp
    | cons a r' => rw [if_neg (by simp)]
  refine wpAny_binaryOp_repeat_ref (T := "list") (U := "int") (by decide) ⟨_, ho, rfl⟩ (fun s' => typeIs_int s' k t) noFill_list_mul F.fills_int_mul F.slot_int_rmul repeat_list F.slot_int_index.lookup
    (call_meets F.slot_int_rmul (typeIs_int s k t) F.entry_int_rmul (F.args_int_rmul_2 _ _) (bp_rmulLst k t l its.toArray n dd sl)
      ⟨ho, rfl, ⟨_, ho, rfl⟩, call_meets F.slot_list_mul ⟨_, ho, rfl⟩ F.entry_list_mul (F.args_list_mul_2 _ _) (bp_mulLst l its.toArray n dd sl k t hfit hcap hlong) ⟨ho, ?_⟩⟩)
  rw [hnew]
  exact ⟨.ref _, _, I.lnew (t' := s.toks) (r.rep k.toNat) (rep_len h), rfl, q _ I.fresh⟩
theorem op_mulD {fr : Bool} : OpR X (binaryOp .Mult) (rOp X.K fr E (evalBin .mul)) := by
  intro pins s σ H x y v u Q I rx ry h
  obtain ⟨O, a, b, dm, ra, rb, q⟩ := h
  cases a with
  | int i => cases b with
    | int j =>
      simp only [evalBin] at q
      split at q
      · rename_i hz
        rw [Bool.or_eq_true, smallI_iff, smallI_iff] at hz
        exact op_mul pins s σ H x y v u Q I rx ry ⟨i, j, ra.int, rb.int, hz, q.int⟩
      · exact q.elim
    | _ => exact q.elim
  | tuple xs => cases b with
    | int k =>
      simp only [evalBin] at q
      split at q
      · rename_i hz
        obtain ⟨p1, vs, rfl, h1, r1⟩ := ra.tuple
        obtain rfl := rb.int
        cases rx
        refine op_mulTup I ry (.of h1) hz.1 ⟨hz.2.1, by rw [r1.length]; exact hz.2.2⟩ (fun e => ?_) (q.newTup dm (r1.rep k.toNat))
        have e1 : repL k xs = xs := by
          rcases e with e | e
          · subst e
            cases r1
            unfold repL
            simp
          · subst e
            unfold repL
            simp
        rw [e1] at q
        exact q.rep ra.tupleR fun _ => rfl
      · exact q.elim
    | _ => exact q.elim
  | list xs => cases b with
    | int k =>
      simp only [evalBin] at q
      split at q
      · rename_i hz
        obtain ⟨p1, vs, rfl, h1, r1⟩ := ra.list
        obtain rfl := rb.int
        cases rx
        exact op_mulLst I ry h1 hz.1 ⟨hz.2.1, by rw [r1.length]; exact hz.2.2⟩ (q.newLst dm (r1.rep k.toNat))
      · exact q.elim
    | _ => exact q.elim
  | _ => exact q.elim
end
end BP
/-! [::-1]. -/
namespace BP
open PySem PySem.Spec PyProof.Rows L2 HT
section
variable {prog : Program} {w : World} {A : Around} {E : Value → Shared → Prop} {s : Shared}
theorem adjust_rev (n : Nat) : Builtin.Slice.sliceAdjust none none (-1) (n : Int) = ((n : Int) - 1, -1) := by
  unfold Builtin.Slice.sliceAdjust
  simp
theorem places_rev (n : Nat) : Builtin.Slice.slicePlaces ((n : Int) - 1) (-1) (-1) = n := by
  unfold Builtin.Slice.slicePlaces
  simp
  omega
theorem sliceApplied_rev {sl : Addr} {t : Tok} {n : Nat} {Q : Int × Int × Nat → Shared → Prop} (hs : s.heap.IsSliceOf sl .none .none (.int (-1) t))
    (h : Q ((n : Int) - 1, -1, n) s) : wpAny (model prog w) A (Builtin.Slice.sliceApplied (.ref sl) (pure (n : Int))) Q E s := by
  obtain ⟨os, hos, hcs, hds⟩ := id hs
  unfold Builtin.Slice.sliceApplied Builtin.Slice.sliceFields
  refine wpAny_bind (wpAny_bind (wpAny_field hos hds (x := .none) rfl (wpAny_bind (wpAny_field hos hds (x := .none) rfl (wpAny_bind (wpAny_field hos hds (x := .int (-1) t) rfl (wpAny_pure ?_)))))))
  refine wpAny_bind (slicePart_int ?_)
  show wpAny _ _ (if ((-1 : Int) == 0) = true then _ else _) _ _ s
  rw [if_neg (by decide)]
  refine wpAny_bind (slicePart_none (wpAny_bind (slicePart_none (wpAny_bind (wpAny_pure ?_)))))
  show wpAny _ _ (match Builtin.Slice.sliceAdjust none none (-1) (n : Int) with | (lo, hi) => pure (lo, (-1 : Int), Builtin.Slice.slicePlaces lo hi (-1))) _ _ s
  rw [adjust_rev n]
  show wpAny _ _ (pure ((n : Int) - 1, (-1 : Int), Builtin.Slice.slicePlaces ((n : Int) - 1) (-1) (-1))) _ _ s
  rw [places_rev]
  exact wpAny_pure h
theorem fm_congr {α β : Type} {f g : α → Option β} : ∀ {l : List α}, (∀ x ∈ l, f x = g x) → l.filterMap f = l.filterMap g
  | [], _ => rfl
  | x :: l, h => by
    rw [List.filterMap_cons, List.filterMap_cons, h x List.mem_cons_self, fm_congr fun y hy => h y (List.mem_cons_of_mem _ hy)]
theorem pick_rev (xs : Array Value) : ((List.range xs.size).filterMap fun (m : Nat) => xs[(((xs.size : Int) - 1) + (m : Int) * (-1)).toNat]?).toArray = xs.toList.reverse.toArray := by
  congr 1
  have e : (List.range xs.size).filterMap (fun (m : Nat) => xs[(((xs.size : Int) - 1) + (m : Int) * (-1)).toNat]?) = (List.range xs.size).filterMap (fun m => xs.toList.reverse[m]?) := by
    apply fm_congr
    intro m hm
    have hm := List.mem_range.mp hm
    have : (((xs.size : Int) - 1) + (m : Int) * (-1)).toNat = xs.size - 1 - m := by omega
    rw [this, List.getElem?_reverse (by simpa using hm)]
    simp
  rw [e]
  have key : ∀ l : List Value, (List.range l.length).filterMap (fun m => l[m]?) = l := fun l => by
    induction l with
    | nil => rfl
    | cons a l ih =>
      rw [List.length_cons, List.range_succ_eq_map, List.filterMap_cons]
      simp only [List.getElem?_cons_zero, List.filterMap_map]
      congr 1
  have := key xs.toList.reverse
  simpa using this
theorem getItem_tuple_rev {t sl : Addr} {items : Array Value} {tk : Tok} {Q : Value → Shared → Prop} (ht : IsTup s.heap t items) (hs : s.heap.IsSliceOf sl .none .none (.int (-1) tk))
    (h : Q (.ref s.heap.objs.size) { s with heap := s.heap.push { cls := .type "tuple", data := .seq items.toList.reverse.toArray } })
    (hsz : items.size ≤ sizeLine) : wpAny (model prog w) A (getItem (.ref t) (.ref sl)) Q E s := by
  have htake : sizeOk (.seq items.toList.reverse.toArray) := by
    show items.toList.reverse.toArray.size ≤ sizeLine
    rw [List.size_toArray, List.length_reverse, Array.length_toList]
    exact hsz
  obtain ⟨os, hos, hcs, hds⟩ := id hs
  have hTs : s.TypeIs (.ref sl) "slice" := ⟨os, hos, hcs⟩
  unfold getItem
  try with_reducible refine wpAny_holding ?_
  first | refine wpAny_bind (wpAny_pure ?_) | skip
  refine wpAny_bind (wpAny_sequenceKey ht.typeIs (by decide) ?_)
  refine wpAny_bind (wpAny_callSpecial?_slot (name := Str.ofString "__getitem__") ht.typeIs PyProof.Rows.slot_tuple_getitem
    (wpAny_call_entry PyProof.Rows.slot_tuple_getitem ht.typeIs entry_tuple_getitem ?_ (args_tuple_getitem _ _)))
  show wpAny _ _ (Builtin.Tuple.tupleItemsOf (.ref t) >>= _) _ _ s
  refine wpAny_bind (tupleItemsOf_ ht ?_)
  refine wpAny_bind (wpAny_typeOf hTs ?_)
  rw [if_pos (by decide)]
  refine wpAny_bind (sliceApplied_rev hs ?_)
  show wpAny _ _ (if (((items.size : Int) - 1) == 0 && (-1 : Int) == 1 && items.size == items.size) = true then _ else _) _ _ s
  rw [if_neg (by simp), pick_rev]
  first
    | exact wpAny_bind (m := Builtin.Tuple.tupleExact _) (wpAny_newObj_type (wpAny_pure ⟨_, rfl, wpAny_pure h⟩) htake)
    | exact wpAny_bind (m := Builtin.Tuple.tupleExact _) (wpAny_newObj_type (wpAny_bind (wpAny_pure (wpAny_pure ⟨_, rfl, wpAny_pure h⟩))) htake)
    | exact wpAny_bind (wpAny_bind (m := Builtin.Tuple.tupleExact _) (wpAny_newObj_type (wpAny_pure (wpAny_pure ⟨_, rfl, wpAny_pure h⟩)) htake))
    | exact wpAny_bind (wpAny_bind (m := Builtin.Tuple.tupleExact _) (wpAny_newObj_type (wpAny_pure ⟨_, rfl, wpAny_pure h⟩) htake))
end
def tRevD (K : PySem.W.Frag) (te : TE) : TE := fun σ H Q => te σ H fun x H1 => ∃ a xs, x = .ref a ∧ ((SqL K H1 a xs ∧ ∀ p, H1 p = none → Q (.ref p) (upd H1 p (.lst xs.reverse))) ∨ (SqT K H1 a xs ∧ ∀ p, H1 p = none → Q (.ref p) (upd H1 p (.tup xs.reverse))))
section
variable {X : Cx}
theorem pe_revD {e : Expr} {te : TE} {k : Nat} {p1 p2 p3 pos : Pos} (he : PE X e te) : PE X (.Subscript e (.Slice none none (some (.UnaryOp .USub (.Constant (.int 1) k p1) p2)) p3) pos) (tRevD X.K te) := by
  refine ⟨fun pins s σ H Q I h => ?_⟩
  refine Subscript_ (thn (he.run pins s σ H _ I h) fun v s1 ⟨x, H1, I1, r1, q1⟩ => ?_)
  obtain ⟨a, xs, ex, q1⟩ := q1
  subst ex
  cases r1
  have hst : PO X (some (.UnaryOp .USub (.Constant (.int 1) k p1) p2)) (tPart (tUn (rU fun i => .int (-i)) (tC (.int 1)))) := po_some (pe_un un_neg pe_int)
  refine wpAny_Slice (thn (po_none.run pins s1 σ H1 (fun o H2 => o = none ∧ H2 = H1) I1 ⟨rfl, rfl⟩) fun vl s2 ⟨l, H2, I2, pl, el, e2⟩ => ?_)
  subst el e2
  refine thn (po_none.run pins s2 σ H2 (fun o H3 => o = none ∧ H3 = H2) I2 ⟨rfl, rfl⟩) fun vu s3 ⟨u, H3, I3, pu, eu, e3⟩ => ?_
  subst eu e3
  refine thn (hst.run pins s3 σ H3 (fun o H4 => o = some (-1) ∧ H4 = H3) I3 ⟨1, rfl, -1, rfl, rfl, rfl⟩) fun vs s4 ⟨o, H4, I4, ps, eo, e4⟩ => ?_
  subst eo e4
  have I5 : Inv X pins σ H4 { s4 with heap := s4.heap.push { cls := .type "slice", data := .fields #[vl, vu, vs] } } := I4.kept (t' := s4.toks) fun b ob q => Heap.get?_push_of_some _ q
  show wpAny (model X.prog X.w) X.A (subscriptTail e (.Slice none none (some (.UnaryOp .USub (.Constant (.int 1) k p1) p2)) p3) (.ref a) (.ref s4.heap.objs.size)) (EP X pins σ Q) X.xe { s4 with heap := s4.heap.push { cls := .type "slice", data := .fields #[vl, vu, vs] } }
  rcases q1 with ⟨hx, q⟩ | ⟨hx, q⟩
  · obtain ⟨its, r, ht, hz⟩ := I5.list hx
    have hlen := r.length
    refine tail_any (ops := [.ref a, .ref s4.heap.objs.size]) ht.isList.typeIs (PySem.slot_list_getitem.lookup) ?_ (by with_unfolding_all rfl)
    refine wpAny_getItem_list_slice ht.isList (Heap.IsSliceOf.new _ vl vu vs) pl pu ps (by decide) ?_ (by rw [List.size_toArray]; omega)
    rw [PySem.W.krv_pick]
    refine ⟨.ref _, _, I5.laid (t' := s4.toks) (o := .lst xs.reverse) (fun b ob q => Heap.get?_push_of_some _ q) (Nat.le_refl _) ?_, rfl, q _ (I5.hok.fresh (Nat.le_refl _))⟩
    exact ⟨by rw [List.length_reverse]; exact hz, _, 0, r.reverse, Heap.get?_push_size _ rfl⟩
  · obtain ⟨its, r, ht, hz⟩ := I5.tuple hx
    have hlen := r.length
    refine tail_any (ops := [.ref a, .ref s4.heap.objs.size]) ht.typeIs (PyProof.Rows.slot_tuple_getitem.lookup) ?_ (by with_unfolding_all rfl)
    cases pl
    cases pu
    cases ps
    refine getItem_tuple_rev ht (Heap.IsSliceOf.new _ _ _ _) ?_ (by rw [List.size_toArray]; omega)
    refine ⟨.ref _, _, I5.laid (t' := s4.toks) (o := .tup xs.reverse) (fun b ob q => Heap.get?_push_of_some _ q) (Nat.le_refl _) ?_, rfl, q _ (I5.hok.fresh (Nat.le_refl _))⟩
    exact ⟨by rw [List.length_reverse]; exact hz, _, r.reverse, IsTup.new _ _⟩
theorem pd_rev {C : Nat → List D → Res D} {E : Nat → Hp → Prop} {e : Expr} {ir : Ex} {k : Nat} {p1 p2 p3 pos : Pos} (he : PEb X C E e ir) : PEs X C E (.Subscript e (.Slice none none (some (.UnaryOp .USub (.Constant (.int 1) k p1) p2)) p3) pos) (.rev ir) := by
  refine pe_imp (pe_revD he) fun σ H Q ⟨O, ρ, so, q⟩ => ⟨O, ρ, so, ?_⟩
  simp only [evalE] at q
  refine (EB.bindS q).mono fun x H1 _ ⟨d, r, s1, q⟩ => ?_
  have dm := Dom.same so.dom s1
  cases d with
  | tuple ys =>
    obtain ⟨a, xs, rfl, h1, r1⟩ := r.tuple
    exact ⟨a, xs, rfl, .inr ⟨.of h1, q.newTup dm r1.reverse⟩⟩
  | list ys =>
    obtain ⟨a, xs, rfl, h1, r1⟩ := r.list
    exact ⟨a, xs, rfl, .inl ⟨h1, q.newLst dm r1.reverse⟩⟩
  | _ => exact False.elim q
end
end BP
/-! sorted; list(range(..)), tuple(range(..)); dicts made. -/
namespace SrtO
open PySem PyProof.Rows Srt
section
variable {prog : Program} {w : World} {A : Around} {E : Value → Shared → Prop} {s : Shared}
theorem bp_sorted {T : String} {l : Addr} {o : Obj} {items : Array Value} {n : Nat} {ltv : Value → Value → Bool} {Q : Value → Shared → Prop} (O : Swo ltv) (hT : T = "list" ∨ T = "tuple")
    (ho : s.heap.get? l = some o) (hc : o.cls = .type T) (hd : o.data = .seq items n) (hz : items.size ≤ sizeLine)
    (hS : 2 ≤ items.toList.length → ∀ (h₁ : Heap) (a : Addr), h₁.get? a = some (seqObj "list" items.toList.toArray 0) → (∀ b o, s.heap.get? b = some o → b ≠ a ∧ h₁.get? b = some o) → SortableO prog w A.in1.in1 { s with heap := h₁ } a items.toList ltv)
    (h : ∀ (out : List Value) (h1 h2 : Heap) (a : Addr) (ep : Nat), Srtd ltv out → Stb ltv out items.toList → (∀ b o, s.heap.get? b = some o → h1.get? b = some o) → (∀ b o, h1.get? b = some o → h2.get? b = some o) → h1.objs.size ≤ a → h2.get? a = some (seqObj "list" out.toArray ep) → Q (.ref a) { s with heap := h2 }) :
    wpAny (model prog w) A (call (.builtin "sorted") [.ref l]) Q E s := by
  refine Calls.call_function_entry kind_sorted plain_sorted entry_sorted (args_sorted1 _) ?_
  unfold Builtin.«sorted»
  refine wpAny_bind (m := checkCount "sorted" 1 1 _) (wpAny_pure ?_)
  refine wpAny_bind (PySem.wpAny_collect_seq l hT ho hc hd (fun h' hk => ?_) hz)
  have hz2 : items.toList.length ≤ sizeLine := by rw [Array.length_toList]; exact hz
  refine wpAny_bind (wpAny_newList ?_ hz2)
  have hoL : (h'.push (seqObj "list" items.toList.toArray 0)).get? h'.objs.size = some (seqObj "list" items.toList.toArray 0) := Heap.get?_push_size _ rfl
  have keep : ∀ b o, s.heap.get? b = some o → b ≠ h'.objs.size ∧ (h'.push (seqObj "list" items.toList.toArray 0)).get? b = some o := fun b o q =>
    ⟨Nat.ne_of_lt (Heap.lt_size (hk b o q)), Heap.get?_push_of_some _ (hk b o q)⟩
  show wpAny _ _ _ _ _ { s with heap := h'.push (seqObj "list" items.toList.toArray 0) }
  refine wpAny_bind (wpAny_holding (wpAny_call_entry slot_list_sort ⟨_, hoL, rfl⟩ entry_list_sort (list_sort_ord O hoL hz2 (fun h2 => hS h2 _ _ hoL keep) fun out hs hb => ⟨_, rfl, ?_⟩) (args_list_sort _)))
  obtain ⟨ep, he⟩ := sortedHeap_at (out := out.toArray) hoL
  refine wpAny_pure ⟨_, rfl, h out h' _ h'.objs.size ep hs hb hk (fun b o q => ?_) (Nat.le_refl _) he⟩
  show (sortedHeap (h'.push (seqObj "list" items.toList.toArray 0)) h'.objs.size items.toList out.toArray).get? b = some o
  have hlt := Heap.lt_size q
  rw [sortedHeap_old (Nat.ne_of_lt hlt) (by rw [size_push']; exact Nat.lt_succ_of_lt hlt)]
  exact Heap.get?_push_of_some _ q
end
end SrtO
namespace BP
open PySem PySem.Spec PyProof.Rows L2
theorem insI_perm (x : Int) : ∀ l : List Int, (insI x l).Perm (x :: l)
  | [] => .refl _
  | y :: r => by
    unfold insI
    split
    · exact .refl _
    · exact ((insI_perm x r).cons y).trans (.swap x y r)
theorem sortI_perm : ∀ l : List Int, (sortI l).Perm l
  | [] => .refl _
  | x :: r => (insI_perm x (sortI r)).trans ((sortI_perm r).cons x)
theorem insI_sorted (x : Int) : ∀ l : List Int, l.Pairwise (· ≤ ·) → (insI x l).Pairwise (· ≤ ·)
  | [], _ => List.pairwise_singleton _ _
  | y :: r, h => by
    have h' := List.pairwise_cons.mp h
    unfold insI
    split
    · rename_i hx
      exact List.pairwise_cons.mpr ⟨fun z hz => by
        rcases List.mem_cons.mp hz with rfl | hz
        · exact hx
        · exact Int.le_trans hx (h'.1 z hz), h⟩
    · rename_i hx
      refine List.pairwise_cons.mpr ⟨fun z hz => ?_, insI_sorted x r h'.2⟩
      rcases List.mem_cons.mp ((insI_perm x r).mem_iff.mp hz) with rfl | hz
      · omega
      · exact h'.1 z hz
theorem sortI_sorted : ∀ l : List Int, (sortI l).Pairwise (· ≤ ·)
  | [] => .nil
  | x :: r => insI_sorted x _ (sortI_sorted r)
theorem sortI_uniq {l m : List Int} (p : m.Perm l) (h : m.Pairwise (· ≤ ·)) : m = sortI l :=
  List.Perm.eq_of_pairwise (fun a b _ _ h1 h2 => Int.le_antisymm h1 h2) h (sortI_sorted l) (p.trans (sortI_perm l).symm)
section
variable {X : Cx} {E : Nat → Hp → Prop}
def rSortI (K : PySem.W.Frag) (E : Nat → Hp → Prop) : List V → Hp → VK → Prop := fun xs H Q => ∃ O ds, Dom O H ∧ RBs K O H xs ds ∧ ES K O true E (bt1 sortedI ds) Q H
theorem cr_sortedI : CallR X (.builtin "sorted") (rSortI X.K E) := by
  intro pins s σ H xs us Q I r h
  obtain ⟨O, ds, dm, rs, q⟩ := h
  obtain ⟨v, d, rfl, rb, q⟩ := rBt.one rs q
  obtain ⟨ns, e, q⟩ := q.okO
  obtain ⟨ys, e1, e2⟩ := Option.bind_eq_some_iff.mp e
  obtain ⟨p, vs, rfl, h1, r1⟩ := rb.items e1
  have e3 := intsOf_eq e2
  subst e3
  rw [r1.ints] at h1
  obtain ⟨T, o, its, m, hT, ho, hc, hd, rv, hz⟩ : ∃ T o, ∃ its : List Value, ∃ m, (T = "list" ∨ T = "tuple") ∧ s.heap.get? p = some o ∧ o.cls = .type T ∧ o.data = .seq its.toArray m ∧ Vals (ns.map V.int) its ∧ (ns.map V.int).length ≤ sizeLine := by
    rcases h1 with h1 | h1
    · obtain ⟨its, rv, ⟨o, n, ho, hc, _, hd⟩, hz⟩ := I.list h1
      exact ⟨_, o, its, n, .inl rfl, ho, hc, hd, rv, hz⟩
    · obtain ⟨its, rv, ⟨o, ho, hc, n, hd⟩, hz⟩ := I.tuple h1
      exact ⟨_, o, its, n, .inr rfl, ho, hc, hd, rv, hz⟩
  rw [Vals.ref1 r]
  have hi := rv.ints
  refine SrtO.bp_sorted SrtO.swo_int hT ho hc hd (by rw [List.size_toArray, ← rv.length]; exact hz) (fun h2 h₁ a' _ _ => SrtO.ints_sortable (by simpa using hi) h2) fun out h1 h2 a ep k1 k2 kp1 kp2 ha hg => ?_
  obtain ⟨j1, j2, j3⟩ := SrtO.ints_out (by simpa using hi) k1 k2
  have I1 : Inv X pins σ H { s with heap := h1 } := I.kept (t' := s.toks) kp1
  have eo : out.map SrtO.iv = sortI ns := sortI_uniq j2 j3
  have hlen : ((out.map SrtO.iv).map V.int).length ≤ sizeLine := by
    rw [List.length_map, j2.length_eq]
    rw [List.length_map] at hz
    exact hz
  have hn : H a = none := I1.hok.fresh ha
  refine ⟨.ref a, upd H a (.lst ((out.map SrtO.iv).map V.int)), I1.laid (t' := s.toks) kp2 ha ⟨hlen, out, ep, vals_of_ints j1, hg⟩, rfl, ?_⟩
  rw [eo]
  exact q.newLst dm (Reps.of_ints _) a hn
end
/-! ### list(range(..)), tuple(range(..)) -/
section
variable {g : Gc} {S : Sc} {T : Nat → Option Fn} {n : Nat} {cls : Nat → Value} {EX : XK} {X : Cx} {C : Nat → List D → Res D} {E : Nat → Hp → Prop}
theorem rgOk_iff {a b : Int} (h : rgOk a b = true) : RgOk a b := by
  unfold rgOk at h
  rw [Bool.and_eq_true, Bool.and_eq_true, bnd_iff, bnd_iff, decide_eq_true_eq] at h
  exact ⟨h.1.1.1, h.1.1.2, h.1.2.1, h.1.2.2, h.2⟩
theorem reps_rg {K : PySem.W.Frag} {O : Addr → Prop} {H : Hp} (a b : Int) : Reps K O H (rgV a b) (rangeL a b) := by
  have : ∀ l : List Nat, Reps K O H (l.map fun i => V.int (a + (i : Nat))) (l.map fun i => PyData.int (a + (i : Nat))) := fun l => by
    induction l with
    | nil => exact .nil
    | cons x l ih => exact .cons (.int _) ih
  exact this _
theorem star1' {a : Expr} (ns : notStar a = true) (env : PySem.Env) : starEach [a] env = (false, eval a env) :: starEach [] env := star_of ns [] env
theorem pd_listRange1 (ok : Cok g S T n cls EX X) {a : Expr} {ia : Ex} {p p2 pos pos2 : Pos} (hl : S.sc.names.lookup ("list" : Str) = some .globalImplicit) (hg : S.sc.names.lookup ("range" : Str) = some .globalImplicit) (ns : notStar a = true) (ha : PEb X C E a ia) :
    PEs X C E (.Call (.Name "list" p) [.Call (.Name "range" p2) [a] [] pos2] [] pos) (.bt .listRange1 [ia]) := by
  refine pe_imp (pe_listRg ok.calm (kind_of ok hl) (ok.w.blt _ (by decide)) (prg_1 (kind_of ok hg) (ok.w.blt _ (by decide)) ha (star1' ns _)) (star_of rfl _ _)) fun σ H Q ⟨O, ρ, so, q⟩ => ⟨O, ρ, so, ?_⟩
  simp only [evalE, evalEs, bind_assoc] at q
  refine (EB.bindS q).mono fun x H1 _ ⟨d, r, s1, q⟩ => ?_
  have q : ES X.K O true E (listRange1D d) Q H1 := q
  cases d with
  | int j =>
    simp only [listRange1D] at q
    split at q
    · rename_i h
      exact ⟨j, r.int, rgOk_iff h, q.newLst (Dom.same so.dom s1) (reps_rg 0 j)⟩
    · exact False.elim q
  | _ => exact False.elim q
theorem pd_listRange2 (ok : Cok g S T n cls EX X) {a b : Expr} {ia ib : Ex} {p p2 pos pos2 : Pos} (hl : S.sc.names.lookup ("list" : Str) = some .globalImplicit) (hg : S.sc.names.lookup ("range" : Str) = some .globalImplicit) (ns : notStar a = true) (ns2 : notStar b = true) (ha : PEb X C E a ia) (hb : PEb X C E b ib) :
    PEs X C E (.Call (.Name "list" p) [.Call (.Name "range" p2) [a, b] [] pos2] [] pos) (.bt .listRange2 [ia, ib]) := by
  refine pe_imp (pe_listRg ok.calm (kind_of ok hl) (ok.w.blt _ (by decide)) (prg_2 (kind_of ok hg) (ok.w.blt _ (by decide)) ha hb (star_of ns _ _) (star_of ns2 _ _) (pl_of (es := [b]) (by simp [ns2]) _)) (star_of rfl _ _)) fun σ H Q ⟨O, ρ, so, q⟩ => ⟨O, ρ, so, ?_⟩
  simp only [evalE, evalEs, bind_assoc] at q
  refine (EB.bindS q).mono fun x H1 _ ⟨d, r, s1, q⟩ => ⟨O, ρ, so.same s1, ?_⟩
  refine (EB.bindS q).mono fun y H2 _ ⟨d2, r2, s2, q⟩ => ?_
  have q : ES X.K O true E (listRange2D d d2) Q H2 := q
  cases d with
  | int i => cases d2 with
    | int j =>
      simp only [listRange2D] at q
      split at q
      · rename_i h
        exact ⟨i, j, r.int, r2.int, rgOk_iff h, q.newLst (Dom.same (Dom.same so.dom s1) s2) (reps_rg i j)⟩
      · exact False.elim q
    | _ => exact False.elim q
  | _ => exact False.elim q
theorem pd_tupRange2 (ok : Cok g S T n cls EX X) {a b : Expr} {ia ib : Ex} {p p2 pos pos2 : Pos} (hl : S.sc.names.lookup ("tuple" : Str) = some .globalImplicit) (hg : S.sc.names.lookup ("range" : Str) = some .globalImplicit) (ns : notStar a = true) (ns2 : notStar b = true) (ha : PEb X C E a ia) (hb : PEb X C E b ib) :
    PEs X C E (.Call (.Name "tuple" p) [.Call (.Name "range" p2) [a, b] [] pos2] [] pos) (.bt .tupRange2 [ia, ib]) := by
  refine pe_imp (pe_tupRg ok.calm (kind_of ok hl) (ok.w.blt _ (by decide)) (prg_2 (kind_of ok hg) (ok.w.blt _ (by decide)) ha hb (star_of ns _ _) (star_of ns2 _ _) (pl_of (es := [b]) (by simp [ns2]) _)) (star_of rfl _ _)) fun σ H Q ⟨O, ρ, so, q⟩ => ⟨O, ρ, so, ?_⟩
  simp only [evalE, evalEs, bind_assoc] at q
  refine (EB.bindS q).mono fun x H1 _ ⟨d, r, s1, q⟩ => ⟨O, ρ, so.same s1, ?_⟩
  refine (EB.bindS q).mono fun y H2 _ ⟨d2, r2, s2, q⟩ => ?_
  have q : ES X.K O false E (tupRange2D d d2) Q H2 := q
  cases d with
  | int i => cases d2 with
    | int j =>
      simp only [tupRange2D] at q
      split at q
      · rename_i h
        exact ⟨i, j, r.int, r2.int, rgOk_iff h, q.newTup (Dom.same (Dom.same so.dom s1) s2) (reps_rg i j)⟩
      · exact False.elim q
    | _ => exact False.elim q
  | _ => exact False.elim q
/-! ### {} -/
theorem pd_dict0 {pos : Pos} : PEs X C E (.Dict [] [] pos) .dict0 := by
  refine pe_imp pe_dnewT fun σ H Q ⟨O, ρ, so, q⟩ => ?_
  simp only [evalE] at q
  intro p hp
  have dm : Dom O H := so.dom
  exact q _ _ (same_upd hp) (.dct (dm.not hp) upd_same .nil) fun _ _ => ⟨p, rfl, hp, .dct upd_same .nil⟩
end
end BP
/-! max, min of a list of ints. -/
namespace BP
open PySem PySem.Spec PyProof.Rows L2
theorem maxF_le : ∀ (l : List Int) (x : Int), (x ≤ l.foldl (fun m y => if m < y then y else m) x) ∧ (∀ y ∈ l, y ≤ l.foldl (fun m y => if m < y then y else m) x) ∧ (l.foldl (fun m y => if m < y then y else m) x = x ∨ l.foldl (fun m y => if m < y then y else m) x ∈ l)
  | [], x => ⟨Int.le_refl _, fun _ h => (by cases h), .inl rfl⟩
  | y :: l, x => by
    obtain ⟨h1, h2, h3⟩ := maxF_le l (if x < y then y else x)
    have k1 : x ≤ (if x < y then y else x) := by split <;> omega
    have k2 : y ≤ (if x < y then y else x) := by split <;> omega
    simp only [List.foldl_cons]
    refine ⟨Int.le_trans k1 h1, fun z hz => ?_, ?_⟩
    · rcases List.mem_cons.mp hz with rfl | hz
      · exact Int.le_trans k2 h1
      · exact h2 z hz
    · rcases h3 with h3 | h3
      · split at h3
        · exact .inr (by rw [if_pos (by assumption)]; rw [h3]; exact List.mem_cons_self)
        · exact .inl (by rw [if_neg (by assumption)]; exact h3)
      · exact .inr (List.mem_cons_of_mem _ h3)
theorem minF_le : ∀ (l : List Int) (x : Int), (l.foldl (fun m y => if y < m then y else m) x ≤ x) ∧ (∀ y ∈ l, l.foldl (fun m y => if y < m then y else m) x ≤ y) ∧ (l.foldl (fun m y => if y < m then y else m) x = x ∨ l.foldl (fun m y => if y < m then y else m) x ∈ l)
  | [], x => ⟨Int.le_refl _, fun _ h => (by cases h), .inl rfl⟩
  | y :: l, x => by
    obtain ⟨h1, h2, h3⟩ := minF_le l (if y < x then y else x)
    have k1 : (if y < x then y else x) ≤ x := by split <;> omega
    have k2 : (if y < x then y else x) ≤ y := by split <;> omega
    simp only [List.foldl_cons]
    refine ⟨Int.le_trans h1 k1, fun z hz => ?_, ?_⟩
    · rcases List.mem_cons.mp hz with rfl | hz
      · exact Int.le_trans h1 k2
      · exact h2 z hz
    · rcases h3 with h3 | h3
      · split at h3
        · exact .inr (by rw [if_pos (by assumption)]; rw [h3]; exact List.mem_cons_self)
        · exact .inl (by rw [if_neg (by assumption)]; exact h3)
      · exact .inr (List.mem_cons_of_mem _ h3)
theorem maxI_uniq {ns : List Int} {a m : Int} (h : maxI ns = some a) (hm : m ∈ ns) (hx : ∀ y, y ∈ ns → y ≤ m) : m = a := by
  cases ns with
  | nil => cases h
  | cons x r =>
    obtain ⟨h1, h2, h3⟩ := maxF_le r x
    have e : r.foldl (fun m y => if m < y then y else m) x = a := Option.some.inj h
    rw [e] at h1 h2 h3
    have ha : a ∈ x :: r := h3.elim (fun z => by rw [z]; exact List.mem_cons_self) (List.mem_cons_of_mem _)
    have := hx a ha
    rcases List.mem_cons.mp hm with rfl | hm
    · omega
    · have := h2 m hm; omega
theorem minI_uniq {ns : List Int} {a m : Int} (h : minI ns = some a) (hm : m ∈ ns) (hx : ∀ y, y ∈ ns → m ≤ y) : m = a := by
  cases ns with
  | nil => cases h
  | cons x r =>
    obtain ⟨h1, h2, h3⟩ := minF_le r x
    have e : r.foldl (fun m y => if y < m then y else m) x = a := Option.some.inj h
    rw [e] at h1 h2 h3
    have ha : a ∈ x :: r := h3.elim (fun z => by rw [z]; exact List.mem_cons_self) (List.mem_cons_of_mem _)
    have := hx a ha
    rcases List.mem_cons.mp hm with rfl | hm
    · omega
    · have := h2 m hm; omega
section
variable {X : Cx} {E : Nat → Hp → Prop}
def rMaxI (K : PySem.W.Frag) (E : Nat → Hp → Prop) : List V → Hp → VK → Prop := fun xs H Q => ∃ O ds, Dom O H ∧ RBs K O H xs ds ∧ ES K O false E (bt1 maxLI ds) Q H
theorem cr_max1I (hc : X.calm = true) : CallR X (.builtin "max") (rMaxI X.K E) := by
  intro pins s σ H xs us Q I r h
  obtain ⟨O, ds, dm, rs, q⟩ := h
  obtain ⟨v, d, rfl, rb, q⟩ := rBt.one rs q
  obtain ⟨m, e, q⟩ := q.okO
  obtain ⟨ns, e0, em⟩ := Option.bind_eq_some_iff.mp e
  obtain ⟨ys, e1, e2⟩ := Option.bind_eq_some_iff.mp e0
  obtain ⟨p, vs, rfl, h1, r1⟩ := rb.listOf e1
  have e3 := intsOf_eq e2
  subst e3
  rw [r1.ints] at h1
  have hne : 0 < ns.length := by
    cases ns with
    | nil => cases em
    | cons _ _ => simp
  refine L2.cr_max hc pins s σ H _ us Q I r ⟨p, ns, rfl, h1, hne, fun a ha hx => ?_⟩
  rw [maxI_uniq em ha hx]
  exact q.int
def rMinI (K : PySem.W.Frag) (E : Nat → Hp → Prop) : List V → Hp → VK → Prop := fun xs H Q => ∃ O ds, Dom O H ∧ RBs K O H xs ds ∧ ES K O false E (bt1 minLI ds) Q H
theorem cr_min1I (hc : X.calm = true) : CallR X (.builtin "min") (rMinI X.K E) := by
  intro pins s σ H xs us Q I r h
  obtain ⟨O, ds, dm, rs, q⟩ := h
  obtain ⟨v, d, rfl, rb, q⟩ := rBt.one rs q
  obtain ⟨m, e, q⟩ := q.okO
  obtain ⟨ns, e0, em⟩ := Option.bind_eq_some_iff.mp e
  obtain ⟨ys, e1, e2⟩ := Option.bind_eq_some_iff.mp e0
  obtain ⟨p, vs, rfl, h1, r1⟩ := rb.listOf e1
  have e3 := intsOf_eq e2
  subst e3
  rw [r1.ints] at h1
  have hne : 0 < ns.length := by
    cases ns with
    | nil => cases em
    | cons _ _ => simp
  refine L2.cr_min hc pins s σ H _ us Q I r ⟨p, ns, rfl, h1, hne, fun a ha hx => ?_⟩
  rw [minI_uniq em ha hx]
  exact q.int
end
end BP
/-! sorted(set(..)) of tuples of ints of any lengths. -/
namespace BP
open PySem PySem.Spec PyProof.Rows L2
/-! ### the order of rows -/
theorem leR_refl : ∀ x : List Int, leR x x = true
  | [] => rfl
  | x :: xs => by simp [leR, leR_refl xs]
theorem leR_anti : ∀ {x y : List Int}, leR x y = true → leR y x = true → x = y
  | [], [], _, _ => rfl
  | [], _ :: _, _, h => by cases h
  | _ :: _, [], h, _ => by cases h
  | x :: xs, y :: ys, h, h' => by
    unfold leR at h h'
    by_cases h1 : x < y
    · rw [if_neg (by omega), if_pos h1] at h'; cases h'
    · by_cases h2 : y < x
      · rw [if_neg h1, if_pos h2] at h; cases h
      · rw [if_neg h1, if_neg h2] at h
        rw [if_neg h2, if_neg h1] at h'
        rw [leR_anti h h', show x = y by omega]
theorem leR_trans : ∀ {x y z : List Int}, leR x y = true → leR y z = true → leR x z = true
  | [], _, _, _, _ => by simp [leR]
  | _ :: _, [], _, h, _ => by cases h
  | _ :: _, _ :: _, [], _, h => by cases h
  | x :: xs, y :: ys, z :: zs, h, h' => by
    unfold leR at h h' ⊢
    by_cases h1 : x < y
    · by_cases h2 : z < y
      · rw [if_neg (by omega), if_pos h2] at h'; cases h'
      · rw [if_pos (by omega)]
    · by_cases h2 : y < x
      · rw [if_neg h1, if_pos h2] at h; cases h
      · rw [if_neg h1, if_neg h2] at h
        have e : x = y := by omega
        subst e
        by_cases h3 : x < z
        · rw [if_pos h3]
        · by_cases h4 : z < x
          · rw [if_neg h3, if_pos h4] at h'; cases h'
          · rw [if_neg h3, if_neg h4] at h' ⊢
            exact leR_trans h h'
theorem leR_total : ∀ (x y : List Int), leR x y = true ∨ leR y x = true
  | [], _ => .inl (by simp [leR])
  | _ :: _, [] => .inr rfl
  | x :: xs, y :: ys => by
    unfold leR
    by_cases h1 : x < y
    · left; rw [if_pos h1]
    · by_cases h2 : y < x
      · right; rw [if_pos h2]
      · rw [if_neg h1, if_neg h2, if_neg h2, if_neg h1]
        exact leR_total xs ys
def ltR (x y : List Int) : Prop := leR x y = true ∧ x ≠ y
theorem ltR_trans {x y z : List Int} (h : ltR x y) (h' : ltR y z) : ltR x z :=
  ⟨leR_trans h.1 h'.1, fun e => by subst e; exact h.2 (leR_anti h.1 h'.1)⟩
theorem not_leR {x y : List Int} (h : ¬ leR x y = true) : ltR y x := ⟨(leR_total x y).resolve_left h, fun e => by subst e; exact h (leR_refl _)⟩
theorem mem_insU (x : List Int) : ∀ (l : List (List Int)) (z : List Int), z ∈ insU x l ↔ z = x ∨ z ∈ l
  | [], z => by simp [insU]
  | y :: r, z => by
    unfold insU
    by_cases h1 : leR x y = true
    · rw [if_pos h1]
      by_cases h2 : leR y x = true
      · rw [if_pos h2]
        have e := leR_anti h1 h2
        subst e
        simp
      · rw [if_neg h2]; simp
    · rw [if_neg h1, List.mem_cons, mem_insU x r z, List.mem_cons]
      constructor
      · rintro (h | h | h)
        · exact .inr (.inl h)
        · exact .inl h
        · exact .inr (.inr h)
      · rintro (h | h | h)
        · exact .inr (.inl h)
        · exact .inl h
        · exact .inr (.inr h)
theorem insU_sorted (x : List Int) : ∀ {l : List (List Int)}, l.Pairwise ltR → (insU x l).Pairwise ltR
  | [], _ => List.pairwise_singleton _ _
  | y :: r, h => by
    have h' := List.pairwise_cons.mp h
    unfold insU
    by_cases h1 : leR x y = true
    · rw [if_pos h1]
      by_cases h2 : leR y x = true
      · rw [if_pos h2]; exact h
      · rw [if_neg h2]
        have hl := not_leR h2
        refine List.pairwise_cons.mpr ⟨fun z hz => ?_, h⟩
        rcases List.mem_cons.mp hz with rfl | hz
        · exact hl
        · exact ltR_trans hl (h'.1 z hz)
    · rw [if_neg h1]
      refine List.pairwise_cons.mpr ⟨fun z hz => ?_, insU_sorted x h'.2⟩
      rcases (mem_insU x r z).mp hz with rfl | hz
      · exact not_leR h1
      · exact h'.1 z hz
theorem mem_sortU : ∀ (l : List (List Int)) (z : List Int), z ∈ sortU l ↔ z ∈ l
  | [], z => Iff.rfl
  | x :: r, z => by rw [sortU, mem_insU, mem_sortU r z, List.mem_cons]
theorem sortU_sorted : ∀ (l : List (List Int)), (sortU l).Pairwise ltR
  | [] => List.Pairwise.nil
  | x :: r => insU_sorted x (sortU_sorted r)
theorem ltR_uniq : ∀ {l m : List (List Int)}, l.Pairwise ltR → m.Pairwise ltR → (∀ z, z ∈ l ↔ z ∈ m) → l = m
  | [], [], _, _, _ => rfl
  | [], b :: m, _, _, h => by have := (h b).mpr List.mem_cons_self; cases this
  | a :: l, [], _, _, h => by have := (h a).mp List.mem_cons_self; cases this
  | a :: l, b :: m, hl, hm, h => by
    have hl' := List.pairwise_cons.mp hl
    have hm' := List.pairwise_cons.mp hm
    have e : a = b := by
      rcases List.mem_cons.mp ((h a).mp List.mem_cons_self) with e | h1
      · exact e
      · rcases List.mem_cons.mp ((h b).mpr List.mem_cons_self) with e | h2
        · exact e.symm
        · exact leR_anti (hl'.1 b h2).1 (hm'.1 a h1).1
    subst e
    rw [ltR_uniq hl'.2 hm'.2 fun z => ?_]
    constructor
    · intro hz
      rcases List.mem_cons.mp ((h z).mp (List.mem_cons_of_mem _ hz)) with rfl | q
      · exact absurd rfl (hl'.1 z hz).2
      · exact q
    · intro hz
      rcases List.mem_cons.mp ((h z).mpr (List.mem_cons_of_mem _ hz)) with rfl | q
      · exact absurd rfl (hm'.1 z hz).2
      · exact q
theorem leR_lt : ∀ (x y : List Int), (!decide (y < x)) = leR x y
  | [], y => by simp [leR]
  | x :: xs, [] => by simp [leR]
  | x :: xs, y :: ys => by
    have ih := leR_lt xs ys
    unfold leR
    by_cases h1 : x < y
    · rw [if_pos h1]
      have : ¬ (y :: ys) < (x :: xs) := fun h => by
        rcases List.cons_lt_cons_iff.mp h with h | ⟨h, _⟩ <;> omega
      simp [this]
    · by_cases h2 : y < x
      · rw [if_neg h1, if_pos h2]
        have : (y :: ys) < (x :: xs) := List.cons_lt_cons_iff.mpr (.inl h2)
        simp [this]
      · rw [if_neg h1, if_neg h2, ← ih]
        have e : x = y := by omega
        subst e
        have : ((x :: ys) < (x :: xs)) ↔ ys < xs := by
          rw [List.cons_lt_cons_iff]
          constructor
          · rintro (h | ⟨_, h⟩)
            · omega
            · exact h
          · intro h; exact .inr ⟨rfl, h⟩
        simp [this]
theorem dataLe_tups {β : Type} (x : β → List Int) : PySem.W.dataLe false (fun b => PyData.tuple ((x b).map .int)) = fun p q => leR (x p) (x q) := by
  funext p q
  show (!PySem.W.dataLt (.tuple ((x q).map .int)) (.tuple ((x p).map .int))) = _
  rw [PySem.W.dataLt_tuple]
  show (!PySem.W.rowLt ((x q).map .int) ((x p).map .int)) = _
  rw [PySem.W.dataLt_ints, leR_lt]
end BP
namespace BPset
open PySem PySem.Spec PyProof.Rows L2 PySem.W BP
section
variable {P : Program} {w : World} {A : Around} {E : Value → Shared → Prop} {s : Shared}
theorem reads_ints {h : Heap} : ∀ {k : List Int} {vs : List Value}, ItemsAre (intKind P w) k vs → ReadsAll h vs (k.map PyData.int) []
  | _, _, .nil => .nil
  | _, _, .cons (k := k) (v := v) h1 hs => by
    obtain ⟨t, rfl⟩ := Value.isInt_shape h1
    exact .cons (as := []) (.int k t) (reads_ints hs)
theorem reads_tup {h : Heap} {k : List Int} {b : Addr} (x : IsT P w h k b) : Reads h (.ref b) (.tuple (k.map PyData.int)) [] := by
  obtain ⟨o, items, n, ho, hc, hd, hi⟩ := x
  exact .tuple ho hc hd (reads_ints hi)
theorem each_of {R : Value → Addr × List Int → Prop} : ∀ {L : List (Addr × List Int)}, (∀ p ∈ L, R (.ref p.1) p) → EachIs R (L.map fun p => Value.ref p.1) L
  | [], _ => .nil
  | p :: L, h => .cons (h p List.mem_cons_self) (each_of fun q hq => h q (List.mem_cons_of_mem _ hq))
theorem of_each : ∀ {vs : List Value} {L : List (Addr × List Int)}, EachIs (fun v p => v = Value.ref p.1) vs L → vs = L.map fun p => Value.ref p.1
  | _, _, .nil => rfl
  | _, _, .cons h hs => by rw [List.map_cons, h, of_each hs]
theorem depthAll_ints : ∀ k : List Int, PyData.depthAll (k.map PyData.int) = 0 := PySem.W.depth_ints
/-- sorted(set), the tuples of ints, none empty, or one at the most -/
theorem sorted_setU {a : Addr} {L : List (Addr × List Int)} {es : Array (Int × Value)} {ep : Nat} {t : SetTable} {Q : Value → Shared → Prop} (R : SetTR P w s.heap a L es ep t) (hh : A.handled = none) (hne : (∀ p ∈ L, p.2 ≠ []) ∨ L.length ≤ 1) (hu : A.units + 60 < cLine)
    (hQ : ∀ s' p (c : Nat) (L' : List (Addr × List Int)), (∀ b o, s.heap.get? b = some o → s'.heap.get? b = some o) → s'.gens = s.gens → s'.os = s.os → s.heap.objs.size ≤ p →
      s'.heap.get? p = some (seqObj "list" (L'.map fun q => Value.ref q.1).toArray c) → L'.Perm L → (L'.map (·.2)).Pairwise ltR → Q (.ref p) s') :
    wpAny (model P w) A (call (.builtin "sorted") [.ref a]) Q E s := by
  obtain ⟨o, ho, hex, hd⟩ := R.ob
  have hsz := R.size
  have hfew := R.few
  refine Calls.call_function_entry kind_sorted plain_sorted entry_sorted (args_sorted1 _) ?_
  unfold Builtin.«sorted»
  refine wpAny_bind (m := checkCount "sorted" 1 1 _) (wpAny_pure ?_)
  refine wpAny_bind (collect_set (A := A.in1) hh ⟨o, ho, hex.1, hd⟩ R.fits (by unfold scanBound; omega) R.tab.ris R.led fun s1 vs k1 hz g1 o1 pm => ?_)
  have hes : es.toList.map (·.2) = L.map fun q => Value.ref q.1 := by
    rw [R.rows]
    unfold L2.rowsOf
    rw [List.map_map]
    rfl
  rw [hes] at pm
  obtain ⟨L1, p1, e1⟩ := perm_lift (fun q : Addr × List Int => Value.ref q.1) pm L rfl
  subst e1
  have hl1 : L1.length < 64 := by rw [p1.length_eq]; exact hfew
  refine wpAny_bind (wpAny_newList ?_ (by rw [sizeLine_eq, List.length_map]; omega))
  have hoL : (s1.heap.push (seqObj "list" (L1.map fun q => Value.ref q.1).toArray 0)).get? s1.heap.objs.size = some (seqObj "list" (L1.map fun q => Value.ref q.1).toArray 0) := Heap.get?_push_size _ rfl
  have tk : ∀ q ∈ L1, IsT P w (s1.heap.push (seqObj "list" (L1.map fun q => Value.ref q.1).toArray 0)) q.2 q.1 := fun q hq => isT_keep (R.tup q (p1.mem_iff.mp hq)) fun b u e => Heap.get?_push_of_some _ (k1 b u e)
  have tail : ∀ L2 : List (Addr × List Int), ∃ c, (sortedHeap (s1.heap.push (seqObj "list" (L1.map fun q => Value.ref q.1).toArray 0)) s1.heap.objs.size (L1.map fun q => Value.ref q.1) (L2.map fun q => Value.ref q.1).toArray).get? s1.heap.objs.size = some (seqObj "list" (L2.map fun q => Value.ref q.1).toArray c) ∧
      ∀ b u, s.heap.get? b = some u → (sortedHeap (s1.heap.push (seqObj "list" (L1.map fun q => Value.ref q.1).toArray 0)) s1.heap.objs.size (L1.map fun q => Value.ref q.1) (L2.map fun q => Value.ref q.1).toArray).get? b = some u := fun L2 => by
    obtain ⟨c, hc⟩ := sortedHeap_at (vs := (L1.map fun q => Value.ref q.1)) (out := (L2.map fun q => Value.ref q.1).toArray) hoL
    refine ⟨c, hc, fun b u e => ?_⟩
    have q := k1 b u e
    have hlt := Heap.lt_size q
    rw [sortedHeap_old (Nat.ne_of_lt hlt) (by rw [size_push']; exact Nat.lt_succ_of_lt hlt)]
    exact Heap.get?_push_of_some _ q
  have ndL : ∀ L2 : List (Addr × List Int), L2.Perm L → (L2.map (·.2)).Nodup := fun L2 pL => ((pL.map (·.2)).nodup_iff).mpr R.nd
  rcases hne with hne | hone
  · refine wpAny_bind (wpAny_holding (list_sort_data (s := { s1 with heap := s1.heap.push (seqObj "list" (L1.map fun q => Value.ref q.1).toArray 0) }) (bs := L1) (enc := fun q => .tuple (q.2.map PyData.int)) (R := fun v q => v = Value.ref q.1) hoL
      (each_of fun q _ => rfl) (each_of fun q hq => ⟨[], reads_tup (tk q hq), by simp⟩) (AllAlike.of fun b b' => by simp only [alike]; exact alike_ints _ _) (.inl fun d hd' => ?_) (by rw [sizeLine_eq]; omega) (fun q _ => ?_) fun out ho1 ho2 => ?_))
    · obtain ⟨q, hq, rfl⟩ := List.mem_map.mp hd'
      have := hne q (p1.mem_iff.mp hq)
      cases e : q.2 with
      | nil => exact absurd e this
      | cons x r => exact ⟨.int x, r.map .int, by simp [e]⟩
    · have e : (PyData.tuple (q.2.map PyData.int)).depth = 1 := by simp [PyData.depth, depthAll_ints]
      rw [e]
      show A.in1.units + 1 + 1 < cLine
      have e2 : A.in1.units = A.units + 1 := rfl
      rw [e2]
      omega
    · rw [dataLe_tups] at ho2
      have eo := of_each ho2
      subst eo
      have pL : (L1.mergeSort fun p q => leR p.2 q.2).Perm L := (List.mergeSort_perm _ _).trans p1
      have pw : ((L1.mergeSort fun p q => leR p.2 q.2).map (·.2)).Pairwise ltR := by
        have s0 := List.pairwise_mergeSort (le := fun p q : Addr × List Int => leR p.2 q.2) (fun a b c => leR_trans) (fun a b => by have := leR_total a.2 b.2; simpa using this) L1
        have s1 : ((L1.mergeSort fun p q => leR p.2 q.2).map (·.2)).Pairwise fun x y => leR x y = true := List.pairwise_map.mpr s0
        exact (s1.and (ndL _ pL)).imp fun h => h
      obtain ⟨c, hc, kp⟩ := tail (L1.mergeSort fun p q => leR p.2 q.2)
      exact wpAny_pure ⟨_, rfl, hQ _ s1.heap.objs.size c _ kp g1 o1 hz hc pL pw⟩
  · have h1 : L1.length ≤ 1 := by rw [p1.length_eq]; exact hone
    refine wpAny_bind (wpAny_holding (wpAny_call_entry slot_list_sort ⟨_, hoL, rfl⟩ entry_list_sort (Srt.list_sort_any (s := { s1 with heap := s1.heap.push (seqObj "list" (L1.map fun q => Value.ref q.1).toArray 0) }) hoL (by rw [sizeLine_eq, List.length_map]; omega) (fun h2 => absurd h2 (by rw [List.length_map]; omega)) fun out po => ⟨.none, rfl, ?_⟩) (args_list_sort _)))
    have eo : out = L1.map fun q => Value.ref q.1 := by
      match L1, h1, po with
      | [], _, po => exact List.perm_nil.mp po
      | [x], _, po => exact List.perm_singleton.mp po
      | _ :: _ :: _, h1, _ => simp at h1
    subst eo
    have pw : (L1.map (·.2)).Pairwise ltR := by
      match L1, h1 with
      | [], _ => exact List.Pairwise.nil
      | [x], _ => exact List.pairwise_singleton _ _
      | _ :: _ :: _, h1 => simp at h1
    obtain ⟨c, hc, kp⟩ := tail L1
    exact wpAny_pure ⟨_, rfl, hQ _ s1.heap.objs.size c _ kp g1 o1 hz hc p1 pw⟩
end
section
variable {X : Cx} {E : Nat → Hp → Prop}
def rSortedU (K : PySem.W.Frag) (P : Program) (w : World) : List V → Hp → VK → Prop := fun vs H Q => ∃ (a : Addr) (L : List (Addr × List Int)), vs = [V.ref a] ∧ H a = some (SetTO P w a L) ∧ (∀ p ∈ L, SqT K H p.1 (p.2.map V.int)) ∧ ((∀ p ∈ L, p.2 ≠ []) ∨ L.length ≤ 1) ∧
  ∀ (L' : List (Addr × List Int)) (p : Addr), L'.Perm L → (L'.map (·.2)).Pairwise ltR → H p = none → Q (.ref p) (upd H p (.lst (L'.map fun q => V.ref q.1)))
theorem cr_sortedU (hc : X.calm = true) (hu : X.A.units + 65 < cLine) : CallR X (.builtin "sorted") (rSortedU X.K X.prog X.w) := by
  intro pins s σ H vs us Q I r h
  obtain ⟨a, L, rfl, ha, hk, hne, q⟩ := h
  have R0 : SetT0 X.prog X.w s.heap a L := (I.hok a _ ha).1
  obtain ⟨es, ep, t, R⟩ := R0.full fun p hp => I.isT (hk p hp)
  rw [Vals.ref1 r]
  refine sorted_setU R (I.ok.hd hc) hne (by omega) fun s' p c L' k g o hp hg pm pw => ?_
  have hfew : L'.length < 64 := by rw [pm.length_eq]; exact R.few
  have hlen : (L'.map fun q => V.ref q.1).length ≤ sizeLine := by rw [List.length_map, sizeLine_eq]; omega
  have hn : H p = none := I.hok.fresh hp
  have J : Inv X pins σ (upd H p (.lst (L'.map fun q => V.ref q.1))) { s with heap := s'.heap, gens := s'.gens, drawn := s'.drawn, toks := s'.toks } :=
    I.call (ch := []) (Un.laid k hp hn) (I.hok.laid k hp ⟨hlen, _, c, vals_of_refs L', hg⟩) (by rw [g]; exact I.bare) (fun _ z => nomatch z)
  have e : s' = { s with heap := s'.heap, gens := s'.gens, drawn := s'.drawn, toks := s'.toks } := by
    cases s'
    cases s
    cases o
    rfl
  rw [e]
  exact ⟨.ref p, _, J, rfl, q L' p pm pw hn⟩
theorem rows_of {K : PySem.W.Frag} {O : Addr → Prop} {H : Hp} : ∀ (ds : List D) {xs : List V} {ks : List (List Int)}, rowsO ds = some ks → Reps K O H xs ds →
    ∃ kp : List (Addr × List Int), kp.map (·.2) = ks ∧ xs = (kp.map fun p => V.ref p.1) ∧ ∀ p ∈ kp, H p.1 = some (.tup (p.2.map V.int)) ∧ ¬ O p.1
  | [], xs, ks, e, r => by
    cases e
    cases r
    exact ⟨[], rfl, rfl, fun p h => nomatch h⟩
  | d :: ds, xs, ks, e, r => by
    cases r with
    | cons h hs =>
      cases d with
      | tuple ys =>
        simp only [rowsO, Option.bind_eq_some_iff] at e
        obtain ⟨k, e1, ks', e2, e3⟩ := e
        cases e3
        obtain ⟨kp, a1, a2, a3⟩ := rows_of ds e2 hs
        have e4 := intsOf_eq e1
        subst e4
        cases h with
        | tup h1 h2 =>
          rw [h2.ints] at h1
          refine ⟨(_, k) :: kp, by rw [List.map_cons, a1], by rw [List.map_cons, a2], fun p hp => ?_⟩
          rcases List.mem_cons.mp hp with rfl | hp
          · exact ⟨h1.2, h1.1⟩
          · exact a3 p hp
      | _ => cases e
theorem reps_rows {K : PySem.W.Frag} {O : Addr → Prop} {H : Hp} : ∀ {L : List (Addr × List Int)}, (∀ p ∈ L, H p.1 = some (.tup (p.2.map V.int)) ∧ ¬ O p.1) → Reps K O H (L.map fun q => V.ref q.1) ((L.map (·.2)).map fun k => PyData.tuple (k.map PyData.int))
  | [], _ => .nil
  | p :: L, h => by
    obtain ⟨h1, h2⟩ := h p List.mem_cons_self
    exact .cons (.tup ⟨h2, h1⟩ (Reps.of_ints _)) (reps_rows fun q hq => h q (List.mem_cons_of_mem _ hq))
end
section
variable {P : Program} {w : World} {A : Around} {E : Value → Shared → Prop} {s : Shared}
abbrev newSet (w : World) : Obj := { cls := .type "set", dict := none, data := .set #[] 0 (.fresh 0 0 (!w.params.followText "set-order")) }
/-- set(t) of a tuple, by what its loop does -/
theorem set_tup_by {l : Addr} {items : Array Value} {Q : Value → Shared → Prop} (Post : Heap → Nat → Prop) (hh : A.handled = none) (hl : s.heap.IsTuple l items)
    (loop : ∀ (A' : Around) (R : Result → Shared → Prop), A'.handled = none → A'.in1.units ≤ A.units + 3 → l ≠ s.heap.objs.size + 1 →
      ((s.heap.push (newSet w)).push { cls := .type "tuple_iterator", data := .fields #[.ref l, .int 0 0] }).IsTupleIter (s.heap.objs.size + 1) l 0 → ((s.heap.push (newSet w)).push { cls := .type "tuple_iterator", data := .fields #[.ref l, .int 0 0] }).IsTuple l items →
      (∀ s', Moved [s.heap.objs.size, s.heap.objs.size + 1] (fun a b => b = a) { s with heap := (s.heap.push (newSet w)).push { cls := .type "tuple_iterator", data := .fields #[.ref l, .int 0 0] } } s' → Post s'.heap s'.toks → R (.ok (.ret .none)) s') →
      codeAny (model P w) A' (.builtin "set.update.loop" ⟨[.ref s.heap.objs.size, .ref (s.heap.objs.size + 1)], []⟩) R { s with heap := (s.heap.push (newSet w)).push { cls := .type "tuple_iterator", data := .fields #[.ref l, .int 0 0] } })
    (h : ∀ (h' : Heap) (tk : Nat), Post h' tk → (∀ b o, s.heap.get? b = some o → h'.get? b = some o) → Q (.ref s.heap.objs.size) { s with heap := h', toks := tk }) :
    wpAny (model P w) A (call (.type "set") [.ref l]) Q E s := by
  obtain ⟨c, tl, hmro⟩ := F.called_set.mro
  have hmade := F.called_set.made; have hsub := F.called_set.sub
  refine wpAny_call (codeAny_of_tree (show wpAny _ _ (callAny (.type "set") _) _ _ _ from ?_))
  refine wpAny_pure ⟨Code.quiet_builtin _ (by decide +kernel), codeAny_builtin F.entry_type_call ?_⟩
  rw [Around.under_plain (weight_type_call_type "set" [.ref l] []) rfl]
  have h1 := F.called_set.notType; have h2 := F.called_set.canCreate; have hct := F.typeCall_set_1 (.ref l)
  repeat (any_goals (first | assumption | wp_step))
  refine codeAny_mono (code_set_led1 (.ref l) (E := E) (Q₁ := fun obj s₁ => obj = .ref s.heap.objs.size ∧ s₁ = { s with heap := s.heap.push (newSet w) }) ⟨rfl, rfl⟩) fun r s₁ hr => ?_
  cases r with
  | error e => exact hr
  | ok fl =>
    cases fl with
    | ret obj =>
      obtain ⟨rfl, rfl⟩ := hr
      have hS : (s.heap.push (newSet w)).get? s.heap.objs.size = some (newSet w) := Heap.get?_push_size _ rfl
      have hT : Shared.TypeIs { s with heap := s.heap.push (newSet w) } (.ref s.heap.objs.size) "set" := ⟨_, hS, rfl⟩
      have hli := F.called_set.init.lookup; have hbi := F.called_set.init.bind (.ref s.heap.objs.size)
      repeat (any_goals (first | assumption | wp_step))
      refine codeAny_mono (codeAny_call_builtin (R := wants (fun r s₂ => r = .none ∧ ∃ h' tk, s₂ = { s with heap := h', toks := tk } ∧ Post h' tk ∧ (∀ b o, s.heap.get? b = some o → h'.get? b = some o)) E) F.called_set.init.plain F.entry_set_init (check_set_init_1 hT ?_)) fun r₂ s₂ hr₂ => ?_
      · obtain ⟨⟨ocls, odict, odata, oslots⟩, hol, hcl, nl, hdl⟩ := hl
        simp only at hcl hdl
        subst hcl hdl
        have hol' : (s.heap.push (newSet w)).get? l = some { cls := .type "tuple", dict := odict, data := .seq items nl, slots := oslots } := Heap.get?_push_of_some _ hol
        have hsls := F.sub_tuple_set; have hslf := F.sub_tuple_frozenset
        have hne : (Value.type "tuple" == Value.type "dict") = false := by decide
        have hl1 : (s.heap.push (newSet w)).IsTuple l items := ⟨_, hol', rfl, nl, rfl⟩
        unfold Builtin.«set.__init__» noKeywords Builtin.Frozenset.updateFrom
        generalize hPI : pyIter = PI
        wp_walk
        subst hPI
        refine wpAny_pyIter_tuple hl1 (wpAny_bind (wpAny_runValue ?_))
        have hlS : l < s.heap.objs.size := Heap.lt_size hol
        have hz1 : (s.heap.push (newSet w)).objs.size = s.heap.objs.size + 1 := Heap.size_push ..
        have hh3 : A.in1.in1.handled = none := by simp [hh]
        rw [hz1]
        refine loop _ _ (by first | exact hh3 | simp [hh]) (by first | exact Nat.le_refl _ | (simp [Around.in1]; done) | exact Nat.le_of_eq rfl) (Nat.ne_of_lt (Nat.lt_succ_of_lt hlS)) ⟨_, by rw [← hz1]; exact Heap.get?_push_size _ rfl, rfl, rfl⟩ (hl1.push _) fun s' hm hp => ?_
        obtain ⟨h', g2, d', tk', os'⟩ := s'
        have eg : g2 = s.gens := hm.gens
        have ed : d' = s.drawn := hm.drawn
        have eo : os' = s.os := hm.os
        subst eg; subst ed; subst eo
        show wpAny _ _ _ _ _ _
        refine wpAny_pure (show wpAny _ _ (ret Value.none) _ _ _ from wpAny_pure ⟨rfl, h', tk', rfl, hp, fun b o e => ?_⟩)
        have hb0 : b < s.heap.objs.size := Heap.lt_size e
        exact hm.heap b o (by simp only [List.mem_cons, List.not_mem_nil, or_false, not_or]; exact ⟨Nat.ne_of_lt hb0, Nat.ne_of_lt (Nat.lt_succ_of_lt hb0)⟩) (Heap.get?_push_of_some _ (Heap.get?_push_of_some _ e))
      · cases r₂ with
        | error e => exact hr₂
        | ok fl₂ =>
          cases fl₂ with
          | ret r =>
            obtain ⟨rfl, h', tk, rfl, hp, hk'⟩ := hr₂
            repeat (any_goals (first | assumption | wp_step))
            exact h _ _ hp hk'
          | _ => exact hr₂.elim
    | _ => exact hr.elim
/-- set(xs) of a list, by what its loop does -/
theorem set_lst_by {l : Addr} {items : Array Value} {Q : Value → Shared → Prop} (Post : Heap → Nat → Prop) (hh : A.handled = none) (hl : s.heap.IsList l items)
    (loop : ∀ (A' : Around) (R : Result → Shared → Prop), A'.handled = none → A'.in1.units ≤ A.units + 3 → l ≠ s.heap.objs.size + 1 →
      ((s.heap.push (newSet w)).push { cls := .type "list_iterator", data := .fields #[.ref l, .int 0 0] }).IsListIter (s.heap.objs.size + 1) l 0 → ((s.heap.push (newSet w)).push { cls := .type "list_iterator", data := .fields #[.ref l, .int 0 0] }).IsList l items →
      (∀ s', Moved [s.heap.objs.size, s.heap.objs.size + 1] (fun a b => b = a) { s with heap := (s.heap.push (newSet w)).push { cls := .type "list_iterator", data := .fields #[.ref l, .int 0 0] } } s' → Post s'.heap s'.toks → R (.ok (.ret .none)) s') →
      codeAny (model P w) A' (.builtin "set.update.loop" ⟨[.ref s.heap.objs.size, .ref (s.heap.objs.size + 1)], []⟩) R { s with heap := (s.heap.push (newSet w)).push { cls := .type "list_iterator", data := .fields #[.ref l, .int 0 0] } })
    (h : ∀ (h' : Heap) (tk : Nat), Post h' tk → (∀ b o, s.heap.get? b = some o → h'.get? b = some o) → Q (.ref s.heap.objs.size) { s with heap := h', toks := tk }) :
    wpAny (model P w) A (call (.type "set") [.ref l]) Q E s := by
  obtain ⟨c, tl, hmro⟩ := F.called_set.mro
  have hmade := F.called_set.made; have hsub := F.called_set.sub
  refine wpAny_call (codeAny_of_tree (show wpAny _ _ (callAny (.type "set") _) _ _ _ from ?_))
  refine wpAny_pure ⟨Code.quiet_builtin _ (by decide +kernel), codeAny_builtin F.entry_type_call ?_⟩
  rw [Around.under_plain (weight_type_call_type "set" [.ref l] []) rfl]
  have h1 := F.called_set.notType; have h2 := F.called_set.canCreate; have hct := F.typeCall_set_1 (.ref l)
  repeat (any_goals (first | assumption | wp_step))
  refine codeAny_mono (code_set_led1 (.ref l) (E := E) (Q₁ := fun obj s₁ => obj = .ref s.heap.objs.size ∧ s₁ = { s with heap := s.heap.push (newSet w) }) ⟨rfl, rfl⟩) fun r s₁ hr => ?_
  cases r with
  | error e => exact hr
  | ok fl =>
    cases fl with
    | ret obj =>
      obtain ⟨rfl, rfl⟩ := hr
      have hS : (s.heap.push (newSet w)).get? s.heap.objs.size = some (newSet w) := Heap.get?_push_size _ rfl
      have hT : Shared.TypeIs { s with heap := s.heap.push (newSet w) } (.ref s.heap.objs.size) "set" := ⟨_, hS, rfl⟩
      have hli := F.called_set.init.lookup; have hbi := F.called_set.init.bind (.ref s.heap.objs.size)
      repeat (any_goals (first | assumption | wp_step))
      refine codeAny_mono (codeAny_call_builtin (R := wants (fun r s₂ => r = .none ∧ ∃ h' tk, s₂ = { s with heap := h', toks := tk } ∧ Post h' tk ∧ (∀ b o, s.heap.get? b = some o → h'.get? b = some o)) E) F.called_set.init.plain F.entry_set_init (check_set_init_1 hT ?_)) fun r₂ s₂ hr₂ => ?_
      · obtain ⟨⟨ocls, odict, odata, oslots⟩, hol, hcl, nl, hdl⟩ := hl
        simp only at hcl hdl
        subst hcl hdl
        have hol' : (s.heap.push (newSet w)).get? l = some { cls := .type "list", dict := odict, data := .seq items nl, slots := oslots } := Heap.get?_push_of_some _ hol
        have hsls := F.sub_list_set; have hslf := F.sub_list_frozenset
        have hne : (Value.type "list" == Value.type "dict") = false := by decide
        have hl1 : (s.heap.push (newSet w)).IsList l items := ⟨_, hol', rfl, nl, rfl⟩
        unfold Builtin.«set.__init__» noKeywords Builtin.Frozenset.updateFrom
        generalize hPI : pyIter = PI
        wp_walk
        subst hPI
        refine wpAny_pyIter_list hl1 (wpAny_bind (wpAny_runValue ?_))
        have hlS : l < s.heap.objs.size := Heap.lt_size hol
        have hz1 : (s.heap.push (newSet w)).objs.size = s.heap.objs.size + 1 := Heap.size_push ..
        have hh3 : A.in1.in1.handled = none := by simp [hh]
        rw [hz1]
        refine loop _ _ (by first | exact hh3 | simp [hh]) (by first | exact Nat.le_refl _ | (simp [Around.in1]; done) | exact Nat.le_of_eq rfl) (Nat.ne_of_lt (Nat.lt_succ_of_lt hlS)) ⟨_, by rw [← hz1]; exact Heap.get?_push_size _ rfl, rfl, rfl⟩ (hl1.push _) fun s' hm hp => ?_
        obtain ⟨h', g2, d', tk', os'⟩ := s'
        have eg : g2 = s.gens := hm.gens
        have ed : d' = s.drawn := hm.drawn
        have eo : os' = s.os := hm.os
        subst eg; subst ed; subst eo
        show wpAny _ _ _ _ _ _
        refine wpAny_pure (show wpAny _ _ (ret Value.none) _ _ _ from wpAny_pure ⟨rfl, h', tk', rfl, hp, fun b o e => ?_⟩)
        have hb0 : b < s.heap.objs.size := Heap.lt_size e
        exact hm.heap b o (by simp only [List.mem_cons, List.not_mem_nil, or_false, not_or]; exact ⟨Nat.ne_of_lt hb0, Nat.ne_of_lt (Nat.lt_succ_of_lt hb0)⟩) (Heap.get?_push_of_some _ (Heap.get?_push_of_some _ e))
      · cases r₂ with
        | error e => exact hr₂
        | ok fl₂ =>
          cases fl₂ with
          | ret r =>
            obtain ⟨rfl, h', tk, rfl, hp, hk'⟩ := hr₂
            repeat (any_goals (first | assumption | wp_step))
            exact h _ _ hp hk'
          | _ => exact hr₂.elim
    | _ => exact hr.elim
end

section
variable {P : Program} {w : World} {A : Around} {E : Value → Shared → Prop} {s : Shared}
/-- set(t), t a tuple of tuples of ints -/
theorem call_set_tupT {l : Addr} {items : Array Value} (kz : List (Addr × List Int)) {Q : Value → Shared → Prop} (hh : A.handled = none) (hl : s.heap.IsTuple l items) (hit : items.toList = kz.map fun p => Value.ref p.1)
    (hk : ∀ p ∈ kz, IsT P w s.heap p.2 p.1) (hfew : kz.length < 64) (hu : A.units + 4 < cLine)
    (h : ∀ (h' : Heap) (tk : Nat) L es ep t, SetTR P w h' s.heap.objs.size L es ep t → Got kz kz.length L → (∀ b o, s.heap.get? b = some o → h'.get? b = some o) → Q (.ref s.heap.objs.size) { s with heap := h', toks := tk }) :
    wpAny (model P w) A (call (.type "set") [.ref l]) Q E s := by
  have hisz : items.size = kz.length := by
    have q := congrArg List.length hit
    rwa [Array.length_toList, List.length_map] at q
  have none_of : ∀ b, s.heap.objs.size ≤ b → s.heap.get? b = none := fun b hb => by
    cases q : s.heap.get? b with
    | none => rfl
    | some o => exact absurd (Nat.lt_of_lt_of_le (Heap.lt_size q) hb) (Nat.lt_irrefl _)
  have hval : ∀ (i : Nat) (v : Value), items[i]? = some v → ∃ p, kz[i]? = some p ∧ v = .ref p.1 := fun i v hv => by
    have q : items.toList[i]? = some v := by rw [Array.getElem?_toList]; exact hv
    rw [hit, List.getElem?_map] at q
    obtain ⟨p, e1, e2⟩ := Option.map_eq_some_iff.mp q
    exact ⟨p, e1, e2.symm⟩
  refine set_tup_by (fun h' _ => ∃ L es ep t, SetTR P w h' s.heap.objs.size L es ep t ∧ Got kz kz.length L) hh hl (fun A' R hA hu' hne it tu hR => ?_) fun h' tk ⟨L, es, ep, t, a, b⟩ k => h h' tk L es ep t a b k
  have keep2 : ∀ b o, s.heap.get? b = some o → ((s.heap.push (newSet w)).push { cls := .type "tuple_iterator", data := .fields #[.ref l, .int 0 0] }).get? b = some o := fun b o e => Heap.get?_push_of_some _ (Heap.get?_push_of_some _ e)
  refine set_update_tups ((Walks.tuple (A := A'.in1) (by simp [hA]) _ l hne items).toS) s.heap.objs.size (by
      have : l < s.heap.objs.size := by obtain ⟨o, ho, _⟩ := hl; exact Heap.lt_size ho
      simp only [List.mem_cons, List.not_mem_nil, or_false, not_or]
      exact ⟨Nat.ne_of_lt (Nat.lt_succ_self _), Nat.ne_of_gt this⟩) kz hisz hfew hval s.heap hk (none_of _ (Nat.le_refl _)) (fun b hb => none_of b (by
        rw [List.mem_singleton.mp hb]; exact Nat.le_succ _)) (by omega) (items.size - 0) 0 _ (by omega) (Nat.zero_le _) ⟨it, tu⟩ keep2 ⟨[], #[], 0, _, setTR_fresh (Heap.get?_push_of_some _ (Heap.get?_push_size _ rfl)), Got.zero kz⟩ fun s' L es ep t hm hS' g' hkp => ?_
  rw [hisz] at g'
  exact hR s' hm ⟨L, es, ep, t, hS', g'⟩
/-- set(xs), xs a list of ints -/
theorem call_set_lstI {l : Addr} {items : Array Value} (ns : List Int) {Q : Value → Shared → Prop} (hh : A.handled = none) (hl : s.heap.IsList l items) (hit : IntsAre items.toList ns) (hb : ns.length + 1 < scanBound)
    (h : ∀ (h' : Heap) (tk c : Nat), SetR w h' s.heap.objs.size (fun j => decide (j ∈ ns)) c → c ≤ ns.length → (∀ b o, s.heap.get? b = some o → h'.get? b = some o) → Q (.ref s.heap.objs.size) { s with heap := h', toks := tk }) :
    wpAny (model P w) A (call (.type "set") [.ref l]) Q E s := by
  have hisz : items.size = ns.length := by
    have q := IntsAre.length hit
    rwa [Array.length_toList] at q
  have hval : ∀ (i : Nat) (v : Value), items[i]? = some v → ∃ k t, ns[i]? = some k ∧ v = .int k t := fun i v hv => by
    have hi : i < ns.length := by rw [← hisz]; exact (Array.getElem?_eq_some_iff.mp hv).1
    obtain ⟨t, e⟩ := PyProof.Rows.IntsAre.int_at hit i v (by rw [Array.getElem?_toList]; exact hv)
    refine ⟨ns[i], t, List.getElem?_eq_getElem hi, ?_⟩
    rw [e, List.getD_eq_getElem?_getD, List.getElem?_eq_getElem hi] <;> rfl
  refine set_lst_by (fun h' _ => ∃ c, SetR w h' s.heap.objs.size (fun j => decide (j ∈ ns)) c ∧ c ≤ ns.length) hh hl (fun A' R hA hu' hne it tu hR => ?_) fun h' tk ⟨c, a, b⟩ k => h h' tk c a b k
  refine set_update_ints ((Walks.list (A := A'.in1) (by simp [hA]) _ l hne items).toS) s.heap.objs.size (by
      have : l < s.heap.objs.size := by obtain ⟨o, ho, _⟩ := hl; exact Heap.lt_size ho
      simp only [List.mem_cons, List.not_mem_nil, or_false, not_or]
      exact ⟨Nat.ne_of_lt (Nat.lt_succ_self _), Nat.ne_of_gt this⟩) ns hisz hb hval (items.size - 0) 0 _ (by omega) (Nat.zero_le _) ⟨it, tu⟩ ⟨0, Nat.le_refl 0, setR_new_at (Heap.get?_push_of_some _ (Heap.get?_push_size _ rfl))⟩ fun s' c hm hc hS' => ?_
  rw [hisz] at hc
  exact hR s' hm ⟨c, hS', hc⟩
end

end BPset
/-! sorted(set(..)), len(set(..)): the rules. -/
namespace BPset
open PySem PySem.Spec PyProof.Rows L2 PySem.W BP

/-! ints, rising -/
theorem mem_insUI (x : Int) : ∀ (l : List Int) (z : Int), z ∈ insUI x l ↔ z = x ∨ z ∈ l
  | [], z => by simp [insUI]
  | y :: r, z => by
    unfold insUI
    split
    · simp
    · split
      · rw [List.mem_cons, mem_insUI x r z, List.mem_cons]
        constructor
        · rintro (h | h | h)
          · exact .inr (.inl h)
          · exact .inl h
          · exact .inr (.inr h)
        · rintro (h | h | h)
          · exact .inr (.inl h)
          · exact .inl h
          · exact .inr (.inr h)
      · rename_i h1 h2
        have e : x = y := by omega
        subst e
        simp
theorem insUI_sorted (x : Int) : ∀ {l : List Int}, l.Pairwise (· < ·) → (insUI x l).Pairwise (· < ·)
  | [], _ => List.pairwise_singleton _ _
  | y :: r, h => by
    have h' := List.pairwise_cons.mp h
    unfold insUI
    split
    · rename_i h1
      refine List.pairwise_cons.mpr ⟨fun z hz => ?_, h⟩
      rcases List.mem_cons.mp hz with rfl | hz
      · exact h1
      · have := h'.1 z hz; omega
    · split
      · rename_i h1 h2
        refine List.pairwise_cons.mpr ⟨fun z hz => ?_, insUI_sorted x h'.2⟩
        rcases (mem_insUI x r z).mp hz with rfl | hz
        · exact h2
        · exact h'.1 z hz
      · exact h
theorem mem_sortUI : ∀ (l : List Int) (z : Int), z ∈ sortUI l ↔ z ∈ l
  | [], z => Iff.rfl
  | x :: r, z => by rw [sortUI, mem_insUI, mem_sortUI r z, List.mem_cons]
theorem sortUI_sorted : ∀ (l : List Int), (sortUI l).Pairwise (· < ·)
  | [] => List.Pairwise.nil
  | x :: r => insUI_sorted x (sortUI_sorted r)
theorem lt_uniq : ∀ {l m : List Int}, l.Pairwise (· < ·) → m.Pairwise (· < ·) → (∀ z, z ∈ l ↔ z ∈ m) → l = m
  | [], [], _, _, _ => rfl
  | [], b :: m, _, _, h => by have := (h b).mpr List.mem_cons_self; cases this
  | a :: l, [], _, _, h => by have := (h a).mp List.mem_cons_self; cases this
  | a :: l, b :: m, hl, hm, h => by
    have hl' := List.pairwise_cons.mp hl
    have hm' := List.pairwise_cons.mp hm
    have e : a = b := by
      rcases List.mem_cons.mp ((h a).mp List.mem_cons_self) with e | h1
      · exact e
      · rcases List.mem_cons.mp ((h b).mpr List.mem_cons_self) with e | h2
        · exact e.symm
        · have := hl'.1 b h2; have := hm'.1 a h1; omega
    subst e
    rw [lt_uniq hl'.2 hm'.2 fun z => ?_]
    constructor
    · intro hz
      rcases List.mem_cons.mp ((h z).mp (List.mem_cons_of_mem _ hz)) with rfl | q
      · have := hl'.1 z hz; omega
      · exact q
    · intro hz
      rcases List.mem_cons.mp ((h z).mpr (List.mem_cons_of_mem _ hz)) with rfl | q
      · have := hm'.1 z hz; omega
      · exact q
theorem sortUI_len (ns ms : List Int) (hn : ms.Nodup) (h : ∀ k, k ∈ ms ↔ k ∈ ns) : ms.length = (sortUI ns).length := by
  have nd : (sortUI ns).Nodup := (sortUI_sorted ns).imp fun h => by omega
  have pm : ms.Perm (sortUI ns) := (List.perm_ext_iff_of_nodup hn nd).mpr fun k => by rw [h, mem_sortUI]
  exact pm.length_eq
theorem firstMet_ok (ns : List Int) : ∀ i, i ≤ ns.length → (firstMet (fun i => ns.getD i 0) i).Nodup ∧ ∀ k, k ∈ firstMet (fun i => ns.getD i 0) i ↔ k ∈ ns.take i
  | 0, _ => ⟨List.nodup_nil, fun k => by simp [firstMet]⟩
  | i + 1, hi => by
    have hlt : i < ns.length := hi
    obtain ⟨h1, h2⟩ := firstMet_ok ns i (Nat.le_of_lt hlt)
    have e : ns.getD i 0 = ns[i] := by rw [List.getD_eq_getElem?_getD, List.getElem?_eq_getElem hlt] <;> rfl
    rw [firstMet_succ]
    unfold step_dedup
    have et : ns.take (i + 1) = ns.take i ++ [ns[i]] := by rw [List.take_succ, List.getElem?_eq_getElem hlt]; rfl
    rw [et]
    by_cases q : ns[i] ∈ firstMet (fun i => ns.getD i 0) i
    · rw [if_pos (List.any_eq_true.mpr ⟨_, q, by rw [e]; simp⟩)]
      refine ⟨h1, fun k => ?_⟩
      rw [h2, List.mem_append, List.mem_singleton]
      constructor
      · exact .inl
      · rintro (h | rfl)
        · exact h
        · exact (h2 _).mp q
    · rw [if_neg (fun z => by
        obtain ⟨x, hx, e2⟩ := List.any_eq_true.mp z
        have ex : x = ns[i] := by rw [← e]; exact beq_iff_eq.mp e2
        exact q (ex ▸ hx)), e]
      refine ⟨List.nodup_append.mpr ⟨h1, List.nodup_cons.mpr ⟨by simp, List.nodup_nil⟩, fun a ha b hb => ?_⟩, fun k => ?_⟩
      · rw [List.mem_singleton.mp hb]
        intro z
        subst z
        exact q ha
      · rw [List.mem_append, h2, List.mem_append]
section
variable {X : Cx} {E : Nat → Hp → Prop}
/-- set(t), t a tuple or list of tuples of ints -/
def rSetOfU (K : PySem.W.Frag) (P : Program) (w : World) : List V → Hp → VK → Prop := fun xs H Q => ∃ (l : Addr) (kz : List (Addr × List Int)), xs = [V.ref l] ∧ (SqL K H l (kz.map fun p => V.ref p.1) ∨ SqT K H l (kz.map fun p => V.ref p.1)) ∧ (∀ p ∈ kz, SqT K H p.1 (p.2.map V.int)) ∧ kz.length < 64 ∧
  ∀ a L, H a = none → (∀ p ∈ L, p ∈ kz) → (∀ p ∈ kz, p.2 ∈ L.map (·.2)) → L.length ≤ kz.length → Q (.ref a) (upd H a (SetTO P w a L))
theorem cr_setOfU (hc : X.calm = true) (hu : X.A.units + 64 < cLine) : CallR X (.type "set") (rSetOfU X.K X.prog X.w) := by
  intro pins s σ H xs us Q I r h
  obtain ⟨l, kz, rfl, hl, hk, hf, q⟩ := h
  rw [Vals.ref1 r]
  have hn : H s.heap.objs.size = none := I.hok.fresh (Nat.le_refl _)
  have fin : ∀ (h' : Heap) (tk : Nat) L es ep t, SetTR X.prog X.w h' s.heap.objs.size L es ep t → Got kz kz.length L → (∀ b o, s.heap.get? b = some o → h'.get? b = some o) → EP X pins σ Q (Value.ref s.heap.objs.size) { s with heap := h', toks := tk } := fun h' tk L es ep t R g k => by
    refine ⟨.ref s.heap.objs.size, upd H s.heap.objs.size (SetTO X.prog X.w s.heap.objs.size L), I.laid (t' := tk) k (Nat.le_refl _) (setTO_new R.t0), rfl, q _ L hn (fun p hp => ?_) (fun p hp => ?_) g.len⟩
    · exact List.mem_of_mem_take (g.sub p hp)
    · exact g.all p (by rw [List.take_length]; exact hp)
  rcases hl with hl | hl
  · obtain ⟨its, rv, pl, hz⟩ := I.list hl
    exact call_set_tups (P := X.prog) (w := X.w) kz (I.ok.hd hc) pl.isList (by simpa using refs_of_vals rv) (fun p hp => I.isT (hk p hp)) hf (by omega) fin
  · obtain ⟨its, rv, pl, hz⟩ := I.tuple hl
    exact call_set_tupT (P := X.prog) (w := X.w) kz (I.ok.hd hc) pl (by simpa using refs_of_vals rv) (fun p hp => I.isT (hk p hp)) hf (by omega) fin
/-- set(t), t a tuple or list of ints -/
def rSetOfI (K : PySem.W.Frag) (w : World) : List V → Hp → VK → Prop := fun xs H Q => ∃ (l : Addr) (ns : List Int), xs = [V.ref l] ∧ (SqL K H l (ns.map V.int) ∨ SqT K H l (ns.map V.int)) ∧ ns.length < 64 ∧
  ∀ a c, H a = none → c ≤ ns.length → Q (.ref a) (upd H a (SetO w a (fun j => decide (j ∈ ns)) c))
theorem cr_setOfI (hc : X.calm = true) : CallR X (.type "set") (rSetOfI X.K X.w) := by
  intro pins s σ H xs us Q I r h
  obtain ⟨l, ns, rfl, hl, hf, q⟩ := h
  rw [Vals.ref1 r]
  have hn : H s.heap.objs.size = none := I.hok.fresh (Nat.le_refl _)
  have fin : ∀ (h' : Heap) (tk c : Nat), SetR X.w h' s.heap.objs.size (fun j => decide (j ∈ ns)) c → c ≤ ns.length → (∀ b o, s.heap.get? b = some o → h'.get? b = some o) → EP X pins σ Q (Value.ref s.heap.objs.size) { s with heap := h', toks := tk } := fun h' tk c R hc' k =>
    ⟨.ref s.heap.objs.size, upd H s.heap.objs.size (SetO X.w s.heap.objs.size _ c), I.laid (t' := tk) k (Nat.le_refl _) (setO_new R), rfl, q _ c hn hc'⟩
  rcases hl with hl | hl
  · obtain ⟨its, rv, pl, hz⟩ := I.list hl
    exact call_set_lstI (P := X.prog) (w := X.w) ns (I.ok.hd hc) pl.isList (by simpa using ints_of_vals rv) (by unfold scanBound; omega) fin
  · obtain ⟨its, rv, pl, hz⟩ := I.tuple hl
    exact call_set_tupI (P := X.prog) (w := X.w) ns (I.ok.hd hc) pl (by simpa using ints_of_vals rv) (by unfold scanBound; omega) fin
theorem RB.items {K : PySem.W.Frag} {O : Addr → Prop} {H : Hp} {v : V} {d : D} {ds : List D} (h : RB K O H v d) (e : itemsOf d = some ds) : ∃ a xs, v = .ref a ∧ (SqL K H a xs ∨ SqT K H a xs) ∧ Reps K O H xs ds := by
  cases d with
  | tuple ys =>
    cases e
    obtain ⟨a, xs, e, h1, r⟩ := h.tuple
    exact ⟨a, xs, e, .inr (.of h1), r⟩
  | list ys =>
    cases e
    obtain ⟨a, xs, e, h1, r⟩ := h.list
    exact ⟨a, xs, e, .inl h1, r⟩
  | _ => cases e
end

section
variable {X : Cx} {E : Nat → Hp → Prop}
abbrev rSetAny (K : PySem.W.Frag) (P : Program) (w : World) : List V → Hp → VK → Prop := fun xs H Q => rSetOfU K P w xs H Q ∨ rSetOfI K w xs H Q
theorem cr_setAny (hc : X.calm = true) (hu : X.A.units + 64 < cLine) : CallR X (.type "set") (rSetAny X.K X.prog X.w) := by
  intro pins s σ H xs us Q I r h
  rcases h with h | h
  · exact cr_setOfU hc hu pins s σ H xs us Q I r h
  · exact cr_setOfI hc pins s σ H xs us Q I r h
abbrev rSortedAny (K : PySem.W.Frag) (P : Program) (w : World) : List V → Hp → VK → Prop := fun xs H Q => rSortedU K P w xs H Q ∨ rSortedSet w xs H Q
theorem cr_sortedAny (hc : X.calm = true) (hu : X.A.units + 65 < cLine) : CallR X (.builtin "sorted") (rSortedAny X.K X.prog X.w) := by
  intro pins s σ H xs us Q I r h
  rcases h with h | h
  · exact cr_sortedU hc hu pins s σ H xs us Q I r h
  · exact cr_sortedSet hc pins s σ H xs us Q I r h
theorem set_partU {O : Addr → Prop} {H : Hp} {v : V} {d : D} {ds : List D} {ks : List (List Int)} {Q : VK} (dm : Dom O H) (rb : RB X.K O H v d) (ei : itemsOf d = some ds) (er : rowsO ds = some ks) (hz : setRows ks = true)
    (q : ES X.K O true E (.ok (.list ((sortU ks).map fun k => .tuple (k.map .int)))) Q H) : rSetOfU X.K X.prog X.w [v] H (fun x H2 => rSortedAny X.K X.prog X.w [x] H2 Q) := by
  obtain ⟨a, xs, rfl, h1, r1⟩ := RB.items rb ei
  obtain ⟨kp, rfl, rfl, hk⟩ := rows_of _ er r1
  unfold setRows at hz
  simp only [Bool.and_eq_true, Bool.or_eq_true, decide_eq_true_eq, List.length_map] at hz
  refine ⟨a, kp, rfl, h1, fun p hp => .of (hk p hp).1, hz.1, fun b L hb hin hall hlen => ?_⟩
  have hk2 : ∀ p ∈ L, (upd H b (SetTO X.prog X.w b L)) p.1 = some (.tup (p.2.map V.int)) ∧ ¬ O p.1 := fun p hp => by
    obtain ⟨k1, k2⟩ := hk p (hin p hp)
    exact ⟨by rw [upd_ne (ne_of_none k1 hb)]; exact k1, k2⟩
  have hne : (∀ p ∈ L, p.2 ≠ []) ∨ L.length ≤ 1 := by
    rcases hz.2 with hz2 | hz2
    · refine .inl fun p hp z => ?_
      have := List.all_eq_true.mp hz2 p.2 (List.mem_map_of_mem (hin p hp))
      rw [z] at this
      cases this
    · exact .inr (Nat.le_trans hlen hz2)
  refine .inl ⟨b, L, rfl, upd_same, fun p hp => .of (hk2 p hp).1, hne, fun L' p pL pw hp => ?_⟩
  have eL : L'.map (·.2) = sortU (kp.map (·.2)) := ltR_uniq pw (sortU_sorted _) fun z => by
    rw [mem_sortU]
    constructor
    · intro hz
      obtain ⟨x, hx, rfl⟩ := List.mem_map.mp hz
      exact List.mem_map_of_mem (hin x (pL.mem_iff.mp hx))
    · intro hz
      obtain ⟨x, hx, rfl⟩ := List.mem_map.mp hz
      obtain ⟨y, hy, e⟩ := List.mem_map.mp (hall x hx)
      rw [← e]
      exact List.mem_map_of_mem (pL.mem_iff.mpr hy)
  rw [← eL] at q
  have rr := reps_rows (K := X.K) (O := O) fun p hp => hk2 p (pL.mem_iff.mp hp)
  have sm : Same H (upd H b (SetTO X.prog X.w b L)) := same_upd hb
  have hp0 : H p = none := by
    by_cases z : p = b
    · rw [z]; exact hb
    · rw [upd_ne z] at hp; exact hp
  exact q _ _ (sm.trans (same_upd hp)) (new_lst (Dom.same dm sm) hp rr) fun _ _ => ⟨p, rfl, hp0, new_own hp rr⟩
theorem set_partI {O : Addr → Prop} {H : Hp} {v : V} {d : D} {ds : List D} {ns : List Int} {Q : VK} (dm : Dom O H) (rb : RB X.K O H v d) (ei : itemsOf d = some ds) (er : intsOf ds = some ns) (hz : ns.length < 64)
    (q : ES X.K O true E (.ok (.list ((sortUI ns).map .int))) Q H) : rSetOfI X.K X.w [v] H (fun x H2 => rSortedAny X.K X.prog X.w [x] H2 Q) := by
  obtain ⟨a, xs, rfl, h1, r1⟩ := RB.items rb ei
  have e4 := intsOf_eq er
  subst e4
  have e5 := r1.ints
  subst e5
  refine ⟨a, ns, rfl, h1, hz, fun b c hb hc => .inr ⟨b, _, c, rfl, upd_same, by omega, fun ms p hs hm hl hp => ?_⟩⟩
  have eL : ms = sortUI ns := lt_uniq hs (sortUI_sorted _) fun z => by
    rw [hm, mem_sortUI]
    simp
  subst eL
  have sm : Same H (upd H b (SetO X.w b (fun j => decide (j ∈ ns)) c) ) := same_upd hb
  exact q _ _ (sm.trans (same_upd hp)) (new_lst (Dom.same dm sm) hp (Reps.of_ints _)) fun _ _ => ⟨p, rfl, by
    by_cases z : p = b
    · rw [z]; exact hb
    · rw [upd_ne z] at hp; exact hp, new_own hp (Reps.of_ints _)⟩
theorem set_part {O : Addr → Prop} {H : Hp} {vs : List V} {ds : List D} {Q : VK} (dm : Dom O H) (rs : RBs X.K O H vs ds) (q : ES X.K O true E (evalBt .sortedSet ds) Q H) :
    rSetAny X.K X.prog X.w vs H (fun x H2 => rSortedAny X.K X.prog X.w [x] H2 Q) := by
  obtain ⟨v, d, rfl, rb, q⟩ := rBt.one rs q
  obtain ⟨s, e, q⟩ := q.okO
  unfold setD at e
  obtain ⟨ds, e1, e⟩ := Option.bind_eq_some_iff.mp e
  split at e
  · rename_i ks er
    split at e
    · rename_i hz
      cases e
      exact .inl (set_partU dm rb e1 er hz q)
    · cases e
  · obtain ⟨ns, e2, e⟩ := Option.bind_eq_some_iff.mp e
    split at e
    · rename_i hz
      cases e
      exact .inr (set_partI dm rb e1 e2 hz q)
    · cases e
theorem pd_sortedSet {g : Gc} {S : Sc} {T : Nat → Option Fn} {n : Nat} {cls : Nat → Value} {EX : XK} (ok : Cok g S T n cls EX X) {e : Expr} {ir : Ex} {p p2 pos pos2 : Pos} {C : Nat → List D → Res D}
    (hgs : S.sc.names.lookup ("sorted" : Str) = some .globalImplicit) (hgt : S.sc.names.lookup ("set" : Str) = some .globalImplicit) (ns : notStar e = true) (ha : PAb X C E [e] [ir]) :
    PEs X C E (.Call (.Name "sorted" p) [.Call (.Name "set" p2) [e] [] pos2] [] pos) (.bt .sortedSet [ir]) := by
  have hu : X.A.units + 65 < cLine := by have := ok.room.un; omega
  refine pe_imp (pe_callB (cr_sortedAny ok.calm hu) (kind_of ok hgs) (ok.w.blt "sorted" (by decide)) (by decide +kernel) (pa_cons (pe_callTy (cr_setAny ok.calm (by omega)) (kind_of ok hgt) (ok.w.blt "set" (by decide)) (by decide +kernel) ha (by decide) (by decide) (star_of ns _ _) (pl_of (by rfl) _)) pa_nil (star_of rfl _ _)) (by decide) (by decide) (star_of rfl _ _) (pl_of (by rfl) _)) fun σ H Q ⟨O, ρ, so, q⟩ => ⟨O, ρ, so, ?_⟩
  simp only [evalE] at q
  exact (EBs.bindS q).mono fun vs H1 _ ⟨ds, r, s1, q⟩ => set_part (Dom.same so.dom s1) r q
/-- len(set(xs)), ints -/
def tLenSetN (K : PySem.W.Frag) (ta : TE) : TE := fun σ H Q => ta σ H fun x H1 => ∃ (l : Addr) (ns : List Int), x = V.ref l ∧ (SqL K H1 l (ns.map V.int) ∨ SqT K H1 l (ns.map V.int)) ∧ ns.length < 64 ∧ Q (.int (sortUI ns).length) H1
theorem pe_lenSetN {a : Expr} {ta : TE} {p p2 q pos : Pos} (hc : X.calm = true) (hg : Gl X "len") (hm : X.mg "len" = none) (hg2 : Gl X "set") (hm2 : X.mg "set" = none) (ha : PE X a ta)
    (na : starEach [a] X.env = (false, eval a X.env) :: starEach [] X.env) : PE X (.Call (.Name "len" p) [.Call (.Name "set" p2) [a] [] q] [] pos) (tLenSetN X.K ta) := by
  refine ⟨fun pins s σ H Q I h => Call_ (ld_blt I hg hm PySem.boot_len (PyProof.Rows.callWith_builtin1 (PyProof.Rows.args_cons ?_ rfl) rfl rfl))⟩
  refine Call_ (ld_blt I hg2 hm2 PyProof.Rows.boot_set (PyProof.Rows.callWith_type1 (PyProof.Rows.args_cons (thn (ha.run pins s σ H _ I h) fun v s1 ⟨x, H1, I1, r1, q1⟩ => PyProof.Rows.args_nil ?_) na) na rfl))
  obtain ⟨l, ns, rfl, hq, h1, q1⟩ := q1
  cases r1
  have fin : ∀ (h' : Heap) (tk c : Nat), SetR X.w h' s1.heap.objs.size (fun j => decide (j ∈ ns)) c → c ≤ ns.length → (∀ b o, s1.heap.get? b = some o → h'.get? b = some o) →
      wpAny (model X.prog X.w) X.A (spliced (backTo pos (starEach [] X.env))) (fun vs s₂ => wpAny (model X.prog X.w) X.A (call (.builtin "len") (Value.ref s1.heap.objs.size :: vs)) (EP X pins σ Q) X.xe s₂) X.xe { s1 with heap := h', toks := tk } := fun h' tk c R _ hk => by
    obtain ⟨o, es, ep, t, ho, hex, hd, _, nd, mem, _, hf, hn, _, _⟩ := R
    have el : (es.toList.map L2.keyOf).length = (sortUI ns).length := sortUI_len ns _ nd fun k => by rw [← mem k]; simp
    rw [List.length_map, Array.length_toList] at el
    have hle : (sortUI ns).length < 64 := by omega
    have I2 : Inv X pins σ H1 { s1 with heap := h', toks := tk } := I1.kept fun b o e => hk b o e
    exact PyProof.Rows.args_nil (call_len_set ho hex hd hf (by rw [el] <;> omega) ⟨.int (sortUI ns).length, H1, I2.tok _, ⟨_, by rw [el]⟩, q1⟩)
  rcases hq with hq | hq
  · obtain ⟨its, r, pl, hz⟩ := I1.list hq
    exact call_set_lstI (P := X.prog) (w := X.w) ns (I1.ok.hd hc) pl.isList (by simpa using ints_of_vals r) (by unfold scanBound; omega) fin
  · obtain ⟨its, r, pl, hz⟩ := I1.tuple hq
    exact call_set_tupI (P := X.prog) (w := X.w) ns (I1.ok.hd hc) pl (by simpa using ints_of_vals r) (by unfold scanBound; omega) fin
theorem pd_lenSet {g : Gc} {S : Sc} {T : Nat → Option Fn} {n : Nat} {cls : Nat → Value} {EX : XK} (ok : Cok g S T n cls EX X) {e : Expr} {ir : Ex} {p p2 pos pos2 : Pos} {C : Nat → List D → Res D}
    (hgs : S.sc.names.lookup ("len" : Str) = some .globalImplicit) (hgt : S.sc.names.lookup ("set" : Str) = some .globalImplicit) (ns : notStar e = true) (ha : PEb X C E e ir) :
    PEs X C E (.Call (.Name "len" p) [.Call (.Name "set" p2) [e] [] pos2] [] pos) (.bt .lenSet [ir]) := by
  refine pe_imp (pe_lenSetN ok.calm (kind_of ok hgs) (ok.w.blt "len" (by decide)) (kind_of ok hgt) (ok.w.blt "set" (by decide)) ha (star_of ns _ _)) fun σ H Q ⟨O, ρ, so, q⟩ => ⟨O, ρ, so, ?_⟩
  simp only [evalE, evalEs] at q
  rw [bind_assoc] at q
  refine (EB.bindS q).mono fun v H1 _ ⟨d, r, s1, q⟩ => ?_
  rw [Res.bind_ok, Res.bind_ok] at q
  have q : ES X.K O (freshE (Ex.bt Bt.lenSet [ir])) E (lenSetD d) Q H1 := q
  obtain ⟨ns, e, _⟩ := ES.okO (show ES X.K O (freshE (Ex.bt Bt.lenSet [ir])) E (okO _ _) Q H1 from q)
  obtain ⟨ms, e1, e2⟩ := Option.bind_eq_some_iff.mp e
  split at e2
  · rename_i hz
    cases e2
    obtain ⟨ds, e3, e4⟩ := Option.bind_eq_some_iff.mp e1
    obtain ⟨a, xs, rfl, h1, r1⟩ := RB.items r e3
    have e5 := intsOf_eq e4
    subst e5
    have e6 := r1.ints
    subst e6
    have q' : ES X.K O (freshE (Ex.bt Bt.lenSet [ir])) E (.ok (.int (sortUI ns).length)) Q H1 := by
      have e7 : lenSetD d = .ok (.int (sortUI ns).length) := by
        unfold lenSetD
        rw [e]
        rfl
      rw [← e7]
      exact q
    exact ⟨a, _, rfl, h1, hz, q'.int⟩
  · cases e2
end
end BPset
/-! sorted of a list of (nested) tuples. -/
namespace BPset
open PySem PySem.Spec PyProof.Rows L2 PySem.W BP
theorem leD_eq : leD = dataLe false id := rfl
section
variable {X : Cx} {E : Nat → Hp → Prop}
theorem each_zip {R : Value → V × D → Prop} : ∀ {vs : List V} {ds : List D} {its : List Value}, Vals vs its → vs.length = ds.length → (∀ v u d, RelV v u → (v, d) ∈ vs.zip ds → R u (v, d)) → EachIs R its (vs.zip ds)
  | [], ds, _, .nil, _, _ => by simp only [List.zip_nil_left]; exact .nil
  | v :: vs, [], _, _, h, _ => by simp at h
  | v :: vs, d :: ds, _, .cons h hs, hl, f => .cons (f _ _ _ h List.mem_cons_self) (each_zip hs (by simpa using hl) fun a b c r m => f a b c r (List.mem_cons_of_mem _ m))
theorem vals_each : ∀ {out : List Value} {L : List (V × D)}, EachIs (fun u p => RelV p.1 u) out L → Vals (L.map (·.1)) out
  | _, _, .nil => .nil
  | _, _, .cons h hs => .cons h (vals_each hs)
theorem zip_fst' : ∀ {vs : List V} {ds : List D}, vs.length = ds.length → (vs.zip ds).map (·.1) = vs
  | [], _, _ => by simp
  | v :: vs, [], h => by simp at h
  | v :: vs, d :: ds, h => by simp only [List.zip_cons_cons, List.map_cons, zip_fst' (by simpa using h : vs.length = ds.length)]
theorem zip_snd' : ∀ {vs : List V} {ds : List D}, vs.length = ds.length → (vs.zip ds).map (·.2) = ds
  | [], [], _ => rfl
  | [], d :: ds, h => by simp at h
  | v :: vs, [], h => by simp at h
  | v :: vs, d :: ds, h => by simp only [List.zip_cons_cons, List.map_cons, zip_snd' (by simpa using h : vs.length = ds.length)]
theorem reps_mem {K : PySem.W.Frag} {O : Addr → Prop} {H : Hp} : ∀ {vs : List V} {ds : List D}, Reps K O H vs ds → ∀ p ∈ vs.zip ds, Rep K O H p.1 p.2
  | _, _, .nil, p, h => by simp at h
  | _, _, .cons h hs, p, hm => by
    rcases List.mem_cons.mp hm with rfl | hm
    · exact h
    · exact reps_mem hs p hm
theorem reps_of {K : PySem.W.Frag} {O : Addr → Prop} {H : Hp} : ∀ {L : List (V × D)}, (∀ p ∈ L, Rep K O H p.1 p.2) → Reps K O H (L.map (·.1)) (L.map (·.2))
  | [], _ => .nil
  | p :: L, h => .cons (h p List.mem_cons_self) (reps_of fun q hq => h q (List.mem_cons_of_mem _ hq))
/-- the data may be sorted -/
structure CanSort (ds : List D) : Prop where
  al : AllAlike ds
  so : Sortable ds
  lay : ∀ d ∈ ds, d.canLay0 = true
  dep : ∀ d ∈ ds, d.depth ≤ 50
def rSortG (K : PySem.W.Frag) (E : Nat → Hp → Prop) : List V → Hp → VK → Prop := fun xs H Q => ∃ O p vs ds, Dom O H ∧ xs = [V.ref p] ∧ SqL K H p vs ∧ Reps K O H vs ds ∧ CanSort ds ∧ ES K O true E (.ok (.list (ds.mergeSort leD))) Q H
theorem cr_sortG (hu : X.A.units + 60 < cLine) : CallR X (.builtin "sorted") (rSortG X.K E) := by
  intro pins s σ H xs us Q I r h
  obtain ⟨O, p, vs, ds, dm, rfl, h1, r1, cs, q⟩ := h
  rw [Vals.ref1 r]
  obtain ⟨its, rv, pl, hz⟩ := I.list h1
  have hl : vs.length = ds.length := r1.length
  have hsnd : (vs.zip ds).map (·.2) = ds := zip_snd' hl
  have hlen : (vs.zip ds).length = vs.length := by rw [List.length_zip]; omega
  have mem2 : ∀ b ∈ vs.zip ds, b.2 ∈ ds := fun b hb => by rw [← hsnd]; exact List.mem_map_of_mem hb
  refine sorted_data (vs := its) (bs := vs.zip ds) (enc := fun b => b.2) (R := fun u b => RelV b.1 u) pl.isList (each_zip rv hl fun v u d r _ => r)
    (each_zip rv hl fun v u d r m => Dp.reads I d v u ((reps_mem r1 _ m).dp (cs.lay d (mem2 _ m))) r) (by rw [hsnd]; exact cs.al) (by rw [hsnd]; exact cs.so) (by rw [hlen]; exact hz) (fun b hb => ?_) fun out ho he => ?_
  · have := cs.dep b.2 (mem2 b hb)
    omega
  · have pm : ((vs.zip ds).mergeSort (dataLe false fun b : V × D => b.2)).Perm (vs.zip ds) := List.mergeSort_perm _ _
    have rr := reps_of (L := (vs.zip ds).mergeSort (dataLe false fun b : V × D => b.2)) fun b hb => reps_mem r1 b (pm.mem_iff.mp hb)
    have es : ((vs.zip ds).mergeSort (dataLe false fun b : V × D => b.2)).map (·.2) = ds.mergeSort leD := by
      have e0 : (dataLe false fun b : V × D => b.2) = fun a b => leD a.2 b.2 := rfl
      rw [e0]
      have := List.map_mergeSort (f := fun b : V × D => b.2) (r := fun a b : V × D => leD a.2 b.2) (s := leD) (l := vs.zip ds) (fun a _ b _ => rfl)
      rw [this, hsnd]
    rw [es] at rr
    obtain ⟨ep, hg⟩ := sortedAll_at s.heap its (List.toArray out)
    have hn : H (s.heap.objs.size + 1) = none := I.hok.fresh (Nat.le_succ _)
    have hvl : (((vs.zip ds).mergeSort (dataLe false fun b : V × D => b.2)).map (·.1)).length ≤ sizeLine := by
      rw [List.length_map, pm.length_eq, hlen]; exact hz
    exact ⟨.ref (s.heap.objs.size + 1), upd H (s.heap.objs.size + 1) (.lst (((vs.zip ds).mergeSort (dataLe false fun b : V × D => b.2)).map (·.1))), I.laid (t' := s.toks) (fun b o e => sortedAll_old e) (Nat.le_succ _) ⟨hvl, out, ep, vals_each he, hg⟩, rfl, q.newLst dm rr _ hn⟩
theorem CanSort.al' {ds : List D} (cs : CanSort ds) : AlikeAll ds := ⟨fun x hx y hy => cs.al x hx y hy, fun x hx z => by
  rcases cs.so with h | h
  · obtain ⟨a, r, e⟩ := h x hx
    rw [z] at e; cases e
  · exact (h x hx).1 z⟩
theorem canSort_of {ds : List D} (h : canSortB ds = true) : CanSort ds := by
  unfold canSortB at h
  simp only [Bool.and_eq_true, List.all_eq_true, decide_eq_true_eq] at h
  obtain ⟨⟨h1, h2⟩, h3⟩ := h
  refine ⟨fun a ha b hb => h2 a ha b hb, .inl fun d hd => ?_, fun d hd => (h3 d hd).1, fun d hd => (h3 d hd).2⟩
  have := h1 d hd
  unfold isNE at this
  split at this
  · exact ⟨_, _, rfl⟩
  · cases this
theorem sorted_few {P : Program} {w : World} {A : Around} {E : Value → Shared → Prop} {s : Shared} {l : Addr} {vs : List Value} {Q : Value → Shared → Prop} (hl : s.heap.IsList l vs.toArray) (h1 : vs.length ≤ 1)
    (h : Q (.ref (s.heap.objs.size + 1)) { s with heap := sortedAll s.heap vs vs.toArray }) : wpAny (model P w) A (call (.builtin "sorted") [.ref l]) Q E s := by
  refine Calls.call_function_entry kind_sorted plain_sorted entry_sorted (args_sorted1 _) ?_
  unfold Builtin.«sorted»
  refine wpAny_bind (m := checkCount "sorted" 1 1 _) (wpAny_pure (wpAny_bind (collect_list hl ?_ (by rw [sizeLine_eq]; omega))))
  refine wpAny_bind (wpAny_newList ?_ (by rw [sizeLine_eq]; omega))
  have hz : ((s.heap.push (seqObj "list" #[] 0)).update s.heap.objs.size (Obj.mapSeq (· ++ vs.toArray))).objs.size = s.heap.objs.size + 1 := by rw [Heap.size_update, size_push']
  have hL : (((s.heap.push (seqObj "list" #[] 0)).update s.heap.objs.size (Obj.mapSeq (· ++ vs.toArray))).push (seqObj "list" vs.toArray 0)).get? (s.heap.objs.size + 1) = some (seqObj "list" vs.toArray 0) := by rw [← hz]; exact Heap.get?_push_size _ rfl
  show wpAny _ _ _ _ _ { s with heap := ((s.heap.push (seqObj "list" #[] 0)).update s.heap.objs.size (Obj.mapSeq (· ++ vs.toArray))).push (seqObj "list" vs.toArray 0) }
  rw [hz]
  refine wpAny_bind (wpAny_holding (wpAny_call_entry slot_list_sort ⟨_, hL, rfl⟩ entry_list_sort (Srt.list_sort_any hL (by rw [sizeLine_eq]; omega) (fun h2 => absurd h2 (by omega)) fun out po => ⟨_, rfl, ?_⟩) (args_list_sort _)))
  have eo : out = vs := by
    match vs, h1, po with
    | [], _, po => exact List.perm_nil.mp po
    | [x], _, po => exact List.perm_singleton.mp po
    | _ :: _ :: _, h1, _ => simp at h1
  subst eo
  exact wpAny_pure ⟨_, rfl, h⟩
def rSortF (K : PySem.W.Frag) (E : Nat → Hp → Prop) : List V → Hp → VK → Prop := fun xs H Q => ∃ O p vs ds, Dom O H ∧ xs = [V.ref p] ∧ SqL K H p vs ∧ Reps K O H vs ds ∧ ds.length ≤ 1 ∧ ES K O true E (.ok (.list ds)) Q H
theorem cr_sortF : CallR X (.builtin "sorted") (rSortF X.K E) := by
  intro pins s σ H xs us Q I r h
  obtain ⟨O, p, vs, ds, dm, rfl, h1, r1, hf, q⟩ := h
  rw [Vals.ref1 r]
  obtain ⟨its, rv, pl, hz⟩ := I.list h1
  have hl := r1.length
  have hil := rv.length
  refine sorted_few pl.isList (by omega) ?_
  obtain ⟨ep, hg⟩ := sortedAll_at s.heap its its.toArray
  have hn : H (s.heap.objs.size + 1) = none := I.hok.fresh (Nat.le_succ _)
  exact ⟨.ref (s.heap.objs.size + 1), upd H (s.heap.objs.size + 1) (.lst vs), I.laid (t' := s.toks) (fun b o e => sortedAll_old e) (Nat.le_succ _) ⟨hz, its, ep, rv, hg⟩, rfl, q.newLst dm r1 _ hn⟩
theorem cr_sortedD (hu : X.A.units + 60 < cLine) : CallR X (.builtin "sorted") (rBt X.K true E .sorted) := by
  intro pins s σ H xs us Q I r h
  obtain ⟨O, ds, dm, rs, q⟩ := h
  obtain ⟨v, d, rfl, rb, q⟩ := rBt.one rs q
  unfold sortedD at q
  cases e : (itemsOf d).bind intsOf with
  | some ns =>
    rw [e] at q
    refine cr_sortedI (E := E) pins s σ H _ us Q I r ⟨O, [d], dm, .cons rb .nil, ?_⟩
    show ES X.K O true E (okO ((itemsOf d).bind intsOf) fun ns => .list ((BP.sortI ns).map .int)) Q H
    rw [e]
    exact q
  | none =>
    rw [e] at q
    cases d with
    | list ds =>
      simp only at q
      split at q
      · rename_i hz
        obtain ⟨p, vs, rfl, h1, r1⟩ := rb.list
        exact cr_sortG hu pins s σ H _ us Q I r ⟨O, p, vs, ds, dm, rfl, h1, r1, canSort_of hz, q⟩
      · split at q
        · rename_i hz
          obtain ⟨p, vs, rfl, h1, r1⟩ := rb.list
          exact cr_sortF pins s σ H _ us Q I r ⟨O, p, vs, ds, dm, rfl, h1, r1, hz, q⟩
        · exact q.elim
    | _ => exact q.elim
theorem vals_at : ∀ {xs : List V} {its : List Value} {i : Nat} {v : Value}, Vals xs its → its[i]? = some v → ∃ x, xs[i]? = some x ∧ RelV x v
  | _, _, _, _, .nil, e => by simp at e
  | _, _, 0, _, .cons h _, e => by simp at e; subst e; exact ⟨_, rfl, h⟩
  | _, _, i + 1, _, .cons _ hs, e => by
    obtain ⟨x, h1, h2⟩ := vals_at (i := i) hs (by simpa using e)
    exact ⟨x, by simpa using h1, h2⟩
theorem layAll_of : ∀ {ds : List D}, (∀ d ∈ ds, d.canLay0 = true) → PyData.canLayAll0 ds = true
  | [], _ => by simp [PyData.canLayAll0]
  | d :: ds, h => by
    simp only [PyData.canLayAll0, Bool.and_eq_true]
    exact ⟨h d List.mem_cons_self, layAll_of fun x hx => h x (List.mem_cons_of_mem _ hx)⟩
theorem depAll_of {k : Nat} : ∀ {ds : List D}, (∀ d ∈ ds, d.depth ≤ k) → PyData.depthAll ds ≤ k
  | [], _ => by simp [PyData.depthAll]
  | d :: ds, h => by
    have h1 := h d List.mem_cons_self
    have h2 := depAll_of (k := k) fun x hx => h x (List.mem_cons_of_mem _ hx)
    simp only [PyData.depthAll]
    omega
theorem fold_mem {f : D → D → D} (hf : ∀ a b, f a b = a ∨ f a b = b) : ∀ (xs : List D) (x : D), xs.foldl f x ∈ x :: xs
  | [], x => by simp
  | y :: ys, x => by
    rw [List.foldl_cons]
    have := fold_mem hf ys (f x y)
    rcases List.mem_cons.mp this with h | h
    · rw [h]
      rcases hf x y with e | e <;> rw [e] <;> simp
    · exact List.mem_cons_of_mem _ (List.mem_cons_of_mem _ h)
theorem pick_rep {K : PySem.W.Frag} {O : Addr → Prop} {H : Hp} {pins : List (Addr × Obj)} {σ : L2.St} {s : Shared} {vs : List V} {ds : List D} {its : List Value} {i : Nat} {v : Value} {m : D} {bs : List Addr} {h' : Heap} (I : Inv X pins σ H s) (r1 : Reps X.K O H vs ds) (cs : CanSort ds) (rv : Vals vs its) (e : its[i]? = some v) (hm : m ∈ ds) (rd : Reads h' v m bs)
    (k : ∀ b o, s.heap.get? b = some o → h'.get? b = some o) : ∃ x, RelV x v ∧ Rep X.K O H x m := by
  obtain ⟨x, ex, rx⟩ := vals_at rv e
  obtain ⟨d, ed, rp⟩ := r1.get' ex
  have hd : d ∈ ds := List.mem_of_getElem? ed
  obtain ⟨as, ra⟩ := Dp.reads I d x v (rp.dp (cs.lay d hd)) rx
  have ed : d = m := alike_unique d m v as bs (cs.al d hd m hm) (Reads.keeps k ra) rd
  exact ⟨x, rx, ed ▸ rp⟩
theorem cr_max1D (hc : X.calm = true) (hu : X.A.units + 60 < cLine) : CallR X (.builtin "max") (rBt X.K false E .max1) := by
  intro pins s σ H xs us Q I r h
  obtain ⟨O, ds, dm, rs, q⟩ := h
  obtain ⟨v, d, rfl, rb, q⟩ := rBt.one rs q
  unfold maxLD at q
  cases e : (listOf d).bind intsOf with
  | some ns =>
    rw [e] at q
    exact cr_max1I (E := E) hc pins s σ H _ us Q I r ⟨O, [d], dm, .cons rb .nil, q⟩
  | none =>
    rw [e] at q
    cases d with
    | list ds =>
      cases ds with
      | nil => exact q.elim
      | cons y ys =>
        simp only at q
        split at q
        · rename_i hz
          have cs := canSort_of hz
          obtain ⟨p, vs, rfl, h1, r1⟩ := rb.list
          rw [Vals.ref1 r]
          obtain ⟨its, rv, pl, _⟩ := I.list h1
          obtain ⟨as, ra⟩ := Dp.readsAll I (y :: ys) vs its (r1.dp (layAll_of cs.lay)) rv
          have hdep := depAll_of (k := 50) cs.dep
          refine max_list_data (I.ok.hd hc) pl.isList (by simpa using ra) cs.al' (by omega) fun i v h' tk bs hv hr k => ?_
          obtain ⟨x, rx, rp⟩ := pick_rep (K := X.K) I r1 cs rv (by simpa using hv) (fold_mem (fun a b => by by_cases z : PySem.W.dataLt a b = true <;> simp [z]) ys y) hr k
          exact ⟨x, H, I.kept (t' := tk) k, rx, q.rep rp fun z => nomatch z⟩
        · exact q.elim
    | _ => exact q.elim
theorem cr_min1D (hc : X.calm = true) (hu : X.A.units + 60 < cLine) : CallR X (.builtin "min") (rBt X.K false E .min1) := by
  intro pins s σ H xs us Q I r h
  obtain ⟨O, ds, dm, rs, q⟩ := h
  obtain ⟨v, d, rfl, rb, q⟩ := rBt.one rs q
  unfold minLD at q
  cases e : (listOf d).bind intsOf with
  | some ns =>
    rw [e] at q
    exact cr_min1I (E := E) hc pins s σ H _ us Q I r ⟨O, [d], dm, .cons rb .nil, q⟩
  | none =>
    rw [e] at q
    cases d with
    | list ds =>
      cases ds with
      | nil => exact q.elim
      | cons y ys =>
        simp only at q
        split at q
        · rename_i hz
          have cs := canSort_of hz
          obtain ⟨p, vs, rfl, h1, r1⟩ := rb.list
          rw [Vals.ref1 r]
          obtain ⟨its, rv, pl, _⟩ := I.list h1
          obtain ⟨as, ra⟩ := Dp.readsAll I (y :: ys) vs its (r1.dp (layAll_of cs.lay)) rv
          have hdep := depAll_of (k := 50) cs.dep
          refine min_list_data (I.ok.hd hc) pl.isList (by simpa using ra) cs.al' (by omega) fun i v h' tk bs hv hr k => ?_
          obtain ⟨x, rx, rp⟩ := pick_rep (K := X.K) I r1 cs rv (by simpa using hv) (fold_mem (fun a b => by by_cases z : PySem.W.dataLt b a = true <;> simp [z]) ys y) hr k
          exact ⟨x, H, I.kept (t' := tk) k, rx, q.rep rp fun z => nomatch z⟩
        · exact q.elim
    | _ => exact q.elim
end
end BPset
/-! dict(d), d.get(k, x), xs.count(k). -/
namespace PySem
section
variable {prog : Program} {w : World} {K : Type} [DecidableEq K] {knd : HeapKind prog w K} {A : Around} {E : Value → Shared → Prop} {s : Shared}
/-- dict(d), the keys objects of unlike hashes -/
theorem call_dictH {o : Addr} {more : List (K × Addr × Value)} {Q : Value → Shared → Prop} (hu : knd.room A.in1.in1) (hoS : (o == sysModules) = false) (ho : s.heap.DictOfH knd o more) (hsz : more.length ≤ sizeLine)
    (hty : ∀ x ∈ more, s.TypeIs (.ref x.2.1) "tuple") (hap : (more.map fun x => knd.hash x.1).Nodup) (hpush : (s.heap.push { cls := .type "dict", data := .dict #[] }).DictOfH knd o more)
    (h : ∀ h', h'.DictOfH knd s.heap.objs.size more → Heap.SameBut s.heap.objs.size (s.heap.push { cls := .type "dict", data := .dict #[] }) h' → Q (.ref s.heap.objs.size) { s with heap := h' }) :
    wpAny (model prog w) A (call (.type "dict") [.ref o]) Q E s := by
  refine callType_codes (Q₁ := fun obj s₁ => obj = .ref s.heap.objs.size ∧ s₁ = { s with heap := s.heap.push { cls := .type "dict", data := .dict #[] } }) F.kt_called_dict (F.kt_typeCall_dict_1 _) F.entry_dict_init (kt_code_dict_new _ ⟨rfl, rfl⟩) ?_
  rintro obj s₁ ⟨rfl, rfl⟩
  have hnew : (s.heap.push { cls := .type "dict", data := .dict #[] }).DictOfH knd s.heap.objs.size [] := Heap.DictOfH.new s.heap
  have hdo : s.heap.objs.size ≠ o := by
    obtain ⟨_, _, _, hg, _⟩ := ho
    exact fun e => absurd (Heap.lt_size hg) (by rw [e]; exact Nat.lt_irrefl _)
  refine ⟨hnew.typeIs, F.args_dict_init_2 _ _, ?_⟩
  unfold Builtin.«dict.__init__»
  refine wpAny_bind ?_
  unfold Builtin.Dict.selfAndRest
  refine wpAny_bind (wpAny_notOrdered_dict hnew.typeIs (show wpAny _ _ (pure (s.heap.objs.size, [Value.ref o])) _ _ _ from wpAny_pure ?_))
  show wpAny _ _ (Builtin.Dict.updateFrom "dict.__init__" s.heap.objs.size (.ref o) [] .none) _ _ _
  refine updateFrom_dictH (A := A.in1) .none hu hdo hoS hnew hpush (.inr ⟨fun x hx => ?_, hap⟩) (by simpa using hsz) fun h' hd' _ hs' => ?_
  · obtain ⟨ob, e, c⟩ := hty x hx
    exact ⟨ob, Heap.get?_push_of_some _ e, c⟩
  · rw [storedAllH_nil_of_nodup more ho.nodup] at hd'
    exact ⟨rfl, h h' hd' hs'⟩
end
end PySem
namespace BP
open PySem PySem.Spec PyProof.Rows L2
/-! the hashes of small pairs -/
def hP (n : Nat) : Int := reduceHash (Builtin.Tuple.tupleHashOf [hashInt ((n / 8 : Nat) : Int), hashInt ((n % 8 : Nat) : Int)])
def hPs : List Int := [(-8458139203682520985), (-1950498447580522560), 7204814214171964562, (-4734289103435588629), 1773351652666409796, (-3119722376306286570), (-1010439003188656273), (-5903513032161352639), (-5164621852614943976), 8389048192121911274, (-3550055125485641917), (-1440771752368011620), (-6333845781340707986), 173794974761290439, (-4719279054211405927), (-2609995681093775630), 4685526799349444076, 6794810172467074373, 1901736143494378007, 8409376899596376432, 3516302870623680066, (-8422800446983873125), (-6313517073866242828), 7240152970870612422, 2248468952609198383, 8756109708711196808, 3863035679738500442, 5972319052856130739, 1079245023883434373, 7586885779985432798, (-4352217537622120393), 4803095124130366729, (-6348126469135965181), 159514286966033244, (-9131917124991031250), (-2624276368889032825), 3883364387212965600, (-1009709641759730766), 1099573731357899531, (-3793500297614796835), (-3054609118068388172), 3453031638033610253, (-5838399773923454241), 669240982178544184, (-4223833046794152182), 2283807709307846243, (-7007623702649218251), (-499982946547219826), (-5491666964808633865), 8062003079928221385, (-3877100237679331806), 2630540518422666619, (-6660890893534397875), (-153250137432399450), (-5046324166405095816), 1461316589696902609, 4358481687155754187, (-7580621630451799004), 5973048414285056246, 8082331787402686543, 3189257758429990177, (-8749845559177563014), (-2242204803075564589), 6913107858676922533]
theorem hP_lits : (List.range 64).map hP = hPs := by decide +kernel
theorem hPs_nodup : hPs.Nodup := by decide +kernel
theorem hP_inj {m n : Nat} (hm : m < 64) (hn : n < 64) (e : hP m = hP n) : m = n := by
  have nd : ((List.range 64).map hP).Nodup := by rw [hP_lits]; exact hPs_nodup
  have e1 : ((List.range 64).map hP)[m]'(by simpa using hm) = ((List.range 64).map hP)[n]'(by simpa using hn) := by simpa using e
  have pw := List.pairwise_iff_getElem.mp nd
  rcases Nat.lt_trichotomy m n with h | h | h
  · exact absurd e1 (pw m n (by simpa using hm) (by simpa using hn) h)
  · exact h
  · exact absurd e1.symm (pw n m (by simpa using hn) (by simpa using hm) h)
theorem hP_at {a b : Int} (ha : 0 ≤ a ∧ a < 8) (hb : 0 ≤ b ∧ b < 8) : reduceHash (Builtin.Tuple.tupleHashOf [hashInt a, hashInt b]) = hP (a * 8 + b).toNat := by
  unfold hP
  have e1 : (((a * 8 + b).toNat / 8 : Nat) : Int) = a := by omega
  have e2 : (((a * 8 + b).toNat % 8 : Nat) : Int) = b := by omega
  rw [e1, e2]
theorem pair_hash {a b c d : Int} (ha : 0 ≤ a ∧ a < 8) (hb : 0 ≤ b ∧ b < 8) (hc : 0 ≤ c ∧ c < 8) (hd : 0 ≤ d ∧ d < 8) (e : reduceHash (Builtin.Tuple.tupleHashOf [hashInt a, hashInt b]) = reduceHash (Builtin.Tuple.tupleHashOf [hashInt c, hashInt d])) : a = c ∧ b = d := by
  rw [hP_at ha hb, hP_at hc hd] at e
  have := hP_inj (by omega) (by omega) e
  omega
theorem intsOf_map' : ∀ ns : List Int, intsOf (ns.map PyData.int) = some ns
  | [] => rfl
  | n :: ns => by rw [List.map_cons, intsOf, intsOf_map' ns]; rfl
theorem smallK_eq {d : D} (h : smallK d = true) : ∃ a b : Int, d = .tuple ([a, b].map PyData.int) ∧ (0 ≤ a ∧ a < 8) ∧ (0 ≤ b ∧ b < 8) := by
  unfold smallK at h
  split at h
  · rename_i a b e
    simp only [Bool.and_eq_true, decide_eq_true_eq] at h
    refine ⟨a, b, ?_, h.1, h.2⟩
    cases d with
    | tuple xs =>
      have e : intsOf xs = some [a, b] := e
      rw [intsOf_eq e]
    | _ => cases e
  · cases h
section
variable {K : PySem.W.Frag} {O : Addr → Prop} {H : Hp}
theorem RepK.small : ∀ {kvs : List (List Key × V)} {ps : List (D × D)}, RepK K O H kvs ps → (ps.all fun p => smallK p.1) = true → ∀ kv ∈ kvs, ∃ a b : Int, kv.1 = [a, b].map Sum.inl ∧ (0 ≤ a ∧ a < 8) ∧ (0 ≤ b ∧ b < 8)
  | _, _, .nil, _, kv, h => by cases h
  | _, _, .cons (ns := ns) h hs, z, kv, hm => by
    rw [List.all_cons, Bool.and_eq_true] at z
    rcases List.mem_cons.mp hm with rfl | hm
    · obtain ⟨a, b, e, h1, h2⟩ := smallK_eq z.1
      refine ⟨a, b, ?_, h1, h2⟩
      have e : (PyData.tuple (ns.map PyData.int)) = .tuple ([a, b].map PyData.int) := e
      injection e with e
      have : ns = [a, b] := by
        have e2 := congrArg intsOf e
        rw [intsOf_map', intsOf_map'] at e2
        exact Option.some.inj e2
      rw [this]
    · exact RepK.small hs z.2 kv hm
theorem RepK.keys : ∀ {kvs : List (List Key × V)} {ps : List (D × D)}, RepK K O H kvs ps → ∀ p ∈ ps, keyI p.1 = false
  | _, _, .nil, p, h => by cases h
  | _, _, .cons h hs, p, hm => by
    rcases List.mem_cons.mp hm with rfl | hm
    · rfl
    · exact RepK.keys hs p hm
theorem RepI.small {kvs : List (Key × V)} {ps : List (D × D)} (r : RepI K O H kvs ps) (hn : ps ≠ []) (h : (ps.all fun p => smallK p.1) = true) : False := by
  cases r with
  | nil => exact hn rfl
  | cons h1 hs =>
    rw [List.all_cons, Bool.and_eq_true] at h
    exact Bool.noConfusion (show false = true from h.1)
theorem kt_keys {kvs : List (List Key × V)} {xs : List (List Key × Addr × Value)} (r : KT H kvs xs) : kvs.map (·.1) = xs.map (·.1) ∧ ∀ x ∈ xs, ∃ kv ∈ kvs, kv.1 = x.1 := by
  induction r with
  | nil => exact ⟨rfl, fun x h => nomatch h⟩
  | cons h t ih =>
    refine ⟨by rw [List.map_cons, List.map_cons, ih.1, h.1], fun x hx => ?_⟩
    rcases List.mem_cons.mp hx with rfl | hx
    · exact ⟨_, List.mem_cons_self, h.1⟩
    · obtain ⟨kv, a, b⟩ := ih.2 x hx
      exact ⟨kv, List.mem_cons_of_mem _ a, b⟩
theorem nodup_on {α β : Type} {f : α → β} : ∀ {l : List α}, l.Nodup → (∀ x ∈ l, ∀ y ∈ l, f x = f y → x = y) → (l.map f).Nodup
  | [], _, _ => List.nodup_nil
  | x :: l, h, g => by
    have h' := List.nodup_cons.mp h
    rw [List.map_cons]
    refine List.nodup_cons.mpr ⟨fun z => ?_, nodup_on h'.2 fun a ha b hb => g a (List.mem_cons_of_mem _ ha) b (List.mem_cons_of_mem _ hb)⟩
    obtain ⟨y, hy, e⟩ := List.mem_map.mp z
    have := g x List.mem_cons_self y (List.mem_cons_of_mem _ hy) e.symm
    subst this
    exact h'.1 hy
end
section
variable {X : Cx} {E : Nat → Hp → Prop}
theorem cr_dictD (hu : X.A.units + 60 < cLine) : CallR X (.type "dict") (rBt X.K true E .dict) := by
  intro pins s σ H xs us Q I r h
  obtain ⟨O, ds, dm, rs, q⟩ := h
  obtain ⟨v, d, rfl, rb, q⟩ := rBt.one rs q
  cases d with
  | dict ps =>
    simp only [dictD] at q
    split at q
    · rename_i hz
      obtain ⟨a, rfl, hd⟩ := rb.dict
      rw [Vals.ref1 r]
      cases hd with
      | k h1 r1 hn => exact (r1.small hn hz).elim
      | t h1 r1 =>
        rename_i kvs0
        obtain ⟨z, lo, ys, rel, dd⟩ := dt_of I.hok h1
        obtain ⟨ek, mk⟩ := kt_keys rel
        have sk := r1.small hz
        have nd := dd.nodup
        have hh : (ys.map fun x => (tupleKind (mixKind X.prog X.w)).hash x.1).Nodup := by
          have e : (ys.map fun x => (tupleKind (mixKind X.prog X.w)).hash x.1) = (ys.map (·.1)).map (tupleKind (mixKind X.prog X.w)).hash := by rw [List.map_map]; rfl
          rw [e]
          refine nodup_on nd fun x hx y hy e => ?_
          obtain ⟨x', hx', rfl⟩ := List.mem_map.mp hx
          obtain ⟨y', hy', rfl⟩ := List.mem_map.mp hy
          obtain ⟨kx, kx1, kx2⟩ := mk x' hx'
          obtain ⟨ky, ky1, ky2⟩ := mk y' hy'
          obtain ⟨a1, b1, e1, ha1, hb1⟩ := sk kx kx1
          obtain ⟨a2, b2, e2, ha2, hb2⟩ := sk ky ky1
          rw [← kx2, ← ky2, e1, e2] at e ⊢
          have e : reduceHash (Builtin.Tuple.tupleHashOf [hashInt a1, hashInt b1]) = reduceHash (Builtin.Tuple.tupleHashOf [hashInt a2, hashInt b2]) := e
          obtain ⟨rfl, rfl⟩ := pair_hash ha1 hb1 ha2 hb2 e
          rfl
        have hN : H s.heap.objs.size = none := I.hok.fresh (Nat.le_refl _)
        have nm : (s.heap.objs.size == sysModules) = false := beq_eq_false_iff_ne.mpr (Nat.ne_of_gt I.big)
        have ty : ∀ x ∈ ys, s.TypeIs (.ref x.2.1) "tuple" := fun x hx => by
          obtain ⟨o, es, ep, ho, _, _, _, his, _⟩ := dd
          obtain ⟨ob, its, n, e, c, _⟩ := his x hx
          exact ⟨ob, e, c⟩
        have dpush : (s.heap.push { cls := .type "dict", data := .dict #[] }).DictOfH (tupleKind (mixKind X.prog X.w)) a ys := by
          obtain ⟨o, es, ep, ho, hx, hd, he, his, hn⟩ := dd
          refine ⟨o, es, ep, Heap.get?_push_of_some _ ho, hx, hd, he, fun x hx => ?_, hn⟩
          obtain ⟨ob, its, n, e, c⟩ := his x hx
          exact ⟨ob, its, n, Heap.get?_push_of_some _ e, c⟩
        refine call_dictH (knd := tupleKind (mixKind X.prog X.w)) (show X.A.units + 1 + 1 < cLine by omega) lo dd (by rw [← rel.length]; exact z) ty hh dpush fun h' dd' hs => ?_
        have kp : ∀ b u, s.heap.get? b = some u → h'.get? b = some u := fun b u e => (hs.2 b (Nat.ne_of_lt (Heap.lt_size e))).trans (Heap.get?_push_of_some _ e)
        obtain ⟨o, es, ep, ho, hx, hdat, he, his, hn⟩ := dd'
        have sm : Same H (upd H s.heap.objs.size (.dT kvs0)) := same_upd hN
        refine ⟨.ref s.heap.objs.size, upd H s.heap.objs.size (.dT kvs0), I.laid (t' := s.toks) kp (Nat.le_refl _) (show ObjOk X.prog X.w _ _ _ (.dT kvs0) from ⟨z, nm, ys, KT.keeps rel fun b zs e => sm _ _ e, o, es, ep, ho, hx, hdat, he, hn⟩), rfl, ?_⟩
        exact q _ _ sm (.dct (dm.not hN) upd_same (r1.same sm)) fun _ _ => ⟨_, rfl, hN, .dct upd_same ((r1.weak fun b z => z.elim .inl fun e => .inr (by rw [e]; exact hN)).same sm)⟩
    · exact q.elim
  | _ => exact q.elim
theorem Dic.same {K : PySem.W.Frag} {O : Addr → Prop} {H H' : Hp} {a : Addr} {ps : List (D × D)} (h : Dic K O H a ps) (e : Same H H') : Dic K O H' a ps := by
  cases h with
  | t h r => exact .t (e _ _ h) (r.same e)
  | k h r hn => exact .k (e _ _ h) (r.keep (.of e)) hn
theorem Dic.isD {K : PySem.W.Frag} {O : Addr → Prop} {H : Hp} {a : Addr} {ps : List (D × D)} (h : Dic K O H a ps) : IsD H a := by
  cases h with
  | t h r => exact .inr ⟨_, .inl h⟩
  | k h r hn => exact .inl ⟨_, .inl h⟩
theorem ES.bindE {K : PySem.W.Frag} {O : Addr → Prop} {H : Hp} {fr fr' : Bool} {r : Res D} {f : D → Res D} {Q : VK} (h : ES K O fr E (r.bind f) Q H) : ES K O fr' E r (fun v H1 => ∃ d, Rep K O H1 v d ∧ Same H H1 ∧ ES K O fr E (f d) Q H1) H := by
  cases r with
  | ok d => exact fun v H1 s rb _ => ⟨d, rb, s, h.same s⟩
  | exc c => exact h
  | bad => exact h
variable {C : Nat → List D → Res D}
theorem pd_dget {o e f : Expr} {io ie iff : Ex} {apos cpos : Pos} (hu : X.A.units + 1 < cLine) (ho : PEb X C E o io) (he : PEb X C E e ie) (hf : PEs X C E f iff) (m : M2 X o "get" apos e f cpos) : PEs X C E (.Call (.Attribute o "get" apos) [e, f] [] cpos) (.dget io ie iff) := by
  refine pe_imp (pe_dget2 hu ho he hf m) fun σ H Q ⟨O, ρ, so, q⟩ => ⟨O, ρ, so, ?_⟩
  simp only [evalE] at q
  refine (EB.bindS q).mono fun x H1 _ ⟨d, r, s1, q⟩ => ?_
  cases d with
  | dict kvs =>
    obtain ⟨a, rfl, hd⟩ := r.dict
    rw [if_pos (show isDict (.dict kvs) = true from rfl)] at q
    refine ⟨a, rfl, hd.isD, O, ρ, so.same s1, (EB.bindS q).mono fun y H2 _ ⟨k, rk, s2, q⟩ => ⟨O, ρ, (so.same s1).same s2, (ES.bindE q).mono fun z H3 _ ⟨c, rz, s3, q⟩ => ?_⟩⟩
    have q : ES X.K O _ E (if (keyOk k && keysT kvs) = true then .ok ((getD' kvs k).getD c) else .bad) Q H3 := q
    split at q
    · rename_i hk
      rcases dget_of ((hd.same s2).same s3) hk (rk.same s3) with ⟨w, e, g, hg, rw', _⟩ | ⟨g, hg, _⟩
      · rw [hg] at q
        exact ⟨some w, g, q.rep rw' fun z => nomatch z⟩
      · rw [hg] at q
        exact ⟨none, g, q.rep rz fun z => nomatch z⟩
    · exact q.elim
  | _ => exact q.elim
theorem m2_of {o e f : Expr} {m : Str} {apos cpos : Pos} (hb : attributeBase o m X.env (eval o X.env) = eval o X.env) (hl : (apos.endLine == cpos.line) = true) (n1 : notStar e = true) (n2 : notStar f = true) : M2 X o m apos e f cpos :=
  ⟨hb, by rw [star_of n1, star_of n2]; rfl, hl, by rw [star_of n1, star_of n2]; rfl⟩
theorem pd_lcnt {o e : Expr} {io ie : Ex} {apos cpos : Pos} (ho : PEb X C E o io) (he : PEb X C E e ie) (hb : attributeBase o "count" X.env (eval o X.env) = eval o X.env) (hl : (apos.endLine == cpos.line) = true) (n1 : notStar e = true) :
    PEs X C E (.Call (.Attribute o "count" apos) [e] [] cpos) (.lcnt io ie) := by
  refine pe_imp (pe_bm PySem.F.plainAttrs_list PySem.F.slot_list_count PySem.F.type_list_count mt_lcount ho (pa_cons he pa_nil (star_of n1 [] _)) hb (few1 n1) hl (star_of n1 [] _) rfl) fun σ H Q ⟨O, ρ, so, q⟩ => ⟨O, ρ, so, ?_⟩
  simp only [evalE] at q
  refine (EB.bindS q).mono fun x H1 _ ⟨d, r, s1, q⟩ => ?_
  cases d with
  | list ds =>
    obtain ⟨a, xs, rfl, h1, r1⟩ := r.list
    rw [if_pos (show isListD (.list ds) = true from rfl)] at q
    refine ⟨.inl ⟨rfl, xs, h1⟩, ?_⟩
    refine (show tBo X.K C E ie σ H1 _ from ⟨O, ρ, so.same s1, (EB.bindS q).mono fun y H2 _ ⟨k, rk, s2, q⟩ => ?_⟩)
    cases k with
    | int k =>
      have q9 : ES X.K O (freshE (io.lcnt ie)) E (okO (intsOf ds) fun ns => .int (ns.count k : Nat)) Q H2 := q
      clear q
      cases e : intsOf ds with
      | none => rw [e] at q9; exact q9.elim
      | some ns =>
      have e5 := intsOf_eq e
      rw [e] at q9
      subst e5
      obtain ⟨a', xs', ea, h2, r2⟩ := (r.same s2).list
      cases ea
      have e6 := r2.ints
      subst e6
      obtain rfl := rk.int
      exact ⟨a, ns, k, rfl, rfl, h2, ES.int (show ES X.K O (freshE (io.lcnt ie)) E (.ok (.int (ns.count k : Nat))) Q H2 from q9)⟩
    | _ => exact q.elim
  | _ => exact q.elim
end
end BP
/-! The compiler of terms, and what it promises. -/
namespace BP
open PySem PySem.Spec PyProof.Rows L2

inductive Md where | s | b | t
  deriving DecidableEq
def gd {α : Type} (c : Bool) (o : Option α) : Option α := if c = true then o else none
theorem gd_some {α : Type} {c : Bool} {o : Option α} {a : α} : gd c o = some a ↔ c = true ∧ o = some a := by
  unfold gd
  split
  · rename_i h; simp [h]
  · rename_i h; simp [h]
def cL (f : Expr → Option Ex) : List Expr → Option (List Ex)
  | [] => some []
  | e :: es => (f e).bind fun i => (cL f es).bind fun is => some (i :: is)
theorem cL_ok {f : Expr → Option Ex} {P : Expr → Ex → Prop} (h : ∀ e i, f e = some i → P e i) : ∀ {es : List Expr} {is : List Ex}, cL f es = some is → Paired P es is
  | [], _, e => by cases e; exact .nil
  | x :: es, _, e => by
    simp only [cL, Option.bind_eq_some_iff] at e
    obtain ⟨i, h1, is, h2, e⟩ := e
    cases e
    exact .cons (h x i h1) (cL_ok h h2)
def gImp (S : Sc) (x : Str) : Bool := decide (S.sc.names.lookup x = some .globalImplicit)
def visC (S : Sc) (x : Str) : Bool := decide (S.sc.names.lookup x = some .local) || decide (S.sc.names.lookup x = some .cell) || decide (S.sc.names.lookup x = some .free)
def locC (S : Sc) (x : Str) : Bool := decide (S.sc.names.lookup x = some .local) || (decide (S.sc.names.lookup x = some .cell) && S.fn x)
def plainN (x : Str) : Bool := !(x == ("__debug__" : Str)) && !(x == ("__classdict__" : Str)) && decide (x ≠ ("__name__" : Str))
def slotIn (N : List Str) (x : Str) : Option Nat := match N.findIdx? (· == x) with
  | some i => if N[i]? = some x then some i else none
  | none => none
theorem slotIn_ok {N : List Str} {x : Str} {i : Nat} (h : slotIn N x = some i) : N[i]? = some x := by
  unfold slotIn at h
  split at h
  · split at h
    · rename_i e; cases h; exact e
    · cases h
  · cases h
def ownOf (N : List Str) (scope : Scope) : List (Str × Nat) := scope.names.filterMap fun y => match y.2 with
  | .local => (slotIn N y.1).map fun i => (y.1, i)
  | .cell => (slotIn N y.1).map fun i => (y.1, i)
  | _ => none
def ownIx (own : List (Str × Nat)) : List Nat := own.map (·.2)
def blkS (S : Sc) (scope : Scope) : Sc := ⟨relS scope S.sc, fun x => scope.names.lookup x == some .cell⟩
def bopOf : Operator → Option Bop
  | .Add => some .add
  | .Sub => some .sub
  | .Mult => some .mul
  | .FloorDiv => some .fdiv
  | .Mod => some .mod
  | _ => none
def isNoneC : Expr → Bool
  | .Constant .none _ _ => true
  | _ => false
def copOf (op : CmpOp) (b : Expr) : Option Cop := match op with
  | .Eq => some .eq
  | .NotEq => some .ne
  | .Lt => some .lt
  | .LtE => some .le
  | .Gt => some .gt
  | .GtE => some .ge
  | .Is => some (if isNoneC b = true then .isN else .isB)
  | .IsNot => some (if isNoneC b = true then .notN else .notB)
  | .In => some .inn
  | .NotIn => some .nin
def cmpC (f : Expr → Option Ex) (a : Expr) : List CmpOp → List Expr → Option Ex
  | [op], [b] => gd (!behindInMarks op b) ((copOf op b).bind fun o => (f a).bind fun ia => (f b).bind fun ib => some (.cmp o ia ib))
  | [op, op'], [b, c] => gd (!lastMarks [op, op'] [b, c]) ((copOf op b).bind fun o => (copOf op' c).bind fun o' => (f a).bind fun ia => (f b).bind fun ib => (f c).bind fun ic => some (.chain o o' ia ib ic))
  | _, _ => none
def btKind (tn : Str) : Option Bt :=
  if tn = ("tuple" : Str) then some .isTuple else if tn = ("int" : Str) then some .isInt else if tn = ("bool" : Str) then some .isBool else if tn = ("str" : Str) then some .isStr else none
/-- built-ins by name and how many they are handed -/
def bltOf0 (x : Str) (k : Nat) : Option Bt :=
  if x = ("len" : Str) ∧ k = 1 then some .len
  else if x = ("tuple" : Str) ∧ k = 1 then some .tuple
  else if x = ("list" : Str) ∧ k = 1 then some .list
  else if x = ("sum" : Str) ∧ k = 1 then some .sum
  else if x = ("all" : Str) ∧ k = 1 then some .all
  else if x = ("any" : Str) ∧ k = 1 then some .any
  else if x = ("max" : Str) ∧ k = 2 then some .max2
  else if x = ("min" : Str) ∧ k = 2 then some .min2
  else if x = ("sorted" : Str) ∧ k = 1 then some .sorted
  else if x = ("int" : Str) ∧ k = 1 then some .toInt
  else if x = ("str" : Str) ∧ k = 1 then some .toStr
  else none
def bltOf (x : Str) (k : Nat) : Option Bt :=
  if x = ("max" : Str) ∧ k = 1 then some .max1
  else if x = ("min" : Str) ∧ k = 1 then some .min1
  else if x = ("dict" : Str) ∧ k = 1 then some .dict
  else bltOf0 x k
def rangeArgs : List Expr → Option (List Expr)
  | [.Call (.Name r _) as [] _] => if r = ("range" : Str) then some as else none
  | _ => none
theorem rangeArgs_ok {as bs : List Expr} (h : rangeArgs as = some bs) : ∃ p pos, as = [.Call (.Name ("range" : Str) p) bs [] pos] := by
  unfold rangeArgs at h
  split at h
  · split at h
    · rename_i e; cases h; subst e; exact ⟨_, _, rfl⟩
    · cases h
  · cases h
def setArgs : List Expr → Option Expr
  | [.Call (.Name r _) [e] [] _] => if r = ("set" : Str) then some e else none
  | _ => none
theorem setArgs_ok {as : List Expr} {e : Expr} (h : setArgs as = some e) : ∃ p pos, as = [.Call (.Name ("set" : Str) p) [e] [] pos] := by
  unfold setArgs at h
  split at h
  · split at h
    · rename_i ex; cases h; subst ex; exact ⟨_, _, rfl⟩
    · cases h
  · cases h
def isM1 : Expr → Bool
  | .UnaryOp .USub (.Constant (.int i) _ _) _ => decide (i = 1)
  | _ => false
theorem isM1_ok {e : Expr} (h : isM1 e = true) : ∃ k p1 p2, e = .UnaryOp .USub (.Constant (.int 1) k p1) p2 := by
  unfold isM1 at h
  split at h
  · have := of_decide_eq_true h
    subst this
    exact ⟨_, _, _, rfl⟩
  · cases h
def isSlice : Expr → Bool
  | .Slice .. => true
  | _ => false
def isSet : Expr → Bool
  | .Set .. => true
  | _ => false
def nameC (N : List Str) (S : Sc) : Expr → Option Nat
  | .Name x _ => gd (locC S x) (slotIn N x)
  | _ => none
def cNs (N : List Str) (S : Sc) : List Expr → Option (List Nat)
  | [] => some []
  | e :: es => (nameC N S e).bind fun i => (cNs N S es).bind fun is => some (i :: is)
def tgC (N : List Str) (S : Sc) : Expr → Option Tg
  | .Name x p => (nameC N S (.Name x p)).bind fun i => some (.n i)
  | .Tuple es _ _ => (cNs N S es).bind fun is => some (.t is)
  | _ => none
def isTupE : Expr → Bool
  | .Tuple .. => true
  | _ => false
/-- what is walked -/
def seqC (f : Expr → Option Ex) (e : Expr) : Option (Sk × List Ex) := (f e).bind fun i => some (.seq, [i])
def srcC (f : Expr → Option Ex) (S : Sc) (tg : Expr) (e : Expr) : Option (Sk × List Ex) := match e with
  | .Call (.Name x _) as [] _ =>
    if x = ("range" : Str) then gd (gImp S x && as.all notStar) ((cL f as).bind fun is => match as with
      | [_] => some (.range1, is)
      | [_, _] => some (.range2, is)
      | [_, _, _] => some (.range3, is)
      | _ => none)
    else if x = ("enumerate" : Str) then gd (gImp S x && as.all notStar && isTupE tg) ((cL f as).bind fun is => match as with
      | [_] => some (.enum, is)
      | _ => none)
    else if x = ("zip" : Str) then gd (gImp S x && as.all notStar && isTupE tg) ((cL f as).bind fun is => match as with
      | [_, _] => some (.zip2, is)
      | [_, _, _] => some (.zip3, is)
      | _ => none)
    else seqC f e
  | _ => seqC f e
def callC (g : Gc) (S : Sc) (fs fb : Expr → Option Ex) (x : Str) (as : List Expr) : Option Ex :=
  gd (plainN x && gImp S x && as.all notStar && !as.isEmpty) (match g.fns.lookup x with
    | some f => (cL fs as).bind fun is => some (.call f is)
    | none => match rangeArgs as with
      | some bs => gd (gImp S "range" && bs.all notStar) ((cL fb bs).bind fun is =>
          if x = ("list" : Str) then (match bs with
            | [_] => some (.bt .listRange1 is)
            | [_, _] => some (.bt .listRange2 is)
            | _ => none)
          else if x = ("tuple" : Str) then (match bs with
            | [_, _] => some (.bt .tupRange2 is)
            | _ => none)
          else none)
      | none => match setArgs as with
      | some e => gd (gImp S "set" && notStar e) (if x = ("sorted" : Str) then (fb e).bind fun i => some (.bt .sortedSet [i]) else if x = ("len" : Str) then (fb e).bind fun i => some (.bt .lenSet [i]) else none)
      | none => if x = ("isinstance" : Str) then (match as with
          | [e, .Name tn _] => gd (gImp S tn) ((btKind tn).bind fun f => (fb e).bind fun i => some (.bt f [i]))
          | _ => none)
        else (bltOf x as.length).bind fun f => (cL fb as).bind fun is => some (.bt f is))
def optC (f : Expr → Option Ex) : Option Expr → Option (List Ex)
  | none => some []
  | some e => (f e).bind fun i => some [i]
/-- a test -/
def cTt (f : Md → Expr → Option Ex) (e : Expr) : Option Ex := match e with
  | .BoolOp .And es _ => gd (!es.isEmpty) ((cL (f .t) es).bind fun is => some (andAll is))
  | .BoolOp .Or es _ => gd (!es.isEmpty) ((cL (f .t) es).bind fun is => some (orAll is))
  | .UnaryOp .Not a _ => (f .t a).bind fun i => some (.not i)
  | .Compare a ops cs _ => cmpC (f .b) a ops cs
  | .Name .. => (f .s e).bind fun i => gd (!freshE i) (some i)
  | .Call .. => (f .s e).bind fun i => gd (!freshE i) (some i)
  | .Subscript .. => (f .s e).bind fun i => gd (!freshE i) (some i)
  | .Constant .. => (f .s e).bind fun i => gd (!freshE i) (some i)
  | _ => none
def cSub (f : Md → Expr → Option Ex) (a : Expr) : Expr → Option Ex
  | .Slice lo hi none _ => (f .b a).bind fun ia => (optC (f .b) lo).bind fun il => (optC (f .b) hi).bind fun ih => some (.sl ia il ih)
  | .Slice none none (some st) _ => gd (isM1 st) ((f .b a).bind fun ia => some (.rev ia))
  | .Slice .. => none
  | b => gd (!isSlice b) ((f .b a).bind fun ia => (f .b b).bind fun ib => some (.ix ia ib))
def cKn : Const → Option D
  | .int i => some (.int i)
  | .str z => some (.str z)
  | .bool z => some (.bool z)
  | .none => some .none
  | _ => none
def cComp (g : Gc) (f : Sc → Md → Expr → Option Ex) (S : Sc) (elt : Expr) (scope : Scope) : List Comprehension → Option Ex
  | [⟨tg, iter, ifs, asy⟩] =>
    gd (decide (asy = 0) && blkC g.N S.sc scope (ownOf g.N scope) && !isSet iter) ((tgC g.N (blkS S scope) tg).bind fun t => gd ((tgIx t).all fun i => decide (i ∈ ownIx (ownOf g.N scope))) ((srcC (f S .b) S tg iter).bind fun q =>
      (match ifs with
        | [] => some []
        | [c] => (f (blkS S scope) .t c).bind fun ic => some [ic]
        | _ => none).bind fun cs => (f (blkS S scope) .s elt).bind fun ie => some (.comp ie (ownIx (ownOf g.N scope)) t q.1 q.2 cs)))
  | _ => none
def cName (g : Gc) (S : Sc) (bw : Bool) (x : Str) : Option Ex :=
  gd (plainN x) (if visC S x = true then (slotIn g.N x).bind fun i => some (if bw = true then .b i else .v i) else gd (gImp S x) ((g.consts.lookup x).bind fun d => some (.k d)))
def plainBase : Expr → Bool
  | .Name .. => true
  | .Subscript .. => true
  | .Call _ (_ :: _) _ _ => true
  | _ => false
/-- methods that tell something -/
def methC (f : Md → Expr → Option Ex) (o : Expr) (attr : Str) (apos cpos : Pos) (as : List Expr) : Option Ex :=
  gd (plainBase o && (apos.endLine == cpos.line) && as.all notStar) (match as with
    | [e, x] => if attr = ("get" : Str) then (f .b o).bind fun io => (f .b e).bind fun ie => (f .s x).bind fun ix => some (.dget io ie ix) else none
    | [e] => if attr = ("count" : Str) then (f .b o).bind fun io => (f .b e).bind fun ie => some (.lcnt io ie) else none
    | _ => none)
/-- a value that is no name -/
def cVv (g : Gc) (f : Sc → Md → Expr → Option Ex) (S : Sc) (e : Expr) : Option Ex := match e with
  | .Constant k _ _ => (cKn k).bind fun d => some (.k d)
  | .Tuple es _ _ => gd (es.all notStar) ((cL (f S .s) es).bind fun is => some (.tup is))
  | .List es _ => gd (es.all notStar) ((cL (f S .s) es).bind fun is => some (.lst is))
  | .BinOp a op b _ => (bopOf op).bind fun o => (f S .b a).bind fun ia => (f S .b b).bind fun ib => some (.bin o ia ib)
  | .Compare a ops cs _ => cmpC (f S .b) a ops cs
  | .UnaryOp .Not a _ => (f S .b a).bind fun i => some (.not i)
  | .UnaryOp .USub a _ => (f S .b a).bind fun i => some (.neg i)
  | .BoolOp .And es _ => gd (!es.isEmpty) ((cL (f S .s) es).bind fun is => some (andAll is))
  | .BoolOp .Or es _ => gd (!es.isEmpty) ((cL (f S .s) es).bind fun is => some (orAll is))
  | .IfExp c a b _ => (f S .t c).bind fun ic => (f S .s a).bind fun ia => (f S .s b).bind fun ib => some (.ife ic ia ib)
  | .Call (.Name x _) as [] _ => callC g S (f S .s) (f S .b) x as
  | .Call (.Attribute o attr apos) as [] cpos => methC (f S) o attr apos cpos as
  | .Subscript a b _ => cSub (f S) a b
  | .Dict [] [] _ => some .dict0
  | .ListComp elt cs scope _ => cComp g f S elt scope cs
  | _ => none
def isName : Expr → Option Str
  | .Name x _ => some x
  | _ => none
def cX (g : Gc) : Nat → Sc → Md → Expr → Option Ex
  | 0, _, _, _ => none
  | n + 1, S, .t, e => cTt (cX g n S) e
  | n + 1, S, .s, e => match isName e with
    | some x => cName g S false x
    | none => cVv g (cX g n) S e
  | n + 1, S, .b, e => match isName e with
    | some x => cName g S true x
    | none => cVv g (cX g n) S e
end BP
/-! What the compiler of terms promises. -/
namespace BP
open PySem PySem.Spec PyProof.Rows L2
section
variable {g : Gc} {S : Sc} {T : Nat → Option Fn} {m : Nat} {cls : Nat → Value} {EX : XK} {X : Cx} {C : Nat → List D → Res D} {E : Nat → Hp → Prop}
theorem plainN_ok {x : Str} (h : plainN x = true) : (x == ("__debug__" : Str)) = false ∧ (x == ("__classdict__" : Str)) = false ∧ x ≠ "__name__" := by
  unfold plainN at h
  simp only [Bool.and_eq_true, Bool.not_eq_true', decide_eq_true_eq] at h
  exact ⟨h.1.1, h.1.2, h.2⟩
theorem gImp_ok {x : Str} (h : gImp S x = true) : S.sc.names.lookup x = some .globalImplicit := of_decide_eq_true h
theorem visC_ok (ok : Cok g S T m cls EX X) {x : Str} (h : visC S x = true) : Vis X.env.scope x := by
  unfold visC at h
  rw [Bool.or_eq_true, Bool.or_eq_true, decide_eq_true_eq, decide_eq_true_eq, decide_eq_true_eq] at h
  unfold Vis
  rw [ok.sc]
  rcases h with (h | h) | h
  · exact .inl h
  · exact .inr (.inl h)
  · exact .inr (.inr h)
theorem hu65 (ok : Cok g S T m cls EX X) : X.A.units + 65 < cLine := by have := ok.room.un; omega
theorem hu64 (ok : Cok g S T m cls EX X) : X.A.units + 64 < cLine := by have := ok.room.un; omega
theorem hu1 (ok : Cok g S T m cls EX X) : X.A.units + 1 < cLine := by have := ok.room.un; omega
theorem slot_ok (ok : Cok g S T m cls EX X) {x : Str} {i : Nat} (h : slotIn g.N x = some i) : X.N[i]? = some x := by rw [ok.hN]; exact slotIn_ok h
theorem bop_ok (X : Cx) {op : Operator} {o : Bop} (h : bopOf op = some o) : OpR X (binaryOp op) (rOp X.K true E (evalBin o)) := by
  cases op <;> cases h
  · exact op_addD
  · exact op_subD
  · exact op_mulD
  · exact op_modD
  · exact op_fdivD
theorem cop_ok (ok : Cok g S T m cls EX X) {op : CmpOp} {b : Expr} {o : Cop} (h : copOf op b = some o) : OpR X (compareOp op) (rOp X.K false E (evalCmp o)) := by
  cases op <;> simp only [copOf, Option.some.injEq] at h
  · subst h; exact op_eqDD (hu64 ok)
  · subst h; exact op_neDD (hu64 ok)
  · subst h; exact op_ltD
  · subst h; exact op_leD
  · subst h; exact op_gtD
  · subst h; exact op_geD
  · split at h <;> subst h
    · exact op_isND
    · exact op_isBD
  · split at h <;> subst h
    · exact op_notND
    · exact op_notBD
  · subst h; exact op_innD (hu65 ok)
  · subst h; exact op_ninD (hu65 ok)
theorem cmp_ok (ok : Cok g S T m cls EX X) {f : Expr → Option Ex} (hf : ∀ e i, f e = some i → PEb X C E e i) {a : Expr} {pos : Pos} : ∀ {ops : List CmpOp} {cs : List Expr} {ir : Ex}, cmpC f a ops cs = some ir →
    PEs X C E (.Compare a ops cs pos) ir ∧ PTs' X C E (.Compare a ops cs pos) ir
  | [op], [b], ir, h => by
    simp only [cmpC, gd_some, Option.bind_eq_some_iff, Bool.not_eq_true'] at h
    obtain ⟨hm, o, ho, ia, ha, ib, hb, e⟩ := h
    cases e
    exact ⟨pd_cmp (cop_ok ok ho) (hf _ _ ha) (hf _ _ hb) hm, pd_cmpT (cop_ok ok ho) (hf _ _ ha) (hf _ _ hb) hm⟩
  | [op, op'], [b, c], ir, h => by
    simp only [cmpC, gd_some, Option.bind_eq_some_iff, Bool.not_eq_true'] at h
    obtain ⟨hm, o, ho, o', ho', ia, ha, ib, hb, ic, hc, e⟩ := h
    cases e
    exact ⟨pd_chain (cop_ok ok ho) (cop_ok ok ho') (hf _ _ ha) (hf _ _ hb) (hf _ _ hc) hm, pd_chainT (cop_ok ok ho) (cop_ok ok ho') (hf _ _ ha) (hf _ _ hb) (hf _ _ hc) hm⟩
  | [], _, _, h => by simp [cmpC] at h
  | [_], [], _, h => by simp [cmpC] at h
  | [_], _ :: _ :: _, _, h => by simp [cmpC] at h
  | [_, _], [], _, h => by simp [cmpC] at h
  | [_, _], [_], _, h => by simp [cmpC] at h
  | [_, _], _ :: _ :: _ :: _, _, h => by simp [cmpC] at h
  | _ :: _ :: _ :: _, _, _, h => by simp [cmpC] at h
theorem pas_of : ∀ {es : List Expr} {is : List Ex}, Paired (fun e i => PEs X C E e i) es is → es.all notStar = true → PAs X C E es is
  | _, _, .nil, _ => pd_nilS
  | _, _, .cons h hs, n => by
    rw [List.all_cons, Bool.and_eq_true] at n
    exact pd_consS h (pas_of hs n.2) n.1
theorem pab_of : ∀ {es : List Expr} {is : List Ex}, Paired (fun e i => PEb X C E e i) es is → es.all notStar = true → PAb X C E es is
  | _, _, .nil, _ => pd_nilB
  | _, _, .cons h hs, n => by
    rw [List.all_cons, Bool.and_eq_true] at n
    exact pd_consB h (pab_of hs n.2) n.1
theorem pam_of {st : Bool} : ∀ {es : List Expr} {is : List Ex}, Paired (fun e i => PEm st X C E e i) es is → es.all notStar = true → PAm st X C E es is
  | _, _, .nil, _ => PAm.nil
  | _, _, .cons h hs, n => by
    rw [List.all_cons, Bool.and_eq_true] at n
    exact PAm.cons h (pam_of hs n.2) n.1
theorem ok_blk (ok : Cok g S T m cls EX X) {scope : Scope} {s : Shared} {H : Hp} {Ca : Addr} {cl : List (Str × Addr)} {fp : List Addr} : Cok g (blkS S scope) T m cls (fun _ _ _ => False) (X.blk s H scope (compEnvC scope cl Ca X.env) fp) where
  w := ok.w
  calm := ok.calm
  hN := ok.hN
  nd := ok.nd
  sc := by
    show relS scope X.env.scope = relS scope S.sc
    rw [ok.sc]
  fn := rfl
  room := ok.room
  takes := takes0
theorem src_ok {st : Bool} (ok : Cok g S T m cls EX X) {f : Expr → Option Ex} (hf : ∀ e i, f e = some i → PEm st X C E e i) {tg e : Expr} {q : Sk × List Ex} (h : srcC f S tg e = some q) : PIs st X C E tg e q.1 q.2 := by
  have hs : ∀ {e : Expr} {q : Sk × List Ex}, seqC f e = some q → PIs st X C E tg e q.1 q.2 := fun {e q} h => by
    simp only [seqC, Option.bind_eq_some_iff] at h
    obtain ⟨i, h1, e⟩ := h
    cases e
    exact pd_seq (hf _ _ h1)
  unfold srcC at h
  split at h
  · rename_i x p as pos
    split at h
    · rename_i ex
      subst ex
      simp only [gd_some, Option.bind_eq_some_iff, Bool.and_eq_true] at h
      obtain ⟨⟨hg, hn⟩, is, hl, h⟩ := h
      have pa := pam_of (cL_ok hf hl) hn
      split at h <;> cases h
      · exact pd_range1 ok (gImp_ok hg) hn pa
      · exact pd_range2 ok (gImp_ok hg) hn pa
      · exact pd_range3 ok (gImp_ok hg) hn pa
    · split at h
      · rename_i ex
        subst ex
        simp only [gd_some, Option.bind_eq_some_iff, Bool.and_eq_true] at h
        obtain ⟨⟨⟨hg, hn⟩, ht⟩, is, hl, h⟩ := h
        have pa := pam_of (cL_ok hf hl) hn
        obtain ⟨elts, kk, tpos, rfl⟩ : ∃ elts kk tpos, tg = .Tuple elts kk tpos := by
          cases tg <;> first | (cases ht; done) | exact ⟨_, _, _, rfl⟩
        split at h <;> cases h
        exact pd_enum ok (gImp_ok hg) hn pa
      · split at h
        · rename_i ex
          subst ex
          simp only [gd_some, Option.bind_eq_some_iff, Bool.and_eq_true] at h
          obtain ⟨⟨⟨hg, hn⟩, ht⟩, is, hl, h⟩ := h
          have pa := pam_of (cL_ok hf hl) hn
          obtain ⟨elts, kk, tpos, rfl⟩ : ∃ elts kk tpos, tg = .Tuple elts kk tpos := by
            cases tg <;> first | (cases ht; done) | exact ⟨_, _, _, rfl⟩
          split at h <;> cases h
          · exact pd_zip2 ok (gImp_ok hg) hn pa
          · exact pd_zip3 ok (gImp_ok hg) hn pa
        · exact hs h
  · exact hs h
theorem name_ok (ok : Cok g S T m cls EX X) {e : Expr} {i : Nat} (h : nameC g.N S e = some i) : NameAt X e i := by
  unfold nameC at h
  split at h
  · rename_i x p
    rw [gd_some] at h
    obtain ⟨hl, hi⟩ := h
    refine ⟨x, p, rfl, slot_ok ok hi, ?_, ?_⟩
    · unfold locC at hl
      simp only [Bool.or_eq_true, Bool.and_eq_true, decide_eq_true_eq] at hl
      unfold L2.Loc
      rw [ok.sc]
      rcases hl with hl | hl
      · exact .inl hl
      · exact .inr hl.1
    · unfold locC at hl
      simp only [Bool.or_eq_true, Bool.and_eq_true, decide_eq_true_eq] at hl
      rw [ok.fn, ok.sc]
      rcases hl with hl | hl
      · exact .inr hl
      · exact .inl hl.2
  · cases h
theorem names_ok (ok : Cok g S T m cls EX X) : ∀ {es : List Expr} {is : List Nat}, cNs g.N S es = some is → Paired (NameAt X) es is
  | [], _, h => by cases h; exact .nil
  | e :: es, _, h => by
    simp only [cNs, Option.bind_eq_some_iff] at h
    obtain ⟨i, h1, is, h2, e⟩ := h
    cases e
    exact .cons (name_ok ok h1) (names_ok ok h2)
theorem tg_ok (ok : Cok g S T m cls EX X) {e : Expr} {t : Tg} (h : tgC g.N S e = some t) : PG X e (gD X.K t) := by
  unfold tgC at h
  split at h
  · simp only [Option.bind_eq_some_iff] at h
    obtain ⟨i, h1, e⟩ := h
    cases e
    exact pg_one ok.nd (name_ok ok h1)
  · simp only [Option.bind_eq_some_iff] at h
    obtain ⟨is, h1, e⟩ := h
    cases e
    exact pg_many ok.calm ok.nd (names_ok ok h1)
  · cases h
theorem lookup_mem {α : Type} {l : List (Str × α)} {x : Str} {a : α} (h : l.lookup x = some a) : (x, a) ∈ l := PySem.mem_of_lookup h
theorem blt_ok (ok : Cok g S T m cls EX X) {x : Str} {f : Bt} {e : Expr} {es : List Expr} {irs : List Ex} {p pos : Pos} (hg : S.sc.names.lookup x = some .globalImplicit) (hp : plainN x = true) (ns : (e :: es).all notStar = true) (hb : bltOf x (e :: es).length = some f)
    (ha : PAb X C E (e :: es) irs) : PEs X C E (.Call (.Name x p) (e :: es) [] pos) (.bt f irs) := by
  obtain ⟨hd, _, hn⟩ := plainN_ok hp
  unfold bltOf at hb
  split at hb
  · rename_i hx
    obtain ⟨rfl, _⟩ := hx
    cases hb
    exact pd_blt ok (BPset.cr_max1D ok.calm (by have := ok.room.un; omega)) (by decide) hg (by decide +kernel) hn hd ns ha
  split at hb
  · rename_i hx
    obtain ⟨rfl, _⟩ := hx
    cases hb
    exact pd_blt ok (BPset.cr_min1D ok.calm (by have := ok.room.un; omega)) (by decide) hg (by decide +kernel) hn hd ns ha
  split at hb
  · rename_i hx
    obtain ⟨rfl, _⟩ := hx
    cases hb
    exact pd_bltTy ok (cr_dictD (by have := ok.room.un; omega)) (by decide) hg (by decide +kernel) hn hd ns ha
  rename_i hx1 hx2 hx3
  clear hx1 hx2 hx3
  unfold bltOf0 at hb
  repeat' split at hb
  all_goals (first | cases hb | skip)
  all_goals (rename_i hx; obtain ⟨rfl, _⟩ := hx)
  · exact pd_blt ok cr_len (by decide) hg (by decide +kernel) hn hd ns ha
  · exact pd_bltTy ok cr_tuple (by decide) hg (by decide +kernel) hn hd ns ha
  · exact pd_bltTy ok cr_list (by decide) hg (by decide +kernel) hn hd ns ha
  · exact pd_blt ok (cr_sumD ok.calm) (by decide) hg (by decide +kernel) hn hd ns ha
  · exact pd_blt ok (cr_allD ok.calm) (by decide) hg (by decide +kernel) hn hd ns ha
  · exact pd_blt ok (cr_anyD ok.calm) (by decide) hg (by decide +kernel) hn hd ns ha
  · exact pd_blt ok (cr_max2D ok.calm) (by decide) hg (by decide +kernel) hn hd ns ha
  · exact pd_blt ok (cr_min2D ok.calm) (by decide) hg (by decide +kernel) hn hd ns ha
  · exact pd_blt ok (BPset.cr_sortedD (by have := ok.room.un; omega)) (by decide) hg (by decide +kernel) hn hd ns ha
  · exact pd_bltTy ok cr_intD (by decide) hg (by decide +kernel) hn hd ns ha
  · exact pd_bltTy ok cr_strD (by decide) hg (by decide +kernel) hn hd ns ha
theorem isi_ok (ok : Cok g S T m cls EX X) {tn : Str} {f : Bt} {e : Expr} {ir : Ex} {p p2 pos : Pos} (hg : S.sc.names.lookup ("isinstance" : Str) = some .globalImplicit) (hgt : S.sc.names.lookup tn = some .globalImplicit) (hb : btKind tn = some f) (ns : notStar e = true) (ha : PEb X C E e ir) :
    PEs X C E (.Call (.Name "isinstance" p) [e, .Name tn p2] [] pos) (.bt f [ir]) := by
  unfold btKind at hb
  repeat' split at hb
  all_goals (first | cases hb | skip)
  all_goals (rename_i hx; subst hx)
  · exact pd_isi ok kit_tuple rfl rfl (by decide) (by decide) hg hgt (by decide +kernel) (by decide) (by decide) ns ha
  · exact pd_isi ok kit_int rfl rfl (by decide) (by decide) hg hgt (by decide +kernel) (by decide) (by decide) ns ha
  · exact pd_isi ok kit_bool rfl rfl (by decide) (by decide) hg hgt (by decide +kernel) (by decide) (by decide) ns ha
  · exact pd_isi ok kit_str rfl rfl (by decide) (by decide) hg hgt (by decide +kernel) (by decide) (by decide) ns ha
theorem notSet_fold {e : Expr} (h : isSet e = false) (env : PySem.Env) : ∀ x, foldedSetIterable e env x = pure x := fun x => by
  cases e <;> first | rfl | cases h
end
section
variable {g : Gc} {T : Nat → Option Fn} {m : Nat} {cls : Nat → Value}
def SX (md : Md) (X : Cx) (C : Nat → List D → Res D) (E : Nat → Hp → Prop) (e : Expr) (ir : Ex) : Prop := match md with
  | .s => PEs X C E e ir
  | .b => PEb X C E e ir
  | .t => PTs' X C E e ir
theorem SX.of {md : Md} {X : Cx} {C : Nat → List D → Res D} {E : Nat → Hp → Prop} {e : Expr} {ir : Ex} (h : PEs X C E e ir) (n : md ≠ .t) : SX md X C E e ir := by
  cases md with
  | s => exact h
  | b => exact h.b
  | t => exact absurd rfl n
theorem call_ok {S : Sc} {EX : XK} {X : Cx} (ok : Cok g S T m cls EX X) {fs fb : Expr → Option Ex} (hs : ∀ e i, fs e = some i → PEs X (callF T m) (Ecl cls EX) e i) (hb : ∀ e i, fb e = some i → PEb X (callF T m) (Ecl cls EX) e i) {x : Str} {as : List Expr} {p pos : Pos} {ir : Ex}
    (h : callC g S fs fb x as = some ir) : PEs X (callF T m) (Ecl cls EX) (.Call (.Name x p) as [] pos) ir := by
  unfold callC at h
  rw [gd_some] at h
  obtain ⟨hc, h⟩ := h
  simp only [Bool.and_eq_true, Bool.not_eq_true'] at hc
  obtain ⟨⟨⟨hp, hg⟩, hn⟩, he⟩ := hc
  have hg' := gImp_ok hg
  obtain ⟨e1, es, rfl⟩ : ∃ e1 es, as = e1 :: es := by
    cases as with
    | nil => cases he
    | cons a b => exact ⟨a, b, rfl⟩
  split at h
  · rename_i f hf
    simp only [Option.bind_eq_some_iff] at h
    obtain ⟨is, hl, e⟩ := h
    cases e
    exact pd_call ok (lookup_mem hf) hg' (plainN_ok hp).1 hn (pas_of (cL_ok hs hl) hn)
  · split at h
    · rename_i bs hr
      obtain ⟨p2, pos2, e⟩ := rangeArgs_ok hr
      cases e
      simp only [gd_some, Option.bind_eq_some_iff, Bool.and_eq_true] at h
      obtain ⟨⟨hgr, hnb⟩, is, hl, h⟩ := h
      split at h
      · rename_i ex
        subst ex
        split at h
        · rename_i a
          cases h
          have pl := cL_ok hb hl
          cases pl with
          | cons ha pl =>
            cases pl
            exact pd_listRange1 ok hg' (gImp_ok hgr) (by simpa using hnb) ha
        · rename_i a b
          cases h
          have pl := cL_ok hb hl
          have hnb' : notStar a = true ∧ notStar b = true := by simpa using hnb
          cases pl with
          | cons ha pl =>
            cases pl with
            | cons hb' pl =>
              cases pl
              exact pd_listRange2 ok hg' (gImp_ok hgr) hnb'.1 hnb'.2 ha hb'
        · cases h
      · split at h
        · rename_i ex
          subst ex
          split at h
          · rename_i a b
            cases h
            have pl := cL_ok hb hl
            have hnb' : notStar a = true ∧ notStar b = true := by simpa using hnb
            cases pl with
            | cons ha pl =>
              cases pl with
              | cons hb' pl =>
                cases pl
                exact pd_tupRange2 ok hg' (gImp_ok hgr) hnb'.1 hnb'.2 ha hb'
          · cases h
        · cases h
    · split at h
      · rename_i e2 hset
        obtain ⟨p2, pos2, eas⟩ := setArgs_ok hset
        cases eas
        simp only [gd_some, Bool.and_eq_true] at h
        obtain ⟨⟨hgs, hns⟩, h⟩ := h
        split at h
        · rename_i hx
          simp only [Option.bind_eq_some_iff] at h
          obtain ⟨i, hi, ei⟩ := h
          cases ei
          subst hx
          exact BPset.pd_sortedSet ok hg' (gImp_ok hgs) hns (pab_of (.cons (hb _ _ hi) .nil) (by simpa using hns))
        · split at h
          · rename_i hx
            simp only [Option.bind_eq_some_iff] at h
            obtain ⟨i, hi, ei⟩ := h
            cases ei
            subst hx
            exact BPset.pd_lenSet ok hg' (gImp_ok hgs) hns (hb _ _ hi)
          · cases h
      split at h
      · rename_i ex
        subst ex
        split at h
        · rename_i e tn p2 heq
          cases heq
          simp only [gd_some, Option.bind_eq_some_iff] at h
          obtain ⟨hgt, f, hf, i, hi, e⟩ := h
          cases e
          exact isi_ok ok hg' (gImp_ok hgt) hf (by simpa [notStar] using hn) (hb _ _ hi)
        · cases h
      · simp only [Option.bind_eq_some_iff] at h
        obtain ⟨f, hf, is, hl, e⟩ := h
        cases e
        exact blt_ok ok hg' hp hn hf (pab_of (cL_ok hb hl) hn)
theorem opt_ok {S : Sc} {EX : XK} {X : Cx} {C : Nat → List D → Res D} {E : Nat → Hp → Prop} {fb : Expr → Option Ex} (hb : ∀ e i, fb e = some i → PEb X C E e i) : ∀ {o : Option Expr} {il : List Ex}, optC fb o = some il → PO X o (tPo X.K C E il)
  | none, _, h => by cases h; exact po_nil
  | some e, _, h => by
    simp only [optC, Option.bind_eq_some_iff] at h
    obtain ⟨i, hi, e⟩ := h
    cases e
    exact po_of (hb _ _ hi)
theorem cTt_ok {S : Sc} {EX : XK} {X : Cx} (ok : Cok g S T m cls EX X) {f : Md → Expr → Option Ex} (hf : ∀ md e i, f md e = some i → SX md X (callF T m) (Ecl cls EX) e i) {e : Expr} {ir : Ex} (h : cTt f e = some ir) : PTs' X (callF T m) (Ecl cls EX) e ir := by
  unfold cTt at h
  split at h
  · simp only [gd_some, Option.bind_eq_some_iff, Bool.not_eq_true'] at h
    obtain ⟨hne, is, hl, e⟩ := h
    cases e
    exact (pd_andLT (fun z => by subst z; cases hne) (cL_ok (hf .t) hl)).pt
  · simp only [gd_some, Option.bind_eq_some_iff, Bool.not_eq_true'] at h
    obtain ⟨hne, is, hl, e⟩ := h
    cases e
    exact (pd_orLT (fun z => by subst z; cases hne) (cL_ok (hf .t) hl)).pt
  · simp only [Option.bind_eq_some_iff] at h
    obtain ⟨i, hi, e⟩ := h
    cases e
    exact pd_notT (hf .t _ _ hi)
  · exact (cmp_ok ok (hf .b) h).2
  all_goals first | (cases h; done) | skip
  all_goals (simp only [gd_some, Option.bind_eq_some_iff, Bool.not_eq_true'] at h; obtain ⟨i, hi, hfr, e⟩ := h; cases e; exact pd_val (hf .s _ _ hi) hfr fun _ => rfl)
theorem cSub_ok {S : Sc} {EX : XK} {X : Cx} (ok : Cok g S T m cls EX X) {f : Md → Expr → Option Ex} (hf : ∀ md e i, f md e = some i → SX md X (callF T m) (Ecl cls EX) e i) {a b : Expr} {pos : Pos} {ir : Ex} (h : cSub f a b = some ir) : PEs X (callF T m) (Ecl cls EX) (.Subscript a b pos) ir := by
  have hb := hf .b
  unfold cSub at h
  split at h
  · simp only [Option.bind_eq_some_iff] at h
    obtain ⟨ia, ha, il, hl, ih, hh, e⟩ := h
    cases e
    exact pd_sl (hb _ _ ha) (opt_ok (S := S) (EX := EX) hb hl) (opt_ok (S := S) (EX := EX) hb hh)
  · simp only [gd_some, Option.bind_eq_some_iff] at h
    obtain ⟨hm, ia, ha, e⟩ := h
    cases e
    obtain ⟨k, p1, p2, rfl⟩ := isM1_ok hm
    exact pd_rev (hb _ _ ha)
  · cases h
  · simp only [gd_some, Option.bind_eq_some_iff, Bool.not_eq_true'] at h
    obtain ⟨hn, ia, ha, ib, hbb, e⟩ := h
    cases e
    refine pd_ix (hu1 ok) (hb _ _ ha) (hb _ _ hbb) fun o i => ?_
    cases b <;> first | rfl | (cases hn; done)
theorem cComp_ok {S : Sc} {EX : XK} {X : Cx} (ok : Cok g S T m cls EX X) {f : Sc → Md → Expr → Option Ex} (hf : ∀ (S : Sc) (md : Md) (e : Expr) (i : Ex) (EX : XK) (X : Cx), Cok g S T m cls EX X → f S md e = some i → SX md X (callF T m) (Ecl cls EX) e i) {elt : Expr} {scope : Scope} {cs : List Comprehension} {pos : Pos} {ir : Ex}
    (h : cComp g f S elt scope cs = some ir) : PEs X (callF T m) (Ecl cls EX) (.ListComp elt cs scope pos) ir := by
  unfold cComp at h
  split at h
  · rename_i tg iter ifs asy
    simp only [gd_some, Option.bind_eq_some_iff, Bool.and_eq_true, decide_eq_true_eq, Bool.not_eq_true'] at h
    obtain ⟨⟨⟨rfl, hblk⟩, hset⟩, t, ht, hall, q, hq, cs', hcs, ie, hie, e⟩ := h
    cases e
    have hblk' : BlkOk X.N X.env.scope scope (ownOf g.N scope) := by
      rw [ok.hN, ok.sc]
      exact blkOk_by hblk
    have hsrc : PIs false X (callF T m) (Ecl cls EX) tg iter q.1 q.2 := src_ok (st := false) (C := callF T m) (E := Ecl cls EX) ok (fun e i z => show PEb X (callF T m) (Ecl cls EX) e i from hf S .b e i EX X ok z) hq
    have htt : ∀ (s : Shared) (H : Hp) (Ca : Addr) (cl : List (Str × Addr)) (fp : List Addr), PTs (X.blk s H scope (compEnvC scope cl Ca X.env) fp) ifs (tAll X.K (callF T m) (Ecl cls fun _ _ _ => False) cs') := fun s H Ca cl fp => by
      split at hcs
      · cases hcs; exact pts_all0
      · simp only [Option.bind_eq_some_iff] at hcs
        obtain ⟨ic, hic, e⟩ := hcs
        cases e
        exact pts_all1 (hf _ .t _ _ _ _ (ok_blk ok) hic)
      · cases hcs
    have htg : ∀ (s : Shared) (H : Hp) (Ca : Addr) (cl : List (Str × Addr)) (fp : List Addr), PG (X.blk s H scope (compEnvC scope cl Ca X.env) fp) tg (gD X.K t) := fun s H Ca cl fp => tg_ok (X := X.blk s H scope (compEnvC scope cl Ca X.env) fp) (ok_blk ok) ht
    have hel : ∀ (s : Shared) (H : Hp) (Ca : Addr) (cl : List (Str × Addr)) (fp : List Addr), PE (X.blk s H scope (compEnvC scope cl Ca X.env) fp) elt (tS X.K (callF T m) (Ecl cls fun _ _ _ => False) ie) := fun s H Ca cl fp => hf _ .s _ _ _ (X.blk s H scope (compEnvC scope cl Ca X.env) fp) (ok_blk ok) hie
    refine pe_imp (pe_lc ok.calm ok.nd hsrc hblk' htg htt hel (notSet_fold hset _)) fun σ H Q w => ?_
    exact comp_ok (fun i hi => by
      have := List.all_eq_true.mp hall i hi
      exact of_decide_eq_true this) w
  · cases h
theorem cName_ok {S : Sc} {EX : XK} {X : Cx} (ok : Cok g S T m cls EX X) {bw : Bool} {x : Str} {p : Pos} {ir : Ex} (h : cName g S bw x = some ir) : if bw = true then PEb X (callF T m) (Ecl cls EX) (.Name x p) ir else PEs X (callF T m) (Ecl cls EX) (.Name x p) ir := by
  unfold cName at h
  rw [gd_some] at h
  obtain ⟨hp, h⟩ := h
  obtain ⟨q1, q2, q3⟩ := plainN_ok hp
  split at h
  · rename_i hv
    simp only [Option.bind_eq_some_iff] at h
    obtain ⟨i, hi, e⟩ := h
    have pv := pe_var (X := X) (pos := p) (slot_ok ok hi) (visC_ok ok hv) q1 q2
    cases bw with
    | true => cases e; exact pd_varB pv
    | false => cases e; exact pd_var pv
  · simp only [gd_some, Option.bind_eq_some_iff] at h
    obtain ⟨hg, d, hd, e⟩ := h
    cases e
    obtain ⟨v, u, h1, h2, h3⟩ := ok.w.con _ (lookup_mem hd)
    have pc : PEs X (callF T m) (Ecl cls EX) (.Name x p) (.k d) := pd_const (pe_glob (kind_of ok (gImp_ok hg)) h1 h2 q1) h3
    cases bw with
    | true => exact pc.b
    | false => exact pc
theorem plainBase_ok {X : Cx} {o : Expr} (h : plainBase o = true) (m : Str) : attributeBase o m X.env (eval o X.env) = eval o X.env := by
  cases o <;> first | rfl | (cases h; done) | skip
  case Call f as kw p =>
    cases as with
    | nil => cases h
    | cons a as => cases f <;> rfl
theorem meth_ok {S : Sc} {EX : XK} {X : Cx} (ok : Cok g S T m cls EX X) {f : Md → Expr → Option Ex} (hf : ∀ md e i, f md e = some i → SX md X (callF T m) (Ecl cls EX) e i) {o : Expr} {attr : Str} {apos cpos : Pos} {as : List Expr} {ir : Ex} (h : methC f o attr apos cpos as = some ir) :
    PEs X (callF T m) (Ecl cls EX) (.Call (.Attribute o attr apos) as [] cpos) ir := by
  unfold methC at h
  simp only [gd_some, Bool.and_eq_true] at h
  obtain ⟨⟨⟨hb, hl⟩, hn⟩, h⟩ := h
  split at h
  · rename_i e x
    simp only [List.all_cons, List.all_nil, Bool.and_eq_true, Bool.and_true] at hn
    split at h
    · rename_i ea
      subst ea
      simp only [Option.bind_eq_some_iff] at h
      obtain ⟨io, ho, ie, he, ix, hx, e⟩ := h
      cases e
      exact pd_dget (hu1 ok) (hf .b _ _ ho) (hf .b _ _ he) (hf .s _ _ hx) (m2_of (plainBase_ok hb _) hl hn.1 hn.2)
    · cases h
  · rename_i e
    simp only [List.all_cons, List.all_nil, Bool.and_eq_true, Bool.and_true] at hn
    split at h
    · rename_i ea
      subst ea
      simp only [Option.bind_eq_some_iff] at h
      obtain ⟨io, ho, ie, he, e⟩ := h
      cases e
      exact pd_lcnt (hf .b _ _ ho) (hf .b _ _ he) (plainBase_ok hb _) hl hn
    · cases h
  · cases h
theorem cVv_ok {S : Sc} {EX : XK} {X : Cx} (ok : Cok g S T m cls EX X) {f : Sc → Md → Expr → Option Ex} (hf : ∀ (S : Sc) (md : Md) (e : Expr) (i : Ex) (EX : XK) (X : Cx), Cok g S T m cls EX X → f S md e = some i → SX md X (callF T m) (Ecl cls EX) e i) {e : Expr} {ir : Ex}
    (h : cVv g f S e = some ir) : PEs X (callF T m) (Ecl cls EX) e ir := by
  have hs : ∀ e i, f S .s e = some i → PEs X (callF T m) (Ecl cls EX) e i := fun e i q => hf S .s e i EX X ok q
  have hb : ∀ e i, f S .b e = some i → PEb X (callF T m) (Ecl cls EX) e i := fun e i q => hf S .b e i EX X ok q
  have ht : ∀ e i, f S .t e = some i → PTs' X (callF T m) (Ecl cls EX) e i := fun e i q => hf S .t e i EX X ok q
  unfold cVv at h
  split at h
  · simp only [Option.bind_eq_some_iff] at h
    obtain ⟨d, hd, e⟩ := h
    cases e
    unfold cKn at hd
    split at hd <;> cases hd
    · exact pd_const pe_int fun _ _ => .int _
    · exact pd_const pe_str fun _ _ => .str _
    · exact pd_const pe_bl fun _ _ => .bl _
    · exact pd_const pe_non fun _ _ => .non
  · simp only [gd_some, Option.bind_eq_some_iff] at h
    obtain ⟨hn, is, hl, e⟩ := h
    cases e
    exact pd_tup (pas_of (cL_ok hs hl) hn)
  · simp only [gd_some, Option.bind_eq_some_iff] at h
    obtain ⟨hn, is, hl, e⟩ := h
    cases e
    exact pd_lst (pas_of (cL_ok hs hl) hn)
  · simp only [Option.bind_eq_some_iff] at h
    obtain ⟨o, ho, ia, ha, ib, hbb, e⟩ := h
    cases e
    exact pd_bin (bop_ok X ho) (hb _ _ ha) (hb _ _ hbb)
  · exact (cmp_ok ok hb h).1
  · simp only [Option.bind_eq_some_iff] at h
    obtain ⟨i, hi, e⟩ := h
    cases e
    exact pd_not (hb _ _ hi)
  · simp only [Option.bind_eq_some_iff] at h
    obtain ⟨i, hi, e⟩ := h
    cases e
    exact pd_neg (hb _ _ hi)
  · simp only [gd_some, Option.bind_eq_some_iff, Bool.not_eq_true'] at h
    obtain ⟨hne, is, hl, e⟩ := h
    cases e
    exact pd_andL (fun z => by subst z; cases hne) (cL_ok hs hl)
  · simp only [gd_some, Option.bind_eq_some_iff, Bool.not_eq_true'] at h
    obtain ⟨hne, is, hl, e⟩ := h
    cases e
    exact pd_orL (fun z => by subst z; cases hne) (cL_ok hs hl)
  · simp only [Option.bind_eq_some_iff] at h
    obtain ⟨ic, hc, ia, ha, ib, hbb, e⟩ := h
    cases e
    exact pd_ife (ht _ _ hc) (hs _ _ ha) (hs _ _ hbb)
  · exact call_ok ok hs hb h
  · exact meth_ok ok (fun md e i q => hf S md e i EX X ok q) h
  · exact cSub_ok ok (fun md e i q => hf S md e i EX X ok q) h
  · cases h
    exact pd_dict0
  · exact cComp_ok ok hf h
  · cases h
theorem isName_ok {e : Expr} {x : Str} (h : isName e = some x) : ∃ p, e = .Name x p := by
  cases e <;> first | (cases h; exact ⟨_, rfl⟩) | (cases h; done)
theorem cX_ok : ∀ (n : Nat) (S : Sc) (md : Md) (e : Expr) (ir : Ex) (EX : XK) (X : Cx), Cok g S T m cls EX X → cX g n S md e = some ir → SX md X (callF T m) (Ecl cls EX) e ir := by
  intro n
  induction n with
  | zero => intro S md e ir EX X ok h; simp [cX] at h
  | succ n ih =>
    intro S md e ir EX X ok h
    cases md with
    | t =>
      simp only [cX] at h
      exact cTt_ok ok (fun md e i q => ih S md e i EX X ok q) h
    | s =>
      simp only [cX] at h
      split at h
      · rename_i x hx
        obtain ⟨p, rfl⟩ := isName_ok hx
        exact cName_ok ok h
      · exact cVv_ok ok ih h
    | b =>
      simp only [cX] at h
      split at h
      · rename_i x hx
        obtain ⟨p, rfl⟩ := isName_ok hx
        exact cName_ok ok h
      · exact (cVv_ok ok ih h).b
end
end BP
/-! The compiler of statements, and what it promises. -/
namespace BP
open PySem PySem.Spec PyProof.Rows L2

/-! the slots that a term takes as they are -/
mutual
def vsE : Ex → List Nat
  | .k _ => []
  | .v i => [i]
  | .b _ => []
  | .tup es => vsEs es
  | .lst es => vsEs es
  | .bin _ x y => vsE x ++ vsE y
  | .cmp _ x y => vsE x ++ vsE y
  | .chain _ _ x y z => vsE x ++ vsE y ++ vsE z
  | .neg x => vsE x
  | .not x => vsE x
  | .and x y => vsE x ++ vsE y
  | .or x y => vsE x ++ vsE y
  | .ife c x y => vsE c ++ vsE x ++ vsE y
  | .call _ es => vsEs es
  | .bt _ es => vsEs es
  | .ix x i => vsE x ++ vsE i
  | .sl x lo hi => vsE x ++ vsEs lo ++ vsEs hi
  | .rev x => vsE x
  | .comp e own _ _ src conds => vsEs src ++ (vsE e ++ vsEs conds).filter fun i => !own.contains i
  | .dict0 => []
  | .dict1 x y => vsE x ++ vsE y
  | .dget x y z => vsE x ++ vsE y ++ vsE z
  | .lcnt x y => vsE x ++ vsE y
  | .tcnt x y => vsE x ++ vsE y
  | .tidx x y => vsE x ++ vsE y
def vsEs : List Ex → List Nat
  | [] => []
  | e :: es => vsE e ++ vsEs es
end
def uniq : List Nat → List Nat
  | [] => []
  | x :: xs => if xs.contains x = true then uniq xs else x :: uniq xs
/-- those of the owned slots that are taken are frozen ahead -/
def fzs (ow : List Nat) (is : List Nat) : List Stm := match uniq (is.filter fun i => ow.contains i) with
  | [] => []
  | js => [.fz js]
def isLc : Expr → Bool
  | .ListComp .. => true
  | .SetComp .. => true
  | .DictComp .. => true
  | _ => false
/-- a comprehension's value goes straight into the name, or it doesn't -/
def lcIn (S : Sc) (y : Str) (py : Pos) (scope : Scope) (pos : Pos) : Bool :=
  decide (S.sc.names.lookup y = some .local) && (py.line == pos.line) && !(scope.names.any fun (n, k) => n == y && (k == .local || k == .cell))
def setC (N : List Str) (S : Sc) (fe : Md → Expr → Option Ex) (ow : List Nat) (y : Str) (e : Expr) : Option (List Stm) :=
  gd (locC S y) ((slotIn N y).bind fun i => (fe .s e).bind fun ir => some (fzs ow (vsE ir) ++ [if freshE ir = true then .own i ir else .set (.n i) ir]))
def mutC (N : List Str) (S : Sc) (fe : Md → Expr → Option Ex) (ow : List Nat) (y attr : Str) (apos cpos : Pos) (e : Expr) : Option (List Stm) :=
  gd (visC S y && plainN y && (apos.endLine == cpos.line) && notStar e) ((slotIn N y).bind fun i => (fe .s e).bind fun ir =>
    if attr = ("append" : Str) then some (fzs ow (vsE ir) ++ [.app i ir]) else if attr = ("extend" : Str) then some (fzs ow (vsE ir) ++ [.ext i ir]) else none)
def cSs1 (f : Stmt → Option (List Stm)) : List Stmt → Option (List Stm)
  | [] => some []
  | s :: ss => (f s).bind fun a => (cSs1 f ss).bind fun b => some (a ++ b)
def cSt (g : Gc) (S : Sc) (fe : Md → Expr → Option Ex) (ow : List Nat) : Nat → Stmt → Option (List Stm)
  | 0, _ => none
  | n + 1, s => match s with
    | .Return (some e) _ => (fe .s e).bind fun ir => some (fzs ow (vsE ir) ++ [.ret ir])
    | .Pass _ => some []
    | .Expr (.Constant (.str _) _ _) _ => some []
    | .Expr (.Call (.Attribute (.Name y _) attr apos) [e] [] cpos) _ => mutC g.N S fe ow y attr apos cpos e
    | .Assign [.Name y _] e _ => setC g.N S fe ow y e
    | .Assign [.Tuple es _ _] e _ => gd (!isTupE e) ((cNs g.N S es).bind fun is => (fe .s e).bind fun ir => some (fzs ow (vsE ir) ++ [.set (.t is) ir]))
    | .Assign [.Subscript (.Name y _) x _] e _ => gd (visC S y && plainN y) ((slotIn g.N y).bind fun i => (fe .s x).bind fun ix => (fe .s e).bind fun ir => some (fzs ow (vsE ix ++ vsE ir) ++ [.put i ix ir]))
    | .If c a b _ => (fe .t c).bind fun ic => (cSs1 (cSt g S fe ow n) a).bind fun a' => (cSs1 (cSt g S fe ow n) b).bind fun b' => some (fzs ow (vsE ic) ++ [.ite ic a' b'])
    | .For tg iter body [] _ => gd (!isSet iter) ((tgC g.N S tg).bind fun t => (srcC (fe .s) S tg iter).bind fun q => (cSs1 (cSt g S fe ow n) body).bind fun b => some (fzs ow (vsEs q.2) ++ [.loop t q.1 q.2 b]))
    | .Raise (some (.Call (.Name x _) [.Constant (.str _) _ _] [] _)) none _ => gd (gImp S x && !(x == ("__debug__" : Str))) ((g.excs.lookup x).bind fun c => some [.raise c])
    | .While c body [] _ => (fe .t c).bind fun ic => (cSs1 (cSt g S fe ow n) body).bind fun b => some [.while ic b]
    | _ => none
section
variable {C : Nat → List D → Res D}
theorem Fl.next_nx (r : Fl) : (r.next .nx) = r := by cases r <;> rfl
theorem evalSs_app : ∀ (a b : List Stm) (ρ : Env), evalSs C (a ++ b) ρ = (evalSs C a ρ).next fun ρ' => evalSs C b ρ'
  | [], b, ρ => by simp [evalSs, Fl.next]
  | s :: a, b, ρ => by
    simp only [List.cons_append, evalSs]
    cases evalS C s ρ with
    | nx ρ' => exact evalSs_app a b ρ'
    | rt d => rfl
    | ex c => rfl
    | bad => rfl
theorem evalSs_one (s : Stm) : evalSs C [s] = evalS C s := by
  funext ρ
  simp only [evalSs]
  exact Fl.next_nx _
variable {X : Cx} {E : Nat → Hp → Prop}
theorem psd_eq {s : Stmt} {f f' : Env → Fl} (h : PSd X E s f) (e : f = f') : PSd X E s f' := by rw [← e]; exact h
theorem sd_fzs {s : Stmt} {st : Stm} (ow is : List Nat) (h : PSd X E s (evalS C st)) : PSd X E s (evalSs C (fzs ow is ++ [st])) := by
  unfold fzs
  split
  · rw [List.nil_append, evalSs_one]; exact h
  · rename_i js _
    have e : evalSs C ([Stm.fz (uniq (is.filter fun i => ow.contains i))] ++ [st]) = fun ρ => evalS C st (freezes ρ (uniq (is.filter fun i => ow.contains i))) := by
      funext ρ
      rw [List.cons_append, List.nil_append, evalSs, evalS]
      show evalSs C [st] _ = _
      rw [evalSs_one]
    rw [e]
    exact sd_fz1 _ h
end
section
variable {g : Gc} {S : Sc} {T : Nat → Option Fn} {m : Nat} {cls : Nat → Value} {EX : XK} {X : Cx}
theorem swaps_none {e : Expr} (h : isLc e = false) (t : Option Expr) (l : Nat) (env : PySem.Env) : swapsWith e t l env = pure false := by
  cases e <;> first | rfl | (cases h; done)
theorem swaps_tup (e : Expr) (es : List Expr) (k : Nat) (p : Pos) (l : Nat) (env : PySem.Env) : swapsWith e (some (.Tuple es k p)) l env = pure false := by
  cases e <;> rfl
theorem swaps_sub (e x i : Expr) (p : Pos) (l : Nat) (env : PySem.Env) : swapsWith e (some (.Subscript x i p)) l env = pure false := by
  cases e <;> rfl
theorem stores_none {es : List Expr} {k : Nat} {p : Pos} {e : Expr} (h : isTupE e = false) (env : PySem.Env) : swappedStores [.Tuple es k p] e env = pure none := by
  cases e <;> first | rfl | (cases h; done)
theorem swaps_lc {S : Sc} {y : Str} {py : Pos} {elt : Expr} {cs : List Comprehension} {scope : Scope} {pos : Pos} {l : Nat} {env : PySem.Env} (hk : env.scope.kind = .function) (hs : env.scope = S.sc) (h : lcIn S y py scope pos = false) :
    swapsWith (.ListComp elt cs scope pos) (some (.Name y py)) l env = pure false := by
  unfold swapsWith
  have hb : env.blockKind = .function := by unfold PySem.Env.blockKind; rw [hk]; rfl
  have hk' : env.kindOf y = S.sc.names.lookup y := by unfold PySem.Env.kindOf; rw [hs]
  have h' : (env.blockKind == .function && env.kindOf y == some .local && py.line == (Expr.ListComp elt cs scope pos).pos.line && !(scope.names.any fun (n, k) => n == y && (k == .local || k == .cell))) = false := by
    rw [hb, hk']
    unfold lcIn at h
    have e1 : (S.sc.names.lookup y == some NameKind.local) = decide (S.sc.names.lookup y = some .local) := by
      cases q : S.sc.names.lookup y with
      | none => rfl
      | some k => cases k <;> decide
    rw [e1]
    show ((true && decide (S.sc.names.lookup y = some .local)) && py.line == pos.line && _) = false
    rw [Bool.true_and]
    exact h
  show (pure (env.blockKind == .function && env.kindOf y == some .local && py.line == (Expr.ListComp elt cs scope pos).pos.line && !(scope.names.any fun (n, k) => n == y && (k == .local || k == .cell))) : Sem Bool) = pure false
  rw [h']
theorem loc_ok (ok : Cok g S T m cls EX X) {y : Str} (h : locC S y = true) : L2.Loc X.env.scope y ∧ (X.fn y = true ∨ X.env.scope.names.lookup y = some .local) := by
  unfold locC at h
  simp only [Bool.or_eq_true, Bool.and_eq_true, decide_eq_true_eq] at h
  unfold L2.Loc
  rw [ok.sc, ok.fn]
  rcases h with h | h
  · exact ⟨.inl h, .inr h⟩
  · exact ⟨.inr h.1, .inl h.2⟩
/-- name = e, in either way -/
theorem ps_setD (ok : Cok g S T m cls EX X) (hk : X.env.scope.kind = .function) {n : Nat} {y : Str} {i : Nat} {py pos : Pos} {e : Expr} {ir : Ex} (hl : locC S y = true) (hi : slotIn g.N y = some i) (he : cX g n S .s e = some ir) :
    PS X (.Assign [.Name y py] e pos) (tAsg (tS X.K (callF T m) (Ecl cls EX) ir) (gName i)) := by
  obtain ⟨l1, l2⟩ := loc_ok ok hl
  have hN := slot_ok ok hi
  have plain : ∀ (hs : swapsWith e (some (.Name y py)) pos.line X.env = pure false), PS X (.Assign [.Name y py] e pos) (tAsg (tS X.K (callF T m) (Ecl cls EX) ir) (gName i)) := fun hs => ps_set ok.nd hN l1 (cX_ok n S .s e ir EX X ok he) hs l2
  cases hc : isLc e with
  | false => exact plain (swaps_none hc _ _ _)
  | true =>
    cases e <;> first | (cases hc; done) | skip
    case ListComp elt cs scope pos2 =>
      cases hin : lcIn S y py scope pos2 with
      | false => exact plain (swaps_lc hk ok.sc hin)
      | true =>
        cases n with
        | zero => cases he
        | succ n =>
          have h : cComp g (cX g n) S elt scope cs = some ir := he
          unfold cComp at h
          split at h
          · rename_i tg iter ifs asy
            simp only [gd_some, Option.bind_eq_some_iff, Bool.and_eq_true, decide_eq_true_eq, Bool.not_eq_true'] at h
            obtain ⟨⟨⟨rfl, hblk⟩, hset⟩, t, ht, hall, q, hq, cs', hcs, ie, hie, e⟩ := h
            cases e
            have hf := cX_ok (g := g) (T := T) (m := m) (cls := cls) n
            have hblk' : BlkOk X.N X.env.scope scope (ownOf g.N scope) := by
              rw [ok.hN, ok.sc]
              exact blkOk_by hblk
            have hsrc : PIs false X (callF T m) (Ecl cls EX) tg iter q.1 q.2 := src_ok (st := false) (C := callF T m) (E := Ecl cls EX) ok (fun e i z => show PEb X (callF T m) (Ecl cls EX) e i from hf S .b e i EX X ok z) hq
            have htt : ∀ (s : Shared) (H : Hp) (Ca : Addr) (cl : List (Str × Addr)) (fp : List Addr), PTs (X.blk s H scope (compEnvC scope cl Ca X.env) fp) ifs (tAll X.K (callF T m) (Ecl cls fun _ _ _ => False) cs') := fun s H Ca cl fp => by
              split at hcs
              · cases hcs; exact pts_all0
              · simp only [Option.bind_eq_some_iff] at hcs
                obtain ⟨ic, hic, e⟩ := hcs
                cases e
                exact pts_all1 (hf _ .t _ _ _ _ (ok_blk ok) hic)
              · cases hcs
            have htg : ∀ (s : Shared) (H : Hp) (Ca : Addr) (cl : List (Str × Addr)) (fp : List Addr), PG (X.blk s H scope (compEnvC scope cl Ca X.env) fp) tg (gD X.K t) := fun s H Ca cl fp => tg_ok (X := X.blk s H scope (compEnvC scope cl Ca X.env) fp) (ok_blk ok) ht
            have hel : ∀ (s : Shared) (H : Hp) (Ca : Addr) (cl : List (Str × Addr)) (fp : List Addr), PE (X.blk s H scope (compEnvC scope cl Ca X.env) fp) elt (tS X.K (callF T m) (Ecl cls fun _ _ _ => False) ie) := fun s H Ca cl fp => hf _ .s _ _ _ (X.blk s H scope (compEnvC scope cl Ca X.env) fp) (ok_blk ok) hie
            unfold lcIn at hin
            simp only [Bool.and_eq_true, decide_eq_true_eq, Bool.not_eq_true'] at hin
            have hyl : X.env.scope.names.lookup y = some .local := by rw [ok.sc]; exact hin.1.1
            refine ps_imp (ps_setLc ok.calm ok.nd hN hyl (sw_true hk hyl hin.1.2 hin.2) hsrc hblk' htg htt hel (notSet_fold hset _)) fun D σ H w => ?_
            exact comp_ok (fun i hi => by
              have := List.all_eq_true.mp hall i hi
              exact of_decide_eq_true this) w
          · cases h
    all_goals (cases n with
      | zero => cases he
      | succ n => cases he)
/-- raise X('..') -/
theorem sd_raise (ok : Cok g S T m cls EX X) {C : Nat → List D → Res D} {x msg : Str} {c j : Nat} {p p2 pos pos2 : Pos} (hg : S.sc.names.lookup x = some .globalImplicit) (hd : (x == ("__debug__" : Str)) = false) (hc : (x, c) ∈ g.excs) :
    PSd X (Ecl cls EX) (.Raise (some (.Call (.Name x p) [.Constant (.str msg) j p2] [] pos)) none pos2) (evalS C (.raise c)) := by
  obtain ⟨A, h1, h2, h3, h4, h5, h6⟩ := (ok.w.exc _ hc).ex
  refine ps_imp (ps_raise ok.calm ok.takes (pmk_own PySem.F.excBase_ValueError h6 h2 h3 (raises_own h4 h5) (kind_of ok hg) hd)) fun D σ H ⟨B, ρ, bM, st, q⟩ => ?_
  simp only [evalS] at q
  obtain ⟨O, st⟩ := st
  have q : EX (cls c) none H := q H st.kp
  show EX (.ref A) none H
  rw [← h1]
  exact q
/-- what stands around a body -/
structure Bok (g : Gc) (S : Sc) (T : Nat → Option Fn) (m : Nat) (cls : Nat → Value) (EX : XK) (X : Cx) : Prop where
  ok : Cok g S T m cls EX X
  kind : X.env.scope.kind = .function
  own : PassesOwn (model X.prog X.w) X.A X.env X.xe
theorem ss1_ok {f : Stmt → Option (List Stm)} {C : Nat → List D → Res D} {E : Nat → Hp → Prop} (h : ∀ s a, f s = some a → PSd X E s (evalSs C a)) : ∀ {ss : List Stmt} {a : List Stm}, cSs1 f ss = some a → PSsd X E ss (evalSs C a)
  | [], _, e => by cases e; exact sd_nil
  | s :: ss, _, e => by
    simp only [cSs1, Option.bind_eq_some_iff] at e
    obtain ⟨a, h1, b, h2, e⟩ := e
    cases e
    have := sd_cons (h s a h1) (ss1_ok h h2)
    have e : evalSs C (a ++ b) = fun ρ => (evalSs C a ρ).next (evalSs C b) := by
      funext ρ
      exact evalSs_app a b ρ
    rw [e]
    exact this
theorem cSt_ok (B : Bok g S T m cls EX X) {ne : Nat} {ow : List Nat} : ∀ (n : Nat) (s : Stmt) (a : List Stm), cSt g S (cX g ne S) ow n s = some a → PSd X (Ecl cls EX) s (evalSs (callF T m) a) := by
  have ok := B.ok
  have hs : ∀ e i, cX g ne S .s e = some i → PEs X (callF T m) (Ecl cls EX) e i := fun e i q => cX_ok ne S .s e i EX X ok q
  have ht : ∀ e i, cX g ne S .t e = some i → PTs' X (callF T m) (Ecl cls EX) e i := fun e i q => cX_ok ne S .t e i EX X ok q
  intro n
  induction n with
  | zero => intro s a h; cases h
  | succ n ih =>
    intro s a h
    unfold cSt at h
    split at h
    · -- return
      simp only [Option.bind_eq_some_iff] at h
      obtain ⟨ir, hi, e⟩ := h
      cases e
      exact sd_fzs _ _ (sd_ret (hs _ _ hi))
    · cases h; exact sd_pass
    · cases h; exact sd_doc
    · -- append, extend
      rename_i y p attr apos e cpos pos
      unfold mutC at h
      simp only [gd_some, Option.bind_eq_some_iff, Bool.and_eq_true] at h
      obtain ⟨⟨⟨⟨hv, hp⟩, hl⟩, hn⟩, i, hi, ir, hir, h⟩ := h
      obtain ⟨q1, q2, _⟩ := plainN_ok hp
      split at h
      · rename_i ea
        subst ea
        cases h
        exact sd_fzs _ _ (sd_app (slot_ok ok hi) (visC_ok ok hv) q1 q2 hl hn (hs _ _ hir))
      · split at h
        · rename_i ea
          subst ea
          cases h
          exact sd_fzs _ _ (sd_ext (slot_ok ok hi) (visC_ok ok hv) q1 q2 hl hn (hs _ _ hir))
        · cases h
    · -- name = e
      rename_i y py e pos
      unfold setC at h
      simp only [gd_some, Option.bind_eq_some_iff] at h
      obtain ⟨hl, i, hi, ir, hir, e⟩ := h
      cases e
      refine sd_fzs _ _ ?_
      have ps := ps_setD (pos := pos) (py := py) ok B.kind hl hi hir
      cases hf : freshE ir with
      | true =>
        rw [if_pos rfl]
        exact sd_own ps hf
      | false =>
        rw [if_neg (by decide)]
        refine sd_set (t := .n i) (ps_imp ps fun D σ H w => ?_)
        exact (show tS X.K (callF T m) (Ecl cls EX) ir σ H _ from by
          obtain ⟨O, ρ, so, q⟩ := w
          refine ⟨O, ρ, so, q.mono fun v H1 s1 ⟨O2, ρ2, d, ρ', so2, r2, e2, k2⟩ => ?_⟩
          cases e2
          exact k2 _ (so2.setV i r2) (fun vs hv => wipe_set (hv i (by simp [tgIx]))) (.setV _ _ _ _ _))
    · -- a, b = e
      rename_i es k p e pos
      simp only [gd_some, Option.bind_eq_some_iff, Bool.not_eq_true'] at h
      obtain ⟨htu, is, his, ir, hir, e⟩ := h
      cases e
      refine sd_fzs _ _ (sd_set (t := .t is) ?_)
      exact ps_asg (hs _ _ hir) (pg_many ok.calm ok.nd (names_ok ok his)) (show swapsWithSole [.Tuple es k p] e pos.line X.env = pure false from swaps_tup e es k p pos.line X.env) (stores_none htu _) rfl
    · -- y[x] = e
      simp only [gd_some, Option.bind_eq_some_iff, Bool.and_eq_true] at h
      obtain ⟨⟨hv, hp⟩, i, hi, ix, hix, ir, hir, e⟩ := h
      cases e
      obtain ⟨q1, q2, _⟩ := plainN_ok hp
      exact sd_fzs _ _ (sd_put (hu1 ok) (slot_ok ok hi) (visC_ok ok hv) q1 q2 (swaps_sub _ _ _ _ _ _) (hs _ _ hix) (hs _ _ hir))
    · -- if
      simp only [Option.bind_eq_some_iff] at h
      obtain ⟨ic, hc, a', ha, b', hb, e⟩ := h
      cases e
      refine sd_fzs _ _ ?_
      refine psd_eq (sd_if (E := Ecl cls EX) (ht _ _ hc) (ss1_ok (ih · ·) ha) (ss1_ok (ih · ·) hb)) ?_
      funext ρ
      simp only [evalS]
    · -- for
      simp only [gd_some, Option.bind_eq_some_iff, Bool.not_eq_true'] at h
      obtain ⟨hset, t, htg, q, hq, b, hb, e⟩ := h
      cases e
      refine sd_fzs _ _ ?_
      have hsrc := src_ok (st := true) (C := callF T m) (E := Ecl cls EX) ok (fun e i z => PEs.m (hs e i z)) hq
      refine psd_eq (sd_for (E := Ecl cls EX) B.own ok.calm hsrc (tg_ok ok htg) (ss1_ok (ih · ·) hb) (notSet_fold hset _)) ?_
      funext ρ
      simp only [evalS]
    · -- raise
      rename_i x p m j p2 pos2 pos3
      simp only [gd_some, Option.bind_eq_some_iff, Bool.and_eq_true, Bool.not_eq_true'] at h
      obtain ⟨⟨hg, hd⟩, c, hc, e⟩ := h
      cases e
      rw [evalSs_one]
      exact sd_raise ok (gImp_ok hg) hd (lookup_mem hc)
    · -- while
      simp only [Option.bind_eq_some_iff] at h
      obtain ⟨ic, hc, b, hb, e⟩ := h
      cases e
      rw [evalSs_one]
      refine psd_eq (sd_while (E := Ecl cls EX) B.own (ht _ _ hc) (ss1_ok (ih · ·) hb)) ?_
      funext ρ
      simp only [evalS]
    · cases h
end
end BP
/-! Defs; the whole module; the law. -/
namespace BP
open PySem PySem.Spec PyProof.Rows L2

/-! the slots that a body owns -/
mutual
def owS : Stm → List Nat
  | .own i _ => [i]
  | .ite _ a b => owSs a ++ owSs b
  | .loop _ _ _ b => owSs b
  | .while _ b => owSs b
  | _ => []
def owSs : List Stm → List Nat
  | [] => []
  | s :: ss => owS s ++ owSs ss
end
/-- a def's scope, looked at -/
def scOk (N ps : List Str) (sc : Scope) : Bool :=
  decide (sc.kind = .function) && (!sc.isCoroutine && (!sc.isGenerator && (decide N.Nodup && (decide (N.take ps.length = ps) && ((ps.all fun x => decide (sc.names.lookup x = some .local) || decide (sc.names.lookup x = some .cell)) && sc.names.all fun y => !decide (y.2 = .free))))))
theorem scope_of {N ps : List Str} {sc : Scope} (h : scOk N ps sc = true) : FnScope N ps sc := by
  unfold scOk at h
  simp only [Bool.and_eq_true, Bool.not_eq_true', decide_eq_true_eq, List.all_eq_true, Bool.or_eq_true, decide_eq_false_iff_not] at h
  exact ⟨h.1, h.2.1, h.2.2.1, h.2.2.2.1, h.2.2.2.2.1, h.2.2.2.2.2.1, h.2.2.2.2.2.2⟩
def topSc (sc : Scope) : Sc := ⟨sc, fun _ => true⟩
def cFn (g : Gc) (np : Nat) (st : Stmt) : Option Fn :=
  (cSs1 (cSt g (topSc (defScope st)) (cX g 40 (topSc (defScope st))) [] 30) (defBody st)).bind fun b0 =>
    (cSs1 (cSt g (topSc (defScope st)) (cX g 40 (topSc (defScope st))) (uniq (owSs b0)) 30) (defBody st)).bind fun b => some ⟨np, g.N.length, b⟩
section
variable {T : Nat → Option Fn} {cls : Nat → Value} {P : Program} {w : World} {K : PySem.W.Frag} {mg : Str → Option Value} {base : Heap}
theorem start_ok {H : Hp} {O : Addr → Prop} {N : List Str} {vs : List V} {ds : List D} {fn : Fn} (dm : Dom O H) (rs : Reps K O H vs ds) (hn : fn.ns = N.length) : Sok K O (start N vs) (startR fn ds) H := by
  have hl := rs.length
  have key : ∀ (i : Nat) (s : Slot), s ≠ .non → (startR fn ds)[i]? = some s → ∃ d, s = .val d ∧ ds[i]? = some d := fun i s hs e => by
    unfold startR at e
    by_cases hi : i < ds.length
    · rw [List.getElem?_append_left (by simpa using hi), List.getElem?_map] at e
      obtain ⟨d, h1, h2⟩ := Option.map_eq_some_iff.mp e
      exact ⟨d, h2.symm, h1⟩
    · rw [List.getElem?_append_right (by simpa using hi)] at e
      have := List.getElem?_eq_some_iff.mp e
      obtain ⟨_, h⟩ := this
      rw [List.getElem_replicate] at h
      exact absurd h.symm hs
  refine ⟨?_, fun i d e => ?_, fun i d e => ?_, fun i j d e a e1 e2 e3 e4 => ?_, dm⟩
  · unfold L2.start startR
    simp [hn, hl]
  · obtain ⟨d', e1, e2⟩ := key i _ (by intro z; cases z) e
    cases e1
    obtain ⟨v, h1, h2⟩ := rs.get e2
    refine ⟨v, ?_, h2⟩
    unfold L2.start
    have hi := (List.getElem?_eq_some_iff.mp h1).1
    rw [List.getElem?_append_left (by simpa using hi), List.getElem?_map, h1]
    rfl
  · obtain ⟨d', e1, e2⟩ := key i _ (by intro z; cases z) e
    cases e1
  · obtain ⟨d', q1, q2⟩ := key i _ (by intro z; cases z) e1
    cases q1
/-- a def, by what it compiles to -/
theorem fn_ok {g : Gc} {n id : Nat} {x : Str} {st : Stmt} {f : Addr} {fd : FuncData} {ps : List Str} {fn : Fn} (W : Wok g T n cls P w K mg base) (F : Fun K x x st f fd) (S : FnScope g.N ps (defScope st)) (hc : cFn g ps.length st = some fn) (hT : T id = some fn) :
    FnOk P w K mg base (L2.CX P w) (n + 1) f fd ps (spF T K cls (n + 1) id) := by
  unfold cFn at hc
  simp only [Option.bind_eq_some_iff] at hc
  obtain ⟨b0, h0, b, hb, e⟩ := hc
  cases e
  have hrun : ∀ ds, callF T (n + 1) id ds = runFn (callF T n) ⟨ps.length, g.N.length, b⟩ ds := fun ds => by rw [callF, hT]
  refine F.okX S (fun vs H Q E h => ?_) (fun cdv A outer s H vs Q E hr h => ?_)
  · obtain ⟨O, ds, dm, rs, q⟩ := h
    rw [hrun, runFn] at q
    split at q
    · rename_i hl; rw [rs.length]; exact hl
    · exact False.elim q
  · obtain ⟨O, ds, dm, rs, q⟩ := h
    rw [hrun, runFn] at q
    split at q
    · rename_i hl
      let X := cxOf (L2.CX P w) P w K mg base g.N x (defScope st) f cdv A outer s H E
      have cok : Cok g (topSc (defScope st)) T n cls E X := ⟨⟨W.blt, W.con, W.fns, W.exc⟩, rfl, rfl, S.nd, rfl, rfl, hr, takes_of rfl rfl rfl rfl⟩
      have B : Bok g (topSc (defScope st)) T n cls E X := ⟨cok, S.kind, passes_of rfl⟩
      refine ⟨_, ss1_ok (fun s a z => cSt_ok B 30 s a z) hb, ⟨fun _ => False, O, O, H⟩, startR ⟨ps.length, g.N.length, b⟩ ds, fun _ z => z.elim, ⟨O, start_ok dm rs rfl, fun _ z => z, fun _ z => .inl z, fun b o _ e => e, fun i d a e e' => ?_⟩, ?_⟩
      · obtain ⟨a', e1, _⟩ := (start_ok (fn := ⟨ps.length, g.N.length, b⟩) dm rs rfl).own i d e
        exfalso
        unfold startR at e
        by_cases hi : i < ds.length
        · rw [List.getElem?_append_left (by simpa using hi), List.getElem?_map] at e
          obtain ⟨d, h1, h2⟩ := Option.map_eq_some_iff.mp e
          cases h2
        · rw [List.getElem?_append_right (by simpa using hi)] at e
          obtain ⟨_, h⟩ := List.getElem?_eq_some_iff.mp e
          rw [List.getElem_replicate] at h
          cases h
      · cases he : evalSs (callF T n) b (startR ⟨ps.length, g.N.length, b⟩ ds) with
        | nx ρ' =>
          rw [he] at q
          exact fun σ' H' ⟨O', st'⟩ => q .non H' (fun b o e => st'.kp b o (fun z => z) e) .non fun z => nomatch z
        | rt d =>
          rw [he] at q
          exact fun v H' k r => q v H' (fun b o e => k b o (fun z => z) e) r fun z => nomatch z
        | ex c =>
          rw [he] at q
          exact fun H' k => q H' fun b o e => k b o (fun z => z) e
        | bad => rw [he] at q; exact q
    · exact False.elim q
/-- what stands fast of a def of the module -/
structure SFn (g : Gc) (T : Nat → Option Fn) (K : PySem.W.Frag) (mg : Str → Option Value) (x : Str) (id : Nat) : Prop where
  ex : ∃ (a : Addr) (fd : FuncData) (ps : List Str) (st : Stmt) (N : List Str) (fn : Fn), mg x = some (.ref a) ∧ PySem.W.keepIn K (.ref a) = true ∧ L2.Binds K fd ps [] ∧ Fun K x x st a fd ∧ scOk N ps (defScope st) = true ∧ cFn { g with N := N } ps.length st = some fn ∧ T id = some fn
theorem wok_all {g : Gc} (blt : ∀ x ∈ bltNames, mg x = none) (con : ∀ p ∈ g.consts, ∃ v u, mg p.1 = some u ∧ RelV v u ∧ ∀ O H, Rep K O H v p.2) (fns : ∀ p ∈ g.fns, SFn g T K mg p.1 p.2) (exc : ∀ p ∈ g.excs, ExcOk K mg p.1 (cls p.2)) : ∀ n, Wok g T n cls P w K mg base
  | 0 => ⟨blt, con, fun p hp => by
      obtain ⟨a, fd, ps, st, N, fn, h1, h2, h3, h4, h5, h6, h7⟩ := (fns p hp).ex
      exact ⟨a, fd, ps, h1, h2, h3, fun vs H Q E ⟨O, ds, dm, rs, q⟩ => False.elim q, fun A outer s H args us vs Q E hr he hb hv ⟨O, ds, dm, rs, q⟩ => False.elim q⟩, exc⟩
  | n + 1 => ⟨blt, con, fun p hp => by
      obtain ⟨a, fd, ps, st, N, fn, h1, h2, h3, h4, h5, h6, h7⟩ := (fns p hp).ex
      have W := wok_all blt con fns exc n
      exact ⟨a, fd, ps, h1, h2, h3, fn_ok (g := { g with N := N }) ⟨W.blt, W.con, W.fns, W.exc⟩ h4 (scope_of h5) h6 h7⟩, exc⟩
theorem law_sp {n id : Nat} {H : Hp} {a : Addr} {ns : List Int} (hS : SqL K H a (ns.map V.int)) (h : callF T n id [.list (ns.map .int)] = .ok (.bool true)) :
    spF T K cls n id [.ref a] H (fun v _ => v = .bl true) fun _ _ _ => False := by
  refine ⟨fun _ => False, [.list (ns.map .int)], fun _ z => z.elim, .cons (.lst (hS.elim (fun z => .inl ⟨fun q => q, z⟩) .inr) (Reps.of_ints ns)) .nil, ?_⟩
  rw [h]
  exact fun v H' _ r _ => by cases r; rfl
theorem cx_none {w : World} {P : Program} (H : Hp) (s : Shared) (e : Value) (s' : Shared) (h : L2.CX P w [] H s (fun _ _ _ => False) e s') : False := by
  obtain ⟨_, _, _, _, _, _, _, _, _, _, _, _, z⟩ := h
  exact z
end
end BP
/-! What a law's end is made of. -/
namespace BP
open PySem PySem.Spec PyProof.Rows L2
/-- the exception classes, by number -/
def excNm : Nat → Str
  | 0 => "RowError"
  | 1 => "NoBox"
  | 2 => "NoPair"
  | _ => "NoText"
def clsOf (K : PySem.W.Frag) (c : Nat) : Value := match PySem.W.nsIn K mainGlobals (excNm c) with
  | some (some v) => v
  | _ => .none
/-- what the law's call is worth -/
abbrev spC (T : Nat → Option Fn) (K : PySem.W.Frag) (n f : Nat) : Sp := spF T K (clsOf K) n f
section
variable {g : Gc} {T : Nat → Option Fn} {K : PySem.W.Frag} {h : Heap} {mg : Str → Option Value}
theorem sfn_mk {x : Str} {id : Nat} {f : Addr} {st : Stmt} {N ps : List Str} {fn : Fn} {oc kV doc pm cdv ct : Value} {od an : Option Addr} {osl : Array (Option Value)} (X : K.In h) (G : h.Ns mainGlobals mg)
    (a : PySem.W.nsIn K mainGlobals x = some (some (.ref f))) (l : K.lookup f = some ⟨oc, od, .func (PySem.W.fnOf x x (defArgs st) (defBody st) (defScope st) .none kV doc pm an cdv ct), osl⟩) (c : PySem.W.codeIn K cdv x = true) (k : PySem.W.keepIn K (.ref f) = true)
    (hb : ∀ (kV doc pm : Value) (an : Option Addr) (cdv ct : Value) (us : List Value), us.length = ps.length → bindArgs (PySem.W.fnOf x x (defArgs st) (defBody st) (defScope st) .none kV doc pm an cdv ct) ⟨us, []⟩ = pure (ps.zip us))
    (hs : scOk N ps (defScope st) = true) (hc : cFn { g with N := N } ps.length st = some fn) (hT : T id = some fn) : SFn g T K mg x id :=
  ⟨f, _, ps, st, N, fn, PySem.W.mg_of X G a, k, (fun_mk l c k).binds hb, fun_mk l c k, hs, hc, hT⟩
theorem law_mk {P : Program} {w : World} {x : Str} {id n : Nat} {f fa : Addr} {st : Stmt} {N ps : List Str} {fn : Fn} {oc kV doc pm cdv ct : Value} {od an : Option Addr} {osl : Array (Option Value)} (X : K.In h) (G : h.Ns mainGlobals mg) (hfa : mg x = some (.ref fa))
    (a : PySem.W.nsIn K mainGlobals x = some (some (.ref f))) (l : K.lookup f = some ⟨oc, od, .func (PySem.W.fnOf x x (defArgs st) (defBody st) (defScope st) .none kV doc pm an cdv ct), osl⟩) (c : PySem.W.codeIn K cdv x = true) (k : PySem.W.keepIn K (.ref f) = true)
    (hb : ∀ (s : Shared) (u : Value), BindsTo s (PySem.W.fnOf x x (defArgs st) (defBody st) (defScope st) .none kV doc pm an cdv ct) ⟨[u], []⟩ (ps.zip [u]))
    (hs : scOk N ps (defScope st) = true) (hc : cFn { g with N := N } ps.length st = some fn) (hT : T id = some fn)
    (blt : ∀ x ∈ bltNames, mg x = none) (con : ∀ p ∈ g.consts, ∃ v u, mg p.1 = some u ∧ RelV v u ∧ ∀ O H, Rep K O H v p.2) (fns : ∀ p ∈ g.fns, SFn g T K mg p.1 p.2) (exc : ∀ p ∈ g.excs, ExcOk K mg p.1 (clsOf K p.2)) :
    ∃ fd : FuncData, (∀ (s : Shared) (u : Value), BindsTo s fd ⟨[u], []⟩ (ps.zip [u])) ∧ ∀ base : Heap, K.In base → base.Ns mainGlobals mg → FnOk P w K mg base (L2.CX P w) (n + 1) fa fd ps (spF T K (clsOf K) (n + 1) id) := by
  have e := hfa.symm.trans (PySem.W.mg_of X G a)
  cases e
  refine ⟨_, hb, fun base _ _ => ?_⟩
  have W : Wok g T n (clsOf K) P w K mg base := wok_all blt con fns exc n
  exact fn_ok (g := { g with N := N }) ⟨W.blt, W.con, W.fns, W.exc⟩ (fun_mk l c k) (scope_of hs) hc hT
theorem blt_mk (X : K.In h) (G : h.Ns mainGlobals mg) (hs : ∀ x ∈ bltNames, PySem.W.nsIn K mainGlobals x = some none) : ∀ x ∈ bltNames, mg x = none := fun x hx => PySem.W.mg_none_of X G (hs x hx)
theorem exc_mk (X : K.In h) (G : h.Ns mainGlobals mg) {x : Str} {c : Nat} {C : Addr} (hx : excNm c = x) (a : PySem.W.nsIn K mainGlobals x = some (some (.ref C))) (k : PySem.W.keepIn K (.ref C) = true) (b : PySem.W.subIn K (.ref C) (.type "BaseException") = some true)
    (t : PySem.W.typeIn K (.ref C) = some (.type "type")) (e : PySem.W.excIn K C [.type "ValueError", .type "Exception", .type "BaseException", .type "object"] "ValueError.__new__" = true) : ExcOk K mg x (clsOf K c) :=
  ⟨C, by unfold clsOf; rw [hx, a], PySem.W.mg_of X G a, k, b, t, e⟩
theorem con_int (X : K.In h) (G : h.Ns mainGlobals mg) {x : Str} {i : Int} {t : Tok} (a : PySem.W.nsIn K mainGlobals x = some (some (.int i t))) : ∃ v u, mg x = some u ∧ RelV v u ∧ ∀ O H, Rep K O H v (.int i) := ⟨.int i, _, PySem.W.mg_of X G a, ⟨t, rfl⟩, fun _ _ => .int i⟩
theorem con_str (X : K.In h) (G : h.Ns mainGlobals mg) {x : Str} {i : Str} {t : Tok} (a : PySem.W.nsIn K mainGlobals x = some (some (.str i t))) : ∃ v u, mg x = some u ∧ RelV v u ∧ ∀ O H, Rep K O H v (.str i) := ⟨.str i, _, PySem.W.mg_of X G a, ⟨t, rfl⟩, fun _ _ => .str i⟩
end
end BP
/-! Plain words on what terms are worth. -/
namespace BP
open PySem

/-! ### data that may be compared, and are small -/
mutual
def smD : Nat → D → Bool
  | _, .none => true
  | _, .bool _ => true
  | _, .int _ => true
  | _, .str x => PyData.canLay0 (.str x)
  | 0, .list _ => false
  | 0, .tuple _ => false
  | k + 1, .list xs => decide (xs.length ≤ 100) && smL k xs
  | k + 1, .tuple xs => decide (xs.length ≤ 100) && smL k xs
  | _, .dict _ => false
def smL : Nat → List D → Bool
  | _, [] => true
  | k, x :: xs => smD k x && smL k xs
end
theorem smL_iff {k : Nat} : ∀ {xs : List D}, smL k xs = true ↔ ∀ x ∈ xs, smD k x = true
  | [] => by simp [smL]
  | x :: xs => by
    rw [smL, Bool.and_eq_true, smL_iff]
    simp
theorem smD_tuple {k : Nat} {xs : List D} : smD (k + 1) (.tuple xs) = true ↔ xs.length ≤ 100 ∧ ∀ x ∈ xs, smD k x = true := by
  rw [smD, Bool.and_eq_true, decide_eq_true_eq, smL_iff]
theorem smD_list {k : Nat} {xs : List D} : smD (k + 1) (.list xs) = true ↔ xs.length ≤ 100 ∧ ∀ x ∈ xs, smD k x = true := by
  rw [smD, Bool.and_eq_true, decide_eq_true_eq, smL_iff]
mutual
theorem smD_lay : ∀ (k : Nat) (d : D), smD k d = true → d.canLay0 = true ∧ d.depth ≤ k
  | k, .none, _ => ⟨by simp [PyData.canLay0], by simp [PyData.depth]⟩
  | k, .bool _, _ => ⟨by simp [PyData.canLay0], by simp [PyData.depth]⟩
  | k, .int _, _ => ⟨by simp [PyData.canLay0], by simp [PyData.depth]⟩
  | k, .str x, h => ⟨by simpa [smD] using h, by simp [PyData.depth]⟩
  | 0, .list _, h => by simp [smD] at h
  | 0, .tuple _, h => by simp [smD] at h
  | k + 1, .list xs, h => by
    rw [smD, Bool.and_eq_true] at h
    obtain ⟨h1, h2⟩ := smL_lay k xs h.2
    exact ⟨by simpa [PyData.canLay0] using h1, by simp only [PyData.depth]; omega⟩
  | k + 1, .tuple xs, h => by
    rw [smD, Bool.and_eq_true] at h
    obtain ⟨h1, h2⟩ := smL_lay k xs h.2
    exact ⟨by simpa [PyData.canLay0] using h1, by simp only [PyData.depth]; omega⟩
  | k, .dict _, h => by cases k <;> simp [smD] at h
theorem smL_lay : ∀ (k : Nat) (ds : List D), smL k ds = true → PyData.canLayAll0 ds = true ∧ PyData.depthAll ds ≤ k
  | k, [], _ => ⟨by simp [PyData.canLayAll0], by simp [PyData.depthAll]⟩
  | k, d :: ds, h => by
    rw [smL, Bool.and_eq_true] at h
    obtain ⟨h1, h2⟩ := smD_lay k d h.1
    obtain ⟨h3, h4⟩ := smL_lay k ds h.2
    exact ⟨by simp [PyData.canLayAll0, h1, h3], by simp only [PyData.depthAll]; omega⟩
end
theorem smD_shaped {k : Nat} {d : D} (h : smD k d = true) (hk : k ≤ 64) : SeqAt.shaped d = true := by
  obtain ⟨h1, h2⟩ := smD_lay k d h
  unfold SeqAt.shaped
  rw [h1, Bool.true_and, decide_eq_true_eq]
  omega
mutual
theorem smD_mono {k l : Nat} (h : k ≤ l) : ∀ {d : D}, smD k d = true → smD l d = true
  | .none, _ => by cases l <;> rfl
  | .bool _, _ => by cases l <;> rfl
  | .int _, _ => by cases l <;> rfl
  | .str x, q => by cases k <;> cases l <;> exact q
  | .list xs, q => by
    cases k with
    | zero => simp [smD] at q
    | succ k =>
      obtain ⟨l, rfl⟩ : ∃ m, l = m + 1 := ⟨l - 1, by omega⟩
      rw [smD, Bool.and_eq_true] at q ⊢
      exact ⟨q.1, smL_mono (by omega) q.2⟩
  | .tuple xs, q => by
    cases k with
    | zero => simp [smD] at q
    | succ k =>
      obtain ⟨l, rfl⟩ : ∃ m, l = m + 1 := ⟨l - 1, by omega⟩
      rw [smD, Bool.and_eq_true] at q ⊢
      exact ⟨q.1, smL_mono (by omega) q.2⟩
  | .dict _, q => by cases k <;> simp [smD] at q
theorem smL_mono {k l : Nat} (h : k ≤ l) : ∀ {d : List D}, smL k d = true → smL l d = true
  | [], _ => rfl
  | d :: ds, q => by
    rw [smL, Bool.and_eq_true] at q ⊢
    exact ⟨smD_mono h q.1, smL_mono h q.2⟩
end
theorem shaped_list_of {xs : List D} (h : ∀ x ∈ xs, smD 60 x = true) (hl : xs.length ≤ 100) : SeqAt.shaped (.list xs) = true := smD_shaped (k := 61) (smD_list.mpr ⟨hl, h⟩) (by decide)
theorem shaped_int (i : Int) : SeqAt.shaped (.int i) = true := smD_shaped (k := 0) rfl (by decide)
theorem shaped_bool (i : Bool) : SeqAt.shaped (.bool i) = true := smD_shaped (k := 0) rfl (by decide)
theorem shaped_nil : SeqAt.shaped (.list []) = true := smD_shaped (k := 1) rfl (by decide)
theorem shaped_nilT : SeqAt.shaped (.tuple []) = true := smD_shaped (k := 1) rfl (by decide)
theorem shaped_none : SeqAt.shaped .none = true := smD_shaped (k := 1) rfl (by decide)
theorem smL_ints (k : Nat) : ∀ ns : List Int, smL k (ns.map PyData.int) = true
  | [] => rfl
  | n :: ns => by rw [List.map_cons, smL, smL_ints k ns]; cases k <;> rfl

/-! ### ints, rows of ints -/
abbrev tpI (ns : List Int) : D := .tuple (ns.map PyData.int)
abbrev tpR (rs : List (List Int)) : D := .tuple (rs.map tpI)
theorem eqvAll_ints' : ∀ ns ms : List Int, PyData.eqvAll (ns.map PyData.int) (ms.map PyData.int) = decide (ns = ms)
  | [], [] => rfl
  | [], m :: ms => rfl
  | n :: ns, [] => rfl
  | n :: ns, m :: ms => by
    simp only [List.map_cons, PyData.eqvAll, PyData.eqv, eqvAll_ints' ns ms]
    by_cases h1 : n = m
    · subst h1; simp
    · have : (n == m) = false := beq_eq_false_iff_ne.mpr h1
      simp [this, h1]
theorem eqv_tpI (ns ms : List Int) : PyData.eqv (tpI ns) (tpI ms) = decide (ns = ms) := by
  simp only [PyData.eqv]
  exact eqvAll_ints' ns ms
theorem eqv_lI (ns ms : List Int) : PyData.eqv (.list (ns.map PyData.int)) (.list (ms.map PyData.int)) = decide (ns = ms) := by
  simp only [PyData.eqv]
  exact eqvAll_ints' ns ms
theorem eqvAll_rows : ∀ rs ss : List (List Int), PyData.eqvAll (rs.map tpI) (ss.map tpI) = decide (rs = ss)
  | [], [] => rfl
  | [], m :: ms => rfl
  | n :: ns, [] => rfl
  | n :: ns, m :: ms => by
    rw [List.map_cons, List.map_cons, PyData.eqvAll, eqv_tpI, eqvAll_rows ns ms]
    by_cases h1 : n = m <;> simp [h1]
theorem eqv_tpR (rs ss : List (List Int)) : PyData.eqv (tpR rs) (tpR ss) = decide (rs = ss) := by
  simp only [PyData.eqv]
  exact eqvAll_rows rs ss
theorem smD_tpI {k : Nat} {ns : List Int} (h : ns.length ≤ 100) : smD (k + 1) (tpI ns) = true := by
  rw [smD, Bool.and_eq_true, decide_eq_true_eq, List.length_map]
  exact ⟨h, smL_ints k ns⟩
theorem smD_tpR {k : Nat} {rs : List (List Int)} (h : rs.length ≤ 100) (h2 : ∀ r ∈ rs, r.length ≤ 100) : smD (k + 2) (tpR rs) = true := by
  rw [smD_tuple, List.length_map]
  refine ⟨h, fun x hx => ?_⟩
  obtain ⟨r, hr, rfl⟩ := List.mem_map.mp hx
  exact smD_tpI (h2 r hr)
theorem eqv_nil_l (xs : List D) : PyData.eqv (.list xs) (.list []) = xs.isEmpty := by
  cases xs <;> rfl
theorem eqv_nil_t (xs : List D) : PyData.eqv (.tuple xs) (.tuple []) = xs.isEmpty := by
  cases xs <;> rfl

/-! ### comprehensions -/
theorem compL_map {turn : D → Res (Option D)} {f : D → D} : ∀ {xs : List D}, (∀ x ∈ xs, turn x = .ok (some (f x))) → compL turn xs = .ok (xs.map f)
  | [], _ => rfl
  | x :: xs, h => by
    rw [compL, h x List.mem_cons_self, Res.bind_ok, compL_map fun y hy => h y (List.mem_cons_of_mem _ hy)]
    rfl
theorem compL_filter {turn : D → Res (Option D)} {f : D → D} {p : D → Bool} : ∀ {xs : List D}, (∀ x ∈ xs, turn x = .ok (if p x = true then some (f x) else none)) → compL turn xs = .ok ((xs.filter p).map f)
  | [], _ => rfl
  | x :: xs, h => by
    rw [compL, h x List.mem_cons_self, Res.bind_ok, compL_filter fun y hy => h y (List.mem_cons_of_mem _ hy), Res.bind_ok]
    cases hp : p x <;> simp [hp]
variable {C : Nat → List D → Res D}
/-- one turn of a comprehension -/
def turnX (C : Nat → List D → Res D) (e : Ex) (own : List Nat) (t : Tg) (conds : List Ex) (ρ : Env) : D → Res (Option D) := fun d => match bindT (wipeR ρ own) t d with
  | some ρ' => (evalAll C conds ρ').bind fun ok => if ok = true then (evalE C e ρ').bind fun y => .ok (some y) else .ok none
  | none => .bad
theorem ev_comp {e : Ex} {own : List Nat} {t : Tg} {sk : Sk} {src conds : List Ex} {ρ : Env} {items r : List D} (hs : (evalEs C src ρ).bind (evalSrc sk) = .ok items) (hz : items.length ≤ 1000000)
    (hr : compL (turnX C e own t conds ρ) items = .ok r) : evalE C (.comp e own t sk src conds) ρ = .ok (.list r) := by
  rw [evalE]
  cases h1 : evalEs C src ρ with
  | exc c => rw [h1] at hs; cases hs
  | bad => rw [h1] at hs; cases hs
  | ok ds =>
    rw [h1] at hs
    have hs : evalSrc sk ds = .ok items := hs
    rw [Res.bind_ok, hs, Res.bind_ok]
    show (noExc (compL (turnX C e own t conds ρ) items)).bind (fun r => if items.length ≤ sizeLine then (.ok (.list r) : Res D) else .bad) = _
    rw [hr]
    show (if items.length ≤ sizeLine then (.ok (.list r) : Res D) else .bad) = _
    rw [if_pos (by rw [sizeLine_eq]; omega)]
theorem all_bools (xs : List Bool) : allD (.list (xs.map PyData.bool)) = .ok (.bool (xs.all id)) := by
  have : boolsOf (xs.map PyData.bool) = some xs := by
    induction xs with
    | nil => rfl
    | cons x xs ih => simp [boolsOf, ih]
  simp [allD, listOf, okO, this]
theorem any_bools (xs : List Bool) : anyD (.list (xs.map PyData.bool)) = .ok (.bool (xs.any id)) := by
  have : boolsOf (xs.map PyData.bool) = some xs := by
    induction xs with
    | nil => rfl
    | cons x xs ih => simp [boolsOf, ih]
  simp [anyD, listOf, okO, this]
theorem intsOf_map (ns : List Int) : intsOf (ns.map PyData.int) = some ns := by
  induction ns with
  | nil => rfl
  | cons x xs ih => simp [intsOf, ih]
theorem all_map_bool {α : Type} (xs : List α) (p : α → Bool) : allD (.list (xs.map fun x => PyData.bool (p x))) = .ok (.bool (xs.all p)) := by
  have := all_bools (xs.map p)
  rw [List.map_map] at this
  simp only [List.all_map] at this
  exact this
theorem any_map_bool {α : Type} (xs : List α) (p : α → Bool) : anyD (.list (xs.map fun x => PyData.bool (p x))) = .ok (.bool (xs.any p)) := by
  have := any_bools (xs.map p)
  rw [List.map_map] at this
  simp only [List.any_map] at this
  exact this
theorem sum_tpI (ns : List Int) : sumD (tpI ns) = .ok (.int ns.sum) := by simp [sumD, itemsOf, okO, intsOf_map]
theorem sum_lI (ns : List Int) : sumD (.list (ns.map PyData.int)) = .ok (.int ns.sum) := by simp [sumD, itemsOf, okO, intsOf_map]
theorem sorted_tpI (ns : List Int) : sortedD (tpI ns) = .ok (.list ((sortI ns).map .int)) := by
  have e : (itemsOf (tpI ns)).bind intsOf = some ns := intsOf_map ns
  unfold sortedD
  rw [e]
theorem sorted_lI (ns : List Int) : sortedD (.list (ns.map .int)) = .ok (.list ((sortI ns).map .int)) := by
  have e : (itemsOf (.list (ns.map .int))).bind intsOf = some ns := intsOf_map ns
  unfold sortedD
  rw [e]
end BP
/-! Plain words: cuts, pairs, items, small numbers. -/
namespace BP
open PySem
theorem sIx_i (n d : Nat) (i : Int) (h0 : 0 ≤ i) : HT.sIx n d (some i) = min i.toNat n := by
  obtain ⟨k, rfl⟩ : ∃ k : Nat, i = k := ⟨i.toNat, by omega⟩
  rw [HT.sIx_nat]; simp
theorem cut_init {α : Type} (xs : List α) : cutD xs none (some (-1)) = xs.dropLast := by
  unfold cutD
  rw [HT.sIx_none]
  have : HT.sIx xs.length xs.length (some (-1)) = xs.length - 1 := by
    unfold HT.sIx
    simp
    omega
  rw [this, List.dropLast_eq_take]
  simp
theorem cut_from {α : Type} (xs : List α) (i : Nat) : cutD xs (some (i : Int)) none = xs.drop i := by
  unfold cutD
  rw [HT.sIx_none, HT.sIx_nat]
  by_cases h : i ≤ xs.length
  · rw [Nat.min_eq_left h]
    exact List.take_of_length_le (by simp)
  · rw [Nat.min_eq_right (by omega), List.drop_of_length_le (Nat.le_refl _), List.drop_of_length_le (by omega)]
    simp
theorem cut_tail {α : Type} (xs : List α) : cutD xs (some 1) none = xs.drop 1 := cut_from xs 1
theorem cut_to {α : Type} (xs : List α) (i : Nat) : cutD xs none (some (i : Int)) = xs.take i := by
  unfold cutD
  rw [HT.sIx_none, HT.sIx_nat]
  by_cases h : i ≤ xs.length
  · rw [Nat.min_eq_left h]; simp
  · rw [Nat.min_eq_right (by omega)]
    simp
    rw [List.take_of_length_le (by omega)]
theorem cut_last {α : Type} (xs : List α) : cutD xs (some (-1)) none = xs.drop (xs.length - 1) := by
  unfold cutD
  rw [HT.sIx_none]
  have : HT.sIx xs.length 0 (some (-1)) = xs.length - 1 := by
    unfold HT.sIx
    simp
    omega
  rw [this]
  exact List.take_of_length_le (by simp)
def adj {α : Type} : List α → List (α × α)
  | x :: y :: r => (x, y) :: adj (y :: r)
  | _ => []
theorem zip_adj {α : Type} : ∀ xs : List α, xs.dropLast.zip (xs.drop 1) = adj xs
  | [] => rfl
  | [_] => rfl
  | x :: y :: r => by
    have := zip_adj (y :: r)
    simp only [List.dropLast_cons_cons, List.drop_succ_cons, List.drop_zero, List.zip_cons_cons, adj] at this ⊢
    rw [this]
theorem zip2D_map {α β : Type} (f : α → D) (g : β → D) : ∀ (xs : List α) (ys : List β), zip2D (xs.map f) (ys.map g) = (xs.zip ys).map fun p => PyData.tuple [f p.1, g p.2]
  | [], ys => by simp [zip2D]
  | x :: xs, [] => by simp [zip2D]
  | x :: xs, y :: ys => by simp [zip2D, zip2D_map f g xs ys]
theorem zip2D_eq (xs ys : List D) : zip2D xs ys = (xs.zip ys).map fun p => PyData.tuple [p.1, p.2] := by
  have := zip2D_map id id xs ys
  simpa using this
theorem enumD_map {α : Type} (f : α → D) : ∀ (k : Nat) (xs : List α), enumD k (xs.map f) = (xs.zipIdx k).map fun p => PyData.tuple [.int (p.2 : Nat), f p.1]
  | _, [] => rfl
  | k, x :: xs => by simp [enumD, enumD_map f (k + 1) xs]
theorem atI_of {α : Type} {xs : List α} {i : Nat} (h : i < xs.length) : L2.atI xs (i : Int) = some xs[i] := L2.atI_nat (List.getElem?_eq_getElem h)
theorem atI_int {α : Type} {xs : List α} {i : Int} (h0 : 0 ≤ i) (h : i < xs.length) : ∃ x, L2.atI xs i = some x ∧ x ∈ xs := by
  obtain ⟨k, rfl⟩ : ∃ k : Nat, i = k := ⟨i.toNat, by omega⟩
  exact ⟨xs[k]'(by omega), atI_of (by omega), List.getElem_mem _⟩
theorem small_lt {i : Int} (h : -(2 ^ 64) < i) (h' : i < 2 ^ 64) : smallI i = true := by
  unfold smallI
  rw [Bool.and_eq_true, decide_eq_true_eq, decide_eq_true_eq]
  exact ⟨h, h'⟩
theorem bnd_of {i : Int} (h : -(2 ^ 62) ≤ i) (h' : i < 2 ^ 62) : bnd i = true := by
  unfold bnd
  rw [Bool.and_eq_true, decide_eq_true_eq, decide_eq_true_eq]
  exact ⟨h, h'⟩
theorem rangeL_nat (k : Nat) : rangeL 0 (k : Int) = (List.range k).map fun i => PyData.int (i : Nat) := by
  unfold rangeL
  simp
theorem line_le {n : Nat} (h : n ≤ 1000000) : n ≤ sizeLine := by rw [sizeLine_eq]; omega
theorem line_lt {n : Nat} (h : n ≤ 1000000) : n < sizeLine := by rw [sizeLine_eq]; omega
end BP
/-! Steps of the small language, as equations. -/
namespace BP
open PySem
variable {C : Nat → List D → Res D} {ρ : Env}
theorem bnd_ok {α β : Type} (a : α) (f : α → Res β) : (Res.ok a).bind f = f a := Eq.trans rfl rfl
theorem ev_k {d : D} : evalE C (.k d) ρ = .ok d := by rw [evalE]
theorem ev_v {i : Nat} : evalE C (.v i) ρ = getV ρ i := by rw [evalE]
theorem ev_b {i : Nat} : evalE C (.b i) ρ = getB ρ i := by rw [evalE]
theorem gv_val {i : Nat} {d : D} (h : ρ[i]? = some (.val d)) : getV ρ i = .ok d := by unfold getV; rw [h]
theorem gb_val {i : Nat} {d : D} (h : ρ[i]? = some (.val d)) : getB ρ i = .ok d := by unfold getB; rw [h]
theorem gb_own {i : Nat} {d : D} (h : ρ[i]? = some (.own d)) : getB ρ i = .ok d := by unfold getB; rw [h]
def mkT (ds : List D) : Res D := if ds.length ≤ sizeLine then .ok (.tuple ds) else .bad
def mkL (ds : List D) : Res D := if ds.length ≤ sizeLine then .ok (.list ds) else .bad
theorem mkT_ok {ds : List D} (h : ds.length ≤ 1000000) : mkT ds = .ok (.tuple ds) := by unfold mkT; rw [if_pos (line_le h)]
theorem mkL_ok {ds : List D} (h : ds.length ≤ 1000000) : mkL ds = .ok (.list ds) := by unfold mkL; rw [if_pos (line_le h)]
theorem mkL_nil : mkL [] = .ok (.list []) := mkL_ok (Nat.zero_le _)
theorem mkT_nil : mkT [] = .ok (.tuple []) := mkT_ok (Nat.zero_le _)
theorem mkT_1 {a : D} : mkT [a] = .ok (.tuple [a]) := mkT_ok (by rw [List.length_cons, List.length_nil]; omega)
theorem mkT_2 {a b : D} : mkT [a, b] = .ok (.tuple [a, b]) := mkT_ok (by simp only [List.length_cons, List.length_nil]; omega)
theorem mkT_3 {a b c : D} : mkT [a, b, c] = .ok (.tuple [a, b, c]) := mkT_ok (by simp only [List.length_cons, List.length_nil]; omega)
theorem mkT_4 {a b c d : D} : mkT [a, b, c, d] = .ok (.tuple [a, b, c, d]) := mkT_ok (by simp only [List.length_cons, List.length_nil]; omega)
theorem mkL_6 {a b c d e f : D} : mkL [a, b, c, d, e, f] = .ok (.list [a, b, c, d, e, f]) := mkL_ok (by simp only [List.length_cons, List.length_nil]; omega)
theorem ev_tup {es : List Ex} : evalE C (.tup es) ρ = (evalEs C es ρ).bind mkT := by rw [evalE]; rfl
theorem ev_lst {es : List Ex} : evalE C (.lst es) ρ = (evalEs C es ρ).bind mkL := by rw [evalE]; rfl
theorem ev_bin {o : Bop} {x y : Ex} : evalE C (.bin o x y) ρ = (evalE C x ρ).bind fun a => (evalE C y ρ).bind fun b => evalBin o a b := by rw [evalE]
theorem ev_cmp {o : Cop} {x y : Ex} : evalE C (.cmp o x y) ρ = (evalE C x ρ).bind fun a => (evalE C y ρ).bind fun b => evalCmp o a b := by rw [evalE]
theorem ev_chain {o o' : Cop} {x y z : Ex} : evalE C (.chain o o' x y z) ρ = (evalE C x ρ).bind fun a => (evalE C y ρ).bind fun b => (evalCmp o a b).bind fun r => (asBool r).bind fun t =>
    if t = true then (evalE C z ρ).bind fun c => evalCmp o' b c else .ok (.bool false) := by rw [evalE]
theorem ev_neg1 {i : Int} : evalE C (.neg (.k (.int i))) ρ = .ok (.int (-i)) := by rw [evalE, evalE]; rfl
theorem ev_not {x : Ex} : evalE C (.not x) ρ = (evalE C x ρ).bind fun a => (asBool a).bind fun t => .ok (.bool (!t)) := by rw [evalE]
theorem ev_and {x y : Ex} : evalE C (.and x y) ρ = (evalE C x ρ).bind fun a => (asBool a).bind fun t => if t = true then evalE C y ρ else .ok (.bool false) := by rw [evalE]
theorem ev_or {x y : Ex} : evalE C (.or x y) ρ = (evalE C x ρ).bind fun a => (asBool a).bind fun t => if t = true then .ok (.bool true) else evalE C y ρ := by rw [evalE]
theorem ev_ife {c x y : Ex} : evalE C (.ife c x y) ρ = (evalE C c ρ).bind fun a => (asBool a).bind fun t => if t = true then evalE C x ρ else evalE C y ρ := by rw [evalE]
theorem ev_call {f : Nat} {es : List Ex} : evalE C (.call f es) ρ = (evalEs C es ρ).bind fun ds => C f ds := by rw [evalE]
theorem ev_bt {f : Bt} {es : List Ex} : evalE C (.bt f es) ρ = (evalEs C es ρ).bind fun ds => evalBt f ds := by rw [evalE]
theorem ev_ix {x i : Ex} : evalE C (.ix x i) ρ = (evalE C x ρ).bind fun a => (evalE C i ρ).bind fun b => evalIx a b := by rw [evalE]
theorem ev_sl {x : Ex} {lo hi : List Ex} : evalE C (.sl x lo hi) ρ = (evalE C x ρ).bind fun a => ((evalEs C lo ρ).bind partL).bind fun l => ((evalEs C hi ρ).bind partL).bind fun h => evalSl a l h := by rw [evalE]
theorem ev_rev {x : Ex} : evalE C (.rev x) ρ = (evalE C x ρ).bind evalRev := by rw [evalE]
theorem ev_dict0 : evalE C .dict0 ρ = .ok (.dict []) := by rw [evalE]
theorem evs_nil : evalEs C [] ρ = .ok [] := by rw [evalEs]
theorem evs_cons {e : Ex} {es : List Ex} : evalEs C (e :: es) ρ = (evalE C e ρ).bind fun d => (evalEs C es ρ).bind fun ds => .ok (d :: ds) := by rw [evalEs]
theorem eva_nil : evalAll C [] ρ = .ok true := by rw [evalAll]
theorem eva_cons {e : Ex} {es : List Ex} : evalAll C (e :: es) ρ = (evalE C e ρ).bind fun d => (asBool d).bind fun t => if t = true then evalAll C es ρ else .ok false := by rw [evalAll]
theorem asB {b : Bool} : asBool (.bool b) = .ok b := Eq.trans rfl rfl
theorem pl_nil : partL [] = .ok none := Eq.trans rfl rfl
theorem pl_int {i : Int} : partL [.int i] = .ok (some i) := Eq.trans rfl rfl
theorem sl_t {xs : List D} {l h : Option Int} : evalSl (.tuple xs) l h = .ok (.tuple (cutD xs l h)) := Eq.trans rfl rfl
theorem sl_l {xs : List D} {l h : Option Int} : evalSl (.list xs) l h = .ok (.list (cutD xs l h)) := Eq.trans rfl rfl
theorem rv_t {xs : List D} : evalRev (.tuple xs) = .ok (.tuple xs.reverse) := Eq.trans rfl rfl
theorem rv_l {xs : List D} : evalRev (.list xs) = .ok (.list xs.reverse) := Eq.trans rfl rfl
theorem b_add {i j : Int} : evalBin .add (.int i) (.int j) = .ok (.int (i + j)) := Eq.trans rfl rfl
theorem b_sub {i j : Int} : evalBin .sub (.int i) (.int j) = .ok (.int (i - j)) := Eq.trans rfl rfl
theorem b_mul {i j : Int} (h : smallI i = true ∨ smallI j = true) : evalBin .mul (.int i) (.int j) = .ok (.int (i * j)) := by
  simp only [evalBin, Bool.or_eq_true]
  rw [if_pos h]
theorem b_fdiv {i j : Int} (h : 0 < j) (h' : j < 1073741824) : evalBin .fdiv (.int i) (.int j) = .ok (.int (i / j)) := by
  simp only [evalBin]
  rw [if_pos ⟨h, h'⟩]
theorem b_mod {i j : Int} (h : 0 < j) : evalBin .mod (.int i) (.int j) = .ok (.int (i % j)) := by
  simp only [evalBin]
  rw [if_pos h]
theorem b_catT {xs ys : List D} (h : xs.length + ys.length ≤ 1000000) : evalBin .add (.tuple xs) (.tuple ys) = .ok (.tuple (xs ++ ys)) := by
  simp only [evalBin]
  rw [if_pos (line_le h)]
theorem b_catL {xs ys : List D} (h : xs.length + ys.length ≤ 1000000) : evalBin .add (.list xs) (.list ys) = .ok (.list (xs ++ ys)) := by
  simp only [evalBin]
  rw [if_pos (line_le h)]
theorem b_mulT {xs : List D} {k : Int} (h : -(2 ^ 63) ≤ k ∧ k ≤ 1000 ∧ xs.length ≤ 1000) : evalBin .mul (.tuple xs) (.int k) = .ok (.tuple (repL k xs)) := by
  simp only [evalBin]
  rw [if_pos h]
theorem b_mulL {xs : List D} {k : Int} (h : -(2 ^ 63) ≤ k ∧ k ≤ 1000 ∧ xs.length ≤ 1000) : evalBin .mul (.list xs) (.int k) = .ok (.list (repL k xs)) := by
  simp only [evalBin]
  rw [if_pos h]
theorem c_eq {x y : D} (h : SeqAt.shaped x = true) (h' : SeqAt.shaped y = true) : evalCmp .eq x y = .ok (.bool (PyData.eqv x y)) := by
  have e : evalCmp .eq x y = if SeqAt.shaped x = true ∧ SeqAt.shaped y = true then .ok (.bool (PyData.eqv x y)) else .bad := by cases x <;> rfl
  rw [e, if_pos ⟨h, h'⟩]
theorem c_ne {x y : D} (h : SeqAt.shaped x = true) (h' : SeqAt.shaped y = true) : evalCmp .ne x y = .ok (.bool (!PyData.eqv x y)) := by
  have e : evalCmp .ne x y = if SeqAt.shaped x = true ∧ SeqAt.shaped y = true then .ok (.bool (!PyData.eqv x y)) else .bad := by cases x <;> rfl
  rw [e, if_pos ⟨h, h'⟩]
theorem c_lt {i j : Int} : evalCmp .lt (.int i) (.int j) = .ok (.bool (decide (i < j))) := Eq.trans rfl rfl
theorem c_le {i j : Int} : evalCmp .le (.int i) (.int j) = .ok (.bool (decide (i ≤ j))) := Eq.trans rfl rfl
theorem c_gt {i j : Int} : evalCmp .gt (.int i) (.int j) = .ok (.bool (decide (j < i))) := Eq.trans rfl rfl
theorem c_ge {i j : Int} : evalCmp .ge (.int i) (.int j) = .ok (.bool (decide (j ≤ i))) := Eq.trans rfl rfl
theorem c_eqI {i j : Int} : evalCmp .eq (.int i) (.int j) = .ok (.bool (decide (i = j))) := by
  rw [c_eq (shaped_int i) (shaped_int j)]
  simp only [PyData.eqv]
  congr 2
theorem c_neI {i j : Int} : evalCmp .ne (.int i) (.int j) = .ok (.bool (!decide (i = j))) := by
  rw [c_ne (shaped_int i) (shaped_int j)]
  simp only [PyData.eqv]
  congr 2
theorem c_neB {i j : Bool} : evalCmp .ne (.bool i) (.bool j) = .ok (.bool (i != j)) := by
  rw [c_ne (shaped_bool i) (shaped_bool j)]
  simp only [PyData.eqv]
  rfl
theorem c_isN {x : D} : evalCmp .isN x .none = .ok (.bool (isNoneD x)) := by cases x <;> rfl
theorem c_notN {x : D} : evalCmp .notN x .none = .ok (.bool (!isNoneD x)) := by cases x <;> rfl
theorem c_isB {x y : Bool} : evalCmp .isB (.bool x) (.bool y) = .ok (.bool (decide (x = y))) := Eq.trans rfl rfl
theorem c_notB {x y : Bool} : evalCmp .notB (.bool x) (.bool y) = .ok (.bool (!decide (x = y))) := Eq.trans rfl rfl
theorem t_len {xs : List D} : evalBt .len [.tuple xs] = .ok (.int xs.length) := Eq.trans rfl rfl
theorem t_lenL {xs : List D} : evalBt .len [.list xs] = .ok (.int xs.length) := Eq.trans rfl rfl
theorem t_tup {xs : List D} : evalBt .tuple [.list xs] = .ok (.tuple xs) := Eq.trans rfl rfl
theorem t_tupT {xs : List D} : evalBt .tuple [.tuple xs] = .ok (.tuple xs) := Eq.trans rfl rfl
theorem t_lst {xs : List D} : evalBt .list [.tuple xs] = .ok (.list xs) := Eq.trans rfl rfl
theorem t_lstL {xs : List D} : evalBt .list [.list xs] = .ok (.list xs) := Eq.trans rfl rfl
theorem t_sum {d : D} : evalBt .sum [d] = sumD d := Eq.trans rfl rfl
theorem t_all {d : D} : evalBt .all [d] = allD d := Eq.trans rfl rfl
theorem t_any {d : D} : evalBt .any [d] = anyD d := Eq.trans rfl rfl
theorem t_sorted {d : D} : evalBt .sorted [d] = sortedD d := Eq.trans rfl rfl
theorem t_isT {d : D} : evalBt .isTuple [d] = .ok (.bool (isTupleD d)) := Eq.trans rfl rfl
theorem t_isI {d : D} : evalBt .isInt [d] = .ok (.bool (isIntD d)) := Eq.trans rfl rfl
theorem t_isB {d : D} : evalBt .isBool [d] = .ok (.bool (isBoolD d)) := Eq.trans rfl rfl
theorem t_isS {d : D} : evalBt .isStr [d] = .ok (.bool (isStrD d)) := Eq.trans rfl rfl
theorem t_max {i j : Int} : evalBt .max2 [.int i, .int j] = .ok (.int (if j > i then j else i)) := Eq.trans rfl rfl
theorem t_min {i j : Int} : evalBt .min2 [.int i, .int j] = .ok (.int (if j < i then j else i)) := Eq.trans rfl rfl
theorem t_int {i : Int} : evalBt .toInt [.int i] = .ok (.int i) := Eq.trans rfl rfl
theorem t_intB {b : Bool} : evalBt .toInt [.bool b] = .ok (.int (if b then 1 else 0)) := Eq.trans rfl rfl
theorem t_lr1 {j : Int} (h : 0 ≤ j) (h' : j ≤ 1000000) : evalBt .listRange1 [.int j] = .ok (.list (rangeL 0 j)) := by
  show (if rgOk 0 j = true then _ else _) = _
  rw [if_pos]
  unfold rgOk
  rw [bnd_of (by omega) (by omega), bnd_of (by omega) (by omega), Bool.true_and, Bool.true_and, decide_eq_true_eq]
  omega
theorem t_lr2 {i j : Int} (h : -1000000 ≤ i) (h' : j ≤ 1000000) (h2 : i ≤ 1000000) (h3 : -1000000 ≤ j) : evalBt .listRange2 [.int i, .int j] = .ok (.list (rangeL i j)) := by
  show (if rgOk i j = true then _ else _) = _
  rw [if_pos]
  unfold rgOk
  rw [bnd_of (by omega) (by omega), bnd_of (by omega) (by omega), Bool.true_and, Bool.true_and, decide_eq_true_eq]
  omega
theorem ixT {xs : List D} {i : Int} {d : D} (h : L2.atI xs i = some d) : evalIx (.tuple xs) (.int i) = .ok d := by
  simp only [evalIx, h]
theorem ixL {xs : List D} {i : Int} {d : D} (h : L2.atI xs i = some d) : evalIx (.list xs) (.int i) = .ok d := by
  simp only [evalIx, h]
theorem s_seqT {xs : List D} : evalSrc .seq [.tuple xs] = .ok xs := Eq.trans rfl rfl
theorem s_seqL {xs : List D} : evalSrc .seq [.list xs] = .ok xs := Eq.trans rfl rfl
theorem s_rg1 {j : Int} (h : -1000000 ≤ j) (h' : j ≤ 1000000) : evalSrc .range1 [.int j] = .ok (rangeL 0 j) := by
  show (if bnd j = true then _ else _) = _
  rw [if_pos (bnd_of (by omega) (by omega))]
theorem s_rg2 {i j : Int} (h : -1000000 ≤ j) (h' : j ≤ 1000000) (h2 : -1000000 ≤ i) (h3 : i ≤ 1000000) : evalSrc .range2 [.int i, .int j] = .ok (rangeL i j) := by
  show (if bnd i = true ∧ bnd j = true then _ else _) = _
  rw [if_pos ⟨bnd_of (by omega) (by omega), bnd_of (by omega) (by omega)⟩]
theorem s_enT {xs : List D} : evalSrc .enum [.tuple xs] = .ok (enumD 0 xs) := Eq.trans rfl rfl
theorem s_enL {xs : List D} : evalSrc .enum [.list xs] = .ok (enumD 0 xs) := Eq.trans rfl rfl
theorem s_zipT {xs ys : List D} : evalSrc .zip2 [.tuple xs, .tuple ys] = .ok (zip2D xs ys) := Eq.trans rfl rfl
/-! statements -/
theorem ss_nil : evalSs C [] ρ = .nx ρ := by rw [evalSs]
theorem ss_cons {s : Stm} {ss : List Stm} : evalSs C (s :: ss) ρ = (evalS C s ρ).next fun ρ' => evalSs C ss ρ' := by rw [evalSs]
theorem nx_nx {f : Env → Fl} : (Fl.nx ρ).next f = f ρ := Eq.trans rfl rfl
theorem nx_rt {f : Env → Fl} {d : D} : (Fl.rt d).next f = .rt d := Eq.trans rfl rfl
theorem nx_ex {f : Env → Fl} {c : Nat} : (Fl.ex c).next f = .ex c := Eq.trans rfl rfl
theorem fl_ok {α : Type} {f : α → Fl} {a : α} : (Res.ok a).fl f = f a := Eq.trans rfl rfl
def ownS (d : D) : Slot := if ownD d = true then .own d else .val d
theorem ownS_i {i : Int} : ownS (.int i) = .val (.int i) := Eq.trans rfl rfl
theorem ownS_t {i : List D} : ownS (.tuple i) = .val (.tuple i) := Eq.trans rfl rfl
theorem ownS_l {i : List D} : ownS (.list i) = .own (.list i) := Eq.trans rfl rfl
theorem ownS_b {i : Bool} : ownS (.bool i) = .val (.bool i) := Eq.trans rfl rfl
theorem ownS_s {i : Str} : ownS (.str i) = .val (.str i) := Eq.trans rfl rfl
theorem ownS_n : ownS .none = .val .none := Eq.trans rfl rfl
theorem ownS_d {i : List (D × D)} : ownS (.dict i) = .own (.dict i) := Eq.trans rfl rfl
theorem s_fz {is : List Nat} : evalS C (.fz is) ρ = .nx (freezes ρ is) := by rw [evalS]
theorem s_set {i : Nat} {e : Ex} : evalS C (.set (.n i) e) ρ = (evalE C e ρ).fl fun d => .nx (ρ.set i (.val d)) := by rw [evalS]; rfl
theorem s_setT {is : List Nat} {e : Ex} : evalS C (.set (.t is) e) ρ = (evalE C e ρ).fl fun d => optFl (bindT ρ (.t is) d) .nx := by rw [evalS]
theorem s_own {i : Nat} {e : Ex} : evalS C (.own i e) ρ = (evalE C e ρ).fl fun d => .nx (ρ.set i (ownS d)) := by
  rw [evalS]
  congr 1
  funext d
  unfold ownS
  split <;> rfl
theorem s_ite {c : Ex} {a b : List Stm} : evalS C (.ite c a b) ρ = ((evalE C c ρ).bind asBool).fl fun t => if t = true then evalSs C a ρ else evalSs C b ρ := by rw [evalS]
theorem s_ret {e : Ex} : evalS C (.ret e) ρ = (evalE C e ρ).fl .rt := by rw [evalS]
theorem s_loop {t : Tg} {sk : Sk} {src : List Ex} {body : List Stm} : evalS C (.loop t sk src body) ρ = ((evalEs C src ρ).bind (evalSrc sk)).fl fun items => loopL (fun ρ d => optFl (bindT ρ t d) fun ρ' => evalSs C body ρ') items ρ := by rw [evalS]
theorem s_while {c : Ex} {body : List Stm} : evalS C (.while c body) ρ = whileL (evalE C c) (evalSs C body) whileTurns ρ := by rw [evalS]
def resF : Fl → Res D
  | .rt d => .ok d
  | .nx _ => .ok .none
  | .ex c => .exc c
  | .bad => .bad
theorem resF_rt {d : D} : resF (.rt d) = .ok d := Eq.trans rfl rfl
theorem call_eq {T : Nat → Option Fn} {n f : Nat} {fn : Fn} {ds : List D} (h : T f = some fn) (hl : ds.length = fn.np) : callF T (n + 1) f ds = resF (evalSs (callF T n) fn.body (startR fn ds)) := by
  rw [callF, h]
  show runFn _ fn ds = _
  unfold runFn
  rw [if_pos hl]
  cases evalSs (callF T n) fn.body (startR fn ds) <;> rfl
theorem bindT_n {i : Nat} {d : D} : bindT ρ (.n i) d = some (ρ.set i (.val d)) := Eq.trans rfl rfl
theorem bindT_2 {i j : Nat} {a b : D} : bindT ρ (.t [i, j]) (.tuple [a, b]) = some ((ρ.set i (.val a)).set j (.val b)) := Eq.trans rfl rfl
theorem bindT_2l {i j : Nat} {a b : D} : bindT ρ (.t [i, j]) (.list [a, b]) = some ((ρ.set i (.val a)).set j (.val b)) := Eq.trans rfl rfl
theorem bindT_3 {i j k : Nat} {a b c : D} : bindT ρ (.t [i, j, k]) (.tuple [a, b, c]) = some (((ρ.set i (.val a)).set j (.val b)).set k (.val c)) := Eq.trans rfl rfl
theorem optFl_some {α : Type} {a : α} {f : α → Fl} : optFl (some a) f = f a := Eq.trans rfl rfl
theorem turn_eq {e : Ex} {own : List Nat} {t : Tg} {conds : List Ex} {d : D} {ρ' : Env} (h : bindT (wipeR ρ own) t d = some ρ') :
    turnX C e own t conds ρ d = (evalAll C conds ρ').bind fun ok => if ok = true then (evalE C e ρ').bind fun y => .ok (some y) else .ok none := by
  unfold turnX
  rw [h]
theorem loop_nil {turn : Env → D → Fl} : loopL turn [] ρ = .nx ρ := Eq.trans rfl rfl
theorem loop_cons {turn : Env → D → Fl} {x : D} {xs : List D} : loopL turn (x :: xs) ρ = (turn ρ x).next fun ρ' => loopL turn xs ρ' := Eq.trans rfl rfl
def slotB : Option Slot → Res D
  | some (.val d) => .ok d
  | some (.own d) => .ok d
  | _ => .bad
def slotV : Option Slot → Res D
  | some (.val d) => .ok d
  | _ => .bad
theorem gb_eq {i : Nat} : getB ρ i = slotB ρ[i]? := by unfold getB slotB; split <;> simp_all
theorem gv_eq {i : Nat} : getV ρ i = slotV ρ[i]? := by unfold getV slotV; split <;> simp_all
theorem slb_v {d : D} : slotB (some (.val d)) = .ok d := Eq.trans rfl rfl
theorem slb_o {d : D} : slotB (some (.own d)) = .ok d := Eq.trans rfl rfl
theorem slv_v {d : D} : slotV (some (.val d)) = .ok d := Eq.trans rfl rfl
theorem frz_cons {i : Nat} {is : List Nat} : freezes ρ (i :: is) = freezes (freeze ρ i) is := Eq.trans rfl rfl
theorem frz_nil : freezes ρ [] = ρ := Eq.trans rfl rfl
theorem wipe_cons {i : Nat} {is : List Nat} : wipeR ρ (i :: is) = (wipeR ρ is).set i .non := Eq.trans rfl rfl
theorem wipe_nil : wipeR ρ [] = ρ := Eq.trans rfl rfl
end BP
/-! Typed words over the small language: encoders, what a term is worth, as a plain Lean value or an option. -/
namespace BP
open PySem
variable {C : Nat → List D → Res D} {ρ : Env} {α β γ σ τ κ : Type}

/-! ### encoders -/
def eT (en : α → D) (xs : List α) : D := .tuple (xs.map en)
def eL (en : α → D) (xs : List α) : D := .list (xs.map en)
def eP (e : α → D) (f : β → D) (p : α × β) : D := .tuple [e p.1, f p.2]
def eP3 (e : α → D) (f : β → D) (g : γ → D) (p : α × β × γ) : D := .tuple [e p.1, f p.2.1, g p.2.2]
def eO (en : α → D) : Option α → D
  | none => .none
  | some a => en a
def eN (_ : Unit) : D := .none
def eD (d : D) : D := d
def eM (ek : κ → D) (ev : α → D) (kvs : List (κ × α)) : D := .dict (kvs.map fun p => (ek p.1, ev p.2))

/-- equality of data is equality of what they encode; they are flat enough -/
class EqE (en : α → D) [DecidableEq α] (k : outParam Nat) : Prop where
  eqv : ∀ a b, PyData.eqv (en a) (en b) = decide (a = b)
  lay : ∀ a, (en a).canLay0 = true
  dep : ∀ a, (en a).depth ≤ k
theorem EqE.shp {en : α → D} [DecidableEq α] {k : Nat} [h : EqE en k] (hk : k ≤ 60) (a : α) : SeqAt.shaped (en a) = true := by
  have := h.dep a
  unfold SeqAt.shaped
  rw [h.lay a, Bool.true_and, decide_eq_true_eq]
  omega
instance eqE_I : EqE PyData.int 0 where
  eqv a b := by simp only [PyData.eqv]; rfl
  lay a := by simp [PyData.canLay0]
  dep a := by simp [PyData.depth]
instance eqE_B : EqE PyData.bool 0 where
  eqv a b := by simp only [PyData.eqv]; cases a <;> cases b <;> rfl
  lay a := by simp [PyData.canLay0]
  dep a := by simp [PyData.depth]
theorem eqvAll_map {en : α → D} [DecidableEq α] (h : ∀ a b, PyData.eqv (en a) (en b) = decide (a = b)) : ∀ xs ys : List α, PyData.eqvAll (xs.map en) (ys.map en) = decide (xs = ys)
  | [], [] => rfl
  | [], _ :: _ => rfl
  | _ :: _, [] => rfl
  | x :: xs, y :: ys => by
    rw [List.map_cons, List.map_cons, PyData.eqvAll, h x y, eqvAll_map h xs ys]
    by_cases h1 : x = y <;> simp [h1]
theorem layAll_map {en : α → D} (h : ∀ a, (en a).canLay0 = true) : ∀ xs : List α, PyData.canLayAll0 (xs.map en) = true
  | [] => by simp [PyData.canLayAll0]
  | x :: xs => by simp [PyData.canLayAll0, h x, layAll_map h xs]
theorem depAll_map {en : α → D} {k : Nat} (h : ∀ a, (en a).depth ≤ k) : ∀ xs : List α, PyData.depthAll (xs.map en) ≤ k
  | [] => by simp [PyData.depthAll]
  | x :: xs => by
    have := h x
    have := depAll_map h xs
    simp only [List.map_cons, PyData.depthAll]
    omega
instance eqE_T {en : α → D} [DecidableEq α] {k : Nat} [h : EqE en k] : EqE (eT en) (k + 1) where
  eqv a b := by unfold eT; simp only [PyData.eqv]; exact eqvAll_map h.eqv a b
  lay a := by unfold eT; simp only [PyData.canLay0]; exact layAll_map h.lay a
  dep a := by unfold eT; simp only [PyData.depth]; have := depAll_map h.dep a; omega
instance eqE_L {en : α → D} [DecidableEq α] {k : Nat} [h : EqE en k] : EqE (eL en) (k + 1) where
  eqv a b := by unfold eL; simp only [PyData.eqv]; exact eqvAll_map h.eqv a b
  lay a := by unfold eL; simp only [PyData.canLay0]; exact layAll_map h.lay a
  dep a := by unfold eL; simp only [PyData.depth]; have := depAll_map h.dep a; omega
instance eqE_P {e : α → D} {f : β → D} [DecidableEq α] [DecidableEq β] {k l : Nat} [h : EqE e k] [h' : EqE f l] : EqE (eP e f) (k + l + 1) where
  eqv a b := by
    unfold eP
    obtain ⟨a1, a2⟩ := a
    obtain ⟨b1, b2⟩ := b
    simp only [PyData.eqv, PyData.eqvAll, h.eqv, h'.eqv]
    by_cases h1 : a1 = b1 <;> by_cases h2 : a2 = b2 <;> simp [h1, h2]
  lay a := by unfold eP; simp [PyData.canLay0, PyData.canLayAll0, h.lay, h'.lay]
  dep a := by
    unfold eP
    have := h.dep a.1
    have := h'.dep a.2
    simp only [PyData.depth, PyData.depthAll]
    omega
/-- never None -/
class NNE (en : α → D) : Prop where
  nn : ∀ a, isNoneD (en a) = false
instance : NNE PyData.int := ⟨fun _ => rfl⟩
instance : NNE PyData.bool := ⟨fun _ => rfl⟩
instance : NNE PyData.str := ⟨fun _ => rfl⟩
instance {en : α → D} : NNE (eT en) := ⟨fun _ => rfl⟩
instance {en : α → D} : NNE (eL en) := ⟨fun _ => rfl⟩
instance {e : α → D} {f : β → D} : NNE (eP e f) := ⟨fun _ => rfl⟩
theorem eqv_none {d : D} (h : isNoneD d = false) : PyData.eqv d .none = false ∧ PyData.eqv .none d = false := by
  cases d <;> simp_all [isNoneD, PyData.eqv]
instance eqE_O {en : α → D} [DecidableEq α] {k : Nat} [h : EqE en k] [n : NNE en] : EqE (eO en) k where
  eqv a b := by
    cases a <;> cases b <;> simp only [eO]
    · simp [PyData.eqv]
    · rw [(eqv_none (n.nn _)).2]; simp
    · rw [(eqv_none (n.nn _)).1]; simp
    · rw [h.eqv]; simp
  lay a := by
    cases a
    · simp [eO, PyData.canLay0]
    · exact h.lay _
  dep a := by
    cases a
    · simp [eO, PyData.depth]
    · exact h.dep _
/-- keys of dicts -/
class KeyT (ek : κ → D) : Prop where
  key : ∀ a, keyOk (ek a) = true
class KeyE (ek : κ → D) : Prop where
  key : (∀ a, keyOk (ek a) = true) ∨ ∀ a, keyI (ek a) = true
instance : KeyT (eT PyData.int) := ⟨fun a => by unfold keyOk keyOf eT; simp [intsOf_map]⟩
instance : KeyT (eP PyData.int PyData.int) := ⟨fun a => rfl⟩
instance {ek : κ → D} [h : KeyT ek] : KeyE ek := ⟨.inl h.key⟩
instance : KeyE PyData.int := ⟨.inr fun _ => rfl⟩
theorem keysT_map {ek : κ → D} {ev : α → D} (h : ∀ a, keyOk (ek a) = true) (kvs : List (κ × α)) : keysT (kvs.map fun p => (ek p.1, ev p.2)) = true := by
  unfold keysT
  rw [List.all_map, List.all_eq_true]
  exact fun p _ => h p.1
theorem keysI_map {ek : κ → D} {ev : α → D} (h : ∀ a, keyI (ek a) = true) (kvs : List (κ × α)) : keysI (kvs.map fun p => (ek p.1, ev p.2)) = true := by
  unfold keysI
  rw [List.all_map, List.all_eq_true]
  exact fun p _ => h p.1
theorem KeyT.ok {ek : κ → D} [h : KeyT ek] {ev : α → D} (kvs : List (κ × α)) (a : κ) : (keyOk (ek a) && keysT (kvs.map fun p => (ek p.1, ev p.2))) = true := by rw [h.key a, keysT_map h.key]; rfl
theorem KeyE.ok {ek : κ → D} [h : KeyE ek] {ev : α → D} (kvs : List (κ × α)) (a : κ) : keyFor (kvs.map fun p => (ek p.1, ev p.2)) (ek a) = true := by
  unfold keyFor
  rcases h.key with h | h
  · rw [h a, keysT_map h]; rfl
  · rw [h a, keysI_map h]; simp

/-! ### what a term is worth -/
def XE (x : Res D) (en : α → D) (o : Option α) : Prop := ∀ a, o = some a → x = .ok (en a)
def XS (x : Res (List D)) (en : α → D) (o : Option (List α)) : Prop := ∀ a, o = some a → x = .ok (a.map en)
theorem xe_pure {x : Res D} {en : α → D} {v : α} (h : x = .ok (en v)) : XE x en (some v) := fun a e => by cases e; exact h
theorem xe_bind {x y : Res D} {en : α → D} {en1 : β → D} {o1 : Option β} {f : β → Option α} (h : XE y en1 o1) (k : ∀ a, y = .ok (en1 a) → XE x en (f a)) : XE x en (o1.bind f) := by
  intro a e
  cases o1 with
  | none => cases e
  | some b => exact k b (h b rfl) a e
theorem xe_bindS {x : Res D} {y : Res (List D)} {en : α → D} {en1 : β → D} {o1 : Option (List β)} {f : List β → Option α} (h : XS y en1 o1) (k : ∀ a, y = .ok (a.map en1) → XE x en (f a)) : XE x en (o1.bind f) := by
  intro a e
  cases o1 with
  | none => cases e
  | some b => exact k b (h b rfl) a e
theorem xe_bindr {x y : Res D} {en : α → D} {en1 : β → D} {o1 : Option β} {f : β → Option α} (k : ∀ a, y = .ok (en1 a) → XE x en (f a)) (h : XE y en1 o1) : XE x en (o1.bind f) := xe_bind h k
theorem xe_bindSr {x : Res D} {y : Res (List D)} {en : α → D} {en1 : β → D} {o1 : Option (List β)} {f : List β → Option α} (k : ∀ a, y = .ok (a.map en1) → XE x en (f a)) (h : XS y en1 o1) : XE x en (o1.bind f) := xe_bindS h k
theorem xs_bindr {x : Res (List D)} {y : Res D} {en : α → D} {en1 : β → D} {o1 : Option β} {f : β → Option (List α)} (k : ∀ a, y = .ok (en1 a) → XS x en (f a)) (h : XE y en1 o1) : XS x en (o1.bind f) := by
  intro a e
  cases o1 with
  | none => cases e
  | some b => exact k b (h b rfl) a e
theorem xs_bindSr {x : Res (List D)} {y : Res (List D)} {en : α → D} {en1 : β → D} {o1 : Option (List β)} {f : List β → Option (List α)} (k : ∀ a, y = .ok (a.map en1) → XS x en (f a)) (h : XS y en1 o1) : XS x en (o1.bind f) := by
  intro a e
  cases o1 with
  | none => cases e
  | some b => exact k b (h b rfl) a e
theorem xs_pure {x : Res (List D)} {en : α → D} {v : List α} (h : x = .ok (v.map en)) : XS x en (some v) := fun a e => by cases e; exact h
theorem xe_ite {x : Res D} {en : α → D} {b : Bool} {o o' : Option α} (h : b = true → XE x en o) (h' : b = false → XE x en o') : XE x en (if b = true then o else o') := by
  cases b
  · exact h' rfl
  · exact h rfl
theorem XE.eq {x y : Res D} {en : α → D} {o : Option α} (h : XE y en o) (e : x = y) : XE x en o := e ▸ h
theorem XE.oeq {x : Res D} {en : α → D} {o o' : Option α} (h : XE x en o) (e : o' = o) : XE x en o' := e ▸ h

/-! names, constants -/
theorem x_k {d : D} : evalE C (.k d) ρ = .ok d := ev_k
theorem x_v {i : Nat} {d : D} (h : ρ[i]? = some (.val d)) : evalE C (.v i) ρ = .ok d := by rw [ev_v, gv_val h]
theorem x_b {i : Nat} {d : D} (h : ρ[i]? = some (.val d)) : evalE C (.b i) ρ = .ok d := by rw [ev_b, gb_val h]
theorem x_o {i : Nat} {d : D} (h : ρ[i]? = some (.own d)) : evalE C (.b i) ρ = .ok d := by rw [ev_b, gb_own h]
theorem x_some {x : Res D} {en : α → D} {v : α} (h : x = .ok (en v)) : x = .ok (eO en (some v)) := h
theorem x_none : evalE C (.k .none) ρ = .ok (eO (en : α → D) none) := ev_k
theorem x_dyn {x : Res D} {en : α → D} {v : α} (h : x = .ok (en v)) : x = .ok (eD (en v)) := h
/-! displays -/
theorem es_nil : evalEs C [] ρ = .ok [] := evs_nil
theorem es_cons {e : Ex} {es : List Ex} {d : D} {ds : List D} (h : evalE C e ρ = .ok d) (hs : evalEs C es ρ = .ok ds) : evalEs C (e :: es) ρ = .ok (d :: ds) := by
  rw [evs_cons, h, bnd_ok, hs, bnd_ok]
theorem et_nil {en : α → D} : evalEs C [] ρ = .ok (([] : List α).map en) := evs_nil
theorem et_cons {e : Ex} {es : List Ex} {en : α → D} {d : α} {ds : List α} (h : evalE C e ρ = .ok (en d)) (hs : evalEs C es ρ = .ok (ds.map en)) : evalEs C (e :: es) ρ = .ok ((d :: ds).map en) := es_cons h hs
theorem x_tup {es : List Ex} {ds : List D} (h : evalEs C es ρ = .ok ds) (hl : ds.length ≤ 1000000) : evalE C (.tup es) ρ = .ok (.tuple ds) := by
  rw [ev_tup, h, bnd_ok]
  unfold mkT
  rw [if_pos (line_le hl)]
theorem x_lst {es : List Ex} {ds : List D} (h : evalEs C es ρ = .ok ds) (hl : ds.length ≤ 1000000) : evalE C (.lst es) ρ = .ok (.list ds) := by
  rw [ev_lst, h, bnd_ok]
  unfold mkL
  rw [if_pos (line_le hl)]
theorem x_tupT {es : List Ex} {en : α → D} {xs : List α} (h : evalEs C es ρ = .ok (xs.map en)) (hl : xs.length ≤ 1000000) : evalE C (.tup es) ρ = .ok (eT en xs) := x_tup h (by rw [List.length_map]; exact hl)
theorem x_lstL {es : List Ex} {en : α → D} {xs : List α} (h : evalEs C es ρ = .ok (xs.map en)) (hl : xs.length ≤ 1000000) : evalE C (.lst es) ρ = .ok (eL en xs) := x_lst h (by rw [List.length_map]; exact hl)
theorem x_pair {a b : Ex} {e : α → D} {f : β → D} {x : α} {y : β} (h : evalE C a ρ = .ok (e x)) (h' : evalE C b ρ = .ok (f y)) : evalE C (.tup [a, b]) ρ = .ok (eP e f (x, y)) := x_tup (es_cons h (es_cons h' es_nil)) (by show 2 ≤ 1000000; omega)
theorem x_trip {a b c : Ex} {e : α → D} {f : β → D} {g : γ → D} {x : α} {y : β} {z : γ} (h : evalE C a ρ = .ok (e x)) (h' : evalE C b ρ = .ok (f y)) (h'' : evalE C c ρ = .ok (g z)) : evalE C (.tup [a, b, c]) ρ = .ok (eP3 e f g (x, y, z)) := x_tup (es_cons h (es_cons h' (es_cons h'' es_nil))) (by show 3 ≤ 1000000; omega)
/-! numbers -/
theorem x_bin {o : Bop} {x y : Ex} {a b d : D} (h : evalE C x ρ = .ok a) (h' : evalE C y ρ = .ok b) (e : evalBin o a b = .ok d) : evalE C (.bin o x y) ρ = .ok d := by
  rw [ev_bin, h, bnd_ok, h', bnd_ok, e]
theorem x_add {x y : Ex} {i j : Int} (h : evalE C x ρ = .ok (.int i)) (h' : evalE C y ρ = .ok (.int j)) : evalE C (.bin .add x y) ρ = .ok (.int (i + j)) := x_bin h h' b_add
theorem x_sub {x y : Ex} {i j : Int} (h : evalE C x ρ = .ok (.int i)) (h' : evalE C y ρ = .ok (.int j)) : evalE C (.bin .sub x y) ρ = .ok (.int (i - j)) := x_bin h h' b_sub
theorem x_fdivk {x y : Ex} {i j : Int} (h : evalE C x ρ = .ok (.int i)) (h' : evalE C y ρ = .ok (.int j)) (c : 0 < j ∧ j < 1073741824) : evalE C (.bin .fdiv x y) ρ = .ok (.int (i / j)) := x_bin h h' (b_fdiv c.1 c.2)
theorem x_modk {x y : Ex} {i j : Int} (h : evalE C x ρ = .ok (.int i)) (h' : evalE C y ρ = .ok (.int j)) (c : 0 < j) : evalE C (.bin .mod x y) ρ = .ok (.int (i % j)) := x_bin h h' (b_mod c)
theorem x_mulk {x y : Ex} {i j : Int} (h : evalE C x ρ = .ok (.int i)) (h' : evalE C y ρ = .ok (.int j)) (c : smallI i = true ∨ smallI j = true) : evalE C (.bin .mul x y) ρ = .ok (.int (i * j)) := x_bin h h' (b_mul c)
def mulO (i j : Int) : Option Int := if smallI i = true ∨ smallI j = true then some (i * j) else none
def fdivO (i j : Int) : Option Int := if 0 < j ∧ j < 1073741824 then some (i / j) else none
def modO (i j : Int) : Option Int := if 0 < j then some (i % j) else none
theorem ite_some' {c : Prop} [Decidable c] {x : Option α} {a : α} (h : (if c then x else none) = some a) : c ∧ x = some a := by
  split at h
  · exact ⟨‹_›, h⟩
  · cases h
theorem x_mul {x y : Ex} {i j : Int} (h : evalE C x ρ = .ok (.int i)) (h' : evalE C y ρ = .ok (.int j)) : XE (evalE C (.bin .mul x y) ρ) PyData.int (mulO i j) := fun a e => by
  obtain ⟨c, e⟩ := ite_some' e; cases e; exact x_mulk h h' c
theorem x_fdiv {x y : Ex} {i j : Int} (h : evalE C x ρ = .ok (.int i)) (h' : evalE C y ρ = .ok (.int j)) : XE (evalE C (.bin .fdiv x y) ρ) PyData.int (fdivO i j) := fun a e => by
  obtain ⟨c, e⟩ := ite_some' e; cases e; exact x_fdivk h h' c
theorem x_mod {x y : Ex} {i j : Int} (h : evalE C x ρ = .ok (.int i)) (h' : evalE C y ρ = .ok (.int j)) : XE (evalE C (.bin .mod x y) ρ) PyData.int (modO i j) := fun a e => by
  obtain ⟨c, e⟩ := ite_some' e; cases e; exact x_modk h h' c
theorem x_neg {x : Ex} {i : Int} (h : evalE C x ρ = .ok (.int i)) : evalE C (.neg x) ρ = .ok (.int (-i)) := by
  rw [evalE, h]; rfl
/-! sequences put together -/
def catO (xs ys : List α) : Option (List α) := if xs.length + ys.length ≤ 1000000 then some (xs ++ ys) else none
def repO (k : Int) (xs : List α) : Option (List α) := if -(2 ^ 63) ≤ k ∧ k ≤ 1000 ∧ xs.length ≤ 1000 then some (repL k xs) else none
theorem repL_map (f : α → β) (k : Int) (xs : List α) : repL k (xs.map f) = (repL k xs).map f := by
  unfold repL
  rw [List.map_flatten, List.map_replicate]
theorem x_catT {x y : Ex} {en : α → D} {xs ys : List α} (h : evalE C x ρ = .ok (eT en xs)) (h' : evalE C y ρ = .ok (eT en ys)) : XE (evalE C (.bin .add x y) ρ) (eT en) (catO xs ys) := fun a e => by
  obtain ⟨c, e⟩ := ite_some' e; cases e
  refine x_bin h h' ?_
  unfold eT
  rw [b_catT (by rw [List.length_map, List.length_map]; exact c), List.map_append]
theorem x_catL {x y : Ex} {en : α → D} {xs ys : List α} (h : evalE C x ρ = .ok (eL en xs)) (h' : evalE C y ρ = .ok (eL en ys)) : XE (evalE C (.bin .add x y) ρ) (eL en) (catO xs ys) := fun a e => by
  obtain ⟨c, e⟩ := ite_some' e; cases e
  refine x_bin h h' ?_
  unfold eL
  rw [b_catL (by rw [List.length_map, List.length_map]; exact c), List.map_append]
theorem x_repT {x y : Ex} {en : α → D} {xs : List α} {k : Int} (h : evalE C x ρ = .ok (eT en xs)) (h' : evalE C y ρ = .ok (.int k)) : XE (evalE C (.bin .mul x y) ρ) (eT en) (repO k xs) := fun a e => by
  obtain ⟨c, e⟩ := ite_some' e; cases e
  refine x_bin h h' ?_
  unfold eT
  rw [b_mulT (by rw [List.length_map]; exact c), repL_map]
theorem x_repL {x y : Ex} {en : α → D} {xs : List α} {k : Int} (h : evalE C x ρ = .ok (eL en xs)) (h' : evalE C y ρ = .ok (.int k)) : XE (evalE C (.bin .mul x y) ρ) (eL en) (repO k xs) := fun a e => by
  obtain ⟨c, e⟩ := ite_some' e; cases e
  refine x_bin h h' ?_
  unfold eL
  rw [b_mulL (by rw [List.length_map]; exact c), repL_map]
/-! comparisons -/
theorem x_cmp {o : Cop} {x y : Ex} {a b : D} {t : Bool} (h : evalE C x ρ = .ok a) (h' : evalE C y ρ = .ok b) (e : evalCmp o a b = .ok (.bool t)) : evalE C (.cmp o x y) ρ = .ok (.bool t) := by
  rw [ev_cmp, h, bnd_ok, h', bnd_ok, e]
theorem x_chain {o o' : Cop} {x y z : Ex} {a b c : D} {t u : Bool} (h : evalE C x ρ = .ok a) (h' : evalE C y ρ = .ok b) (h'' : evalE C z ρ = .ok c) (e : evalCmp o a b = .ok (.bool t)) (e' : evalCmp o' b c = .ok (.bool u)) :
    evalE C (.chain o o' x y z) ρ = .ok (.bool (t && u)) := by
  rw [ev_chain, h, bnd_ok, h', bnd_ok, e, bnd_ok, asB, bnd_ok, h'', bnd_ok, e']
  cases t <;> rfl
theorem k_eq {en : α → D} [DecidableEq α] {k : Nat} [h : EqE en k] {a b : α} (hk : k ≤ 60) : evalCmp .eq (en a) (en b) = .ok (.bool (decide (a = b))) := by
  rw [c_eq (EqE.shp hk a) (EqE.shp hk b), h.eqv]
theorem k_ne {en : α → D} [DecidableEq α] {k : Nat} [h : EqE en k] {a b : α} (hk : k ≤ 60) : evalCmp .ne (en a) (en b) = .ok (.bool (!decide (a = b))) := by
  rw [c_ne (EqE.shp hk a) (EqE.shp hk b), h.eqv]
theorem k_isN {en : α → D} [n : NNE en] {a : Option α} : evalCmp .isN (eO en a) .none = .ok (.bool a.isNone) := by
  rw [c_isN]
  cases a
  · rfl
  · show Res.ok (PyData.bool (isNoneD (en _))) = _
    rw [n.nn]
    rfl
theorem k_notN {en : α → D} [n : NNE en] {a : Option α} : evalCmp .notN (eO en a) .none = .ok (.bool a.isSome) := by
  rw [c_notN]
  cases a
  · rfl
  · show Res.ok (PyData.bool (!isNoneD (en _))) = _
    rw [n.nn]
    rfl
theorem any_eqv {en : α → D} [DecidableEq α] {k : Nat} [h : EqE en k] (a : α) (xs : List α) : (xs.map en).any (fun z => PyData.eqv z (en a)) = decide (a ∈ xs) := by
  rw [List.any_map]
  induction xs with
  | nil => simp
  | cons x xs ih =>
    rw [List.any_cons, ih]
    show (PyData.eqv (en x) (en a) || decide (a ∈ xs)) = _
    rw [h.eqv]
    by_cases h1 : x = a
    · subst h1; simp
    · have : ¬ a = x := fun z => h1 z.symm
      simp [h1, this]
theorem dec_inst {p : Prop} (d1 d2 : Decidable p) : @decide p d1 = @decide p d2 := by rw [Subsingleton.elim d1 d2]
theorem k_inT {en : α → D} [DecidableEq α] {k : Nat} [h : EqE en k] {a : α} {xs : List α} [dm : Decidable (a ∈ xs)] (hk : k + 1 ≤ 60) : evalCmp .inn (en a) (eT en xs) = .ok (.bool (decide (a ∈ xs))) := by
  have e : evalCmp .inn (en a) (eT en xs) = if SeqAt.shaped (en a) = true ∧ SeqAt.shaped (.tuple (xs.map en)) = true then .ok (.bool ((xs.map en).any fun z => PyData.eqv z (en a))) else .bad := by
    unfold eT; cases en a <;> rfl
  rw [e, if_pos ⟨EqE.shp (by omega) a, EqE.shp (en := eT en) hk xs⟩, any_eqv, dec_inst _ dm]
theorem k_ninT {en : α → D} [DecidableEq α] {k : Nat} [h : EqE en k] {a : α} {xs : List α} [dm : Decidable (a ∈ xs)] (hk : k + 1 ≤ 60) : evalCmp .nin (en a) (eT en xs) = .ok (.bool (!decide (a ∈ xs))) := by
  have e : evalCmp .nin (en a) (eT en xs) = if SeqAt.shaped (en a) = true ∧ SeqAt.shaped (.tuple (xs.map en)) = true then .ok (.bool (!(xs.map en).any fun z => PyData.eqv z (en a))) else .bad := by
    unfold eT; cases en a <;> rfl
  rw [e, if_pos ⟨EqE.shp (by omega) a, EqE.shp (en := eT en) hk xs⟩, any_eqv, dec_inst _ dm]
theorem k_inL {en : α → D} [DecidableEq α] {k : Nat} [h : EqE en k] {a : α} {xs : List α} [dm : Decidable (a ∈ xs)] (hk : k + 1 ≤ 60) : evalCmp .inn (en a) (eL en xs) = .ok (.bool (decide (a ∈ xs))) := by
  have e : evalCmp .inn (en a) (eL en xs) = if SeqAt.shaped (en a) = true ∧ SeqAt.shaped (.list (xs.map en)) = true then .ok (.bool ((xs.map en).any fun z => PyData.eqv z (en a))) else .bad := by
    unfold eL; cases en a <;> rfl
  rw [e, if_pos ⟨EqE.shp (by omega) a, EqE.shp (en := eL en) hk xs⟩, any_eqv, dec_inst _ dm]
theorem k_ninL {en : α → D} [DecidableEq α] {k : Nat} [h : EqE en k] {a : α} {xs : List α} [dm : Decidable (a ∈ xs)] (hk : k + 1 ≤ 60) : evalCmp .nin (en a) (eL en xs) = .ok (.bool (!decide (a ∈ xs))) := by
  have e : evalCmp .nin (en a) (eL en xs) = if SeqAt.shaped (en a) = true ∧ SeqAt.shaped (.list (xs.map en)) = true then .ok (.bool (!(xs.map en).any fun z => PyData.eqv z (en a))) else .bad := by
    unfold eL; cases en a <;> rfl
  rw [e, if_pos ⟨EqE.shp (by omega) a, EqE.shp (en := eL en) hk xs⟩, any_eqv, dec_inst _ dm]
/-! dicts -/
def hasM [DecidableEq κ] (kvs : List (κ × α)) (x : κ) : Bool := kvs.any fun p => decide (p.1 = x)
def getM [DecidableEq κ] (kvs : List (κ × α)) (x : κ) : Option α := (kvs.find? fun p => decide (p.1 = x)).map (·.2)
def putM [DecidableEq κ] (kvs : List (κ × α)) (x : κ) (y : α) : List (κ × α) := if hasM kvs x = true then kvs.map fun p => if p.1 = x then (p.1, y) else p else kvs ++ [(x, y)]
theorem hasKey_map {ek : κ → D} {ev : α → D} [DecidableEq κ] {k : Nat} [h : EqE ek k] (kvs : List (κ × α)) (x : κ) : hasKey (kvs.map fun p => (ek p.1, ev p.2)) (ek x) = hasM kvs x := by
  unfold hasKey hasM
  rw [List.any_map]
  congr 1
  funext p
  exact h.eqv _ _
theorem getD'_map {ek : κ → D} {ev : α → D} [DecidableEq κ] {k : Nat} [h : EqE ek k] (kvs : List (κ × α)) (x : κ) : getD' (kvs.map fun p => (ek p.1, ev p.2)) (ek x) = (getM kvs x).map ev := by
  unfold getD' getM
  rw [List.find?_map]
  have : ((fun p : D × D => PyData.eqv p.1 (ek x)) ∘ fun p : κ × α => (ek p.1, ev p.2)) = fun p => decide (p.1 = x) := by funext p; exact h.eqv _ _
  rw [this]
  cases kvs.find? fun p => decide (p.1 = x) <;> rfl
theorem putKV_map {ek : κ → D} {ev : α → D} [DecidableEq κ] {k : Nat} [h : EqE ek k] (kvs : List (κ × α)) (x : κ) (y : α) : putKV (kvs.map fun p => (ek p.1, ev p.2)) (ek x) (ev y) = (putM kvs x y).map fun p => (ek p.1, ev p.2) := by
  unfold putKV putM
  rw [hasKey_map]
  split
  · rw [List.map_map, List.map_map]
    congr 1
    funext p
    show (if PyData.eqv (ek p.1) (ek x) = true then (ek p.1, ev y) else (ek p.1, ev p.2)) = _
    rw [h.eqv]
    by_cases h1 : p.1 = x <;> simp [h1]
  · simp
theorem k_inM {ek : κ → D} {ev : α → D} [DecidableEq κ] {k : Nat} [h : EqE ek k] [q : KeyT ek] {a : κ} {kvs : List (κ × α)} : evalCmp .inn (ek a) (eM ek ev kvs) = .ok (.bool (hasM kvs a)) := by
  have e : evalCmp .inn (ek a) (eM ek ev kvs) = if (keyOk (ek a) && keysT (kvs.map fun p => (ek p.1, ev p.2))) = true then .ok (.bool (hasKey (kvs.map fun p => (ek p.1, ev p.2)) (ek a))) else .bad := by
    unfold eM; cases ek a <;> rfl
  rw [e, if_pos (KeyT.ok kvs a), hasKey_map]
theorem k_ninM {ek : κ → D} {ev : α → D} [DecidableEq κ] {k : Nat} [h : EqE ek k] [q : KeyT ek] {a : κ} {kvs : List (κ × α)} : evalCmp .nin (ek a) (eM ek ev kvs) = .ok (.bool (!hasM kvs a)) := by
  have e : evalCmp .nin (ek a) (eM ek ev kvs) = if (keyOk (ek a) && keysT (kvs.map fun p => (ek p.1, ev p.2))) = true then .ok (.bool (!hasKey (kvs.map fun p => (ek p.1, ev p.2)) (ek a))) else .bad := by
    unfold eM; cases ek a <;> rfl
  rw [e, if_pos (KeyT.ok kvs a), hasKey_map]
/-! truths -/
theorem x_not {x : Ex} {a : Bool} (h : evalE C x ρ = .ok (.bool a)) : evalE C (.not x) ρ = .ok (.bool (!a)) := by
  rw [ev_not, h, bnd_ok, asB, bnd_ok]
theorem x_and {x y : Ex} {a b : Bool} (h : evalE C x ρ = .ok (.bool a)) (h' : evalE C y ρ = .ok (.bool b)) : evalE C (.and x y) ρ = .ok (.bool (a && b)) := by
  rw [ev_and, h, bnd_ok, asB, bnd_ok, h']
  cases a <;> rfl
theorem x_or {x y : Ex} {a b : Bool} (h : evalE C x ρ = .ok (.bool a)) (h' : evalE C y ρ = .ok (.bool b)) : evalE C (.or x y) ρ = .ok (.bool (a || b)) := by
  rw [ev_or, h, bnd_ok, asB, bnd_ok, h']
  cases a <;> rfl
theorem x_andM {x y : Ex} {a : Bool} {o : Option Bool} (h : evalE C x ρ = .ok (.bool a)) (h' : a = true → XE (evalE C y ρ) PyData.bool o) : XE (evalE C (.and x y) ρ) PyData.bool (if a = true then o else some false) := by
  have e : evalE C (.and x y) ρ = if a = true then evalE C y ρ else .ok (.bool false) := by rw [ev_and, h, bnd_ok, asB, bnd_ok]
  rw [e]
  cases a
  · exact xe_pure rfl
  · exact h' rfl
theorem x_orM {x y : Ex} {a : Bool} {o : Option Bool} (h : evalE C x ρ = .ok (.bool a)) (h' : a = false → XE (evalE C y ρ) PyData.bool o) : XE (evalE C (.or x y) ρ) PyData.bool (if a = true then some true else o) := by
  have e : evalE C (.or x y) ρ = if a = true then .ok (.bool true) else evalE C y ρ := by rw [ev_or, h, bnd_ok, asB, bnd_ok]
  rw [e]
  cases a
  · exact h' rfl
  · exact xe_pure rfl
theorem x_ife {c x y : Ex} {b : Bool} {en : α → D} {u v : α} (h : evalE C c ρ = .ok (.bool b)) (h1 : evalE C x ρ = .ok (en u)) (h2 : evalE C y ρ = .ok (en v)) : evalE C (.ife c x y) ρ = .ok (en (if b = true then u else v)) := by
  rw [ev_ife, h, bnd_ok, asB, bnd_ok, h1, h2]
  cases b <;> rfl
theorem x_ifeM {c x y : Ex} {b : Bool} {en : α → D} {o o' : Option α} (h : evalE C c ρ = .ok (.bool b)) (h1 : b = true → XE (evalE C x ρ) en o) (h2 : b = false → XE (evalE C y ρ) en o') : XE (evalE C (.ife c x y) ρ) en (if b = true then o else o') := by
  have e : evalE C (.ife c x y) ρ = if b = true then evalE C x ρ else evalE C y ρ := by rw [ev_ife, h, bnd_ok, asB, bnd_ok]
  rw [e]
  cases b
  · exact h2 rfl
  · exact h1 rfl
/-! calls, built-ins -/
theorem x_call {f : Nat} {es : List Ex} {ds : List D} {en : α → D} {o : Option α} (hs : evalEs C es ρ = .ok ds) (h : XE (C f ds) en o) : XE (evalE C (.call f es) ρ) en o := by
  rw [ev_call, hs, bnd_ok]; exact h
theorem x_bt1 {f : Bt} {x : Ex} {a d : D} (h : evalE C x ρ = .ok a) (e : evalBt f [a] = .ok d) : evalE C (.bt f [x]) ρ = .ok d := by
  rw [ev_bt, es_cons h es_nil, bnd_ok, e]
theorem x_bt2 {f : Bt} {x y : Ex} {a b d : D} (h : evalE C x ρ = .ok a) (h' : evalE C y ρ = .ok b) (e : evalBt f [a, b] = .ok d) : evalE C (.bt f [x, y]) ρ = .ok d := by
  rw [ev_bt, es_cons h (es_cons h' es_nil), bnd_ok, e]
theorem k_lenT {en : α → D} {xs : List α} : evalBt .len [eT en xs] = .ok (.int xs.length) := by
  show Res.ok (PyData.int ((xs.map en).length : Nat)) = _
  rw [List.length_map]
theorem k_lenL {en : α → D} {xs : List α} : evalBt .len [eL en xs] = .ok (.int xs.length) := by
  show Res.ok (PyData.int ((xs.map en).length : Nat)) = _
  rw [List.length_map]
theorem k_lenM {ek : κ → D} {ev : α → D} {xs : List (κ × α)} : evalBt .len [eM ek ev xs] = .ok (.int xs.length) := by
  show Res.ok (PyData.int ((xs.map fun p => (ek p.1, ev p.2)).length : Nat)) = _
  rw [List.length_map]
theorem k_tupL {en : α → D} {xs : List α} : evalBt .tuple [eL en xs] = .ok (eT en xs) := Eq.trans rfl rfl
theorem k_tupT {en : α → D} {xs : List α} : evalBt .tuple [eT en xs] = .ok (eT en xs) := Eq.trans rfl rfl
theorem k_lstT {en : α → D} {xs : List α} : evalBt .list [eT en xs] = .ok (eL en xs) := Eq.trans rfl rfl
theorem k_lstL {en : α → D} {xs : List α} : evalBt .list [eL en xs] = .ok (eL en xs) := Eq.trans rfl rfl
theorem k_sumT {xs : List Int} : evalBt .sum [eT PyData.int xs] = .ok (.int xs.sum) := sum_tpI xs
theorem k_sumL {xs : List Int} : evalBt .sum [eL PyData.int xs] = .ok (.int xs.sum) := sum_lI xs
theorem k_all {xs : List Bool} : evalBt .all [eL PyData.bool xs] = .ok (.bool (xs.all id)) := all_bools xs
theorem k_any {xs : List Bool} : evalBt .any [eL PyData.bool xs] = .ok (.bool (xs.any id)) := any_bools xs
theorem k_sortT {xs : List Int} : evalBt .sorted [eT PyData.int xs] = .ok (eL PyData.int (sortI xs)) := sorted_tpI xs
theorem k_sortL {xs : List Int} : evalBt .sorted [eL PyData.int xs] = .ok (eL PyData.int (sortI xs)) := sorted_lI xs
theorem k_max {i j : Int} : evalBt .max2 [.int i, .int j] = .ok (.int (if i < j then j else i)) := t_max
theorem k_min {i j : Int} : evalBt .min2 [.int i, .int j] = .ok (.int (if j < i then j else i)) := t_min
theorem k_int {i : Int} : evalBt .toInt [.int i] = .ok (.int i) := t_int
theorem k_intB {b : Bool} : evalBt .toInt [.bool b] = .ok (.int (if b = true then 1 else 0)) := by
  rw [t_intB]
theorem k_isT {d : D} : evalBt .isTuple [d] = .ok (.bool (isTupleD d)) := t_isT
theorem k_isI {d : D} : evalBt .isInt [d] = .ok (.bool (isIntD d)) := t_isI
theorem k_isB' {d : D} : evalBt .isBool [d] = .ok (.bool (isBoolD d)) := t_isB
theorem k_isS {d : D} : evalBt .isStr [d] = .ok (.bool (isStrD d)) := t_isS
/-! ranges -/
def rangeI (lo hi : Int) : List Int := (List.range (hi - lo).toNat).map fun i => lo + ((i : Nat) : Int)
def rangeDI (lo hi : Int) : List Int := (List.range (lo - hi).toNat).map fun i => lo + ((i : Nat) : Int) * (-1)
theorem rangeL_eq (lo hi : Int) : rangeL lo hi = (rangeI lo hi).map PyData.int := by unfold rangeL rangeI; rw [List.map_map]; rfl
theorem rangeDown_eq (lo hi : Int) : rangeDown lo hi = (rangeDI lo hi).map PyData.int := by unfold rangeDown rangeDI; rw [List.map_map]; rfl
def inM (i : Int) : Bool := decide (-1000000 ≤ i) && decide (i ≤ 1000000)
theorem inM_iff {i : Int} : inM i = true ↔ -1000000 ≤ i ∧ i ≤ 1000000 := by unfold inM; simp
def rg1O (j : Int) : Option (List Int) := if inM j = true then some (rangeI 0 j) else none
def rg2O (i j : Int) : Option (List Int) := if inM i = true ∧ inM j = true then some (rangeI i j) else none
def rgDO (i j : Int) : Option (List Int) := if inM i = true ∧ inM j = true then some (rangeDI i j) else none
theorem x_lr1 {x : Ex} {j : Int} (h : evalE C x ρ = .ok (.int j)) : XE (evalE C (.bt .listRange1 [x]) ρ) (eL PyData.int) (rg1O j) := fun a e => by
  obtain ⟨c, e⟩ := ite_some' e; cases e
  have c := inM_iff.mp c
  refine x_bt1 h ?_
  show (if rgOk 0 j = true then Res.ok (PyData.list (rangeL 0 j)) else .bad) = _
  rw [if_pos, rangeL_eq]
  · rfl
  · unfold rgOk
    rw [bnd_of (by omega) (by omega), bnd_of (by omega) (by omega), Bool.true_and, Bool.true_and, decide_eq_true_eq]
    omega
theorem x_lr2 {x y : Ex} {i j : Int} (h : evalE C x ρ = .ok (.int i)) (h' : evalE C y ρ = .ok (.int j)) : XE (evalE C (.bt .listRange2 [x, y]) ρ) (eL PyData.int) (rg2O i j) := fun a e => by
  obtain ⟨⟨c, c'⟩, e⟩ := ite_some' e; cases e
  have c := inM_iff.mp c
  have c' := inM_iff.mp c'
  refine x_bt2 h h' ?_
  rw [t_lr2 c.1 c'.2 c.2 c'.1, rangeL_eq]
  rfl
theorem x_tr2 {x y : Ex} {i j : Int} (h : evalE C x ρ = .ok (.int i)) (h' : evalE C y ρ = .ok (.int j)) : XE (evalE C (.bt .tupRange2 [x, y]) ρ) (eT PyData.int) (rg2O i j) := fun a e => by
  obtain ⟨⟨c, c'⟩, e⟩ := ite_some' e; cases e
  have c := inM_iff.mp c
  have c' := inM_iff.mp c'
  refine x_bt2 h h' ?_
  show (if rgOk i j = true then Res.ok (PyData.tuple (rangeL i j)) else .bad) = _
  rw [if_pos, rangeL_eq]
  · rfl
  · unfold rgOk
    rw [bnd_of (by omega) (by omega), bnd_of (by omega) (by omega), Bool.true_and, Bool.true_and, decide_eq_true_eq]
    omega
/-! items, cuts -/
theorem ixN_lt {n : Nat} {i : Int} {j : Nat} (h : L2.ixN n i = some j) : j < n := (L2.ixN_seq h).2.1
theorem atI_map (f : α → β) (xs : List α) (i : Int) : L2.atI (xs.map f) i = (L2.atI xs i).map f := by
  unfold L2.atI
  rw [List.length_map]
  cases L2.ixN xs.length i with
  | none => rfl
  | some j => simp
theorem x_ixT {x y : Ex} {en : α → D} {xs : List α} {i : Int} (h : evalE C x ρ = .ok (eT en xs)) (h' : evalE C y ρ = .ok (.int i)) : XE (evalE C (.ix x y) ρ) en (L2.atI xs i) := fun a e => by
  rw [ev_ix, h, bnd_ok, h', bnd_ok]
  exact ixT (by rw [atI_map, e]; rfl)
theorem x_ixL {x y : Ex} {en : α → D} {xs : List α} {i : Int} (h : evalE C x ρ = .ok (eL en xs)) (h' : evalE C y ρ = .ok (.int i)) : XE (evalE C (.ix x y) ρ) en (L2.atI xs i) := fun a e => by
  rw [ev_ix, h, bnd_ok, h', bnd_ok]
  exact ixL (by rw [atI_map, e]; rfl)
theorem x_ixM {x y : Ex} {ek : κ → D} {ev : α → D} [DecidableEq κ] {k : Nat} [hq : EqE ek k] [q : KeyE ek] {kvs : List (κ × α)} {a : κ} (h : evalE C x ρ = .ok (eM ek ev kvs)) (h' : evalE C y ρ = .ok (ek a)) : XE (evalE C (.ix x y) ρ) ev (getM kvs a) := fun v e => by
  rw [ev_ix, h, bnd_ok, h', bnd_ok]
  have e1 : evalIx (eM ek ev kvs) (ek a) = if keyFor (kvs.map fun p => (ek p.1, ev p.2)) (ek a) = true then match getD' (kvs.map fun p => (ek p.1, ev p.2)) (ek a) with
    | some d => .ok d
    | none => .bad else .bad := by unfold eM; cases ek a <;> rfl
  rw [e1, if_pos (KeyE.ok kvs a), getD'_map, e]
  rfl
theorem x_ixP0 {x y : Ex} {e : α → D} {f : β → D} {p : α × β} (h : evalE C x ρ = .ok (eP e f p)) (h' : evalE C y ρ = .ok (.int 0)) : evalE C (.ix x y) ρ = .ok (e p.1) := by
  rw [ev_ix, h, bnd_ok, h', bnd_ok]
  exact ixT rfl
theorem x_ixP1 {x y : Ex} {e : α → D} {f : β → D} {p : α × β} (h : evalE C x ρ = .ok (eP e f p)) (h' : evalE C y ρ = .ok (.int 1)) : evalE C (.ix x y) ρ = .ok (f p.2) := by
  rw [ev_ix, h, bnd_ok, h', bnd_ok]
  exact ixT rfl
theorem po_none : (evalEs C [] ρ).bind partL = .ok none := by rw [evs_nil, bnd_ok, pl_nil]
theorem po_some {x : Ex} {i : Int} (h : evalE C x ρ = .ok (.int i)) : (evalEs C [x] ρ).bind partL = .ok (some i) := by rw [es_cons h es_nil, bnd_ok, pl_int]
theorem cutD_map (f : α → β) (xs : List α) (l h : Option Int) : cutD (xs.map f) l h = (cutD xs l h).map f := by
  unfold cutD
  rw [List.length_map, List.map_take, List.map_drop]
theorem x_slT {x : Ex} {lo hi : List Ex} {en : α → D} {xs : List α} {l h : Option Int} (hx : evalE C x ρ = .ok (eT en xs)) (hl : (evalEs C lo ρ).bind partL = .ok l) (hh : (evalEs C hi ρ).bind partL = .ok h) : evalE C (.sl x lo hi) ρ = .ok (eT en (cutD xs l h)) := by
  rw [ev_sl, hx, bnd_ok, hl, bnd_ok, hh, bnd_ok]
  unfold eT
  rw [sl_t, cutD_map]
theorem x_slL {x : Ex} {lo hi : List Ex} {en : α → D} {xs : List α} {l h : Option Int} (hx : evalE C x ρ = .ok (eL en xs)) (hl : (evalEs C lo ρ).bind partL = .ok l) (hh : (evalEs C hi ρ).bind partL = .ok h) : evalE C (.sl x lo hi) ρ = .ok (eL en (cutD xs l h)) := by
  rw [ev_sl, hx, bnd_ok, hl, bnd_ok, hh, bnd_ok]
  unfold eL
  rw [sl_l, cutD_map]
theorem x_revT {x : Ex} {en : α → D} {xs : List α} (h : evalE C x ρ = .ok (eT en xs)) : evalE C (.rev x) ρ = .ok (eT en xs.reverse) := by
  rw [ev_rev, h, bnd_ok]
  unfold eT
  rw [rv_t, List.map_reverse]
theorem x_revL {x : Ex} {en : α → D} {xs : List α} (h : evalE C x ρ = .ok (eL en xs)) : evalE C (.rev x) ρ = .ok (eL en xs.reverse) := by
  rw [ev_rev, h, bnd_ok]
  unfold eL
  rw [rv_l, List.map_reverse]
theorem x_revP {x : Ex} {e : α → D} {f : β → D} {p : α × β} (h : evalE C x ρ = .ok (eP e f p)) : evalE C (.rev x) ρ = .ok (eP f e (p.2, p.1)) := by
  rw [ev_rev, h, bnd_ok]
  unfold eP
  rw [rv_t]
  rfl
/-! what is walked -/
theorem src_T {x : Ex} {en : α → D} {xs : List α} (h : evalE C x ρ = .ok (eT en xs)) : (evalEs C [x] ρ).bind (evalSrc .seq) = .ok (xs.map en) := by rw [es_cons h es_nil, bnd_ok]; exact s_seqT
theorem src_L {x : Ex} {en : α → D} {xs : List α} (h : evalE C x ρ = .ok (eL en xs)) : (evalEs C [x] ρ).bind (evalSrc .seq) = .ok (xs.map en) := by rw [es_cons h es_nil, bnd_ok]; exact s_seqL
theorem src_r1 {x : Ex} {j : Int} (h : evalE C x ρ = .ok (.int j)) : XS ((evalEs C [x] ρ).bind (evalSrc .range1)) PyData.int (rg1O j) := fun a e => by
  obtain ⟨c, e⟩ := ite_some' e; cases e
  have c := inM_iff.mp c
  rw [es_cons h es_nil, bnd_ok, s_rg1 c.1 c.2, rangeL_eq]
theorem src_r2 {x y : Ex} {i j : Int} (h : evalE C x ρ = .ok (.int i)) (h' : evalE C y ρ = .ok (.int j)) : XS ((evalEs C [x, y] ρ).bind (evalSrc .range2)) PyData.int (rg2O i j) := fun a e => by
  obtain ⟨⟨c, c'⟩, e⟩ := ite_some' e; cases e
  have c := inM_iff.mp c
  have c' := inM_iff.mp c'
  rw [es_cons h (es_cons h' es_nil), bnd_ok, s_rg2 c'.1 c'.2 c.1 c.2, rangeL_eq]
theorem src_r3 {x y z : Ex} {i j : Int} (h : evalE C x ρ = .ok (.int i)) (h' : evalE C y ρ = .ok (.int j)) (h'' : evalE C z ρ = .ok (.int (-1))) : XS ((evalEs C [x, y, z] ρ).bind (evalSrc .range3)) PyData.int (rgDO i j) := fun a e => by
  obtain ⟨⟨c, c'⟩, e⟩ := ite_some' e; cases e
  have c := inM_iff.mp c
  have c' := inM_iff.mp c'
  rw [es_cons h (es_cons h' (es_cons h'' es_nil)), bnd_ok]
  show (if (-1 : Int) = -1 ∧ bnd i = true ∧ bnd j = true then Res.ok (rangeDown i j) else .bad) = _
  rw [if_pos ⟨rfl, bnd_of (by omega) (by omega), bnd_of (by omega) (by omega)⟩, rangeDown_eq]
def enumI : Nat → List α → List (Int × α)
  | _, [] => []
  | k, x :: xs => ((k : Int), x) :: enumI (k + 1) xs
theorem enumD_I {en : α → D} : ∀ (k : Nat) (xs : List α), enumD k (xs.map en) = (enumI k xs).map (eP PyData.int en)
  | _, [] => rfl
  | k, x :: xs => by rw [List.map_cons, enumD, enumI, enumD_I (k + 1) xs]; rfl
theorem src_en {x : Ex} {d : D} {en : α → D} {xs : List α} (h : evalE C x ρ = .ok d) (hi : itemsOf d = some (xs.map en)) : (evalEs C [x] ρ).bind (evalSrc .enum) = .ok ((enumI 0 xs).map (eP PyData.int en)) := by
  rw [es_cons h es_nil, bnd_ok]
  show okL (itemsOf d) (enumD 0) = _
  rw [hi, ← enumD_I]
  rfl
theorem src_zip {x y : Ex} {d d' : D} {e : α → D} {f : β → D} {xs : List α} {ys : List β} (h : evalE C x ρ = .ok d) (h' : evalE C y ρ = .ok d') (hi : itemsOf d = some (xs.map e)) (hi' : itemsOf d' = some (ys.map f)) :
    (evalEs C [x, y] ρ).bind (evalSrc .zip2) = .ok ((xs.zip ys).map (eP e f)) := by
  rw [es_cons h (es_cons h' es_nil), bnd_ok]
  show okL ((itemsOf d).bind fun xs => (itemsOf d').map fun ys => (xs, ys)) (fun p => zip2D p.1 p.2) = _
  rw [hi, hi']
  show Res.ok (zip2D (xs.map e) (ys.map f)) = _
  rw [zip2D_map]
  rfl
theorem zip3D_map {e : α → D} {f : β → D} {g : γ → D} : ∀ (xs : List α) (ys : List β) (zs : List γ), zip3D (xs.map e) (ys.map f) (zs.map g) = (xs.zip (ys.zip zs)).map (eP3 e f g)
  | [], ys, zs => by simp [zip3D]
  | x :: xs, [], zs => by simp [zip3D]
  | x :: xs, y :: ys, [] => by simp [zip3D]
  | x :: xs, y :: ys, z :: zs => by
    simp only [List.map_cons, zip3D, List.zip_cons_cons, zip3D_map xs ys zs]
    rfl
theorem src_zip3 {x y z : Ex} {d d' d'' : D} {e : α → D} {f : β → D} {g : γ → D} {xs : List α} {ys : List β} {zs : List γ} (h : evalE C x ρ = .ok d) (h' : evalE C y ρ = .ok d') (h'' : evalE C z ρ = .ok d'') (hi : itemsOf d = some (xs.map e)) (hi' : itemsOf d' = some (ys.map f)) (hi'' : itemsOf d'' = some (zs.map g)) :
    (evalEs C [x, y, z] ρ).bind (evalSrc .zip3) = .ok ((xs.zip (ys.zip zs)).map (eP3 e f g)) := by
  rw [es_cons h (es_cons h' (es_cons h'' es_nil)), bnd_ok]
  show okL ((itemsOf d).bind fun xs => (itemsOf d').bind fun ys => (itemsOf d'').map fun zs => (xs, ys, zs)) (fun p => zip3D p.1 p.2.1 p.2.2) = _
  rw [hi, hi', hi'']
  show Res.ok (zip3D (xs.map e) (ys.map f) (zs.map g)) = _
  rw [zip3D_map]
/-! comprehensions -/
def mapO (f : α → Option β) : List α → Option (List β)
  | [] => some []
  | x :: xs => (f x).bind fun y => (mapO f xs).bind fun ys => some (y :: ys)
def filO (c : α → Option Bool) (f : α → Option β) : List α → Option (List β)
  | [] => some []
  | x :: xs => (c x).bind fun b => if b = true then (f x).bind fun y => (filO c f xs).bind fun ys => some (y :: ys) else filO c f xs
def compO (f : α → Option β) (xs : List α) : Option (List β) := if xs.length ≤ 1000000 then mapO f xs else none
def compF (c : α → Option Bool) (f : α → Option β) (xs : List α) : Option (List β) := if xs.length ≤ 1000000 then filO c f xs else none
theorem bind_some' {o : Option α} {f : α → Option β} {b : β} (h : o.bind f = some b) : ∃ a, o = some a ∧ f a = some b := by
  cases o with
  | none => cases h
  | some a => exact ⟨a, rfl, h⟩
theorem x_comp {e : Ex} {own : List Nat} {t : Tg} {sk : Sk} {src : List Ex} {enx : α → D} {en : β → D} {xs : List α} {f : α → Option β} (hs : (evalEs C src ρ).bind (evalSrc sk) = .ok (xs.map enx))
    (hf : ∀ x, x ∈ xs → ∃ ρ', bindT (wipeR ρ own) t (enx x) = some ρ' ∧ XE (evalE C e ρ') en (f x)) : XE (evalE C (.comp e own t sk src []) ρ) (eL en) (compO f xs) := fun ys h => by
  replace h := ite_some' h
  obtain ⟨c, h⟩ := h
  refine ev_comp hs (by rw [List.length_map]; exact c) ?_
  clear hs c
  induction xs generalizing ys with
  | nil => cases h; rfl
  | cons x xs ih =>
    rw [mapO] at h
    obtain ⟨y, h1, h⟩ := bind_some' h
    obtain ⟨zs, h2, h⟩ := bind_some' h
    cases h
    obtain ⟨ρ', hb, hx⟩ := hf x List.mem_cons_self
    rw [List.map_cons, compL, turn_eq hb, eva_nil, bnd_ok, if_pos rfl, hx y h1, bnd_ok, bnd_ok, ih (fun z hz => hf z (List.mem_cons_of_mem _ hz)) zs h2]
    rfl
theorem x_compF {e c : Ex} {own : List Nat} {t : Tg} {sk : Sk} {src : List Ex} {enx : α → D} {en : β → D} {xs : List α} {f : α → Option β} {g : α → Option Bool} (hs : (evalEs C src ρ).bind (evalSrc sk) = .ok (xs.map enx))
    (hf : ∀ x, x ∈ xs → ∃ ρ', bindT (wipeR ρ own) t (enx x) = some ρ' ∧ XE (evalE C c ρ') PyData.bool (g x) ∧ (g x = some true → XE (evalE C e ρ') en (f x))) : XE (evalE C (.comp e own t sk src [c]) ρ) (eL en) (compF g f xs) := fun ys h => by
  replace h := ite_some' h
  obtain ⟨l, h⟩ := h
  refine ev_comp hs (by rw [List.length_map]; exact l) ?_
  clear hs l
  induction xs generalizing ys with
  | nil => cases h; rfl
  | cons x xs ih =>
    rw [filO] at h
    obtain ⟨b, h1, h⟩ := bind_some' h
    obtain ⟨ρ', hb, hc, hx⟩ := hf x List.mem_cons_self
    rw [List.map_cons, compL, turn_eq hb, eva_cons, hc b h1, bnd_ok, asB, bnd_ok]
    cases b with
    | false =>
      rw [if_neg (by decide)] at h
      rw [if_neg (by decide), bnd_ok, if_neg (by decide), bnd_ok, ih (fun z hz => hf z (List.mem_cons_of_mem _ hz)) ys h]
      rfl
    | true =>
      rw [if_pos rfl] at h
      obtain ⟨y, h2, h⟩ := bind_some' h
      obtain ⟨zs, h3, h⟩ := bind_some' h
      cases h
      rw [if_pos rfl, eva_nil, bnd_ok, if_pos rfl, hx h1 y h2, bnd_ok, bnd_ok, ih (fun z hz => hf z (List.mem_cons_of_mem _ hz)) zs h3]
      rfl
theorem x_dict0 {ek : κ → D} {ev : α → D} : evalE C .dict0 ρ = .ok (eM ek ev []) := ev_dict0
end BP
/-! Typed words: statements. -/
namespace BP
open PySem
variable {C : Nat → List D → Res D} {ρ : Env} {α β γ σ τ κ : Type}

/-- a state, or a value handed back -/
inductive F (σ β : Type) where
  | nx (s : σ)
  | rt (b : β)
def F.elim (f : σ → γ) (g : β → γ) : F σ β → γ
  | .nx s => f s
  | .rt b => g b
def SB (fl : Fl) (o : Option τ) (J : τ → Fl → Prop) : Prop := ∀ t, o = some t → J t fl
def JT (en : α → D) (a : α) (fl : Fl) : Prop := fl = .rt (en a)
def JN (R : σ → Env → Prop) (s : σ) (fl : Fl) : Prop := ∃ ρ, fl = .nx ρ ∧ R s ρ
def JF (R : σ → Env → Prop) (en : β → D) : F σ β → Fl → Prop
  | .nx s, fl => ∃ ρ, fl = .nx ρ ∧ R s ρ
  | .rt b, fl => fl = .rt (en b)
variable {J : τ → Fl → Prop} {ss : List Stm} {o : Option τ}
theorem sb_bind {fl : Fl} {x : Res D} {en : α → D} {o1 : Option α} {k : α → Option τ} (h : XE x en o1) (hk : ∀ a, x = .ok (en a) → SB fl (k a) J) : SB fl (o1.bind k) J := fun t e => by
  obtain ⟨a, h1, h2⟩ := bind_some' e
  exact hk a (h a h1) t h2
theorem sb_bindS {fl : Fl} {x : Res (List D)} {en : α → D} {o1 : Option (List α)} {k : List α → Option τ} (h : XS x en o1) (hk : ∀ a, x = .ok (a.map en) → SB fl (k a) J) : SB fl (o1.bind k) J := fun t e => by
  obtain ⟨a, h1, h2⟩ := bind_some' e
  exact hk a (h a h1) t h2
theorem sb_eq {fl fl' : Fl} (h : SB fl' o J) (e : fl = fl') : SB fl o J := e ▸ h
/-! freezing -/
theorem sb_fzn (h : SB (evalSs C ss ρ) o J) : SB (evalSs C (.fz [] :: ss) ρ) o J := by
  rw [ss_cons, s_fz, nx_nx]; exact h
theorem fz_step {i : Nat} {is : List Nat} {ρ' : Env} (e : freeze ρ i = ρ') : evalSs C (.fz (i :: is) :: ss) ρ = evalSs C (.fz is :: ss) ρ' := by
  rw [ss_cons, ss_cons, s_fz, s_fz, nx_nx, nx_nx, frz_cons, e]
theorem sb_fzo {i : Nat} {is : List Nat} {d : D} (hi : ρ[i]? = some (.own d)) (h : SB (evalSs C (.fz is :: ss) (ρ.set i (.val d))) o J) : SB (evalSs C (.fz (i :: is) :: ss) ρ) o J := by
  rw [fz_step (ρ' := ρ.set i (.val d)) (by unfold freeze; rw [hi])]; exact h
theorem sb_fzv {i : Nat} {is : List Nat} {d : D} (hi : ρ[i]? = some (.val d)) (h : SB (evalSs C (.fz is :: ss) ρ) o J) : SB (evalSs C (.fz (i :: is) :: ss) ρ) o J := by
  rw [fz_step (ρ' := ρ) (by unfold freeze; rw [hi])]; exact h
/-! names -/
theorem sb_setA {i : Nat} {e : Ex} {d : D} (h : evalE C e ρ = .ok d) (k : SB (evalSs C ss (ρ.set i (.val d))) o J) : SB (evalSs C (.set (.n i) e :: ss) ρ) o J := by
  rw [ss_cons, s_set, h, fl_ok, nx_nx]; exact k
theorem sb_set {i : Nat} {e : Ex} {en : α → D} {o1 : Option α} {f : α → Option τ} (h : XE (evalE C e ρ) en o1) (k : ∀ a, SB (evalSs C ss (ρ.set i (.val (en a)))) (f a) J) : SB (evalSs C (.set (.n i) e :: ss) ρ) (o1.bind f) J :=
  sb_bind h fun a ha => sb_setA ha (k a)
theorem sb_ownA {i : Nat} {e : Ex} {d : D} (h : evalE C e ρ = .ok d) (hd : ownD d = true) (k : SB (evalSs C ss (ρ.set i (.own d))) o J) : SB (evalSs C (.own i e :: ss) ρ) o J := by
  rw [ss_cons, s_own, h, fl_ok, nx_nx]
  unfold ownS
  rw [if_pos hd]; exact k
theorem sb_ownVA {i : Nat} {e : Ex} {d : D} (h : evalE C e ρ = .ok d) (hd : ownD d = false) (k : SB (evalSs C ss (ρ.set i (.val d))) o J) : SB (evalSs C (.own i e :: ss) ρ) o J := by
  rw [ss_cons, s_own, h, fl_ok, nx_nx]
  unfold ownS
  rw [if_neg (by rw [hd]; decide)]; exact k
theorem sb_own {i : Nat} {e : Ex} {en : α → D} {o1 : Option α} {f : α → Option τ} (h : XE (evalE C e ρ) en o1) (hd : ∀ a, ownD (en a) = true) (k : ∀ a, SB (evalSs C ss (ρ.set i (.own (en a)))) (f a) J) : SB (evalSs C (.own i e :: ss) ρ) (o1.bind f) J :=
  sb_bind h fun a ha => sb_ownA ha (hd a) (k a)
theorem sb_ownV {i : Nat} {e : Ex} {en : α → D} {o1 : Option α} {f : α → Option τ} (h : XE (evalE C e ρ) en o1) (hd : ∀ a, ownD (en a) = false) (k : ∀ a, SB (evalSs C ss (ρ.set i (.val (en a)))) (f a) J) : SB (evalSs C (.own i e :: ss) ρ) (o1.bind f) J :=
  sb_bind h fun a ha => sb_ownVA ha (hd a) (k a)
theorem sb_set2 {i j : Nat} {e : Ex} {e1 : α → D} {e2 : β → D} {o1 : Option (α × β)} {f : α × β → Option τ} (h : XE (evalE C e ρ) (eP e1 e2) o1) (k : ∀ a, SB (evalSs C ss ((ρ.set i (.val (e1 a.1))).set j (.val (e2 a.2)))) (f a) J) :
    SB (evalSs C (.set (.t [i, j]) e :: ss) ρ) (o1.bind f) J :=
  sb_bind h fun a ha => by
    rw [ss_cons, s_setT, ha, fl_ok]
    exact k a
def unp2 : List α → Option (α × α)
  | [a, b] => some (a, b)
  | _ => none
theorem sb_set2L {i j : Nat} {e : Ex} {en : α → D} {o1 : Option (List α)} {f : α × α → Option τ} (h : XE (evalE C e ρ) (eL en) o1) (k : ∀ a, SB (evalSs C ss ((ρ.set i (.val (en a.1))).set j (.val (en a.2)))) (f a) J) :
    SB (evalSs C (.set (.t [i, j]) e :: ss) ρ) (o1.bind fun l => (unp2 l).bind f) J :=
  sb_bind h fun a ha => by
    rw [ss_cons, s_setT, ha, fl_ok]
    intro t e
    obtain ⟨p, h1, h2⟩ := bind_some' e
    unfold unp2 at h1
    split at h1
    · cases h1; exact k _ t h2
    · cases h1
def unp3 : List α → Option (α × α × α)
  | [a, b, c] => some (a, b, c)
  | _ => none
theorem sb_set3L {i j l : Nat} {e : Ex} {en : α → D} {o1 : Option (List α)} {f : α × α × α → Option τ} (h : XE (evalE C e ρ) (eL en) o1) (k : ∀ a, SB (evalSs C ss (((ρ.set i (.val (en a.1))).set j (.val (en a.2.1))).set l (.val (en a.2.2)))) (f a) J) :
    SB (evalSs C (.set (.t [i, j, l]) e :: ss) ρ) (o1.bind fun l => (unp3 l).bind f) J :=
  sb_bind h fun a ha => by
    rw [ss_cons, s_setT, ha, fl_ok]
    intro t e
    obtain ⟨p, h1, h2⟩ := bind_some' e
    unfold unp3 at h1
    split at h1
    · cases h1; exact k _ t h2
    · cases h1
/-! own lists and dicts -/
def appO (xs : List α) (v : α) : Option (List α) := if xs.length < 1000000 then some (xs ++ [v]) else none
def extO (xs ys : List α) : Option (List α) := if xs.length + ys.length ≤ 1000000 then some (xs ++ ys) else none
def setO (xs : List α) (i : Int) (v : α) : Option (List α) := (L2.ixN xs.length i).map fun j => xs.set j v
def putO [DecidableEq κ] (kvs : List (κ × α)) (x : κ) (v : α) : Option (List (κ × α)) := if kvs.length < 1000000 then some (putM kvs x v) else none
theorem sb_app {i : Nat} {e : Ex} {en : α → D} {xs : List α} {v : α} {f : List α → Option τ} (hi : ρ[i]? = some (.own (eL en xs))) (h : evalE C e ρ = .ok (en v)) (k : ∀ ys, SB (evalSs C ss (ρ.set i (.own (eL en ys)))) (f ys) J) :
    SB (evalSs C (.app i e :: ss) ρ) ((appO xs v).bind f) J := fun t e' => by
  obtain ⟨ys, h1, h2⟩ := bind_some' e'
  obtain ⟨c, h1⟩ := ite_some' h1
  cases h1
  have e1 : evalS C (.app i e) ρ = .nx (ρ.set i (.own (eL en (xs ++ [v])))) := by
    rw [evalS]
    have : ownL ρ i = true := by unfold ownL; rw [hi]; rfl
    rw [if_pos this, h, fl_ok]
    unfold chg
    rw [hi]
    show (match (if (xs.map en).length < sizeLine then some (PyData.list (xs.map en ++ [en v])) else none) with
      | some d' => Fl.nx (ρ.set i (.own d'))
      | none => .bad) = _
    rw [if_pos (by rw [List.length_map]; exact line_lt (by omega))]
    unfold eL
    rw [List.map_append]
    rfl
  rw [ss_cons, e1, nx_nx]
  exact k _ t h2
theorem sb_ext {i : Nat} {e : Ex} {en : α → D} {xs ys : List α} {d : D} {f : List α → Option τ} (hi : ρ[i]? = some (.own (eL en xs))) (h : evalE C e ρ = .ok d) (hd : itemsOf d = some (ys.map en)) (k : ∀ ys, SB (evalSs C ss (ρ.set i (.own (eL en ys)))) (f ys) J) :
    SB (evalSs C (.ext i e :: ss) ρ) ((extO xs ys).bind f) J := fun t e' => by
  obtain ⟨zs, h1, h2⟩ := bind_some' e'
  obtain ⟨c, h1⟩ := ite_some' h1
  cases h1
  have e1 : evalS C (.ext i e) ρ = .nx (ρ.set i (.own (eL en (xs ++ ys)))) := by
    rw [evalS]
    have : ownL ρ i = true := by unfold ownL; rw [hi]; rfl
    rw [if_pos this, h, fl_ok]
    unfold chg
    rw [hi]
    show (match extD d (.list (xs.map en)) with
      | some d' => Fl.nx (ρ.set i (.own d'))
      | none => .bad) = _
    have e2 : extD d (.list (xs.map en)) = some (.list (xs.map en ++ ys.map en)) := by
      unfold extD
      simp only [hd, List.length_map]
      rw [if_pos (line_le c)]
    rw [e2]
    unfold eL
    rw [List.map_append]
  rw [ss_cons, e1, nx_nx]
  exact k _ t h2
theorem sb_put {i : Nat} {x e : Ex} {en : α → D} {xs : List α} {j : Int} {v : α} {f : List α → Option τ} (hi : ρ[i]? = some (.own (eL en xs))) (hx : evalE C x ρ = .ok (.int j)) (h : evalE C e ρ = .ok (en v)) (k : ∀ ys, SB (evalSs C ss (ρ.set i (.own (eL en ys)))) (f ys) J) :
    SB (evalSs C (.put i x e :: ss) ρ) ((setO xs j v).bind f) J := fun t e' => by
  obtain ⟨zs, h1, h2⟩ := bind_some' e'
  unfold setO at h1
  obtain ⟨n, h3, h1⟩ := Option.map_eq_some_iff.mp h1
  subst h1
  have e1 : evalS C (.put i x e) ρ = .nx (ρ.set i (.own (eL en (xs.set n v)))) := by
    rw [evalS]
    have : ownA ρ i = true := by unfold ownA; rw [hi]
    rw [if_pos this, h, fl_ok, hx, fl_ok]
    unfold chg
    rw [hi]
    show (match (L2.ixN (xs.map en).length j).map (fun n => PyData.list ((xs.map en).set n (en v))) with
      | some d' => Fl.nx (ρ.set i (.own d'))
      | none => .bad) = _
    rw [List.length_map, h3]
    show Fl.nx (ρ.set i (.own (.list ((xs.map en).set n (en v))))) = _
    unfold eL
    rw [List.map_set]
  rw [ss_cons, e1, nx_nx]
  exact k _ t h2
theorem putD_dict {x y : D} {kvs : List (D × D)} : putD x y (.dict kvs) = if kvs.length < sizeLine ∧ keyFor kvs x = true then some (.dict (putKV kvs x y)) else none := by
  cases x <;> rfl
theorem sb_putM {i : Nat} {x e : Ex} {ek : κ → D} {ev : α → D} [DecidableEq κ] {n : Nat} [hq : EqE ek n] [q : KeyE ek] {kvs : List (κ × α)} {a : κ} {v : α} {f : List (κ × α) → Option τ} (hi : ρ[i]? = some (.own (eM ek ev kvs))) (hx : evalE C x ρ = .ok (ek a)) (h : evalE C e ρ = .ok (ev v))
    (k : ∀ ys, SB (evalSs C ss (ρ.set i (.own (eM ek ev ys)))) (f ys) J) : SB (evalSs C (.put i x e :: ss) ρ) ((putO kvs a v).bind f) J := fun t e' => by
  obtain ⟨zs, h1, h2⟩ := bind_some' e'
  obtain ⟨c, h1⟩ := ite_some' h1
  cases h1
  have e1 : evalS C (.put i x e) ρ = .nx (ρ.set i (.own (eM ek ev (putM kvs a v)))) := by
    rw [evalS]
    have : ownA ρ i = true := by unfold ownA; rw [hi]
    rw [if_pos this, h, fl_ok, hx, fl_ok]
    unfold chg
    rw [hi]
    show (match putD (ek a) (ev v) (.dict (kvs.map fun p => (ek p.1, ev p.2))) with
      | some d' => Fl.nx (ρ.set i (.own d'))
      | none => .bad) = _
    rw [putD_dict, if_pos ⟨by rw [List.length_map]; exact line_lt (by omega), KeyE.ok kvs a⟩, putKV_map]
    rfl
  rw [ss_cons, e1, nx_nx]
  exact k _ t h2
/-! leaving -/
theorem sb_ret {e : Ex} {en : α → D} {o1 : Option α} {w : α → τ} (h : XE (evalE C e ρ) en o1) (hJ : ∀ a, J (w a) (.rt (en a))) : SB (evalSs C (.ret e :: ss) ρ) (o1.bind fun a => some (w a)) J := fun t e' => by
  obtain ⟨a, h1, h2⟩ := bind_some' e'
  cases h2
  rw [ss_cons, s_ret, h a h1, fl_ok, nx_rt]
  exact hJ a
theorem sb_ret0 {e : Ex} {en : τ → D} {o1 : Option τ} (h : XE (evalE C e ρ) en o1) (hJ : ∀ a, J a (.rt (en a))) : SB (evalSs C (.ret e :: ss) ρ) o1 J := fun a h1 => by
  rw [ss_cons, s_ret, h a h1, fl_ok, nx_rt]
  exact hJ a
theorem sb_end {w : τ} (h : J w (.nx ρ)) : SB (evalSs C [] ρ) (some w) J := fun t e => by
  cases e; rw [ss_nil]; exact h
/-! tests -/
theorem ite_eq {c : Ex} {a b : List Stm} {t : Bool} (h : evalE C c ρ = .ok (.bool t)) : evalS C (.ite c a b) ρ = if t = true then evalSs C a ρ else evalSs C b ρ := by
  rw [s_ite, h, bnd_ok, asB, fl_ok]
theorem one_eq {s : Stm} : evalSs C [s] ρ = evalS C s ρ := by
  rw [ss_cons]
  cases evalS C s ρ <;> first | (rw [nx_nx, ss_nil]) | rfl
/-- a test that leaves, or goes on -/
theorem sb_if {c : Ex} {a : List Stm} {t : Bool} {o' : Option τ} (h : evalE C c ρ = .ok (.bool t)) (h1 : t = true → SB (evalSs C a ρ) o' (fun x fl => J x (fl.next fun ρ' => evalSs C ss ρ'))) (h2 : t = false → SB (evalSs C ss ρ) o J) :
    SB (evalSs C (.ite c a [] :: ss) ρ) (if t = true then o' else o) J := by
  rw [ss_cons, ite_eq h]
  cases t
  · rw [if_neg (by decide), if_neg (by decide), ss_nil, nx_nx]; exact h2 rfl
  · rw [if_pos rfl, if_pos rfl]; exact h1 rfl
theorem sb_ite {c : Ex} {a b : List Stm} {t : Bool} {o' : Option τ} (h : evalE C c ρ = .ok (.bool t)) (h1 : t = true → SB (evalSs C a ρ) o' J) (h2 : t = false → SB (evalSs C b ρ) o J) :
    SB (evalSs C [.ite c a b] ρ) (if t = true then o' else o) J := by
  rw [one_eq, ite_eq h]
  cases t
  · exact h2 rfl
  · exact h1 rfl
/-- one statement, then the rest -/
theorem sb_seqN {s : Stm} {R : σ → Env → Prop} {o1 : Option σ} {k : σ → Option τ} (h : SB (evalSs C [s] ρ) o1 (JN R)) (hk : ∀ x ρ', R x ρ' → SB (evalSs C ss ρ') (k x) J) : SB (evalSs C (s :: ss) ρ) (o1.bind k) J := fun t e => by
  obtain ⟨a, h1, h2⟩ := bind_some' e
  obtain ⟨ρ', e1, r⟩ := h a h1
  rw [one_eq] at e1
  rw [ss_cons, e1, nx_nx]
  exact hk a ρ' r t h2
theorem sb_seqF {s : Stm} {R : σ → Env → Prop} {en : β → D} {o1 : Option (F σ β)} {k : σ → Option τ} {w : β → τ} (h : SB (evalSs C [s] ρ) o1 (JF R en)) (hJ : ∀ b, J (w b) (.rt (en b))) (hk : ∀ x ρ', R x ρ' → SB (evalSs C ss ρ') (k x) J) :
    SB (evalSs C (s :: ss) ρ) (o1.bind (F.elim k fun b => some (w b))) J := fun t e => by
  obtain ⟨a, h1, h2⟩ := bind_some' e
  have h := h a h1
  cases a with
  | nx x =>
    obtain ⟨ρ', e1, r⟩ := h
    rw [one_eq] at e1
    rw [ss_cons, e1, nx_nx]
    exact hk x ρ' r t h2
  | rt b =>
    have e1 : evalSs C [s] ρ = .rt (en b) := h
    rw [one_eq] at e1
    rw [ss_cons, e1, nx_rt]
    cases h2
    exact hJ b
/-! loops -/
def foldO (f : σ → α → Option σ) : List α → σ → Option σ
  | [], s => some s
  | x :: xs, s => (f s x).bind fun s' => foldO f xs s'
def foldF (f : σ → α → Option (F σ β)) : List α → σ → Option (F σ β)
  | [], s => some (.nx s)
  | x :: xs, s => (f s x).bind (F.elim (fun s' => foldF f xs s') fun b => some (.rt b))
def whileO (c : σ → Option Bool) (f : σ → Option σ) : Nat → σ → Option σ
  | 0, _ => none
  | n + 1, s => (c s).bind fun b => if b = true then (f s).bind fun s' => whileO c f n s' else some s
def whileF (c : σ → Option Bool) (f : σ → Option (F σ β)) : Nat → σ → Option (F σ β)
  | 0, _ => none
  | n + 1, s => (c s).bind fun b => if b = true then (f s).bind (F.elim (fun s' => whileF c f n s') fun b => some (.rt b)) else some (.nx s)
theorem sb_loop {t : Tg} {sk : Sk} {src : List Ex} {body : List Stm} {enx : α → D} {xs : List α} {R : σ → Env → Prop} {s0 : σ} {f : σ → α → Option σ} (hs : (evalEs C src ρ).bind (evalSrc sk) = .ok (xs.map enx)) (h0 : R s0 ρ)
    (hb : ∀ s x ρ, x ∈ xs → R s ρ → ∃ ρ1, bindT ρ t (enx x) = some ρ1 ∧ SB (evalSs C body ρ1) (f s x) (JN R)) : SB (evalSs C [.loop t sk src body] ρ) (foldO f xs s0) (JN R) := fun s e => by
  rw [one_eq, s_loop, hs, fl_ok]
  clear hs
  induction xs generalizing s0 ρ with
  | nil => cases e; exact ⟨ρ, loop_nil, h0⟩
  | cons x xs ih =>
    rw [foldO] at e
    obtain ⟨s1, h1, h2⟩ := bind_some' e
    obtain ⟨ρ1, e1, b1⟩ := hb s0 x ρ List.mem_cons_self h0
    obtain ⟨ρ2, e2, r2⟩ := b1 s1 h1
    rw [List.map_cons, loop_cons, e1, optFl_some, e2, nx_nx]
    exact ih r2 (fun s y ρ hy => hb s y ρ (List.mem_cons_of_mem _ hy)) h2
theorem sb_loopF {t : Tg} {sk : Sk} {src : List Ex} {body : List Stm} {enx : α → D} {en : β → D} {xs : List α} {R : σ → Env → Prop} {s0 : σ} {f : σ → α → Option (F σ β)} (hs : (evalEs C src ρ).bind (evalSrc sk) = .ok (xs.map enx)) (h0 : R s0 ρ)
    (hb : ∀ s x ρ, x ∈ xs → R s ρ → ∃ ρ1, bindT ρ t (enx x) = some ρ1 ∧ SB (evalSs C body ρ1) (f s x) (JF R en)) : SB (evalSs C [.loop t sk src body] ρ) (foldF f xs s0) (JF R en) := fun s e => by
  rw [one_eq, s_loop, hs, fl_ok]
  clear hs
  induction xs generalizing s0 ρ with
  | nil => cases e; exact ⟨ρ, loop_nil, h0⟩
  | cons x xs ih =>
    rw [foldF] at e
    obtain ⟨s1, h1, h2⟩ := bind_some' e
    obtain ⟨ρ1, e1, b1⟩ := hb s0 x ρ List.mem_cons_self h0
    have b2 := b1 s1 h1
    cases s1 with
    | nx s1 =>
      obtain ⟨ρ2, e2, r2⟩ := b2
      rw [List.map_cons, loop_cons, e1, optFl_some, e2, nx_nx]
      exact ih r2 (fun s y ρ hy => hb s y ρ (List.mem_cons_of_mem _ hy)) h2
    | rt b =>
      have e2 : evalSs C body ρ1 = .rt (en b) := b2
      cases h2
      show _ = Fl.rt (en b)
      rw [List.map_cons, loop_cons, e1, optFl_some, e2, nx_rt]
theorem while_eq {c : Ex} {body : List Stm} {n : Nat} {t : Bool} (h : evalE C c ρ = .ok (.bool t)) : whileL (evalE C c) (evalSs C body) (n + 1) ρ = if t = true then (evalSs C body ρ).next fun ρ' => whileL (evalE C c) (evalSs C body) n ρ' else .nx ρ := by
  rw [whileL, h, bnd_ok, asB, fl_ok]
theorem sb_while {c : Ex} {body : List Stm} {R : σ → Env → Prop} {s0 : σ} {g : σ → Option Bool} {f : σ → Option σ} (h0 : R s0 ρ) (hc : ∀ s ρ, R s ρ → XE (evalE C c ρ) PyData.bool (g s)) (hb : ∀ s ρ, R s ρ → g s = some true → SB (evalSs C body ρ) (f s) (JN R)) :
    SB (evalSs C [.while c body] ρ) (whileO g f whileTurns s0) (JN R) := fun s e => by
  rw [one_eq, s_while]
  generalize whileTurns = n at e ⊢
  induction n generalizing s0 ρ with
  | zero => cases e
  | succ n ih =>
    rw [whileO] at e
    obtain ⟨b, h1, e⟩ := bind_some' e
    rw [while_eq (hc s0 ρ h0 b h1)]
    cases b with
    | false => rw [if_neg (by decide)] at e ⊢; cases e; exact ⟨ρ, rfl, h0⟩
    | true =>
      rw [if_pos rfl] at e ⊢
      obtain ⟨s1, h2, e⟩ := bind_some' e
      obtain ⟨ρ2, e2, r2⟩ := hb s0 ρ h0 h1 s1 h2
      rw [e2, nx_nx]
      exact ih r2 e
theorem sb_whileF {c : Ex} {body : List Stm} {R : σ → Env → Prop} {en : β → D} {s0 : σ} {g : σ → Option Bool} {f : σ → Option (F σ β)} (h0 : R s0 ρ) (hc : ∀ s ρ, R s ρ → XE (evalE C c ρ) PyData.bool (g s)) (hb : ∀ s ρ, R s ρ → g s = some true → SB (evalSs C body ρ) (f s) (JF R en)) :
    SB (evalSs C [.while c body] ρ) (whileF g f whileTurns s0) (JF R en) := fun s e => by
  rw [one_eq, s_while]
  generalize whileTurns = n at e ⊢
  induction n generalizing s0 ρ with
  | zero => cases e
  | succ n ih =>
    rw [whileF] at e
    obtain ⟨b, h1, e⟩ := bind_some' e
    rw [while_eq (hc s0 ρ h0 b h1)]
    cases b with
    | false => rw [if_neg (by decide)] at e ⊢; cases e; exact ⟨ρ, rfl, h0⟩
    | true =>
      rw [if_pos rfl] at e ⊢
      obtain ⟨s1, h2, e⟩ := bind_some' e
      have b2 := hb s0 ρ h0 h1 s1 h2
      cases s1 with
      | nx s1 =>
        obtain ⟨ρ2, e2, r2⟩ := b2
        rw [e2, nx_nx]
        exact ih r2 e
      | rt v =>
        have e2 : evalSs C body ρ = .rt (en v) := b2
        cases e
        show _ = Fl.rt (en v)
        rw [e2, nx_rt]
/-! defs -/
theorem fn_of {T : Nat → Option Fn} {n f : Nat} {fn : Fn} {ds : List D} {ρ : Env} {en : α → D} {o : Option α} (h : T f = some fn) (hl : ds.length = fn.np) (hρ : startR fn ds = ρ) (hb : SB (evalSs (callF T n) fn.body ρ) o (JT en)) : XE (callF T (n + 1) f ds) en o := fun a e => by
  rw [call_eq h hl, hρ, hb a e]; rfl
end BP
/-! Typed words: more built-ins. -/
namespace BP
open PySem
variable {C : Nat → List D → Res D} {ρ : Env} {α β γ σ τ κ : Type}
theorem sb_ifElse {J : τ → Fl → Prop} {ss : List Stm} {o : Option τ} {c : Ex} {a b ss' : List Stm} {t : Bool} {o' : Option τ} (h : evalE C c ρ = .ok (.bool t)) (e : b ++ ss = ss') (h1 : t = true → SB (evalSs C a ρ) o' (fun x fl => J x (fl.next fun ρ' => evalSs C ss ρ'))) (h2 : t = false → SB (evalSs C ss' ρ) o J) :
    SB (evalSs C (.ite c a b :: ss) ρ) (if t = true then o' else o) J := by
  subst e
  rw [ss_cons, ite_eq h]
  cases t
  · rw [if_neg (by decide), if_neg (by decide)]
    have e : (evalSs C b ρ).next (fun ρ' => evalSs C ss ρ') = evalSs C (b ++ ss) ρ := by
      clear h h1 h2
      induction b generalizing ρ with
      | nil => rw [ss_nil, nx_nx]; rfl
      | cons s b ih =>
        rw [List.cons_append, ss_cons, ss_cons]
        cases evalS C s ρ with
        | nx ρ' => rw [nx_nx, nx_nx]; exact ih
        | rt d => rfl
        | ex c => rfl
        | bad => rfl
    rw [e]; exact h2 rfl
  · rw [if_pos rfl, if_pos rfl]; exact h1 rfl
theorem sb_endN {σ : Type} {R : σ → Env → Prop} {w : σ} (h : R w ρ) : SB (evalSs C [] ρ) (some w) (JN R) := sb_end (J := JN R) ⟨ρ, rfl, h⟩
theorem sb_endF {σ β : Type} {R : σ → Env → Prop} {en : β → D} {w : σ} (h : R w ρ) : SB (evalSs C [] ρ) (some (.nx w)) (JF R en) := sb_end (J := JF R en) (w := F.nx w) ⟨ρ, rfl, h⟩
/-! statements over options -/
section
variable {J : τ → Fl → Prop} {ss : List Stm} {o : Option τ}
theorem sb_appM {i : Nat} {e : Ex} {en : α → D} {xs : List α} {o1 : Option α} {f : List α → Option τ} (hi : ρ[i]? = some (.own (eL en xs))) (h : XE (evalE C e ρ) en o1) (k : ∀ ys, SB (evalSs C ss (ρ.set i (.own (eL en ys)))) (f ys) J) :
    SB (evalSs C (.app i e :: ss) ρ) ((o1.bind fun v => appO xs v).bind f) J := fun t e' => by
  obtain ⟨ys, h1, h2⟩ := bind_some' e'
  obtain ⟨v, h3, h4⟩ := bind_some' h1
  exact sb_app (f := f) hi (h v h3) k t (by rw [h4]; exact h2)
theorem sb_extTM {i : Nat} {e : Ex} {en : α → D} {xs : List α} {o1 : Option (List α)} {f : List α → Option τ} (hi : ρ[i]? = some (.own (eL en xs))) (h : XE (evalE C e ρ) (eT en) o1) (k : ∀ ys, SB (evalSs C ss (ρ.set i (.own (eL en ys)))) (f ys) J) :
    SB (evalSs C (.ext i e :: ss) ρ) ((o1.bind fun v => extO xs v).bind f) J := fun t e' => by
  obtain ⟨ys, h1, h2⟩ := bind_some' e'
  obtain ⟨v, h3, h4⟩ := bind_some' h1
  exact sb_ext (f := f) hi (h v h3) rfl k t (by rw [h4]; exact h2)
theorem sb_extLM {i : Nat} {e : Ex} {en : α → D} {xs : List α} {o1 : Option (List α)} {f : List α → Option τ} (hi : ρ[i]? = some (.own (eL en xs))) (h : XE (evalE C e ρ) (eL en) o1) (k : ∀ ys, SB (evalSs C ss (ρ.set i (.own (eL en ys)))) (f ys) J) :
    SB (evalSs C (.ext i e :: ss) ρ) ((o1.bind fun v => extO xs v).bind f) J := fun t e' => by
  obtain ⟨ys, h1, h2⟩ := bind_some' e'
  obtain ⟨v, h3, h4⟩ := bind_some' h1
  exact sb_ext (f := f) hi (h v h3) rfl k t (by rw [h4]; exact h2)
theorem sb_putMM {i : Nat} {x e : Ex} {en : α → D} {xs : List α} {o1 : Option Int} {o2 : Option α} {f : List α → Option τ} (hi : ρ[i]? = some (.own (eL en xs))) (hx : XE (evalE C x ρ) PyData.int o1) (h : XE (evalE C e ρ) en o2) (k : ∀ ys, SB (evalSs C ss (ρ.set i (.own (eL en ys)))) (f ys) J) :
    SB (evalSs C (.put i x e :: ss) ρ) ((o1.bind fun j => o2.bind fun v => setO xs j v).bind f) J := fun t e' => by
  obtain ⟨ys, h1, h2⟩ := bind_some' e'
  obtain ⟨j, h3, h1⟩ := bind_some' h1
  obtain ⟨v, h4, h5⟩ := bind_some' h1
  exact sb_put (f := f) hi (hx j h3) (h v h4) k t (by rw [h5]; exact h2)
theorem sb_putDM {i : Nat} {x e : Ex} {ek : κ → D} {ev : α → D} [DecidableEq κ] {n : Nat} [hq : EqE ek n] [q : KeyE ek] {kvs : List (κ × α)} {o1 : Option κ} {o2 : Option α} {f : List (κ × α) → Option τ} (hi : ρ[i]? = some (.own (eM ek ev kvs))) (hx : XE (evalE C x ρ) ek o1) (h : XE (evalE C e ρ) ev o2)
    (k : ∀ ys, SB (evalSs C ss (ρ.set i (.own (eM ek ev ys)))) (f ys) J) : SB (evalSs C (.put i x e :: ss) ρ) ((o1.bind fun j => o2.bind fun v => putO kvs j v).bind f) J := fun t e' => by
  obtain ⟨ys, h1, h2⟩ := bind_some' e'
  obtain ⟨j, h3, h1⟩ := bind_some' h1
  obtain ⟨v, h4, h5⟩ := bind_some' h1
  exact sb_putM (f := f) hi (hx j h3) (h v h4) k t (by rw [h5]; exact h2)
theorem sb_ifM {c : Ex} {a : List Stm} {oc : Option Bool} {o' : Option τ} (h : XE (evalE C c ρ) PyData.bool oc) (h1 : SB (evalSs C a ρ) o' (fun x fl => J x (fl.next fun ρ' => evalSs C ss ρ'))) (h2 : SB (evalSs C ss ρ) o J) :
    SB (evalSs C (.ite c a [] :: ss) ρ) (oc.bind fun t => if t = true then o' else o) J :=
  sb_bind h fun t ht => sb_if ht (fun _ => h1) (fun _ => h2)
theorem sb_ifElseM {c : Ex} {a b ss' : List Stm} {oc : Option Bool} {o' : Option τ} (h : XE (evalE C c ρ) PyData.bool oc) (e : b ++ ss = ss') (h1 : SB (evalSs C a ρ) o' (fun x fl => J x (fl.next fun ρ' => evalSs C ss ρ'))) (h2 : SB (evalSs C ss' ρ) o J) :
    SB (evalSs C (.ite c a b :: ss) ρ) (oc.bind fun t => if t = true then o' else o) J :=
  sb_bind h fun t ht => sb_ifElse ht e (fun _ => h1) (fun _ => h2)
theorem sb_iteM {c : Ex} {a b : List Stm} {oc : Option Bool} {o' : Option τ} (h : XE (evalE C c ρ) PyData.bool oc) (h1 : SB (evalSs C a ρ) o' J) (h2 : SB (evalSs C b ρ) o J) :
    SB (evalSs C [.ite c a b] ρ) (oc.bind fun t => if t = true then o' else o) J :=
  sb_bind h fun t ht => sb_ite ht (fun _ => h1) (fun _ => h2)
theorem sb_loopM {σ : Type} {t : Tg} {sk : Sk} {src : List Ex} {body : List Stm} {enx : α → D} {ox : Option (List α)} {R : σ → Env → Prop} {s0 : σ} {f : σ → α → Option σ} (hs : XS ((evalEs C src ρ).bind (evalSrc sk)) enx ox) (h0 : R s0 ρ)
    (hb : ∀ s x ρ, R s ρ → ∃ ρ1, bindT ρ t (enx x) = some ρ1 ∧ SB (evalSs C body ρ1) (f s x) (JN R)) : SB (evalSs C [.loop t sk src body] ρ) (ox.bind fun xs => foldO f xs s0) (JN R) :=
  sb_bindS hs fun xs hx => sb_loop hx h0 fun s x ρ _ => hb s x ρ
theorem sb_loopFM {σ β : Type} {t : Tg} {sk : Sk} {src : List Ex} {body : List Stm} {enx : α → D} {en : β → D} {ox : Option (List α)} {R : σ → Env → Prop} {s0 : σ} {f : σ → α → Option (F σ β)} (hs : XS ((evalEs C src ρ).bind (evalSrc sk)) enx ox) (h0 : R s0 ρ)
    (hb : ∀ s x ρ, R s ρ → ∃ ρ1, bindT ρ t (enx x) = some ρ1 ∧ SB (evalSs C body ρ1) (f s x) (JF R en)) : SB (evalSs C [.loop t sk src body] ρ) (ox.bind fun xs => foldF f xs s0) (JF R en) :=
  sb_bindS hs fun xs hx => sb_loopF hx h0 fun s x ρ _ => hb s x ρ
end
/-! data told to be of a type -/
def asI : D → Option Int
  | .int i => some i
  | _ => none
def asB' : D → Option Bool
  | .bool i => some i
  | _ => none
def asTD : D → Option (List D)
  | .tuple xs => some xs
  | _ => none
def asT (f : D → Option α) (d : D) : Option (List α) := (asTD d).bind (mapO f)
def asP (f : D → Option α) (g : D → Option β) : D → Option (α × β)
  | .tuple [a, b] => (f a).bind fun x => (g b).bind fun y => some (x, y)
  | _ => none
def Dec (f : D → Option α) (en : α → D) : Prop := ∀ d a, f d = some a → d = en a
theorem dec_I : Dec asI PyData.int := fun d a h => by cases d <;> simp [asI] at h; subst h; rfl
theorem dec_B : Dec asB' PyData.bool := fun d a h => by cases d <;> simp [asB'] at h; subst h; rfl
theorem map_id' (xs : List D) : xs.map eD = xs := by
  induction xs with
  | nil => rfl
  | cons x xs ih => rw [List.map_cons, ih]; rfl
theorem dec_TD : Dec asTD (eT eD) := fun d a h => by cases d <;> simp [asTD] at h; subst h; unfold eT; rw [map_id']
theorem dec_mapO {f : D → Option α} {en : α → D} (h : Dec f en) : ∀ (xs : List D) (ys : List α), mapO f xs = some ys → xs = ys.map en
  | [], ys, e => by cases e; rfl
  | x :: xs, ys, e => by
    rw [mapO] at e
    obtain ⟨y, h1, e⟩ := bind_some' e
    obtain ⟨zs, h2, e⟩ := bind_some' e
    cases e
    rw [h x y h1, dec_mapO h xs zs h2]; rfl
theorem dec_T {f : D → Option α} {en : α → D} (h : Dec f en) : Dec (asT f) (eT en) := fun d a e => by
  obtain ⟨xs, h1, h2⟩ := bind_some' e
  rw [dec_TD d xs h1]
  unfold eT
  rw [map_id', dec_mapO h xs a h2]
theorem dec_P {f : D → Option α} {g : D → Option β} {e1 : α → D} {e2 : β → D} (h : Dec f e1) (h' : Dec g e2) : Dec (asP f g) (eP e1 e2) := fun d a e => by
  unfold asP at e
  split at e
  · obtain ⟨x, h1, e⟩ := bind_some' e
    obtain ⟨y, h2, e⟩ := bind_some' e
    cases e
    rw [h _ x h1, h' _ y h2]; rfl
  · cases e
theorem x_dec {x : Res D} {f : D → Option α} {en : α → D} {d : D} (hf : Dec f en) (h : x = .ok (eD d)) : XE x en (f d) := fun a e => by
  rw [h]; show Res.ok d = _; rw [hf d a e]
theorem x_asO {x : Res D} {en : α → D} {a : Option α} (h : x = .ok (eO en a)) : XE x en a := fun b e => by
  subst e; exact h
/-! equality of anything -/
def eqD (a b : D) : Option Bool := if SeqAt.shaped a = true ∧ SeqAt.shaped b = true then some (PyData.eqv a b) else none
def neD (a b : D) : Option Bool := if SeqAt.shaped a = true ∧ SeqAt.shaped b = true then some (!PyData.eqv a b) else none
theorem x_cmpM {o : Cop} {x y : Ex} {a b : D} {q : Option Bool} (h : evalE C x ρ = .ok a) (h' : evalE C y ρ = .ok b) (e : XE (evalCmp o a b) PyData.bool q) : XE (evalE C (.cmp o x y) ρ) PyData.bool q := by
  rw [ev_cmp, h, bnd_ok, h', bnd_ok]; exact e
theorem k_eqD {a b : D} : XE (evalCmp .eq (eD a) (eD b)) PyData.bool (eqD a b) := fun t e => by
  obtain ⟨c, e⟩ := ite_some' e; cases e
  exact c_eq c.1 c.2
theorem k_neD {a b : D} : XE (evalCmp .ne (eD a) (eD b)) PyData.bool (neD a b) := fun t e => by
  obtain ⟨c, e⟩ := ite_some' e; cases e
  exact c_ne c.1 c.2
theorem x_max1 {x : Ex} {xs : List Int} (h : evalE C x ρ = .ok (eL PyData.int xs)) : XE (evalE C (.bt .max1 [x]) ρ) PyData.int (maxI xs) := fun a e => by
  refine x_bt1 h ?_
  have e1 : (listOf (.list (xs.map PyData.int))).bind intsOf = some xs := intsOf_map xs
  have e2 : maxLD (.list (xs.map PyData.int)) = okO (maxI xs) PyData.int := by
    unfold maxLD
    rw [e1]
    simp only
    unfold maxLI
    rw [e1]
    rfl
  rw [e] at e2
  exact e2
theorem x_min1 {x : Ex} {xs : List Int} (h : evalE C x ρ = .ok (eL PyData.int xs)) : XE (evalE C (.bt .min1 [x]) ρ) PyData.int (minI xs) := fun a e => by
  refine x_bt1 h ?_
  have e1 : (listOf (.list (xs.map PyData.int))).bind intsOf = some xs := intsOf_map xs
  have e2 : minLD (.list (xs.map PyData.int)) = okO (minI xs) PyData.int := by
    unfold minLD
    rw [e1]
    simp only
    unfold minLI
    rw [e1]
    rfl
  rw [e] at e2
  exact e2
theorem k_lenP {e : α → D} {f : β → D} {p : α × β} : evalBt .len [eP e f p] = .ok (.int 2) := Eq.trans rfl rfl
end BP
/-! Slots that are own or not. -/
namespace BP
open PySem PySem.Spec PyProof.Rows L2
section
variable {C : Nat → List D → Res D} {ρ : Env} {ss : List Stm} {τ : Type} {o : Option τ} {J : τ → Fl → Prop}
def slB (b : Bool) (d : D) : Slot := match b with
  | true => .own d
  | false => .val d
theorem set_same {ρ : Env} {i : Nat} {x : Slot} (h : ρ[i]? = some x) : ρ.set i x = ρ := by
  obtain ⟨hi, e⟩ := List.getElem?_eq_some_iff.mp h
  rw [← e, List.set_getElem_self]
theorem sb_fzb {i : Nat} {is : List Nat} {b : Bool} {d : D} (hi : ρ[i]? = some (slB b d)) (h : SB (evalSs C (.fz is :: ss) (ρ.set i (.val d))) o J) : SB (evalSs C (.fz (i :: is) :: ss) ρ) o J := by
  cases b with
  | true => exact sb_fzo hi h
  | false =>
    have hi : ρ[i]? = some (.val d) := hi
    rw [set_same hi] at h
    exact sb_fzv hi h
theorem x_ob {i : Nat} {b : Bool} {d : D} (h : ρ[i]? = some (slB b d)) : evalE C (.b i) ρ = .ok d := by
  cases b with
  | true => exact x_o h
  | false => exact x_b h
theorem x_DL {x : Res D} {en : α → D} {xs : List α} (h : x = .ok (eL en xs)) : x = .ok (eL eD (xs.map en)) := by
  rw [h]; unfold eL; rw [map_id']
theorem x_DT {x : Res D} {en : α → D} {xs : List α} (h : x = .ok (eT en xs)) : x = .ok (eT eD (xs.map en)) := by
  rw [h]; unfold eT; rw [map_id']
def inD (d : D) (xs : List D) : Option Bool := if SeqAt.shaped d = true ∧ SeqAt.shaped (.list xs) = true then some (xs.any fun z => PyData.eqv z d) else none
theorem k_inDL {d : D} {xs : List D} : XE (evalCmp .inn d (eL eD xs)) PyData.bool (inD d xs) := fun t e => by
  obtain ⟨c, e⟩ := ite_some' e; cases e
  have e1 : evalCmp .inn d (eL eD xs) = if SeqAt.shaped d = true ∧ SeqAt.shaped (.list (xs.map eD)) = true then .ok (.bool ((xs.map eD).any fun z => PyData.eqv z d)) else .bad := by
    unfold eL; cases d <;> rfl
  rw [map_id'] at e1
  rw [e1, if_pos ⟨c.1, c.2⟩]
theorem k_inDT {d : D} {xs : List D} : XE (evalCmp .inn d (eT eD xs)) PyData.bool (inD d xs) := fun t e => by
  obtain ⟨c, e⟩ := ite_some' e; cases e
  have e1 : evalCmp .inn d (eT eD xs) = if SeqAt.shaped d = true ∧ SeqAt.shaped (.tuple (xs.map eD)) = true then .ok (.bool ((xs.map eD).any fun z => PyData.eqv z d)) else .bad := by
    unfold eT; cases d <;> rfl
  rw [map_id'] at e1
  rw [e1, if_pos ⟨c.1, c.2⟩]
def ninD (d : D) (xs : List D) : Option Bool := if SeqAt.shaped d = true ∧ SeqAt.shaped (.list xs) = true then some (!xs.any fun z => PyData.eqv z d) else none
theorem k_ninDL {d : D} {xs : List D} : XE (evalCmp .nin d (eL eD xs)) PyData.bool (ninD d xs) := fun t e => by
  obtain ⟨c, e⟩ := ite_some' e; cases e
  have e1 : evalCmp .nin d (eL eD xs) = if SeqAt.shaped d = true ∧ SeqAt.shaped (.list (xs.map eD)) = true then .ok (.bool (!(xs.map eD).any fun z => PyData.eqv z d)) else .bad := by
    unfold eL; cases d <;> rfl
  rw [map_id'] at e1
  rw [e1, if_pos ⟨c.1, c.2⟩]
theorem k_ninDT {d : D} {xs : List D} : XE (evalCmp .nin d (eT eD xs)) PyData.bool (ninD d xs) := fun t e => by
  obtain ⟨c, e⟩ := ite_some' e; cases e
  have e1 : evalCmp .nin d (eT eD xs) = if SeqAt.shaped d = true ∧ SeqAt.shaped (.tuple (xs.map eD)) = true then .ok (.bool (!(xs.map eD).any fun z => PyData.eqv z d)) else .bad := by
    unfold eT; cases d <;> rfl
  rw [map_id'] at e1
  rw [e1, if_pos ⟨c.1, c.2⟩]
end
end BP
/-! sorted(set(..)), len(set(..)), sorted, max, min, dict(d), d.get(k, x), xs.count(k), typed. -/
namespace BP
open PySem PySem.Spec PyProof.Rows L2
section
variable {C : Nat → List D → Res D} {ρ : Env} {α β κ : Type}
def sortedSetO (xs : List (List Int)) : Option (List (List Int)) := if setRows xs = true then some (sortU xs) else none
theorem rowsO_map : ∀ xs : List (List Int), rowsO (xs.map (eT PyData.int)) = some xs
  | [] => rfl
  | x :: xs => by
    rw [List.map_cons]
    show ((intsOf (x.map PyData.int)).bind fun k => (rowsO (xs.map (eT PyData.int))).bind fun ks => some (k :: ks)) = _
    rw [rowsO_map xs, intsOf_map]
    rfl
theorem setD_rows {d : D} {xs : List (List Int)} (h : itemsOf d = some (xs.map (eT PyData.int))) (c : setRows xs = true) : setD d = some (.inl xs) := by
  unfold setD
  rw [h]
  show (match rowsO (xs.map (eT PyData.int)) with
    | some ks => if setRows ks = true then some (Sum.inl ks) else none
    | none => (intsOf (xs.map (eT PyData.int))).bind fun ns => if ns.length < 64 then some (Sum.inr ns) else none) = _
  rw [rowsO_map]
  show (if setRows xs = true then some (Sum.inl xs) else none) = _
  rw [if_pos c]
theorem x_sortedSet {x : Ex} {xs : List (List Int)} (h : evalE C x ρ = .ok (eL (eT PyData.int) xs)) : XE (evalE C (.bt .sortedSet [x]) ρ) (eL (eT PyData.int)) (sortedSetO xs) := fun a e => by
  obtain ⟨c, e⟩ := ite_some' e; cases e
  refine x_bt1 h ?_
  show okO (setD (eL (eT PyData.int) xs)) _ = _
  rw [setD_rows rfl c]
  rfl
theorem x_sortedSetT {x : Ex} {xs : List (List Int)} (h : evalE C x ρ = .ok (eT (eT PyData.int) xs)) : XE (evalE C (.bt .sortedSet [x]) ρ) (eL (eT PyData.int)) (sortedSetO xs) := fun a e => by
  obtain ⟨c, e⟩ := ite_some' e; cases e
  refine x_bt1 h ?_
  show okO (setD (eT (eT PyData.int) xs)) _ = _
  rw [setD_rows rfl c]
  rfl
def sortedSetI (xs : List Int) : Option (List Int) := if xs.length < 64 then some (sortUI xs) else none
theorem setD_ints {d : D} {xs : List Int} (h : itemsOf d = some (xs.map PyData.int)) (c : xs.length < 64) : sortedSetD d = .ok (eL PyData.int (sortUI xs)) := by
  unfold sortedSetD setD
  rw [h]
  cases xs with
  | nil => rfl
  | cons y ys =>
    show okO ((intsOf ((y :: ys).map PyData.int)).bind fun ns => if ns.length < 64 then some (Sum.inr ns) else none) _ = _
    rw [intsOf_map]
    show okO (if (y :: ys).length < 64 then some (Sum.inr (y :: ys)) else none) _ = _
    rw [if_pos c]
    rfl
theorem x_sortedSetIL {x : Ex} {xs : List Int} (h : evalE C x ρ = .ok (eL PyData.int xs)) : XE (evalE C (.bt .sortedSet [x]) ρ) (eL PyData.int) (sortedSetI xs) := fun a e => by
  obtain ⟨c, e⟩ := ite_some' e; cases e
  exact x_bt1 h (setD_ints rfl c)
theorem x_sortedSetIT {x : Ex} {xs : List Int} (h : evalE C x ρ = .ok (eT PyData.int xs)) : XE (evalE C (.bt .sortedSet [x]) ρ) (eL PyData.int) (sortedSetI xs) := fun a e => by
  obtain ⟨c, e⟩ := ite_some' e; cases e
  exact x_bt1 h (setD_ints rfl c)
def lenSetO (xs : List Int) : Option Int := if xs.length < 64 then some ((sortUI xs).length : Int) else none
theorem lenSet_of {d : D} {xs : List Int} (h : itemsOf d = some (xs.map PyData.int)) (c : xs.length < 64) : lenSetD d = .ok (PyData.int ((sortUI xs).length : Int)) := by
  unfold lenSetD
  rw [h]
  show okO ((intsOf (xs.map PyData.int)).bind fun ns => if ns.length < 64 then some ns else none) _ = _
  rw [intsOf_map]
  show okO (if xs.length < 64 then some xs else none) _ = _
  rw [if_pos c]
  rfl
theorem x_lenSet {x : Ex} {xs : List Int} (h : evalE C x ρ = .ok (eL PyData.int xs)) : XE (evalE C (.bt .lenSet [x]) ρ) PyData.int (lenSetO xs) := fun a e => by
  obtain ⟨c, e⟩ := ite_some' e; cases e
  exact x_bt1 h (lenSet_of rfl c)
theorem x_lenSetT {x : Ex} {xs : List Int} (h : evalE C x ρ = .ok (eT PyData.int xs)) : XE (evalE C (.bt .lenSet [x]) ρ) PyData.int (lenSetO xs) := fun a e => by
  obtain ⟨c, e⟩ := ite_some' e; cases e
  exact x_bt1 h (lenSet_of rfl c)
/-! dicts -/
def dictO (kvs : List ((Int × Int) × α)) : Option (List ((Int × Int) × α)) := if (kvs.all fun p => decide (0 ≤ p.1.1) && decide (p.1.1 < 8) && (decide (0 ≤ p.1.2) && decide (p.1.2 < 8))) = true then some kvs else none
theorem x_dict {x : Ex} {ev : α → D} {kvs : List ((Int × Int) × α)} (h : evalE C x ρ = .ok (eM (eP PyData.int PyData.int) ev kvs)) : XE (evalE C (.bt .dict [x]) ρ) (eM (eP PyData.int PyData.int) ev) (dictO kvs) := fun a e => by
  obtain ⟨c, e⟩ := ite_some' e; cases e
  refine x_bt1 h ?_
  show (if ((kvs.map fun p => (eP PyData.int PyData.int p.1, ev p.2)).all fun p => smallK p.1) = true then Res.ok (PyData.dict _) else .bad) = _
  rw [if_pos (by rw [List.all_map]; exact c)]
  rfl
def getDM [DecidableEq κ] (kvs : List (κ × α)) (x : κ) (y : α) : α := (getM kvs x).getD y
theorem x_dget {x y z : Ex} {ek : κ → D} {ev : α → D} [DecidableEq κ] {k : Nat} [hq : EqE ek k] [q : KeyT ek] {kvs : List (κ × α)} {a : κ} {b : α} (h : evalE C x ρ = .ok (eM ek ev kvs)) (h' : evalE C y ρ = .ok (ek a)) (h'' : evalE C z ρ = .ok (ev b)) :
    evalE C (.dget x y z) ρ = .ok (ev (getDM kvs a b)) := by
  unfold evalE
  rw [h]
  show (evalE C y ρ).bind _ = _
  rw [h']
  show (evalE C z ρ).bind _ = _
  rw [h'']
  show (if (keyOk (ek a) && keysT (kvs.map fun p => (ek p.1, ev p.2))) = true then Res.ok ((getD' (kvs.map fun p => (ek p.1, ev p.2)) (ek a)).getD (ev b)) else .bad) = _
  rw [if_pos (KeyT.ok kvs a), getD'_map]
  unfold getDM
  cases getM kvs a <;> rfl
theorem x_lcnt {x y : Ex} {xs : List Int} {k : Int} (h : evalE C x ρ = .ok (eL PyData.int xs)) (h' : evalE C y ρ = .ok (PyData.int k)) : evalE C (.lcnt x y) ρ = .ok (PyData.int ((xs.count k : Nat) : Int)) := by
  unfold evalE
  rw [h]
  show (evalE C y ρ).bind _ = _
  rw [h']
  show okO (intsOf (xs.map PyData.int)) _ = _
  rw [intsOf_map]
  rfl
/-! orders -/
open PySem.W in
class OrdE (en : α → D) [DecidableEq α] where
  lt : α → α → Bool
  ne : α → Bool
  k : Nat
  lay : ∀ a, (en a).canLay0 = true
  dep : ∀ a, (en a).depth ≤ k
  eqv : ∀ a b, PyData.eqv (en a) (en b) = decide (a = b)
  al : ∀ a b, alike (en a) (en b) = true
  lt_eq : ∀ a b, dataLt (en a) (en b) = lt a b
  ne_ok : ∀ a, isNE (en a) = ne a
  irr : ∀ a, lt a a = false
  tr : ∀ a b c, lt a b = true → lt b c = true → lt a c = true
  tri : ∀ a b, lt a b = false → lt b a = false → a = b
def ltLst {α : Type} [DecidableEq α] (lt : α → α → Bool) : List α → List α → Bool
  | [], [] => false
  | [], _ :: _ => true
  | _ :: _, [] => false
  | x :: xs, y :: ys => if x = y then ltLst lt xs ys else lt x y
instance ordI : OrdE PyData.int where
  lt a b := decide (a < b)
  ne _ := false
  k := 0
  lay a := by simp [PyData.canLay0]
  dep a := by simp [PyData.depth]
  eqv a b := by simp only [PyData.eqv]; rfl
  al a b := by simp [PySem.W.alike]
  lt_eq a b := PySem.W.dataLt_int a b
  ne_ok a := rfl
  irr a := by simp
  tr a b c h h' := by simp at *; omega
  tri a b h h' := by simp at *; omega
end
section
variable {α β : Type}
open PySem.W
theorem alike_map {en : α → D} (h : ∀ a b, alike (en a) (en b) = true) : ∀ xs ys : List α, alikeAll (xs.map en) (ys.map en) = true
  | [], _ => by simp [alikeAll]
  | _ :: _, [] => by simp [alikeAll]
  | x :: xs, y :: ys => by
    rw [List.map_cons, List.map_cons, alikeAll, h, alike_map h xs ys]
    rfl
theorem lt_map {en : α → D} [DecidableEq α] (o : OrdE en) : ∀ xs ys : List α, PyProof.Rows.lexLt itemOrd (keyToksAll (xs.map en)) (keyToksAll (ys.map en)) = ltLst o.lt xs ys
  | [], [] => by simp only [List.map_nil, keyToksAll, ltLst]; rfl
  | [], y :: ys => by simp only [List.map_nil, List.map_cons, keyToksAll, ltLst]; rfl
  | x :: xs, [] => by simp only [List.map_nil, List.map_cons, keyToksAll, ltLst]; rfl
  | x :: xs, y :: ys => by
    rw [List.map_cons, List.map_cons, ltLst]
    by_cases e : x = y
    · subst e
      rw [if_pos rfl, dataLt_all_yes (o.al x x) (by rw [o.eqv]; simp), lt_map o xs ys]
    · rw [if_neg e, dataLt_all_no (o.al x y) (by rw [o.eqv]; simp [e]), o.lt_eq]
theorem ltLst_irr {lt : α → α → Bool} [DecidableEq α] : ∀ xs : List α, ltLst lt xs xs = false
  | [] => rfl
  | x :: xs => by rw [ltLst, if_pos rfl, ltLst_irr xs]
theorem ltLst_tr {en : α → D} [DecidableEq α] (o : OrdE en) : ∀ xs ys zs : List α, ltLst o.lt xs ys = true → ltLst o.lt ys zs = true → ltLst o.lt xs zs = true
  | [], [], _, h, _ => by cases h
  | [], _ :: _, [], _, h => by cases h
  | [], _ :: _, _ :: _, _, _ => rfl
  | _ :: _, [], _, h, _ => by cases h
  | _ :: _, _ :: _, [], _, h => by cases h
  | x :: xs, y :: ys, z :: zs, h, h' => by
    rw [ltLst] at h h' ⊢
    by_cases e1 : x = y
    · subst e1
      rw [if_pos rfl] at h
      by_cases e2 : x = z
      · subst e2
        rw [if_pos rfl] at h' ⊢
        exact ltLst_tr o xs ys zs h h'
      · rw [if_neg e2] at h' ⊢
        exact h'
    · rw [if_neg e1] at h
      by_cases e2 : y = z
      · subst e2
        rw [if_neg e1]
        exact h
      · rw [if_neg e2] at h'
        have h3 := o.tr _ _ _ h h'
        by_cases e3 : x = z
        · subst e3
          rw [o.irr] at h3
          cases h3
        · rw [if_neg e3]; exact h3
theorem ltLst_tri {en : α → D} [DecidableEq α] (o : OrdE en) : ∀ xs ys : List α, ltLst o.lt xs ys = false → ltLst o.lt ys xs = false → xs = ys
  | [], [], _, _ => rfl
  | [], _ :: _, h, _ => by cases h
  | _ :: _, [], _, h => by cases h
  | x :: xs, y :: ys, h, h' => by
    rw [ltLst] at h h'
    by_cases e : x = y
    · subst e
      rw [if_pos rfl] at h h'
      rw [ltLst_tri o xs ys h h']
    · rw [if_neg e] at h
      rw [if_neg (Ne.symm e)] at h'
      exact absurd (o.tri _ _ h h') e
instance ordT {en : α → D} [DecidableEq α] [o : OrdE en] : OrdE (eT en) where
  lt := ltLst o.lt
  ne a := !a.isEmpty
  k := o.k + 1
  lay a := by unfold eT; simp only [PyData.canLay0]; exact layAll_map o.lay a
  dep a := by unfold eT; simp only [PyData.depth]; have := depAll_map o.dep a; omega
  eqv a b := by unfold eT; simp only [PyData.eqv]; exact eqvAll_map o.eqv a b
  al a b := by unfold eT; rw [alike]; exact alike_map o.al a b
  lt_eq a b := by unfold eT; rw [dataLt_tuple]; exact lt_map o a b
  ne_ok a := by cases a <;> rfl
  irr := ltLst_irr
  tr := ltLst_tr o
  tri := ltLst_tri o
def ltPr {α β : Type} [DecidableEq α] (l : α → α → Bool) (m : β → β → Bool) (p q : α × β) : Bool := if p.1 = q.1 then m p.2 q.2 else l p.1 q.1
instance ordP {e : α → D} {f : β → D} [DecidableEq α] [DecidableEq β] [o : OrdE e] [o' : OrdE f] : OrdE (eP e f) where
  lt := ltPr o.lt o'.lt
  ne _ := true
  k := o.k + o'.k + 1
  lay a := by unfold eP; simp [PyData.canLay0, PyData.canLayAll0, o.lay, o'.lay]
  dep a := by
    unfold eP
    have := o.dep a.1
    have := o'.dep a.2
    simp only [PyData.depth, PyData.depthAll]
    omega
  eqv a b := by
    unfold eP
    obtain ⟨a1, a2⟩ := a
    obtain ⟨b1, b2⟩ := b
    simp only [PyData.eqv, PyData.eqvAll, o.eqv, o'.eqv]
    by_cases h1 : a1 = b1 <;> by_cases h2 : a2 = b2 <;> simp [h1, h2]
  al a b := by unfold eP; simp [alike, alikeAll, o.al, o'.al]
  lt_eq a b := by
    unfold eP ltPr
    rw [dataLt_tuple]
    by_cases h1 : a.1 = b.1
    · rw [if_pos h1, dataLt_all_yes (o.al _ _) (by rw [o.eqv]; simp [h1])]
      by_cases h2 : a.2 = b.2
      · rw [dataLt_all_yes (o'.al _ _) (by rw [o'.eqv]; simp [h2]), h2, o'.irr]
        simp only [keyToksAll]
        rfl
      · rw [dataLt_all_no (o'.al _ _) (by rw [o'.eqv]; simp [h2]), o'.lt_eq]
    · rw [if_neg h1, dataLt_all_no (o.al _ _) (by rw [o.eqv]; simp [h1]), o.lt_eq]
  ne_ok a := rfl
  irr a := by unfold ltPr; rw [if_pos rfl, o'.irr]
  tr a b c h h' := by
    unfold ltPr at *
    by_cases e1 : a.1 = b.1
    · rw [if_pos e1] at h
      by_cases e2 : b.1 = c.1
      · rw [if_pos e2] at h'
        rw [if_pos (e1.trans e2)]
        exact o'.tr _ _ _ h h'
      · rw [if_neg e2] at h'
        rw [if_neg (by rw [e1]; exact e2), e1]
        exact h'
    · rw [if_neg e1] at h
      by_cases e2 : b.1 = c.1
      · rw [if_neg (by rw [← e2]; exact e1), ← e2]
        exact h
      · rw [if_neg e2] at h'
        have h3 := o.tr _ _ _ h h'
        rw [if_neg (fun z => by rw [z, o.irr] at h3; cases h3)]
        exact h3
  tri a b h h' := by
    unfold ltPr at *
    by_cases e1 : a.1 = b.1
    · rw [if_pos e1] at h
      rw [if_pos e1.symm] at h'
      exact Prod.ext e1 (o'.tri _ _ h h')
    · rw [if_neg e1] at h
      rw [if_neg (Ne.symm e1)] at h'
      exact absurd (o.tri _ _ h h') e1
/-! sorting -/
def insS (lt : α → α → Bool) (x : α) : List α → List α
  | [] => [x]
  | y :: r => if lt y x = true then y :: insS lt x r else x :: y :: r
def sortS (lt : α → α → Bool) : List α → List α
  | [] => []
  | x :: r => insS lt x (sortS lt r)
theorem insS_perm (lt : α → α → Bool) (x : α) : ∀ l : List α, (insS lt x l).Perm (x :: l)
  | [] => .refl _
  | y :: r => by
    unfold insS
    split
    · exact ((insS_perm lt x r).cons y).trans (.swap x y r)
    · exact .refl _
theorem sortS_perm (lt : α → α → Bool) : ∀ l : List α, (sortS lt l).Perm l
  | [] => .refl _
  | x :: r => (insS_perm lt x _).trans ((sortS_perm lt r).cons x)
variable {en : α → D} [DecidableEq α]
theorem ord_le_tr (o : OrdE en) {a b c : α} (h : o.lt b a = false) (h' : o.lt c b = false) : o.lt c a = false := by
  cases q : o.lt c a with
  | false => rfl
  | true =>
    cases q1 : o.lt a b with
    | true => have := o.tr _ _ _ q q1; rw [h'] at this; cases this
    | false =>
      have e := o.tri _ _ q1 h
      subst e
      rw [h'] at q; cases q
theorem insS_sorted (o : OrdE en) (x : α) : ∀ {l : List α}, l.Pairwise (fun a b => o.lt b a = false) → (insS o.lt x l).Pairwise (fun a b => o.lt b a = false)
  | [], _ => List.pairwise_singleton _ _
  | y :: r, h => by
    have h' := List.pairwise_cons.mp h
    unfold insS
    split
    · rename_i q
      refine List.pairwise_cons.mpr ⟨fun z hz => ?_, insS_sorted o x h'.2⟩
      rcases List.mem_cons.mp ((insS_perm o.lt x r).mem_iff.mp hz) with rfl | hz
      · cases q2 : o.lt z y with
        | false => rfl
        | true => have := o.tr _ _ _ q q2; rw [o.irr] at this; cases this
      · exact h'.1 z hz
    · rename_i q
      have q : o.lt y x = false := by simpa using q
      refine List.pairwise_cons.mpr ⟨fun z hz => ?_, h⟩
      rcases List.mem_cons.mp hz with rfl | hz
      · exact q
      · exact ord_le_tr o q (h'.1 z hz)
theorem sortS_sorted (o : OrdE en) : ∀ l : List α, (sortS o.lt l).Pairwise (fun a b => o.lt b a = false)
  | [] => List.Pairwise.nil
  | x :: r => insS_sorted o x (sortS_sorted o r)
theorem sorted_uniqS (o : OrdE en) : ∀ {l m : List α}, l.Pairwise (fun a b => o.lt b a = false) → m.Pairwise (fun a b => o.lt b a = false) → l.Perm m → l = m
  | [], m, _, _, p => (List.nil_perm.mp p).symm
  | a :: l, [], _, _, p => by have := p.length_eq; simp at this
  | a :: l, b :: m, hl, hm, p => by
    have hl' := List.pairwise_cons.mp hl
    have hm' := List.pairwise_cons.mp hm
    have e : a = b := by
      rcases List.mem_cons.mp (p.mem_iff.mp (List.mem_cons_self (a := a) (l := l))) with e | h1
      · exact e
      · rcases List.mem_cons.mp (p.mem_iff.mpr (List.mem_cons_self (a := b) (l := m))) with e | h2
        · exact e.symm
        · exact o.tri _ _ (hm'.1 a h1) (hl'.1 b h2)
    subst e
    rw [sorted_uniqS o hl'.2 hm'.2 ((List.perm_cons a).mp p)]
theorem mergeSort_eq (o : OrdE en) (xs : List α) : (xs.map en).mergeSort leD = (sortS o.lt xs).map en := by
  have e := List.map_mergeSort (f := en) (r := fun a b : α => !o.lt b a) (s := leD) (l := xs) (fun a _ b _ => by unfold leD; rw [o.lt_eq])
  rw [← e]
  congr 1
  have s0 := List.pairwise_mergeSort (le := fun a b : α => !o.lt b a) (fun a b c h h' => by
    simp only [Bool.not_eq_true'] at *
    exact ord_le_tr o h h') (fun a b => by
    cases q : o.lt b a with
    | false => simp
    | true => cases q2 : o.lt a b with
      | false => simp
      | true => have := o.tr _ _ _ q q2; rw [o.irr] at this; cases this) xs
  exact sorted_uniqS o (s0.imp fun h => by simpa using h) (sortS_sorted o xs) ((List.mergeSort_perm _ _).trans (sortS_perm _ _).symm)
def sortedO (en : α → D) [DecidableEq α] [o : OrdE en] (xs : List α) : Option (List α) := if ((xs.all o.ne && decide (o.k ≤ 50)) || decide (xs.length ≤ 1)) = true then some (sortS o.lt xs) else none
theorem canSort_map (o : OrdE en) {xs : List α} (h : xs.all o.ne = true) (hk : o.k ≤ 50) : canSortB (xs.map en) = true := by
  unfold canSortB
  simp only [Bool.and_eq_true, List.all_eq_true, decide_eq_true_eq]
  refine ⟨⟨fun d hd => ?_, fun a ha b hb => ?_⟩, fun d hd => ?_⟩
  · obtain ⟨x, hx, rfl⟩ := List.mem_map.mp hd
    rw [o.ne_ok]
    exact List.all_eq_true.mp h x hx
  · obtain ⟨x, hx, rfl⟩ := List.mem_map.mp ha
    obtain ⟨y, hy, rfl⟩ := List.mem_map.mp hb
    exact o.al x y
  · obtain ⟨x, hx, rfl⟩ := List.mem_map.mp hd
    exact ⟨o.lay x, Nat.le_trans (o.dep x) hk⟩
theorem ints_none (o : OrdE en) {x : α} {xs : List α} (h : o.ne x = true) : intsOf ((x :: xs).map en) = none := by
  have := o.ne_ok x
  rw [h] at this
  rw [List.map_cons]
  unfold isNE at this
  split at this
  · rename_i e; rw [e]; rfl
  · cases this
theorem sortS_one (lt : α → α → Bool) {xs : List α} (h : xs.length ≤ 1) : sortS lt xs = xs := by
  match xs, h with
  | [], _ => rfl
  | [x], _ => rfl
  | _ :: _ :: _, h => simp at h
variable {C : Nat → List D → Res D} {ρ : Env}
theorem sortedD_map (o : OrdE en) {xs : List α} (h : ((xs.all o.ne && decide (o.k ≤ 50)) || decide (xs.length ≤ 1)) = true) (hn : xs.length ≤ 1 → intsOf (xs.map en) = none ∨ ∃ ns, intsOf (xs.map en) = some ns ∧ (sortI ns).map PyData.int = xs.map en) : sortedD (.list (xs.map en)) = .ok (.list ((sortS o.lt xs).map en)) := by
  unfold sortedD
  simp only [Bool.or_eq_true, Bool.and_eq_true, decide_eq_true_eq] at h
  by_cases h1 : xs.length ≤ 1
  · rw [sortS_one _ h1]
    rcases hn h1 with e | ⟨ns, e, e2⟩
    · show (match intsOf (xs.map en) with
        | some ns => Res.ok (PyData.list ((sortI ns).map PyData.int))
        | none => if canSortB (xs.map en) = true then Res.ok (PyData.list ((xs.map en).mergeSort leD)) else if (xs.map en).length ≤ 1 then Res.ok (PyData.list (xs.map en)) else .bad) = _
      rw [e]
      simp only
      split
      · rw [mergeSort_eq o, sortS_one _ h1]
      · rw [if_pos (by rw [List.length_map]; exact h1)]
    · show (match intsOf (xs.map en) with
        | some ns => Res.ok (PyData.list ((sortI ns).map PyData.int))
        | none => _) = _
      rw [e]
      simp only
      rw [e2]
  · rcases h with h | h
    · have hc := canSort_map o h.1 h.2
      match xs, h1 with
      | [], h1 => simp at h1
      | x :: xs, h1 =>
        have hx : o.ne x = true := by
          have := h.1
          rw [List.all_cons, Bool.and_eq_true] at this
          exact this.1
        show (match intsOf ((x :: xs).map en) with
          | some ns => Res.ok (PyData.list ((sortI ns).map PyData.int))
          | none => if canSortB ((x :: xs).map en) = true then Res.ok (PyData.list (((x :: xs).map en).mergeSort leD)) else _) = _
        rw [ints_none o hx]
        simp only
        rw [if_pos hc, mergeSort_eq o]
    · exact absurd h h1
theorem sortI_one (n : Int) : sortI [n] = [n] := rfl
theorem few_intsS {xs : List α} (h : xs.length ≤ 1) : intsOf (xs.map en) = none ∨ ∃ ns, intsOf (xs.map en) = some ns ∧ (sortI ns).map PyData.int = xs.map en := by
  match xs, h with
  | [], _ => exact .inr ⟨[], rfl, rfl⟩
  | [x], _ =>
    cases e : en x with
    | int i => exact .inr ⟨[i], by rw [List.map_cons, e]; rfl, by rw [List.map_cons, e]; rfl⟩
    | _ => exact .inl (by rw [List.map_cons, e]; rfl)
  | _ :: _ :: _, h => simp at h
theorem x_sortedL {x : Ex} [o : OrdE en] {xs : List α} (h : evalE C x ρ = .ok (eL en xs)) : XE (evalE C (.bt .sorted [x]) ρ) (eL en) (sortedO en xs) := fun a e => by
  obtain ⟨c, e⟩ := ite_some' e; cases e
  exact x_bt1 h (sortedD_map o c fun h => few_intsS h)
/-! the greatest, the least -/
def maxO (en : α → D) [DecidableEq α] [o : OrdE en] : List α → Option α
  | [] => none
  | x :: xs => if ((x :: xs).all o.ne && decide (o.k ≤ 50)) = true then some (xs.foldl (fun a y => if o.lt a y = true then y else a) x) else none
def minO (en : α → D) [DecidableEq α] [o : OrdE en] : List α → Option α
  | [] => none
  | x :: xs => if ((x :: xs).all o.ne && decide (o.k ≤ 50)) = true then some (xs.foldl (fun a y => if o.lt y a = true then y else a) x) else none
theorem fold_max (o : OrdE en) : ∀ (xs : List α) (x : α), (xs.map en).foldl (fun a y => if PySem.W.dataLt a y then y else a) (en x) = en (xs.foldl (fun a y => if o.lt a y = true then y else a) x)
  | [], x => rfl
  | y :: ys, x => by
    rw [List.map_cons, List.foldl_cons, List.foldl_cons, o.lt_eq, ← fold_max o ys]
    congr 1
    split <;> rfl
theorem fold_min (o : OrdE en) : ∀ (xs : List α) (x : α), (xs.map en).foldl (fun a y => if PySem.W.dataLt y a then y else a) (en x) = en (xs.foldl (fun a y => if o.lt y a = true then y else a) x)
  | [], x => rfl
  | y :: ys, x => by
    rw [List.map_cons, List.foldl_cons, List.foldl_cons, o.lt_eq, ← fold_min o ys]
    congr 1
    split <;> rfl
theorem x_maxD {x : Ex} [o : OrdE en] {xs : List α} (h : evalE C x ρ = .ok (eL en xs)) : XE (evalE C (.bt .max1 [x]) ρ) en (maxO en xs) := fun a e => by
  match xs, e with
  | y :: ys, e =>
    obtain ⟨c, e⟩ := ite_some' e; cases e
    refine x_bt1 h ?_
    rw [Bool.and_eq_true, decide_eq_true_eq] at c
    have hx : o.ne y = true := by
      have := c.1
      rw [List.all_cons, Bool.and_eq_true] at this
      exact this.1
    show (match intsOf ((y :: ys).map en) with
      | some _ => maxLI (.list ((y :: ys).map en))
      | none => if canSortB ((y :: ys).map en) = true then Res.ok ((ys.map en).foldl (fun a y => if PySem.W.dataLt a y then y else a) (en y)) else .bad) = _
    rw [ints_none o hx]
    simp only
    rw [if_pos (canSort_map o c.1 c.2), fold_max o]
theorem x_minD {x : Ex} [o : OrdE en] {xs : List α} (h : evalE C x ρ = .ok (eL en xs)) : XE (evalE C (.bt .min1 [x]) ρ) en (minO en xs) := fun a e => by
  match xs, e with
  | y :: ys, e =>
    obtain ⟨c, e⟩ := ite_some' e; cases e
    refine x_bt1 h ?_
    rw [Bool.and_eq_true, decide_eq_true_eq] at c
    have hx : o.ne y = true := by
      have := c.1
      rw [List.all_cons, Bool.and_eq_true] at this
      exact this.1
    show (match intsOf ((y :: ys).map en) with
      | some _ => minLI (.list ((y :: ys).map en))
      | none => if canSortB ((y :: ys).map en) = true then Res.ok ((ys.map en).foldl (fun a y => if PySem.W.dataLt y a then y else a) (en y)) else .bad) = _
    rw [ints_none o hx]
    simp only
    rw [if_pos (canSort_map o c.1 c.2), fold_min o]
end
end BP
namespace BP
open PySem PySem.Spec PyProof.Rows L2
def F_is_whole : Fn := ⟨3, 3, [.ret (.and (.bt .isInt [(.b 0)]) (.and (.not (.bt .isBool [(.b 0)])) (.chain .le .le (.b 1) (.b 0) (.b 2))))]⟩
def F_is_falling_row : Fn := ⟨1, 3, [.ret (.bt .all [(.comp (.cmp .ge (.b 1) (.b 2)) [1, 2] (.t [1, 2]) .zip2 [(.sl (.b 0) [] [(.neg (.k (.int 1)))]), (.sl (.b 0) [(.k (.int 1))] [])] [])])]⟩
def F_is_shape : Fn := ⟨1, 2, [.ite (.or (.not (.bt .isTuple [(.b 0)])) (.not (.bt .all [(.comp (.call 0 [(.v 1), (.k (.int 1)), (.k (.int 12))]) [1] (.n 1) .seq [(.b 0)] [])]))) [.ret (.k (.bool false))] [], .ret (.and (.call 1 [(.v 0)]) (.cmp .le (.bt .sum [(.b 0)]) (.k (.int 12))))]⟩
def F_is_row : Fn := ⟨1, 4, [.ite (.or (.not (.bt .isTuple [(.b 0)])) (.not (.bt .all [(.comp (.call 0 [(.v 1), (.k (.int 1)), (.k (.int 9))]) [1] (.n 1) .seq [(.b 0)] [])]))) [.ret (.k (.bool false))] [], .ret (.bt .all [(.comp (.cmp .le (.b 2) (.b 3)) [2, 3] (.t [2, 3]) .zip2 [(.sl (.b 0) [] [(.neg (.k (.int 1)))]), (.sl (.b 0) [(.k (.int 1))] [])] [])])]⟩
def F_is_filling : Fn := ⟨1, 4, [.ite (.or (.not (.bt .isTuple [(.b 0)])) (.or (.not (.bt .all [(.comp (.call 3 [(.v 1)]) [1] (.n 1) .seq [(.b 0)] [])])) (.not (.call 2 [(.call 7 [(.v 0)])])))) [.ret (.k (.bool false))] [], .ret (.bt .all [(.comp (.call 5 [(.v 2), (.v 3)]) [2, 3] (.t [2, 3]) .zip2 [(.sl (.b 0) [] [(.neg (.k (.int 1)))]), (.sl (.b 0) [(.k (.int 1))] [])] [])])]⟩
def F_are_columns : Fn := ⟨2, 4, [.ret (.bt .all [(.comp (.cmp .lt (.b 2) (.b 3)) [2, 3] (.t [2, 3]) .zip2 [(.b 0), (.b 1)] [])])]⟩
def F_is_word : Fn := ⟨1, 2, [.ite (.or (.not (.bt .isTuple [(.b 0)])) (.cmp .gt (.bt .len [(.b 0)]) (.k (.int 8)))) [.ret (.k (.bool false))] [], .ret (.bt .all [(.comp (.call 0 [(.v 1), (.k (.int 1)), (.k (.int 9))]) [1] (.n 1) .seq [(.b 0)] [])])]⟩
def F_shape_of : Fn := ⟨1, 2, [.ret (.bt .tuple [(.comp (.bt .len [(.b 1)]) [1] (.n 1) .seq [(.b 0)] [])])]⟩
def F_Lcell_at : Fn := ⟨2, 2, [.ite (.cmp .lt (.b 1) (.bt .len [(.b 0)])) [.ret (.ix (.b 0) (.b 1))] [], .ret (.k (.int 0))]⟩
def F_Lmixed : Fn := ⟨2, 3, [.own 2 (.bin .mod (.bin .mul (.bin .add (.bin .add (.call 8 [(.v 0), (.v 1)]) (.bin .mul (.k (.int 7919)) (.b 1))) (.k (.int 1))) (.k (.int 48271))) (.k (.int 2147483647))), .ret (.bin .mod (.bin .add (.bin .add (.bin .mul (.b 2) (.b 2)) (.bin .mul (.k (.int 7)) (.b 2))) (.b 1)) (.k (.int 2147483629)))]⟩
def F_Ldrawn : Fn := ⟨2, 3, [.own 2 (.bin .mod (.bin .mul (.bin .add (.bin .add (.b 0) (.bin .mul (.k (.int 104729)) (.b 1))) (.k (.int 17))) (.k (.int 69621))) (.k (.int 2147483647))), .ret (.bin .mod (.bin .add (.bin .add (.bin .mul (.b 2) (.b 2)) (.bin .mul (.k (.int 3)) (.b 2))) (.b 1)) (.k (.int 2147483629)))]⟩
def F_Lword : Fn := ⟨2, 5, [.set (.n 2) (.ix (.tup [(.k (.int 9)), (.k (.int 3)), (.k (.int 5)), (.k (.int 2))]) (.bin .mod (.bin .fdiv (.b 0) (.k (.int 16))) (.k (.int 4)))), .own 3 (.bin .add (.k (.int 1)) (.bin .mod (.bin .fdiv (.b 0) (.k (.int 64))) (.bin .sub (.k (.int 10)) (.b 2)))), .ret (.bt .tuple [(.comp (.bin .add (.b 3) (.bin .mod (.bin .fdiv (.call 10 [(.v 0), (.v 4)]) (.k (.int 4))) (.b 2))) [4] (.n 4) .range1 [(.bin .mod (.b 0) (.bin .add (.b 1) (.k (.int 1))))] [])])]⟩
def F_Lput : Fn := ⟨2, 8, [.ite (.cmp .eq (.b 0) (.tup [])) [.ret (.tup [(.tup [(.tup [(.v 1)])]), (.tup [(.k (.int 0))])])] [], .own 2 (.comp (.v 3) [3, 4] (.t [3, 4]) .enum [(.ix (.b 0) (.k (.int 0)))] [(.cmp .gt (.b 4) (.b 1))]), .ite (.cmp .eq (.b 2) (.lst [])) [.ret (.tup [(.bin .add (.tup [(.bin .add (.ix (.b 0) (.k (.int 0))) (.tup [(.v 1)]))]) (.sl (.b 0) [(.k (.int 1))] [])), (.tup [(.bt .len [(.ix (.b 0) (.k (.int 0)))])])])] [], .set (.n 5) (.ix (.b 2) (.k (.int 0))), .set (.t [6, 7]) (.call 12 [(.sl (.b 0) [(.k (.int 1))] []), (.ix (.ix (.b 0) (.k (.int 0))) (.b 5))]), .ret (.tup [(.bin .add (.tup [(.bin .add (.bin .add (.sl (.ix (.b 0) (.k (.int 0))) [] [(.b 5)]) (.tup [(.v 1)])) (.sl (.ix (.b 0) (.k (.int 0))) [(.bin .add (.b 5) (.k (.int 1)))] []))]) (.b 6)), (.bin .add (.tup [(.v 5)]) (.b 7))])]⟩
def F_Lmake : Fn := ⟨1, 3, [.set (.n 1) (.tup []), .loop (.n 2) .seq [(.v 0)] [.set (.n 1) (.ix (.call 12 [(.v 1), (.v 2)]) (.k (.int 0)))], .ret (.v 1)]⟩
def F_Lis_shape : Fn := ⟨1, 2, [.ite (.or (.not (.bt .isTuple [(.b 0)])) (.cmp .ne (.comp (.v 1) [1] (.n 1) .seq [(.b 0)] [(.not (.call 0 [(.v 1), (.k (.int 1)), (.k (.int 12))]))]) (.lst []))) [.ret (.k (.bool false))] [], .ret (.and (.cmp .eq (.bt .list [(.b 0)]) (.rev (.bt .sorted [(.b 0)]))) (.cmp .lt (.bt .sum [(.b 0)]) (.k (.int 13))))]⟩
def F_Lis_filling : Fn := ⟨1, 5, [.ite (.not (.bt .isTuple [(.b 0)])) [.ret (.k (.bool false))] [], .loop (.n 1) .seq [(.v 0)] [.ite (.or (.not (.bt .isTuple [(.b 1)])) (.cmp .ne (.comp (.v 2) [2] (.n 2) .seq [(.b 1)] [(.not (.call 0 [(.v 2), (.k (.int 1)), (.k (.int 9))]))]) (.lst []))) [.ret (.k (.bool false))] [], .ite (.cmp .ne (.bt .list [(.b 1)]) (.bt .sorted [(.b 1)])) [.ret (.k (.bool false))] []], .ite (.not (.call 14 [(.bt .tuple [(.comp (.bt .len [(.b 1)]) [1] (.n 1) .seq [(.b 0)] [])])])) [.ret (.k (.bool false))] [], .loop (.n 3) .range2 [(.k (.int 1)), (.bt .len [(.b 0)])] [.ite (.cmp .ne (.comp (.k (.int 1)) [4] (.n 4) .range1 [(.bt .len [(.ix (.b 0) (.b 3))])] [(.cmp .ge (.ix (.ix (.b 0) (.bin .sub (.b 3) (.k (.int 1)))) (.b 4)) (.ix (.ix (.b 0) (.b 3)) (.b 4)))]) (.lst [])) [.ret (.k (.bool false))] []], .ret (.k (.bool true))]⟩
def F_Lis_word : Fn := ⟨1, 2, [.ret (.and (.bt .isTuple [(.b 0)]) (.and (.cmp .lt (.bt .len [(.b 0)]) (.k (.int 9))) (.cmp .eq (.comp (.v 1) [1] (.n 1) .seq [(.b 0)] [(.not (.call 0 [(.v 1), (.k (.int 1)), (.k (.int 9))]))]) (.lst []))))]⟩
def F_Lspoilt : Fn := ⟨3, 6, [.ite (.and (.cmp .gt (.b 2) (.k (.int 0))) (.and (.bt .isTuple [(.b 0)]) (.and (.cmp .gt (.bt .len [(.b 0)]) (.k (.int 0))) (.cmp .gt (.bin .mod (.b 1) (.k (.int 6))) (.k (.int 0)))))) [.own 3 (.bin .mod (.bin .fdiv (.b 1) (.k (.int 6))) (.bt .len [(.b 0)])), .set (.n 4) (.call 17 [(.ix (.b 0) (.b 3)), (.bin .fdiv (.call 10 [(.v 1), (.v 2)]) (.k (.int 4))), (.bin .sub (.b 2) (.k (.int 1)))]), .ret (.bin .add (.bin .add (.sl (.b 0) [] [(.b 3)]) (.tup [(.v 4)])) (.sl (.b 0) [(.bin .add (.b 3) (.k (.int 1)))] []))] [], .ite (.and (.bt .isTuple [(.b 0)]) (.and (.cmp .gt (.bt .len [(.b 0)]) (.k (.int 0))) (.cmp .eq (.bin .mod (.bin .fdiv (.b 1) (.k (.int 6))) (.k (.int 2))) (.k (.int 0))))) [.ret (.ix (.lst [(.bt .list [(.b 0)]), (.sl (.b 0) [] [(.neg (.k (.int 1)))]), (.bin .add (.b 0) (.sl (.b 0) [(.neg (.k (.int 1)))] [])), (.sl (.b 0) [(.k (.int 1))] []), (.rev (.b 0)), (.bin .mul (.b 0) (.k (.int 2)))]) (.bin .mod (.bin .fdiv (.b 1) (.k (.int 12))) (.k (.int 6))))] [], .ite (.and (.bt .isInt [(.b 0)]) (.cmp .eq (.bin .mod (.bin .fdiv (.b 1) (.k (.int 6))) (.k (.int 2))) (.k (.int 0)))) [.ret (.ix (.lst [(.bt .toStr [(.bin .mod (.b 0) (.k (.int 100)))]), (.bin .sub (.k (.int 0)) (.b 0)), (.bin .add (.b 0) (.k (.int 1))), (.cmp .eq (.b 0) (.k (.int 1))), (.bin .sub (.b 0) (.k (.int 1))), (.k (.int 10))]) (.bin .mod (.bin .fdiv (.b 1) (.k (.int 12))) (.k (.int 6))))] [], .own 5 (.lst [(.k .none), (.k (.bool true)), (.k (.int 0)), (.k (.int 1)), (.k (.int 9)), (.k (.int 10)), (.k (.int 12)), (.k (.int 13)), (.neg (.k (.int 1))), (.k (.str (Str.ofString ""))), (.k (.str (Str.ofString "1"))), (.tup []), (.tup [(.k (.int 1))]), (.lst []), (.tup [(.k (.int 2)), (.k (.int 1))]), (.tup [(.k (.int 1)), (.k (.int 2))]), (.tup [(.tup [(.k (.int 1))])]), (.tup [(.k (.int 0))])]), .ret (.ix (.b 5) (.bin .mod (.bin .fdiv (.b 1) (.k (.int 6))) (.k (.int 18))))]⟩
def F_k01_law : Fn := ⟨1, 9, [.set (.n 1) (.call 9 [(.v 0), (.k (.int 0))]), .set (.n 2) (.call 11 [(.call 9 [(.v 0), (.k (.int 1))]), (.k (.int 8))]), .set (.n 3) (.call 13 [(.call 11 [(.call 9 [(.v 0), (.k (.int 2))]), (.k (.int 8))])]), .set (.n 4) (.bt .tuple [(.comp (.bt .len [(.b 5)]) [5] (.n 5) .seq [(.call 13 [(.call 11 [(.call 9 [(.v 0), (.k (.int 3))]), (.k (.int 8))])])] [])]), .ite (.cmp .gt (.bin .mod (.b 1) (.k (.int 3))) (.k (.int 0))) [.fz [2], .set (.n 2) (.call 17 [(.v 2), (.call 9 [(.v 0), (.k (.int 4))]), (.bin .mod (.bin .fdiv (.b 1) (.k (.int 3))) (.k (.int 2)))]), .fz [3], .set (.n 3) (.call 17 [(.v 3), (.call 9 [(.v 0), (.k (.int 5))]), (.bin .mod (.bin .fdiv (.b 1) (.k (.int 16))) (.k (.int 3)))]), .fz [4], .set (.n 4) (.call 17 [(.v 4), (.call 9 [(.v 0), (.k (.int 6))]), (.bin .mod (.bin .fdiv (.b 1) (.k (.int 64))) (.k (.int 2)))])] [], .ite (.cmp .eq (.bin .mod (.bin .fdiv (.b 1) (.k (.int 128))) (.k (.int 4))) (.k (.int 1))) [.own 6 (.bin .add (.k (.int 1)) (.bin .mod (.bin .fdiv (.b 1) (.k (.int 512))) (.k (.int 7)))), .fz [6], .own 4 (.bin .add (.bin .mul (.tup [(.v 6)]) (.k (.int 2))) (.bin .mul (.tup [(.bin .mod (.bin .fdiv (.b 1) (.k (.int 4096))) (.k (.int 3)))]) (.bin .mod (.bin .fdiv (.b 1) (.k (.int 16384))) (.k (.int 2))))), .own 3 (.sl (.tup [(.bin .mul (.tup [(.k (.int 1))]) (.b 6)), (.bin .mul (.tup [(.k (.int 2))]) (.b 6)), (.bin .mul (.tup [(.k (.int 3))]) (.bin .mod (.bin .fdiv (.b 1) (.k (.int 4096))) (.k (.int 3))))]) [] [(.bin .add (.k (.int 2)) (.bin .mod (.bin .fdiv (.b 1) (.k (.int 16384))) (.k (.int 2))))]), .own 2 (.bin .mul (.tup [(.k (.int 9))]) (.bin .add (.b 6) (.k (.int 3))))] [], .fz [2, 3, 4], .loop (.n 7) .seq [(.tup [(.v 2), (.v 3), (.v 4)])] [.set (.n 8) (.call 6 [(.v 7)]), .ite (.or (.not (.bt .isBool [(.b 8)])) (.cmp .ne (.b 8) (.call 16 [(.v 7)]))) [.ret (.k (.bool false))] [], .set (.n 8) (.call 4 [(.v 7)]), .ite (.or (.not (.bt .isBool [(.b 8)])) (.cmp .ne (.b 8) (.call 15 [(.v 7)]))) [.ret (.k (.bool false))] [], .set (.n 8) (.call 2 [(.v 7)]), .ite (.or (.not (.bt .isBool [(.b 8)])) (.cmp .ne (.b 8) (.call 14 [(.v 7)]))) [.ret (.k (.bool false))] []], .ret (.k (.bool true))]⟩
def F_boxes : Fn := ⟨1, 5, [.own 1 (.lst []), .loop (.t [2, 3]) .enum [(.v 0)] [.ext 1 (.comp (.tup [(.v 2), (.v 4)]) [4] (.n 4) .range1 [(.b 3)] [])], .ret (.bt .tuple [(.b 1)])]⟩
def F_corners : Fn := ⟨1, 4, [.own 1 (.lst []), .loop (.t [2, 3]) .enum [(.v 0)] [.ite (.or (.cmp .eq (.bin .add (.b 2) (.k (.int 1))) (.bt .len [(.b 0)])) (.cmp .lt (.ix (.b 0) (.bin .add (.b 2) (.k (.int 1)))) (.b 3))) [.app 1 (.tup [(.v 2), (.bin .sub (.b 3) (.k (.int 1)))])] []], .ret (.bt .tuple [(.b 1)])]⟩
def F_turned : Fn := ⟨1, 3, [.ite (.cmp .eq (.bt .len [(.b 0)]) (.k (.int 0))) [.ret (.tup [])] [], .ret (.bt .tuple [(.comp (.bt .len [(.comp (.v 1) [1] (.n 1) .seq [(.b 0)] [(.cmp .gt (.b 1) (.b 2))])]) [2] (.n 2) .range1 [(.ix (.b 0) (.k (.int 0)))] [])])]⟩
def F_reading : Fn := ⟨1, 3, [.set (.n 1) (.tup []), .loop (.n 2) .seq [(.v 0)] [.own 1 (.bin .add (.b 2) (.b 1))], .fz [1], .ret (.v 1)]⟩
def F_is_standard : Fn := ⟨1, 1, [.ret (.cmp .eq (.bt .sorted [(.call 22 [(.v 0)])]) (.bt .listRange2 [(.k (.int 1)), (.bin .add (.bt .len [(.call 22 [(.v 0)])]) (.k (.int 1)))]))]⟩
def F_Lunlike_word : Fn := ⟨2, 6, [.own 2 (.bt .listRange2 [(.k (.int 1)), (.bin .add (.k (.int 1)) (.bin .mod (.b 0) (.bin .add (.b 1) (.k (.int 1)))))]), .set (.n 3) (.tup []), .loop (.n 4) .range1 [(.bt .len [(.b 2)])] [.own 5 (.bin .mod (.bin .fdiv (.call 10 [(.v 0), (.bin .add (.k (.int 20)) (.b 4))]) (.k (.int 4))) (.bt .len [(.b 2)])), .own 3 (.bin .add (.b 3) (.tup [(.ix (.b 2) (.b 5))])), .own 2 (.bin .add (.sl (.b 2) [] [(.b 5)]) (.sl (.b 2) [(.bin .add (.b 5) (.k (.int 1)))] []))], .fz [3], .ret (.v 3)]⟩
def F_Lcorners : Fn := ⟨1, 3, [.ret (.bt .tuple [(.comp (.tup [(.v 1), (.bin .sub (.b 2) (.k (.int 1)))]) [1, 2] (.t [1, 2]) .enum [(.b 0)] [(.cmp .lt (.ix (.bin .add (.b 0) (.tup [(.k (.int 0))])) (.bin .add (.b 1) (.k (.int 1)))) (.b 2))])])]⟩
def F_Lreading : Fn := ⟨1, 3, [.set (.n 1) (.tup []), .loop (.n 2) .seq [(.rev (.b 0))] [.own 1 (.bin .add (.b 1) (.b 2))], .fz [1], .ret (.v 1)]⟩
def F_k02_law : Fn := ⟨1, 14, [.set (.n 1) (.call 9 [(.v 0), (.k (.int 0))]), .set (.n 2) (.call 11 [(.call 9 [(.v 0), (.k (.int 1))]), (.k (.int 8))]), .ite (.cmp .eq (.bin .mod (.b 1) (.k (.int 2))) (.k (.int 0))) [.set (.n 2) (.call 24 [(.call 9 [(.v 0), (.k (.int 1))]), (.k (.int 8))])] [], .set (.n 3) (.call 13 [(.v 2)]), .set (.n 4) (.call 7 [(.v 3)]), .own 5 (.lst []), .loop (.n 6) .range1 [(.bt .len [(.b 4)])] [.own 5 (.bin .add (.b 5) (.comp (.tup [(.v 6), (.v 7)]) [7] (.n 7) .range1 [(.ix (.b 4) (.b 6))] []))], .ite (.or (.cmp .ne (.call 7 [(.v 3)]) (.b 4)) (.or (.cmp .ne (.call 19 [(.v 4)]) (.bt .tuple [(.b 5)])) (.cmp .ne (.call 20 [(.v 4)]) (.call 25 [(.v 4)])))) [.ret (.k (.bool false))] [], .own 8 (.lst []), .loop (.n 7) .range1 [(.k (.int 9))] [.set (.n 9) (.bt .len [(.comp (.v 10) [10] (.n 10) .seq [(.b 4)] [(.cmp .gt (.b 10) (.b 7))])]), .own 8 (.bin .add (.b 8) (.bin .mul (.lst [(.v 9)]) (.bt .toInt [(.cmp .gt (.b 9) (.k (.int 0)))])))], .ite (.or (.cmp .ne (.call 21 [(.v 4)]) (.bt .tuple [(.b 8)])) (.cmp .ne (.call 21 [(.bt .tuple [(.b 8)])]) (.b 4))) [.ret (.k (.bool false))] [], .set (.n 6) (.call 26 [(.v 3)]), .set (.n 11) (.call 23 [(.v 3)]), .set (.n 12) (.cmp .eq (.comp (.v 13) [13] (.n 13) .range2 [(.k (.int 1)), (.bin .add (.bt .len [(.b 6)]) (.k (.int 1)))] [(.cmp .nin (.b 13) (.b 6))]) (.lst [])), .ret (.and (.cmp .eq (.call 22 [(.v 3)]) (.b 6)) (.and (.bt .isBool [(.b 11)]) (.cmp .eq (.b 11) (.b 12))))]⟩
def F_word_text : Fn := ⟨1, 1, [.ite (.cmp .eq (.b 0) (.tup [])) [.ret (.k (.str (Str.ofString "-")))] [], .ret (.call 28 [(.v 0)])]⟩
def F_row_in : Fn := ⟨1, 2, [.ite (.or (.cmp .eq (.b 0) (.k (.str (Str.ofString "")))) (.not (.bt .all [(.comp (.cmp .inn (.b 1) (.k (.str (Str.ofString "123456789")))) [1] (.n 1) .seq [(.b 0)] [])]))) [.raise 3] [], .ret (.bt .tuple [(.comp (.bt .toInt [(.b 1)]) [1] (.n 1) .seq [(.b 0)] [])])]⟩
def F_read_word : Fn := ⟨1, 2, [.ite (.not (.bt .isStr [(.b 0)])) [.raise 3] [], .ite (.cmp .eq (.b 0) (.k (.str (Str.ofString "-")))) [.ret (.tup [])] [], .set (.n 1) (.call 31 [(.v 0)]), .ite (.not (.call 6 [(.v 1)])) [.raise 3] [], .ret (.v 1)]⟩
def F_Lrow_due : Fn := ⟨1, 2, [.ite (.or (.cmp .eq (.b 0) (.k (.str (Str.ofString "")))) (.cmp .ne (.comp (.v 1) [1] (.n 1) .seq [(.b 0)] [(.cmp .nin (.b 1) (.k (.str (Str.ofString "123456789"))))]) (.lst []))) [.ret (.k .none)] [], .ret (.bt .tuple [(.comp (.bt .toInt [(.b 1)]) [1] (.n 1) .seq [(.b 0)] [])])]⟩
def F_Lchanged : Fn := ⟨2, 5, [.own 2 (.bin .mod (.bin .fdiv (.b 1) (.k (.int 8))) (.bin .add (.bt .len [(.b 0)]) (.k (.int 1)))), .set (.n 3) (.ix (.k (.str (Str.ofString "123456789/0- a"))) (.bin .mod (.bin .fdiv (.b 1) (.k (.int 256))) (.k (.int 14)))), .own 4 (.bin .mod (.b 1) (.k (.int 5))), .ite (.cmp .eq (.b 4) (.k (.int 0))) [.ret (.bin .add (.sl (.b 0) [] [(.b 2)]) (.sl (.b 0) [(.bin .add (.b 2) (.k (.int 1)))] []))] [], .ite (.cmp .eq (.b 4) (.k (.int 1))) [.ret (.bin .add (.bin .add (.sl (.b 0) [] [(.b 2)]) (.sl (.b 0) [(.b 2)] [(.bin .add (.b 2) (.k (.int 1)))])) (.sl (.b 0) [(.b 2)] []))] [], .ite (.cmp .eq (.b 4) (.k (.int 2))) [.ret (.bin .add (.bin .add (.sl (.b 0) [] [(.b 2)]) (.b 3)) (.sl (.b 0) [(.bin .add (.b 2) (.k (.int 1)))] []))] [], .ite (.cmp .eq (.b 4) (.k (.int 3))) [.ret (.bin .add (.bin .add (.sl (.b 0) [] [(.b 2)]) (.b 3)) (.sl (.b 0) [(.b 2)] []))] [], .ret (.bin .add (.bin .add (.sl (.b 0) [] [(.b 2)]) (.rev (.sl (.b 0) [(.b 2)] [(.bin .add (.b 2) (.k (.int 2)))]))) (.sl (.b 0) [(.bin .add (.b 2) (.k (.int 2)))] []))]⟩
def F_Lplaces_in : Fn := ⟨2, 5, [.own 2 (.lst [(.v 1)]), .ite (.bt .isTuple [(.b 0)]) [.loop (.t [3, 4]) .enum [(.v 0)] [.own 2 (.bin .add (.b 2) (.call 39 [(.v 4), (.bin .add (.b 1) (.tup [(.v 3)]))]))]] [], .fz [2], .ret (.v 2)]⟩
def F_Lotherwise : Fn := ⟨2, 3, [.ite (.bt .isTuple [(.b 0)]) [.own 2 (.lst [(.bt .list [(.b 0)]), (.bt .list [(.b 0)]), (.bin .add (.b 0) (.sl (.b 0) [] [(.k (.int 1))]))]), .ret (.ix (.bin .add (.b 2) (.lst [(.sl (.b 0) [(.k (.int 1))] []), (.lst [(.v 0)])])) (.bin .mod (.b 1) (.k (.int 5))))] [], .ite (.bt .isBool [(.b 0)]) [.ret (.ix (.lst [(.bt .toInt [(.b 0)]), (.k .none), (.bt .toStr [(.b 0)])]) (.bin .mod (.b 1) (.k (.int 3))))] [], .ite (.bt .isInt [(.b 0)]) [.own 2 (.lst [(.k (.bool true)), (.k .none), (.bt .toStr [(.b 0)]), (.tup [(.v 0)])]), .ret (.ix (.bin .add (.b 2) (.lst [(.bin .sub (.neg (.k (.int 1))) (.b 0))])) (.bin .mod (.b 1) (.k (.int 5))))] [], .ret (.ix (.lst [(.k .none), (.tup [(.v 0)]), (.lst [(.v 0)]), (.k (.str (Str.ofString ""))), (.k (.int 0))]) (.bin .mod (.b 1) (.k (.int 5))))]⟩
def F_Lonce : Fn := ⟨1, 9, [.set (.n 1) (.call 9 [(.v 0), (.k (.int 0))]), .set (.n 2) (.call 11 [(.call 9 [(.v 0), (.k (.int 1))]), (.k (.int 8))]), .set (.n 3) (.call 13 [(.call 11 [(.call 9 [(.v 0), (.k (.int 2))]), (.k (.int 8))])]), .set (.n 4) (.bt .tuple [(.comp (.bt .len [(.b 5)]) [5] (.n 5) .seq [(.call 13 [(.call 11 [(.call 9 [(.v 0), (.k (.int 3))]), (.k (.int 8))])])] [])]), .ite (.cmp .gt (.bin .mod (.b 1) (.k (.int 3))) (.k (.int 0))) [.fz [2], .set (.n 2) (.call 42 [(.v 2), (.call 9 [(.v 0), (.k (.int 4))]), (.bin .mod (.bin .fdiv (.b 1) (.k (.int 3))) (.k (.int 2)))]), .fz [3], .set (.n 3) (.call 42 [(.v 3), (.call 9 [(.v 0), (.k (.int 5))]), (.bin .mod (.bin .fdiv (.b 1) (.k (.int 16))) (.k (.int 3)))]), .fz [4], .set (.n 4) (.call 42 [(.v 4), (.call 9 [(.v 0), (.k (.int 6))]), (.bin .mod (.bin .fdiv (.b 1) (.k (.int 64))) (.k (.int 2)))])] [], .ite (.cmp .eq (.bin .mod (.bin .fdiv (.b 1) (.k (.int 128))) (.k (.int 4))) (.k (.int 1))) [.own 6 (.bin .add (.k (.int 1)) (.bin .mod (.bin .fdiv (.b 1) (.k (.int 512))) (.k (.int 7)))), .fz [6], .own 4 (.bin .add (.bin .mul (.tup [(.v 6)]) (.k (.int 2))) (.bin .mul (.tup [(.bin .mod (.bin .fdiv (.b 1) (.k (.int 4096))) (.k (.int 3)))]) (.bin .mod (.bin .fdiv (.b 1) (.k (.int 16384))) (.k (.int 2))))), .own 3 (.sl (.tup [(.bin .mul (.tup [(.k (.int 1))]) (.b 6)), (.bin .mul (.tup [(.k (.int 2))]) (.b 6)), (.bin .mul (.tup [(.k (.int 3))]) (.bin .mod (.bin .fdiv (.b 1) (.k (.int 4096))) (.k (.int 3))))]) [] [(.bin .add (.k (.int 2)) (.bin .mod (.bin .fdiv (.b 1) (.k (.int 16384))) (.k (.int 2))))]), .own 2 (.bin .mul (.tup [(.k (.int 9))]) (.bin .add (.b 6) (.k (.int 3))))] [], .fz [2, 3, 4], .loop (.n 7) .seq [(.tup [(.v 2), (.v 3), (.v 4)])] [.set (.n 8) (.call 6 [(.v 7)]), .ite (.or (.not (.bt .isBool [(.b 8)])) (.cmp .ne (.b 8) (.call 16 [(.v 7)]))) [.ret (.k (.bool false))] [], .set (.n 8) (.call 4 [(.v 7)]), .ite (.or (.not (.bt .isBool [(.b 8)])) (.cmp .ne (.b 8) (.call 15 [(.v 7)]))) [.ret (.k (.bool false))] [], .set (.n 8) (.call 2 [(.v 7)]), .ite (.or (.not (.bt .isBool [(.b 8)])) (.cmp .ne (.b 8) (.call 14 [(.v 7)]))) [.ret (.k (.bool false))] []], .ret (.k (.bool true))]⟩
def F_k09_law : Fn := ⟨1, 3, [.loop (.n 1) .range1 [(.k (.int 8))] [.ite (.not (.call 43 [(.bin .add (.comp (.bin .add (.b 2) (.bin .mul (.k (.int 104729)) (.b 1))) [2] (.n 2) .seq [(.b 0)] []) (.lst [(.v 1)]))])) [.ret (.k (.bool false))] []], .ret (.k (.bool true))]⟩
def F_place_for : Fn := ⟨2, 4, [.loop (.t [2, 3]) .enum [(.v 0)] [.ite (.cmp .gt (.b 3) (.b 1)) [.ret (.v 2)] []], .ret (.bt .len [(.b 0)])]⟩
def F_put_with_boxes : Fn := ⟨2, 7, [.own 2 (.bt .list [(.b 0)]), .own 3 (.lst []), .loop (.n 4) .range1 [(.bin .add (.bt .len [(.b 2)]) (.k (.int 1)))] [.ite (.cmp .eq (.b 4) (.bt .len [(.b 2)])) [.app 2 (.tup [])] [], .set (.n 5) (.call 45 [(.ix (.b 2) (.b 4)), (.v 1)]), .app 3 (.tup [(.v 4), (.v 5)]), .own 6 (.sl (.ix (.b 2) (.b 4)) [(.b 5)] [(.bin .add (.b 5) (.k (.int 1)))]), .put 2 (.v 4) (.bin .add (.bin .add (.sl (.ix (.b 2) (.b 4)) [] [(.b 5)]) (.tup [(.v 1)])) (.sl (.ix (.b 2) (.b 4)) [(.bin .add (.b 5) (.k (.int 1)))] [])), .ite (.cmp .eq (.b 6) (.tup [])) [.ret (.tup [(.bt .tuple [(.b 2)]), (.bt .tuple [(.b 3)])])] [], .set (.n 1) (.ix (.b 6) (.k (.int 0)))], .ret (.tup [(.bt .tuple [(.b 2)]), (.bt .tuple [(.b 3)])])]⟩
def F_put : Fn := ⟨2, 4, [.set (.t [2, 3]) (.call 46 [(.v 0), (.v 1)]), .ret (.tup [(.v 2), (.ix (.b 3) (.neg (.k (.int 1))))])]⟩
def F_pushed : Fn := ⟨2, 2, [.ret (.ix (.call 46 [(.v 0), (.v 1)]) (.k (.int 1)))]⟩
def F_last_lesser : Fn := ⟨2, 4, [.ret (.bt .max1 [(.comp (.v 2) [2, 3] (.t [2, 3]) .enum [(.b 0)] [(.cmp .lt (.b 3) (.b 1))])])]⟩
def F_out : Fn := ⟨2, 8, [.ite (.cmp .nin (.b 1) (.call 20 [(.call 7 [(.v 0)])])) [.raise 1] [], .own 2 (.bt .list [(.b 0)]), .set (.n 3) (.ix (.b 1) (.k (.int 0))), .set (.n 4) (.ix (.ix (.b 2) (.b 3)) (.neg (.k (.int 1)))), .fz [3], .put 2 (.v 3) (.sl (.ix (.b 2) (.b 3)) [] [(.neg (.k (.int 1)))]), .while (.cmp .gt (.b 3) (.k (.int 0))) [.own 3 (.bin .sub (.b 3) (.k (.int 1))), .set (.n 5) (.call 49 [(.ix (.b 2) (.b 3)), (.v 4)]), .set (.n 6) (.ix (.ix (.b 2) (.b 3)) (.b 5)), .fz [3], .put 2 (.v 3) (.bin .add (.bin .add (.sl (.ix (.b 2) (.b 3)) [] [(.b 5)]) (.tup [(.v 4)])) (.sl (.ix (.b 2) (.b 3)) [(.bin .add (.b 5) (.k (.int 1)))] [])), .set (.n 4) (.v 6)], .ret (.tup [(.bt .tuple [(.comp (.v 7) [7] (.n 7) .seq [(.b 2)] [(.cmp .ne (.b 7) (.tup []))])]), (.v 4)])]⟩
def F_Lout : Fn := ⟨2, 9, [.own 2 (.bt .list [(.b 0)]), .set (.n 3) (.ix (.ix (.b 2) (.b 1)) (.neg (.k (.int 1)))), .put 2 (.v 1) (.sl (.ix (.b 2) (.b 1)) [] [(.neg (.k (.int 1)))]), .loop (.n 4) .range3 [(.bin .sub (.b 1) (.k (.int 1))), (.neg (.k (.int 1))), (.neg (.k (.int 1)))] [.own 5 (.bin .sub (.bt .len [(.comp (.v 6) [6] (.n 6) .seq [(.ix (.b 2) (.b 4))] [(.cmp .lt (.b 6) (.b 3))])]) (.k (.int 1))), .set (.n 7) (.ix (.ix (.b 2) (.b 4)) (.b 5)), .put 2 (.v 4) (.bin .add (.bin .add (.sl (.ix (.b 2) (.b 4)) [] [(.b 5)]) (.tup [(.v 3)])) (.sl (.ix (.b 2) (.b 4)) [(.bin .add (.b 5) (.k (.int 1)))] [])), .set (.n 3) (.v 7)], .ret (.tup [(.bt .tuple [(.comp (.v 8) [8] (.n 8) .seq [(.b 2)] [(.cmp .ne (.b 8) (.tup []))])]), (.v 3)])]⟩
def F_k11_law : Fn := ⟨1, 16, [.set (.n 1) (.call 13 [(.call 11 [(.call 9 [(.v 0), (.k (.int 0))]), (.k (.int 7))])]), .set (.t [2, 3]) (.comp (.bin .add (.k (.int 1)) (.bin .mod (.call 9 [(.v 0), (.bin .add (.k (.int 1)) (.b 4))]) (.k (.int 9)))) [4] (.n 4) .range1 [(.k (.int 2))] []), .set (.t [5, 6]) (.call 47 [(.v 1), (.v 2)]), .ite (.or (.not (.call 4 [(.v 5)])) (.or (.cmp .nin (.b 6) (.call 20 [(.call 7 [(.v 5)])])) (.cmp .ne (.call 50 [(.v 5), (.v 6)]) (.tup [(.v 1), (.v 2)])))) [.ret (.k (.bool false))] [], .ite (.cmp .ne (.bt .sorted [(.call 22 [(.v 5)])]) (.bt .sorted [(.bin .add (.call 22 [(.v 1)]) (.tup [(.v 2)]))])) [.ret (.k (.bool false))] [], .set (.n 7) (.call 48 [(.v 1), (.v 2)]), .ite (.or (.cmp .ne (.ix (.b 7) (.neg (.k (.int 1)))) (.b 6)) (.cmp .ne (.comp (.v 8) [8, 9] (.t [8, 9]) .seq [(.b 7)] []) (.bt .listRange1 [(.bt .len [(.b 7)])]))) [.ret (.k (.bool false))] [], .own 10 (.comp (.v 9) [8, 9] (.t [8, 9]) .seq [(.b 7)] []), .ite (.cmp .ne (.b 10) (.rev (.bt .sorted [(.b 10)]))) [.ret (.k (.bool false))] [], .set (.t [11, 12]) (.call 47 [(.v 5), (.v 3)]), .ite (.cmp .le (.b 2) (.b 3)) [.ite (.or (.cmp .le (.ix (.b 12) (.k (.int 1))) (.ix (.b 6) (.k (.int 1)))) (.cmp .gt (.ix (.b 12) (.k (.int 0))) (.ix (.b 6) (.k (.int 0))))) [.ret (.k (.bool false))] []] [.ite (.or (.cmp .le (.ix (.b 12) (.k (.int 0))) (.ix (.b 6) (.k (.int 0)))) (.cmp .gt (.ix (.b 12) (.k (.int 1))) (.ix (.b 6) (.k (.int 1))))) [.ret (.k (.bool false))] []], .loop (.n 13) .seq [(.call 20 [(.call 7 [(.v 1)])])] [.set (.t [14, 15]) (.call 50 [(.v 1), (.v 13)]), .ite (.or (.not (.call 4 [(.v 14)])) (.cmp .ne (.call 47 [(.v 14), (.v 15)]) (.tup [(.v 1), (.v 13)]))) [.ret (.k (.bool false))] [], .ite (.cmp .ne (.bt .sorted [(.bin .add (.call 22 [(.v 14)]) (.tup [(.v 15)]))]) (.bt .sorted [(.call 22 [(.v 1)])])) [.ret (.k (.bool false))] []], .ret (.cmp .eq (.call 50 [(.v 11), (.v 12)]) (.tup [(.v 5), (.v 3)]))]⟩
def F_pair_of : Fn := ⟨1, 10, [.set (.n 1) (.tup []), .own 2 .dict0, .loop (.t [3, 4]) .enum [(.v 0)] [.set (.t [1, 5]) (.call 47 [(.v 1), (.v 4)]), .put 2 (.v 5) (.bin .add (.b 3) (.k (.int 1)))], .own 6 (.lst []), .loop (.t [7, 8]) .enum [(.call 7 [(.v 1)])] [.app 6 (.bt .tuple [(.comp (.ix (.b 2) (.tup [(.v 7), (.v 9)])) [9] (.n 9) .range1 [(.b 8)] [])])], .ret (.tup [(.v 1), (.bt .tuple [(.b 6)])])]⟩
def F_filling_of : Fn := ⟨1, 1, [.ret (.ix (.call 55 [(.v 0)]) (.k (.int 0)))]⟩
def F_box_of : Fn := ⟨2, 3, [.ret (.ix (.comp (.v 2) [2] (.n 2) .seq [(.call 19 [(.call 7 [(.v 0)])])] [(.cmp .eq (.ix (.ix (.b 0) (.ix (.b 2) (.k (.int 0)))) (.ix (.b 2) (.k (.int 1)))) (.b 1))]) (.k (.int 0)))]⟩
def F_word_of : Fn := ⟨1, 6, [.set (.t [1, 2]) (.v 0), .ite (.or (.cmp .ne (.call 7 [(.v 1)]) (.call 7 [(.v 2)])) (.not (.call 23 [(.v 2)]))) [.raise 2] [], .set (.n 3) (.tup []), .set (.n 4) (.bt .sum [(.call 7 [(.v 2)])]), .while (.cmp .gt (.b 4) (.k (.int 0))) [.fz [4], .set (.t [1, 5]) (.call 50 [(.v 1), (.call 57 [(.v 2), (.v 4)])]), .own 3 (.bin .add (.tup [(.v 5)]) (.b 3)), .own 4 (.bin .sub (.b 4) (.k (.int 1)))], .fz [3], .ret (.v 3)]⟩
def F_Lpair : Fn := ⟨1, 7, [.set (.n 1) (.tup []), .set (.n 2) (.tup []), .loop (.t [3, 4]) .enum [(.v 0)] [.set (.t [1, 5]) (.call 12 [(.v 1), (.v 4)]), .own 6 (.bin .sub (.bt .len [(.b 5)]) (.k (.int 1))), .ite (.cmp .eq (.b 6) (.bt .len [(.b 2)])) [.own 2 (.bin .add (.b 2) (.tup [(.tup [(.bin .add (.b 3) (.k (.int 1)))])]))] [.own 2 (.bin .add (.bin .add (.sl (.b 2) [] [(.b 6)]) (.tup [(.bin .add (.ix (.b 2) (.b 6)) (.tup [(.bin .add (.b 3) (.k (.int 1)))]))])) (.sl (.b 2) [(.bin .add (.b 6) (.k (.int 1)))] []))]], .fz [2], .ret (.tup [(.v 1), (.v 2)])]⟩
def F_Ldue_2 : Fn := ⟨1, 16, [.set (.t [1, 2]) (.v 0), .set (.n 3) (.call 26 [(.v 2)]), .ite (.or (.cmp .ne (.call 7 [(.v 1)]) (.call 7 [(.v 2)])) (.cmp .ne (.bt .sorted [(.b 3)]) (.bt .listRange2 [(.k (.int 1)), (.bin .add (.bt .len [(.b 3)]) (.k (.int 1)))]))) [.ret (.tup [(.k (.str (Str.ofString "refused"))), (.k (.bool true))])] [], .set (.n 4) (.tup []), .set (.n 5) (.v 1), .loop (.n 6) .range3 [(.bt .len [(.b 3)]), (.k (.int 0)), (.neg (.k (.int 1)))] [.set (.n 7) (.ix (.comp (.v 8) [8, 9] (.t [8, 9]) .enum [(.b 2)] [(.cmp .inn (.b 6) (.b 9))]) (.k (.int 0))), .set (.n 10) (.ix (.ix (.b 5) (.b 7)) (.neg (.k (.int 1)))), .own 5 (.bin .add (.bin .add (.sl (.b 5) [] [(.b 7)]) (.tup [(.sl (.ix (.b 5) (.b 7)) [] [(.neg (.k (.int 1)))])])) (.sl (.b 5) [(.bin .add (.b 7) (.k (.int 1)))] [])), .loop (.n 11) .range3 [(.bin .sub (.b 7) (.k (.int 1))), (.neg (.k (.int 1))), (.neg (.k (.int 1)))] [.own 12 (.bin .sub (.bt .len [(.comp (.v 13) [13] (.n 13) .seq [(.ix (.b 5) (.b 11))] [(.cmp .lt (.b 13) (.b 10))])]) (.k (.int 1))), .set (.n 13) (.ix (.ix (.b 5) (.b 11)) (.b 12)), .own 14 (.bin .add (.bin .add (.sl (.ix (.b 5) (.b 11)) [] [(.b 12)]) (.tup [(.v 10)])) (.sl (.ix (.b 5) (.b 11)) [(.bin .add (.b 12) (.k (.int 1)))] [])), .fz [14], .own 5 (.bin .add (.bin .add (.sl (.b 5) [] [(.b 11)]) (.tup [(.v 14)])) (.sl (.b 5) [(.bin .add (.b 11) (.k (.int 1)))] [])), .set (.n 10) (.v 13)], .set (.n 2) (.bt .tuple [(.comp (.bt .tuple [(.comp (.v 15) [15] (.n 15) .seq [(.b 9)] [(.cmp .ne (.b 15) (.b 6))])]) [9] (.n 9) .seq [(.b 2)] [])]), .own 4 (.bin .add (.tup [(.v 10)]) (.b 4))], .fz [4], .ret (.tup [(.k (.str (Str.ofString "told"))), (.v 4)])]⟩
def F_grown : Fn := ⟨1, 4, [.own 1 (.lst [(.bin .add (.b 0) (.tup [(.k (.int 1))]))]), .loop (.t [2, 3]) .enum [(.v 0)] [.ite (.or (.cmp .eq (.b 2) (.k (.int 0))) (.cmp .gt (.ix (.b 0) (.bin .sub (.b 2) (.k (.int 1)))) (.b 3))) [.app 1 (.bin .add (.bin .add (.sl (.b 0) [] [(.b 2)]) (.tup [(.bin .add (.b 3) (.k (.int 1)))])) (.sl (.b 0) [(.bin .add (.b 2) (.k (.int 1)))] []))] []], .fz [1], .ret (.v 1)]⟩
def F_shapes : Fn := ⟨1, 5, [.own 1 (.lst [(.tup [])]), .loop (.n 2) .range1 [(.v 0)] [.own 3 (.lst []), .fz [1], .loop (.n 4) .seq [(.v 1)] [.ext 3 (.call 63 [(.v 4)])], .own 1 (.bt .sortedSet [(.b 3)])], .ret (.bt .tuple [(.b 1)])]⟩
def F_may_grow : Fn := ⟨3, 3, [.ite (.cmp .eq (.bt .len [(.ix (.b 0) (.b 1))]) (.b 2)) [.ret (.k (.bool false))] [], .ret (.or (.cmp .eq (.b 1) (.k (.int 0))) (.cmp .gt (.bt .len [(.ix (.b 0) (.bin .sub (.b 1) (.k (.int 1))))]) (.bt .len [(.ix (.b 0) (.b 1))])))]⟩
def F_all_standard : Fn := ⟨1, 7, [.own 1 (.lst [(.tup [])]), .loop (.n 2) .range2 [(.k (.int 1)), (.bin .add (.bt .sum [(.b 0)]) (.k (.int 1)))] [.own 3 (.lst []), .fz [1], .loop (.n 4) .seq [(.v 1)] [.loop (.t [5, 6]) .enum [(.v 0)] [.ite (.cmp .eq (.b 5) (.bt .len [(.b 4)])) [.app 3 (.bin .add (.b 4) (.tup [(.tup [(.v 2)])]))] [.ite (.and (.cmp .lt (.b 5) (.bt .len [(.b 4)])) (.call 65 [(.v 4), (.v 5), (.v 6)])) [.app 3 (.bin .add (.bin .add (.sl (.b 4) [] [(.b 5)]) (.tup [(.bin .add (.ix (.b 4) (.b 5)) (.tup [(.v 2)]))])) (.sl (.b 4) [(.bin .add (.b 5) (.k (.int 1)))] []))] []]]], .fz [3], .set (.n 1) (.v 3)], .ret (.bt .tuple [(.bt .sorted [(.b 1)])])]⟩
def F_Lorders : Fn := ⟨1, 6, [.own 1 (.lst [(.tup [])]), .loop (.n 2) .range1 [(.v 0)] [.own 3 (.lst []), .fz [1], .loop (.n 4) .seq [(.v 1)] [.own 3 (.bin .add (.b 3) (.comp (.bin .add (.b 4) (.tup [(.v 5)])) [5] (.n 5) .range2 [(.k (.int 1)), (.bin .add (.b 0) (.k (.int 1)))] [(.cmp .nin (.b 5) (.b 4))]))], .fz [3], .set (.n 1) (.v 3)], .fz [1], .ret (.v 1)]⟩
def F_hole_counts : Fn := ⟨1, 2, [.ret (.comp (.lcnt (.b 1) (.k .none)) [1] (.n 1) .seq [(.b 0)] [])]⟩
def F_is_gapped : Fn := ⟨1, 7, [.ite (.or (.not (.bt .isTuple [(.b 0)])) (.not (.bt .all [(.comp (.bt .isTuple [(.b 1)]) [1] (.n 1) .seq [(.b 0)] [])]))) [.ret (.k (.bool false))] [], .ite (.not (.call 2 [(.call 7 [(.v 0)])])) [.ret (.k (.bool false))] [], .set (.n 2) (.call 69 [(.v 0)]), .loop (.t [1, 3]) .zip2 [(.v 0), (.v 2)] [.ite (.or (.cmp .ne (.sl (.b 1) [] [(.b 3)]) (.bin .mul (.tup [(.k .none)]) (.b 3))) (.not (.call 3 [(.sl (.b 1) [(.b 3)] [])]))) [.ret (.k (.bool false))] []], .ite (.not (.bt .all [(.comp (.cmp .ge (.b 4) (.b 5)) [4, 5] (.t [4, 5]) .zip2 [(.sl (.b 2) [] [(.neg (.k (.int 1)))]), (.sl (.b 2) [(.k (.int 1))] [])] [])])) [.ret (.k (.bool false))] [], .loop (.t [1, 6, 3]) .zip3 [(.sl (.b 0) [] [(.neg (.k (.int 1)))]), (.sl (.b 0) [(.k (.int 1))] []), (.v 2)] [.ite (.not (.bt .all [(.comp (.cmp .lt (.b 4) (.b 5)) [4, 5] (.t [4, 5]) .zip2 [(.sl (.b 1) [(.b 3)] []), (.sl (.b 6) [(.b 3)] [])] [])])) [.ret (.k (.bool false))] []], .ret (.k (.bool true))]⟩
def F_at_box : Fn := ⟨3, 3, [.ite (.and (.cmp .lt (.b 1) (.bt .len [(.b 0)])) (.cmp .lt (.b 2) (.bt .len [(.ix (.b 0) (.b 1))]))) [.ret (.ix (.ix (.b 0) (.b 1)) (.b 2))] [], .ret (.k (.int 0))]⟩
def F_with_box : Fn := ⟨4, 5, [.own 4 (.bin .add (.bin .add (.sl (.ix (.b 0) (.b 1)) [] [(.b 2)]) (.tup [(.v 3)])) (.sl (.ix (.b 0) (.b 1)) [(.bin .add (.b 2) (.k (.int 1)))] [])), .fz [4], .ret (.bin .add (.bin .add (.sl (.b 0) [] [(.b 1)]) (.tup [(.v 4)])) (.sl (.b 0) [(.bin .add (.b 1) (.k (.int 1)))] []))]⟩
def F_is_open : Fn := ⟨2, 4, [.set (.t [2, 3]) (.v 1), .ite (.or (.not (.chain .le .lt (.k (.int 0)) (.b 2) (.bt .len [(.b 0)]))) (.or (.not (.chain .le .lt (.k (.int 0)) (.b 3) (.bt .len [(.ix (.b 0) (.b 2))]))) (.cmp .notN (.ix (.ix (.b 0) (.b 2)) (.b 3)) (.k .none)))) [.ret (.k (.bool false))] [], .ret (.and (.cmp .notN (.call 71 [(.v 0), (.v 2), (.bin .add (.b 3) (.k (.int 1)))]) (.k .none)) (.cmp .notN (.call 71 [(.v 0), (.bin .add (.b 2) (.k (.int 1))), (.v 3)]) (.k .none)))]⟩
def F_slide : Fn := ⟨2, 8, [.ite (.not (.call 73 [(.v 0), (.v 1)])) [.raise 1] [], .set (.t [2, 3]) (.v 1), .fz [2], .set (.n 4) (.call 71 [(.v 0), (.v 2), (.bin .add (.b 3) (.k (.int 1)))]), .fz [3], .set (.n 5) (.call 71 [(.v 0), (.bin .add (.b 2) (.k (.int 1))), (.v 3)]), .while (.or (.cmp .gt (.b 4) (.k (.int 0))) (.cmp .gt (.b 5) (.k (.int 0)))) [.ite (.and (.cmp .gt (.b 5) (.k (.int 0))) (.or (.cmp .eq (.b 4) (.k (.int 0))) (.cmp .le (.b 5) (.b 4)))) [.fz [2, 3], .set (.n 0) (.call 72 [(.v 0), (.v 2), (.v 3), (.v 5)]), .own 2 (.bin .add (.b 2) (.k (.int 1)))] [.fz [2, 3], .set (.n 0) (.call 72 [(.v 0), (.v 2), (.v 3), (.v 4)]), .own 3 (.bin .add (.b 3) (.k (.int 1)))], .fz [2], .set (.n 4) (.call 71 [(.v 0), (.v 2), (.bin .add (.b 3) (.k (.int 1)))]), .fz [3], .set (.n 5) (.call 71 [(.v 0), (.bin .add (.b 2) (.k (.int 1))), (.v 3)])], .own 6 (.bin .add (.bin .add (.sl (.b 0) [] [(.b 2)]) (.tup [(.sl (.ix (.b 0) (.b 2)) [] [(.b 3)])])) (.sl (.b 0) [(.bin .add (.b 2) (.k (.int 1)))] [])), .ret (.bt .tuple [(.comp (.v 7) [7] (.n 7) .seq [(.b 6)] [(.cmp .ne (.b 7) (.tup []))])])]⟩
def F_straight : Fn := ⟨1, 3, [.while (.bt .any [(.comp (.cmp .inn (.k .none) (.b 1)) [1] (.n 1) .seq [(.b 0)] [])]) [.set (.n 1) (.bt .max1 [(.comp (.v 2) [2] (.n 2) .range1 [(.bt .len [(.b 0)])] [(.cmp .inn (.k .none) (.ix (.b 0) (.b 2)))])]), .set (.n 0) (.call 74 [(.v 0), (.tup [(.v 1), (.bin .sub (.lcnt (.ix (.b 0) (.b 1)) (.k .none)) (.k (.int 1)))])])], .ret (.v 0)]⟩
def F_Lcut : Fn := ⟨2, 5, [.own 2 (.comp (.bt .tuple [(.comp (.v 3) [3] (.n 3) .seq [(.b 4)] [(.cmp .le (.b 3) (.b 1))])]) [4] (.n 4) .seq [(.b 0)] []), .ret (.bt .tuple [(.comp (.v 4) [4] (.n 4) .seq [(.b 2)] [(.cmp .ne (.b 4) (.tup []))])])]⟩
def F_k22_law : Fn := ⟨1, 10, [.set (.n 1) (.call 11 [(.call 9 [(.v 0), (.k (.int 0))]), (.k (.int 8))]), .set (.t [2, 3]) (.call 55 [(.v 1)]), .own 4 (.bin .mod (.call 9 [(.v 0), (.k (.int 1))]) (.bin .add (.bt .len [(.b 1)]) (.k (.int 1)))), .fz [4], .ite (.cmp .ne (.ix (.call 55 [(.sl (.b 1) [] [(.b 4)])]) (.k (.int 1))) (.call 76 [(.v 3), (.v 4)])) [.ret (.k (.bool false))] [], .own 5 (.bin .mod (.call 9 [(.v 0), (.k (.int 2))]) (.k (.int 10))), .own 6 (.bin .mod (.call 9 [(.v 0), (.k (.int 3))]) (.bin .add (.b 5) (.k (.int 1)))), .fz [5], .ite (.cmp .ne (.call 56 [(.bt .tuple [(.comp (.v 7) [7] (.n 7) .seq [(.b 1)] [(.cmp .le (.b 7) (.b 5))])])]) (.call 76 [(.v 2), (.v 5)])) [.ret (.k (.bool false))] [], .fz [5], .set (.n 8) (.bt .tuple [(.comp (.bt .tuple [(.comp (.ix (.lst [(.v 7), (.k .none)]) (.bt .toInt [(.cmp .lt (.b 7) (.b 6))])) [7] (.n 7) .seq [(.b 9)] [])]) [9] (.n 9) .seq [(.call 76 [(.v 2), (.v 5)])] [])]), .ite (.not (.call 70 [(.v 8)])) [.ret (.k (.bool false))] [], .ret (.cmp .eq (.call 75 [(.v 8)]) (.call 56 [(.bt .tuple [(.comp (.v 7) [7] (.n 7) .seq [(.b 1)] [(.chain .le .le (.b 6) (.b 7) (.b 5))])])]))]⟩
def F_k23_law : Fn := ⟨1, 12, [.set (.n 1) (.call 11 [(.call 9 [(.v 0), (.k (.int 0))]), (.k (.int 8))]), .set (.t [2, 3]) (.call 55 [(.v 1)]), .own 4 .dict0, .own 5 .dict0, .loop (.t [6, 7]) .enum [(.v 3)] [.loop (.t [8, 9]) .enum [(.v 7)] [.put 4 (.v 9) (.v 6), .put 5 (.v 9) (.v 8)]], .set (.n 10) (.k (.int 0)), .loop (.n 6) .range2 [(.k (.int 1)), (.bt .len [(.b 1)])] [.set (.n 11) (.cmp .lt (.ix (.b 1) (.b 6)) (.ix (.b 1) (.bin .sub (.b 6) (.k (.int 1))))), .own 10 (.bin .add (.b 10) (.bt .toInt [(.b 11)])), .ite (.or (.cmp .ne (.cmp .gt (.ix (.b 4) (.bin .add (.b 6) (.k (.int 1)))) (.ix (.b 4) (.b 6))) (.b 11)) (.cmp .ne (.cmp .gt (.ix (.b 5) (.bin .add (.b 6) (.k (.int 1)))) (.ix (.b 5) (.b 6))) (.not (.b 11)))) [.ret (.k (.bool false))] []], .ite (.cmp .ne (.cmp .eq (.b 10) (.k (.int 0))) (.cmp .lt (.bt .len [(.b 2)]) (.k (.int 2)))) [.ret (.k (.bool false))] [], .ite (.and (.cmp .ne (.b 1) (.tup [])) (.cmp .ne (.cmp .eq (.b 10) (.bin .sub (.bt .len [(.b 1)]) (.k (.int 1)))) (.cmp .eq (.call 7 [(.v 2)]) (.bin .mul (.tup [(.k (.int 1))]) (.bt .len [(.b 1)]))))) [.ret (.k (.bool false))] [], .ret (.cmp .eq (.call 56 [(.bt .tuple [(.bt .sorted [(.b 1)])])]) (.bin .mul (.tup [(.bt .tuple [(.bt .sorted [(.b 1)])])]) (.bt .toInt [(.cmp .ne (.b 1) (.tup []))])))]⟩
def F_is_step : Fn := ⟨2, 4, [.set (.t [2, 3]) (.bt .sorted [(.sl (.b 0) [(.b 1)] [(.bin .add (.b 1) (.k (.int 2)))])]), .ite (.cmp .eq (.b 2) (.b 3)) [.ret (.k (.bool false))] [], .ite (.and (.cmp .lt (.bin .add (.b 1) (.k (.int 2))) (.bt .len [(.b 0)])) (.chain .le .lt (.b 2) (.ix (.b 0) (.bin .add (.b 1) (.k (.int 2)))) (.b 3))) [.ret (.k (.bool true))] [], .ret (.and (.cmp .gt (.b 1) (.k (.int 0))) (.chain .lt .le (.b 2) (.ix (.b 0) (.bin .sub (.b 1) (.k (.int 1)))) (.b 3)))]⟩
def F_exchanged : Fn := ⟨2, 2, [.ret (.bin .add (.bin .add (.sl (.b 0) [] [(.b 1)]) (.tup [(.ix (.b 0) (.bin .add (.b 1) (.k (.int 1)))), (.ix (.b 0) (.b 1))])) (.sl (.b 0) [(.bin .add (.b 1) (.k (.int 2)))] []))]⟩
def F_steps : Fn := ⟨1, 2, [.ret (.bt .tuple [(.bt .sortedSet [(.comp (.call 80 [(.v 0), (.v 1)]) [1] (.n 1) .range1 [(.bin .sub (.bt .len [(.b 0)]) (.k (.int 1)))] [(.call 79 [(.v 0), (.v 1)])])])])]⟩
def F_alike : Fn := ⟨2, 2, [.ret (.cmp .eq (.call 56 [(.v 0)]) (.call 56 [(.v 1)]))]⟩
def F_is_road : Fn := ⟨3, 5, [.ite (.or (.not (.bt .isTuple [(.b 2)])) (.or (.cmp .eq (.bt .len [(.b 2)]) (.k (.int 0))) (.or (.cmp .ne (.ix (.b 2) (.k (.int 0))) (.b 0)) (.cmp .ne (.ix (.b 2) (.neg (.k (.int 1)))) (.b 1))))) [.ret (.k (.bool false))] [], .loop (.t [3, 4]) .zip2 [(.sl (.b 2) [] [(.neg (.k (.int 1)))]), (.sl (.b 2) [(.k (.int 1))] [])] [.ite (.cmp .nin (.b 4) (.call 81 [(.v 3)])) [.ret (.k (.bool false))] []], .ret (.k (.bool true))]⟩
def F_Lsteps : Fn := ⟨1, 6, [.own 1 .dict0, .loop (.n 2) .range1 [(.bin .sub (.bt .len [(.b 0)]) (.k (.int 1)))] [.set (.t [3, 4]) (.bt .sorted [(.sl (.b 0) [(.b 2)] [(.bin .add (.b 2) (.k (.int 2)))])]), .set (.n 5) (.k (.bool false)), .ite (.and (.cmp .lt (.b 3) (.b 4)) (.cmp .lt (.bin .add (.b 2) (.k (.int 2))) (.bt .len [(.b 0)]))) [.set (.n 5) (.and (.cmp .le (.b 3) (.ix (.b 0) (.bin .add (.b 2) (.k (.int 2))))) (.cmp .lt (.ix (.b 0) (.bin .add (.b 2) (.k (.int 2)))) (.b 4)))] [], .ite (.and (.cmp .lt (.b 3) (.b 4)) (.and (.cmp .gt (.b 2) (.k (.int 0))) (.and (.cmp .lt (.b 3) (.ix (.b 0) (.bin .sub (.b 2) (.k (.int 1))))) (.cmp .le (.ix (.b 0) (.bin .sub (.b 2) (.k (.int 1)))) (.b 4))))) [.set (.n 5) (.k (.bool true))] [], .ite (.v 5) [.put 1 (.bin .add (.bin .add (.sl (.b 0) [] [(.b 2)]) (.tup [(.ix (.b 0) (.bin .add (.b 2) (.k (.int 1)))), (.ix (.b 0) (.b 2))])) (.sl (.b 0) [(.bin .add (.b 2) (.k (.int 2)))] [])) (.k (.bool true))] []], .ret (.bt .tuple [(.bt .sorted [(.b 1)])])]⟩
def F_Lother : Fn := ⟨2, 8, [.own 2 (.bin .mod (.b 1) (.k (.int 4))), .set (.n 3) (.v 0), .ite (.cmp .lt (.b 2) (.k (.int 2))) [.loop (.n 4) .range1 [(.bin .mod (.bin .fdiv (.b 1) (.k (.int 4))) (.k (.int 9)))] [.fz [3], .set (.n 5) (.call 85 [(.v 3)]), .ite (.cmp .ne (.b 5) (.tup [])) [.fz [1], .set (.n 3) (.ix (.b 5) (.bin .mod (.bin .fdiv (.call 10 [(.v 1), (.bin .add (.k (.int 40)) (.b 4))]) (.k (.int 4))) (.bt .len [(.b 5)])))] []], .fz [3], .ret (.v 3)] [], .ite (.cmp .eq (.b 2) (.k (.int 2))) [.set (.n 6) (.v 0), .set (.n 3) (.tup []), .while (.cmp .ne (.b 6) (.tup [])) [.own 7 (.bin .mod (.b 1) (.bt .len [(.b 6)])), .own 3 (.bin .add (.b 3) (.sl (.b 6) [(.b 7)] [(.bin .add (.b 7) (.k (.int 1)))])), .own 6 (.bin .add (.sl (.b 6) [] [(.b 7)]) (.sl (.b 6) [(.bin .add (.b 7) (.k (.int 1)))] [])), .own 1 (.bin .add (.bin .fdiv (.b 1) (.k (.int 3))) (.k (.int 7)))], .fz [3], .ret (.v 3)] [], .ret (.call 11 [(.bin .fdiv (.b 1) (.k (.int 4))), (.k (.int 6))])]⟩
def F_Lis_road : Fn := ⟨3, 4, [.ite (.or (.not (.bt .isTuple [(.b 2)])) (.or (.cmp .eq (.b 2) (.tup [])) (.or (.cmp .ne (.ix (.b 2) (.k (.int 0))) (.b 0)) (.cmp .ne (.ix (.b 2) (.bin .sub (.bt .len [(.b 2)]) (.k (.int 1)))) (.b 1))))) [.ret (.k (.bool false))] [], .ret (.cmp .eq (.comp (.v 3) [3] (.n 3) .range2 [(.k (.int 1)), (.bt .len [(.b 2)])] [(.cmp .nin (.ix (.b 2) (.b 3)) (.call 85 [(.ix (.b 2) (.bin .sub (.b 3) (.k (.int 1))))]))]) (.lst []))]⟩
def F_Lspoilt_3 : Fn := ⟨2, 5, [.own 2 (.bin .mod (.bin .fdiv (.b 1) (.k (.int 8))) (.bt .len [(.b 0)])), .own 3 (.lst [(.bin .add (.sl (.b 0) [] [(.b 2)]) (.sl (.b 0) [(.bin .add (.b 2) (.k (.int 1)))] [])), (.bin .add (.bin .add (.sl (.b 0) [] [(.b 2)]) (.sl (.b 0) [(.b 2)] [(.bin .add (.b 2) (.k (.int 1)))])) (.sl (.b 0) [(.b 2)] [])), (.bt .list [(.b 0)]), (.bin .add (.b 0) (.sl (.b 0) [] [(.k (.int 1))]))]), .set (.n 4) (.ix (.b 0) (.b 2)), .app 3 (.bin .add (.bin .add (.sl (.b 0) [] [(.b 2)]) (.tup [(.rev (.b 4))])) (.sl (.b 0) [(.bin .add (.b 2) (.k (.int 1)))] [])), .app 3 (.bin .add (.bin .add (.sl (.b 0) [] [(.b 2)]) (.tup [(.sl (.b 4) [] [(.neg (.k (.int 1)))])])) (.sl (.b 0) [(.bin .add (.b 2) (.k (.int 1)))] [])), .ret (.ix (.bin .add (.b 3) (.lst [(.bin .add (.b 0) (.tup [(.ix (.b 0) (.neg (.k (.int 1))))])), (.tup []), (.k .none), (.rev (.b 0))])) (.bin .mod (.bin .fdiv (.b 1) (.k (.int 128))) (.k (.int 10))))]⟩
def F_k30_law : Fn := ⟨1, 6, [.set (.n 1) (.call 11 [(.call 9 [(.v 0), (.k (.int 0))]), (.k (.int 6))]), .set (.n 2) (.call 87 [(.v 1), (.call 9 [(.v 0), (.k (.int 1))])]), .ite (.or (.cmp .ne (.call 81 [(.v 1)]) (.call 85 [(.v 1)])) (.cmp .ne (.call 81 [(.v 2)]) (.call 85 [(.v 2)]))) [.ret (.k (.bool false))] [], .set (.n 3) (.cmp .inn (.b 2) (.call 86 [(.v 1)])), .set (.n 4) (.call 82 [(.v 1), (.v 2)]), .ite (.or (.not (.bt .isBool [(.b 4)])) (.cmp .ne (.b 4) (.b 3))) [.ret (.k (.bool false))] [], .set (.n 5) (.call 83 [(.v 1), (.v 2)]), .ite (.or (.and (.v 3) (.not (.call 88 [(.v 1), (.v 2), (.v 5)]))) (.and (.not (.v 3)) (.cmp .notN (.b 5) (.k .none)))) [.ret (.k (.bool false))] [], .ite (.cmp .isN (.b 5) (.k .none)) [.set (.n 5) (.tup [(.v 1), (.v 2)])] [], .ite (.cmp .eq (.bin .mod (.call 9 [(.v 0), (.k (.int 2))]) (.k (.int 2))) (.k (.int 1))) [.set (.n 5) (.call 89 [(.v 5), (.call 9 [(.v 0), (.k (.int 3))])])] [], .set (.n 4) (.call 84 [(.v 1), (.v 2), (.v 5)]), .ret (.and (.bt .isBool [(.b 4)]) (.cmp .eq (.b 4) (.call 88 [(.v 1), (.v 2), (.v 5)])))]⟩
def F_hooks : Fn := ⟨1, 6, [.set (.n 1) (.call 21 [(.v 0)]), .own 2 (.lst []), .loop (.t [3, 4]) .enum [(.v 0)] [.app 2 (.bt .tuple [(.comp (.bin .sub (.bin .sub (.bin .add (.bin .sub (.b 4) (.b 5)) (.ix (.b 1) (.b 5))) (.b 3)) (.k (.int 1))) [5] (.n 5) .range1 [(.b 4)] [])])], .ret (.bt .tuple [(.b 2)])]⟩
def F_all_hooks : Fn := ⟨1, 4, [.set (.n 1) (.k (.int 1)), .loop (.n 2) .seq [(.call 91 [(.v 0)])] [.loop (.n 3) .seq [(.v 2)] [.own 1 (.bin .mul (.b 1) (.b 3))]], .fz [1], .ret (.v 1)]⟩
def F_many_standard : Fn := ⟨1, 3, [.set (.n 1) (.k (.int 1)), .loop (.n 2) .range2 [(.k (.int 1)), (.bin .add (.bt .sum [(.b 0)]) (.k (.int 1)))] [.own 1 (.bin .mul (.b 1) (.b 2))], .ret (.bin .fdiv (.b 1) (.call 92 [(.v 0)]))]⟩
def F_Lall_orders : Fn := ⟨1, 6, [.own 1 (.lst [(.tup [])]), .loop (.n 2) .range1 [(.bt .len [(.b 0)])] [.own 3 .dict0, .fz [1], .loop (.n 4) .seq [(.v 1)] [.loop (.n 5) .seq [(.v 0)] [.ite (.cmp .lt (.lcnt (.b 4) (.b 5)) (.lcnt (.b 0) (.b 5))) [.put 3 (.bin .add (.b 4) (.tup [(.v 5)])) (.k (.bool true))] []]], .own 1 (.bt .sorted [(.b 3)])], .fz [1], .ret (.v 1)]⟩
def F_k31_law : Fn := ⟨1, 9, [.set (.n 1) (.call 11 [(.call 9 [(.v 0), (.k (.int 0))]), (.k (.int 5))]), .set (.n 2) (.call 56 [(.v 1)]), .set (.n 3) (.call 86 [(.v 1)]), .own 4 .dict0, .loop (.n 5) .seq [(.call 94 [(.v 1)])] [.set (.n 6) (.cmp .eq (.call 56 [(.v 5)]) (.b 2)), .ite (.or (.cmp .ne (.b 6) (.cmp .inn (.b 5) (.b 3))) (.cmp .ne (.call 82 [(.v 1), (.v 5)]) (.b 6))) [.ret (.k (.bool false))] [], .ite (.v 6) [.put 4 (.ix (.call 55 [(.v 5)]) (.k (.int 1))) (.k (.bool true)), .ite (.cmp .notB (.call 84 [(.v 1), (.v 5), (.call 83 [(.v 1), (.v 5)])]) (.k (.bool true))) [.ret (.k (.bool false))] []] [.ite (.cmp .notN (.call 83 [(.v 1), (.v 5)]) (.k .none)) [.ret (.k (.bool false))] []], .ite (.cmp .ne (.comp (.v 7) [7] (.n 7) .seq [(.call 81 [(.v 5)])] [(.cmp .ne (.call 56 [(.v 7)]) (.call 56 [(.v 5)]))]) (.lst [])) [.ret (.k (.bool false))] []], .set (.n 8) (.call 7 [(.v 2)]), .ite (.or (.cmp .ne (.bt .tuple [(.bt .sorted [(.b 4)])]) (.call 66 [(.v 8)])) (.cmp .ne (.bt .len [(.b 3)]) (.call 93 [(.v 8)]))) [.ret (.k (.bool false))] [], .ret (.cmp .inn (.call 22 [(.v 2)]) (.b 3))]⟩
def F_rises : Fn := ⟨2, 4, [.ret (.bt .all [(.comp (.cmp .le (.ix (.b 0) (.b 2)) (.ix (.b 0) (.b 3))) [2, 3] (.t [2, 3]) .zip2 [(.sl (.b 1) [] [(.neg (.k (.int 1)))]), (.sl (.b 1) [(.k (.int 1))] [])] [])])]⟩
def F_falls_down : Fn := ⟨2, 4, [.ret (.bt .all [(.comp (.cmp .gt (.ix (.b 0) (.b 2)) (.ix (.b 0) (.b 3))) [2, 3] (.t [2, 3]) .zip2 [(.sl (.b 1) [] [(.neg (.k (.int 1)))]), (.sl (.b 1) [(.k (.int 1))] [])] [])])]⟩
def F_is_pick : Fn := ⟨2, 5, [.ite (.or (.not (.bt .isTuple [(.b 1)])) (.not (.bt .all [(.comp (.call 0 [(.v 2), (.k (.int 0)), (.bin .sub (.bt .len [(.b 0)]) (.k (.int 1)))]) [2] (.n 2) .seq [(.b 1)] [])]))) [.ret (.k (.bool false))] [], .ret (.bt .all [(.comp (.cmp .lt (.b 3) (.b 4)) [3, 4] (.t [3, 4]) .zip2 [(.sl (.b 1) [] [(.neg (.k (.int 1)))]), (.sl (.b 1) [(.k (.int 1))] [])] [])])]⟩
def F_are_unlike : Fn := ⟨1, 3, [.own 1 (.lst []), .loop (.n 2) .seq [(.v 0)] [.ext 1 (.v 2)], .ret (.cmp .eq (.bt .lenSet [(.b 1)]) (.bt .len [(.b 1)]))]⟩
def F_most_in : Fn := ⟨2, 2, [.ret (.bt .sum [(.sl (.call 7 [(.call 56 [(.v 0)])]) [] [(.b 1)])])]⟩
def F_is_picks : Fn := ⟨3, 5, [.ite (.or (.not (.bt .isTuple [(.b 2)])) (.or (.cmp .ne (.bt .len [(.b 2)]) (.b 1)) (.not (.bt .all [(.comp (.call 98 [(.v 0), (.v 3)]) [3] (.n 3) .seq [(.b 2)] [])])))) [.ret (.k (.bool false))] [], .ret (.and (.call 99 [(.v 2)]) (.bt .all [(.comp (.call 96 [(.v 0), (.v 4)]) [4] (.n 4) .seq [(.b 2)] [])]))]⟩
def F_all_picks : Fn := ⟨2, 8, [.own 2 (.lst [(.bin .mul (.tup [(.tup [])]) (.b 1))]), .loop (.n 3) .range1 [(.bt .len [(.b 0)])] [.own 4 (.bt .list [(.b 2)]), .fz [2], .loop (.n 5) .seq [(.v 2)] [.loop (.n 6) .range1 [(.v 1)] [.own 7 (.bin .add (.ix (.b 5) (.b 6)) (.tup [(.v 3)])), .ite (.call 96 [(.v 0), (.sl (.b 7) [(.neg (.k (.int 2)))] [])]) [.fz [7], .app 4 (.bin .add (.bin .add (.sl (.b 5) [] [(.b 6)]) (.tup [(.v 7)])) (.sl (.b 5) [(.bin .add (.b 6) (.k (.int 1)))] []))] []]], .fz [4], .set (.n 2) (.v 4)], .fz [2], .ret (.v 2)]⟩
def F_picks_for : Fn := ⟨2, 4, [.ret (.ix (.bt .max1 [(.comp (.tup [(.bt .sum [(.comp (.bt .len [(.b 2)]) [2] (.n 2) .seq [(.b 3)] [])]), (.v 3)]) [3] (.n 3) .seq [(.call 102 [(.v 0), (.v 1)])] [])]) (.k (.int 1)))]⟩
def F_is_parting : Fn := ⟨2, 4, [.ite (.or (.not (.bt .isTuple [(.b 1)])) (.not (.bt .all [(.comp (.and (.call 98 [(.v 0), (.v 2)]) (.cmp .ne (.b 2) (.tup []))) [2] (.n 2) .seq [(.b 1)] [])]))) [.ret (.k (.bool false))] [], .ite (.or (.not (.call 99 [(.v 1)])) (.cmp .ne (.bt .sum [(.comp (.bt .len [(.b 3)]) [3] (.n 3) .seq [(.b 1)] [])]) (.bt .len [(.b 0)]))) [.ret (.k (.bool false))] [], .ret (.bt .all [(.comp (.call 97 [(.v 0), (.v 3)]) [3] (.n 3) .seq [(.b 1)] [])])]⟩
def F_bound : Fn := ⟨2, 3, [.ret (.bt .sum [(.comp (.bt .min2 [(.b 1), (.bt .len [(.b 2)])]) [2] (.n 2) .seq [(.b 0)] [])])]⟩
def F_Lall_picks : Fn := ⟨2, 8, [.own 2 (.lst [(.bin .mul (.tup [(.tup [])]) (.b 1))]), .loop (.n 3) .range1 [(.bt .len [(.b 0)])] [.own 4 (.bt .list [(.b 2)]), .fz [2], .loop (.n 5) .seq [(.v 2)] [.loop (.t [6, 7]) .enum [(.v 5)] [.ite (.or (.cmp .eq (.b 7) (.tup [])) (.cmp .le (.ix (.b 0) (.ix (.b 7) (.neg (.k (.int 1))))) (.ix (.b 0) (.b 3)))) [.app 4 (.bin .add (.bin .add (.sl (.b 5) [] [(.b 6)]) (.tup [(.bin .add (.b 7) (.tup [(.v 3)]))])) (.sl (.b 5) [(.bin .add (.b 6) (.k (.int 1)))] []))] []]], .own 2 (.bt .sortedSet [(.b 4)])], .fz [2], .ret (.v 2)]⟩
def F_Lis_pick : Fn := ⟨2, 4, [.ite (.not (.bt .isTuple [(.b 1)])) [.ret (.k (.bool false))] [], .own 2 (.comp (.v 3) [3] (.n 3) .seq [(.b 1)] [(.and (.bt .isInt [(.b 3)]) (.and (.not (.bt .isBool [(.b 3)])) (.chain .le .lt (.k (.int 0)) (.b 3) (.bt .len [(.b 0)]))))]), .ret (.and (.cmp .eq (.bt .len [(.b 2)]) (.bt .len [(.b 1)])) (.cmp .eq (.bt .list [(.b 1)]) (.bt .sortedSet [(.b 1)])))]⟩
def F_Lapart : Fn := ⟨1, 3, [.own 1 (.lst []), .loop (.n 2) .seq [(.v 0)] [.own 1 (.bin .add (.b 1) (.bt .list [(.b 2)]))], .ret (.cmp .eq (.bt .len [(.b 1)]) (.bt .lenSet [(.b 1)]))]⟩
def F_Lis_picks : Fn := ⟨3, 6, [.ite (.or (.not (.bt .isTuple [(.b 2)])) (.cmp .ne (.bt .len [(.b 2)]) (.b 1))) [.ret (.k (.bool false))] [], .ite (.cmp .ne (.comp (.k (.int 1)) [3] (.n 3) .seq [(.b 2)] [(.not (.call 107 [(.v 0), (.v 3)]))]) (.lst [])) [.ret (.k (.bool false))] [], .loop (.n 3) .seq [(.v 2)] [.own 4 (.comp (.ix (.b 0) (.b 5)) [5] (.n 5) .seq [(.b 3)] []), .ite (.cmp .ne (.b 4) (.bt .sorted [(.b 4)])) [.ret (.k (.bool false))] []], .ret (.call 108 [(.v 2)])]⟩
def F_Lis_parting : Fn := ⟨2, 5, [.ite (.not (.bt .isTuple [(.b 1)])) [.ret (.k (.bool false))] [], .ite (.cmp .ne (.comp (.k (.int 1)) [2] (.n 2) .seq [(.b 1)] [(.or (.not (.call 107 [(.v 0), (.v 2)])) (.cmp .eq (.b 2) (.tup [])))]) (.lst [])) [.ret (.k (.bool false))] [], .loop (.n 2) .seq [(.v 1)] [.own 3 (.comp (.ix (.b 0) (.b 4)) [4] (.n 4) .seq [(.b 2)] []), .ite (.cmp .ne (.b 3) (.rev (.bt .sortedSet [(.b 3)]))) [.ret (.k (.bool false))] []], .ret (.and (.call 108 [(.v 1)]) (.cmp .eq (.bt .sum [(.comp (.bt .len [(.b 2)]) [2] (.n 2) .seq [(.b 1)] [])]) (.bt .len [(.b 0)])))]⟩
def F_Ldrawn_picks : Fn := ⟨3, 6, [.own 3 (.bin .mul (.lst [(.tup [])]) (.b 1)), .loop (.n 4) .range1 [(.bt .len [(.b 0)])] [.own 5 (.bin .mod (.bin .fdiv (.call 10 [(.v 2), (.bin .add (.k (.int 50)) (.b 4))]) (.k (.int 4))) (.bin .add (.b 1) (.k (.int 1)))), .ite (.cmp .lt (.b 5) (.b 1)) [.fz [5], .put 3 (.v 5) (.bin .add (.ix (.b 3) (.b 5)) (.tup [(.v 4)]))] []], .ret (.bt .tuple [(.b 3)])]⟩
def F_Ldrawn_parting : Fn := ⟨2, 9, [.own 2 (.lst []), .loop (.n 3) .range1 [(.bt .len [(.b 0)])] [.own 4 (.comp (.v 5) [5, 6] (.t [5, 6]) .enum [(.b 2)] [(.cmp .gt (.ix (.b 0) (.ix (.b 6) (.neg (.k (.int 1))))) (.ix (.b 0) (.b 3)))]), .own 7 (.bin .fdiv (.call 10 [(.v 1), (.bin .add (.k (.int 60)) (.b 3))]) (.k (.int 4))), .ite (.or (.cmp .eq (.b 4) (.lst [])) (.cmp .eq (.bin .mod (.b 7) (.k (.int 3))) (.k (.int 0)))) [.app 2 (.tup [(.v 3)])] [.set (.n 8) (.ix (.b 4) (.bin .mod (.bin .fdiv (.b 7) (.k (.int 4))) (.bt .len [(.b 4)]))), .put 2 (.v 8) (.bin .add (.ix (.b 2) (.b 8)) (.tup [(.v 3)]))]], .ret (.bt .tuple [(.b 2)])]⟩
def F_Lspoilt_4 : Fn := ⟨2, 5, [.ite (.cmp .eq (.b 0) (.tup [])) [.ret (.ix (.lst [(.k .none), (.tup [(.tup [])]), (.lst []), (.tup [(.tup [(.k (.int 0))])])]) (.bin .mod (.bin .fdiv (.b 1) (.k (.int 8))) (.k (.int 4))))] [], .own 2 (.bin .mod (.bin .fdiv (.b 1) (.k (.int 8))) (.bt .len [(.b 0)])), .set (.n 3) (.ix (.b 0) (.b 2)), .own 4 (.lst [(.rev (.b 3)), (.bin .add (.b 3) (.tup [(.k (.int 7))])), (.sl (.b 3) [] [(.neg (.k (.int 1)))]), (.bt .list [(.b 3)]), (.bin .add (.b 3) (.sl (.b 3) [(.neg (.k (.int 1)))] [])), (.tup [(.k (.bool true))]), (.tup [(.k (.int 0))]), (.bin .add (.b 3) (.tup [(.neg (.k (.int 1)))])), (.k .none), (.tup [])]), .ite (.cmp .eq (.bin .mod (.b 1) (.k (.int 3))) (.k (.int 0))) [.ret (.ix (.lst [(.sl (.b 0) [] [(.neg (.k (.int 1)))]), (.bin .add (.b 0) (.tup [(.tup [])])), (.bt .list [(.b 0)]), (.bin .add (.b 0) (.sl (.b 0) [(.neg (.k (.int 1)))] []))]) (.bin .mod (.bin .fdiv (.b 1) (.k (.int 64))) (.k (.int 4))))] [], .ret (.bin .add (.bin .add (.sl (.b 0) [] [(.b 2)]) (.tup [(.ix (.b 4) (.bin .mod (.bin .fdiv (.b 1) (.k (.int 64))) (.k (.int 10))))])) (.sl (.b 0) [(.bin .add (.b 2) (.k (.int 1)))] []))]⟩
def F_k40_law : Fn := ⟨1, 11, [.set (.n 1) (.call 11 [(.call 9 [(.v 0), (.k (.int 0))]), (.k (.int 5))]), .own 2 (.bin .mod (.call 9 [(.v 0), (.k (.int 1))]) (.k (.int 4))), .fz [2], .set (.n 3) (.bt .max1 [(.comp (.bt .sum [(.comp (.bt .len [(.b 4)]) [4] (.n 4) .seq [(.b 5)] [])]) [5] (.n 5) .seq [(.call 106 [(.v 1), (.v 2)])] [])]), .fz [2], .ite (.cmp .ne (.call 100 [(.v 1), (.v 2)]) (.b 3)) [.ret (.k (.bool false))] [], .fz [2], .set (.n 6) (.call 103 [(.v 1), (.v 2)]), .fz [2], .ite (.or (.not (.call 109 [(.v 1), (.v 2), (.v 6)])) (.cmp .ne (.bt .sum [(.comp (.bt .len [(.b 4)]) [4] (.n 4) .seq [(.b 6)] [])]) (.b 3))) [.ret (.k (.bool false))] [], .fz [2], .set (.n 5) (.call 111 [(.v 1), (.v 2), (.call 9 [(.v 0), (.k (.int 2))])]), .set (.n 7) (.call 112 [(.v 1), (.call 9 [(.v 0), (.k (.int 3))])]), .fz [2], .ite (.cmp .ne (.call 105 [(.v 7), (.v 2)]) (.bt .sum [(.comp (.bt .min2 [(.bt .len [(.b 4)]), (.b 2)]) [4] (.n 4) .seq [(.b 7)] [])])) [.ret (.k (.bool false))] [], .set (.n 8) (.call 9 [(.v 0), (.k (.int 4))]), .ite (.cmp .eq (.bin .mod (.b 8) (.k (.int 2))) (.k (.int 1))) [.set (.n 5) (.call 113 [(.v 5), (.bin .fdiv (.b 8) (.k (.int 2)))]), .set (.n 7) (.call 113 [(.v 7), (.call 9 [(.v 0), (.k (.int 5))])])] [], .loop (.n 9) .seq [(.tup [(.v 5), (.v 7), (.v 6)])] [.fz [2], .set (.n 10) (.call 101 [(.v 1), (.v 2), (.v 9)]), .fz [2], .ite (.or (.not (.bt .isBool [(.b 10)])) (.cmp .ne (.b 10) (.call 109 [(.v 1), (.v 2), (.v 9)]))) [.ret (.k (.bool false))] [], .set (.n 10) (.call 104 [(.v 1), (.v 9)]), .ite (.or (.not (.bt .isBool [(.b 10)])) (.cmp .ne (.b 10) (.call 110 [(.v 1), (.v 9)]))) [.ret (.k (.bool false))] []], .ret (.k (.bool true))]⟩
def F_all_partings : Fn := ⟨1, 7, [.own 1 (.lst [(.tup [])]), .loop (.n 2) .range1 [(.bt .len [(.b 0)])] [.own 3 (.lst []), .fz [1], .loop (.n 4) .seq [(.v 1)] [.app 3 (.bin .add (.b 4) (.tup [(.tup [(.v 2)])])), .loop (.t [5, 6]) .enum [(.v 4)] [.ite (.cmp .gt (.ix (.b 0) (.ix (.b 6) (.neg (.k (.int 1))))) (.ix (.b 0) (.b 2))) [.app 3 (.bin .add (.bin .add (.sl (.b 4) [] [(.b 5)]) (.tup [(.bin .add (.b 6) (.tup [(.v 2)]))])) (.sl (.b 4) [(.bin .add (.b 5) (.k (.int 1)))] []))] []]], .fz [3], .set (.n 1) (.v 3)], .fz [1], .ret (.v 1)]⟩
def F_parting_for : Fn := ⟨2, 3, [.ret (.ix (.bt .min1 [(.comp (.tup [(.call 105 [(.v 2), (.v 1)]), (.v 2)]) [2] (.n 2) .seq [(.call 115 [(.v 0)])] [])]) (.k (.int 1)))]⟩
def F_Llongest : Fn := ⟨2, 6, [.own 2 (.bin .mul (.lst [(.k (.int 0))]) (.bt .len [(.b 0)])), .loop (.n 3) .range1 [(.bt .len [(.b 0)])] [.loop (.n 4) .range1 [(.v 3)] [.set (.n 5) (.cmp .le (.ix (.b 0) (.b 4)) (.ix (.b 0) (.b 3))), .ite (.v 1) [.set (.n 5) (.cmp .gt (.ix (.b 0) (.b 4)) (.ix (.b 0) (.b 3)))] [], .ite (.v 5) [.put 2 (.v 3) (.bt .max2 [(.ix (.b 2) (.b 3)), (.ix (.b 2) (.b 4))])] []], .put 2 (.v 3) (.bin .add (.ix (.b 2) (.b 3)) (.k (.int 1)))], .ret (.bt .max1 [(.bin .add (.b 2) (.lst [(.k (.int 0))]))])]⟩
def F_k41_law : Fn := ⟨1, 10, [.set (.n 1) (.call 11 [(.call 9 [(.v 0), (.k (.int 0))]), (.k (.int 6))]), .own 2 (.bin .mod (.call 9 [(.v 0), (.k (.int 1))]) (.k (.int 5))), .fz [1], .set (.n 3) (.call 7 [(.call 56 [(.v 1)])]), .ite (.cmp .eq (.b 2) (.k (.int 4))) [.own 1 (.sl (.b 1) [] [(.k (.int 5))]), .fz [1], .set (.n 3) (.call 7 [(.call 56 [(.v 1)])])] [], .fz [1, 2], .set (.n 4) (.call 103 [(.v 1), (.v 2)]), .fz [1, 2], .set (.n 5) (.call 116 [(.v 1), (.v 2)]), .fz [2, 1], .ite (.or (.cmp .notB (.call 101 [(.v 1), (.v 2), (.v 4)]) (.k (.bool true))) (.cmp .notB (.call 104 [(.v 1), (.v 5)]) (.k (.bool true)))) [.ret (.k (.bool false))] [], .set (.n 6) (.bt .sum [(.comp (.bt .len [(.b 7)]) [7] (.n 7) .seq [(.b 4)] [])]), .fz [1, 2], .ite (.or (.cmp .ne (.b 6) (.call 100 [(.v 1), (.v 2)])) (.or (.cmp .ne (.b 6) (.call 105 [(.v 5), (.v 2)])) (.cmp .ne (.b 6) (.bt .sum [(.sl (.b 3) [] [(.b 2)])])))) [.ret (.k (.bool false))] [], .loop (.n 8) .range1 [(.k (.int 5))] [.fz [1], .ite (.cmp .lt (.call 105 [(.v 5), (.v 8)]) (.call 100 [(.v 1), (.v 8)])) [.ret (.k (.bool false))] [], .own 9 (.sl (.b 4) [] [(.b 8)]), .fz [1], .ite (.cmp .gt (.bt .sum [(.comp (.bt .len [(.b 7)]) [7] (.n 7) .seq [(.b 9)] [])]) (.call 100 [(.v 1), (.bt .len [(.b 9)])])) [.ret (.k (.bool false))] []], .fz [1], .ite (.or (.cmp .ne (.call 100 [(.v 1), (.k (.int 1))]) (.call 117 [(.v 1), (.k (.bool false))])) (.cmp .ne (.bt .len [(.b 3)]) (.call 117 [(.v 1), (.k (.bool true))]))) [.ret (.k (.bool false))] [], .fz [1], .ret (.cmp .eq (.bt .len [(.call 21 [(.v 3)])]) (.call 100 [(.v 1), (.k (.int 1))]))]⟩
def F_k42_law : Fn := ⟨1, 8, [.set (.n 1) (.call 11 [(.call 9 [(.v 0), (.k (.int 0))]), (.k (.int 6))]), .set (.n 2) (.call 87 [(.v 1), (.bin .mul (.k (.int 4)) (.bin .fdiv (.call 9 [(.v 0), (.k (.int 1))]) (.k (.int 4))))]), .ite (.or (.cmp .notB (.call 82 [(.v 1), (.v 2)]) (.k (.bool true))) (.cmp .ne (.call 56 [(.v 1)]) (.call 56 [(.v 2)]))) [.ret (.k (.bool false))] [], .loop (.n 3) .range1 [(.k (.int 5))] [.fz [3], .ite (.cmp .ne (.call 100 [(.v 1), (.v 3)]) (.call 100 [(.v 2), (.v 3)])) [.ret (.k (.bool false))] []], .own 3 (.bin .mod (.call 9 [(.v 0), (.k (.int 2))]) (.k (.int 4))), .fz [3], .ite (.cmp .ne (.call 105 [(.call 116 [(.v 1), (.v 3)]), (.v 3)]) (.call 105 [(.call 116 [(.v 2), (.v 3)]), (.v 3)])) [.ret (.k (.bool false))] [], .own 4 (.bin .add (.sl (.b 1) [] [(.k (.int 5))]) (.tup [(.bin .add (.k (.int 1)) (.bin .mod (.call 9 [(.v 0), (.k (.int 3))]) (.k (.int 9))))])), .fz [4], .own 5 (.comp (.bin .sub (.call 100 [(.v 4), (.v 6)]) (.call 100 [(.sl (.b 1) [] [(.k (.int 5))]), (.v 6)])) [6] (.n 6) .range1 [(.k (.int 5))] []), .ite (.or (.cmp .ne (.ix (.b 5) (.k (.int 0))) (.k (.int 0))) (.cmp .ne (.b 5) (.bt .sorted [(.b 5)]))) [.ret (.k (.bool false))] [], .ret (.cmp .eq (.comp (.v 7) [7] (.n 7) .seq [(.b 5)] [(.cmp .nin (.b 7) (.tup [(.k (.int 0)), (.k (.int 1))]))]) (.lst []))]⟩
def F_Lonce_2 : Fn := ⟨1, 11, [.set (.n 1) (.call 11 [(.call 9 [(.v 0), (.k (.int 0))]), (.k (.int 5))]), .own 2 (.bin .mod (.call 9 [(.v 0), (.k (.int 1))]) (.k (.int 4))), .fz [2], .set (.n 3) (.bt .max1 [(.comp (.bt .sum [(.comp (.bt .len [(.b 4)]) [4] (.n 4) .seq [(.b 5)] [])]) [5] (.n 5) .seq [(.call 106 [(.v 1), (.v 2)])] [])]), .fz [2], .ite (.cmp .ne (.call 100 [(.v 1), (.v 2)]) (.b 3)) [.ret (.k (.bool false))] [], .fz [2], .set (.n 6) (.call 103 [(.v 1), (.v 2)]), .fz [2], .ite (.or (.not (.call 109 [(.v 1), (.v 2), (.v 6)])) (.cmp .ne (.bt .sum [(.comp (.bt .len [(.b 4)]) [4] (.n 4) .seq [(.b 6)] [])]) (.b 3))) [.ret (.k (.bool false))] [], .fz [2], .set (.n 5) (.call 111 [(.v 1), (.v 2), (.call 9 [(.v 0), (.k (.int 2))])]), .set (.n 7) (.call 112 [(.v 1), (.call 9 [(.v 0), (.k (.int 3))])]), .fz [2], .ite (.cmp .ne (.call 105 [(.v 7), (.v 2)]) (.bt .sum [(.comp (.bt .min2 [(.bt .len [(.b 4)]), (.b 2)]) [4] (.n 4) .seq [(.b 7)] [])])) [.ret (.k (.bool false))] [], .set (.n 8) (.call 9 [(.v 0), (.k (.int 4))]), .ite (.cmp .eq (.bin .mod (.b 8) (.k (.int 2))) (.k (.int 1))) [.set (.n 5) (.call 120 [(.v 5), (.bin .fdiv (.b 8) (.k (.int 2)))]), .set (.n 7) (.call 120 [(.v 7), (.call 9 [(.v 0), (.k (.int 5))])])] [], .loop (.n 9) .seq [(.tup [(.v 5), (.v 7), (.v 6)])] [.fz [2], .set (.n 10) (.call 101 [(.v 1), (.v 2), (.v 9)]), .fz [2], .ite (.or (.not (.bt .isBool [(.b 10)])) (.cmp .ne (.b 10) (.call 109 [(.v 1), (.v 2), (.v 9)]))) [.ret (.k (.bool false))] [], .set (.n 10) (.call 104 [(.v 1), (.v 9)]), .ite (.or (.not (.bt .isBool [(.b 10)])) (.cmp .ne (.b 10) (.call 110 [(.v 1), (.v 9)]))) [.ret (.k (.bool false))] []], .ret (.k (.bool true))]⟩
def F_k49_law : Fn := ⟨1, 3, [.loop (.n 1) .range1 [(.k (.int 8))] [.ite (.not (.call 121 [(.bin .add (.comp (.bin .add (.b 2) (.bin .mul (.k (.int 104729)) (.b 1))) [2] (.n 2) .seq [(.b 0)] []) (.lst [(.v 1)]))])) [.ret (.k (.bool false))] []], .ret (.k (.bool true))]⟩
def F_many_fillings : Fn := ⟨2, 5, [.set (.n 2) (.k (.int 1)), .loop (.t [3, 4]) .seq [(.call 19 [(.v 0)])] [.own 2 (.bin .mul (.b 2) (.bin .sub (.bin .add (.b 1) (.b 4)) (.b 3)))], .ret (.bin .fdiv (.b 2) (.call 92 [(.v 0)]))]⟩
def F_all_rows : Fn := ⟨2, 8, [.own 2 (.lst [(.tup [])]), .loop (.n 3) .range1 [(.v 0)] [.own 4 (.lst []), .fz [2], .loop (.n 5) .seq [(.v 2)] [.set (.n 6) (.ix (.bin .add (.tup [(.k (.int 1))]) (.b 5)) (.neg (.k (.int 1)))), .ext 4 (.comp (.bin .add (.b 5) (.tup [(.v 7)])) [7] (.n 7) .range2 [(.b 6), (.bin .add (.b 1) (.k (.int 1)))] [])], .fz [4], .set (.n 2) (.v 4)], .fz [2], .ret (.v 2)]⟩
def F_all_fillings : Fn := ⟨2, 7, [.own 2 (.lst [(.tup [])]), .loop (.n 3) .seq [(.v 0)] [.own 4 (.lst []), .fz [2], .loop (.n 5) .seq [(.v 2)] [.loop (.n 6) .seq [(.call 124 [(.v 3), (.v 1)])] [.ite (.or (.cmp .eq (.b 5) (.tup [])) (.call 5 [(.ix (.b 5) (.neg (.k (.int 1)))), (.v 6)])) [.app 4 (.bin .add (.b 5) (.tup [(.v 6)]))] []]], .fz [4], .set (.n 2) (.v 4)], .ret (.bt .tuple [(.bt .sorted [(.b 2)])])]⟩
def F_Lshapes : Fn := ⟨2, 5, [.ite (.cmp .eq (.b 0) (.k (.int 0))) [.ret (.lst [(.tup [])])] [], .own 2 (.lst []), .loop (.n 3) .range2 [(.k (.int 1)), (.bin .add (.bt .min2 [(.b 0), (.b 1)]) (.k (.int 1)))] [.own 2 (.bin .add (.b 2) (.comp (.bin .add (.tup [(.v 3)]) (.b 4)) [4] (.n 4) .seq [(.call 126 [(.bin .sub (.b 0) (.b 3)), (.v 3)])] []))], .fz [2], .ret (.v 2)]⟩
def F_Lfillings : Fn := ⟨2, 13, [.own 2 (.lst []), .loop (.n 3) .range1 [(.bt .len [(.b 0)])] [.own 2 (.bin .add (.b 2) (.comp (.tup [(.v 3), (.v 4)]) [4] (.n 4) .range1 [(.ix (.b 0) (.b 3))] []))], .own 5 (.lst [.dict0]), .fz [2], .loop (.t [3, 4]) .seq [(.v 2)] [.own 6 (.lst []), .fz [5], .loop (.n 7) .seq [(.v 5)] [.set (.n 8) (.bt .max2 [(.dget (.b 7) (.tup [(.v 3), (.bin .sub (.b 4) (.k (.int 1)))]) (.k (.int 1))), (.bin .add (.dget (.b 7) (.tup [(.bin .sub (.b 3) (.k (.int 1))), (.v 4)]) (.k (.int 0))) (.k (.int 1)))]), .loop (.n 9) .range2 [(.v 8), (.bin .add (.b 1) (.k (.int 1)))] [.own 10 (.bt .dict [(.b 7)]), .put 10 (.tup [(.v 3), (.v 4)]) (.v 9), .fz [10], .app 6 (.v 10)]], .fz [6], .set (.n 5) (.v 6)], .own 11 (.lst []), .fz [5], .loop (.n 7) .seq [(.v 5)] [.set (.n 12) (.tup []), .loop (.n 3) .range1 [(.bt .len [(.b 0)])] [.own 12 (.bin .add (.b 12) (.tup [(.bt .tuple [(.comp (.ix (.b 7) (.tup [(.v 3), (.v 4)])) [4] (.n 4) .range1 [(.ix (.b 0) (.b 3))] [])])]))], .fz [12], .app 11 (.v 12)], .ret (.bt .sorted [(.b 11)])]⟩
def F_Lshape : Fn := ⟨2, 3, [.set (.n 2) (.call 126 [(.bin .mod (.b 0) (.bin .add (.b 1) (.k (.int 1)))), (.k (.int 12))]), .ret (.ix (.b 2) (.bin .mod (.bin .fdiv (.b 0) (.k (.int 16))) (.bt .len [(.b 2)])))]⟩
def F_k50_law : Fn := ⟨1, 14, [.set (.n 1) (.call 128 [(.call 9 [(.v 0), (.k (.int 0))]), (.k (.int 5))]), .own 2 (.bin .add (.k (.int 1)) (.bin .mod (.call 9 [(.v 0), (.k (.int 1))]) (.k (.int 3)))), .set (.n 3) (.bt .sum [(.b 1)]), .own 4 (.lst []), .loop (.t [5, 6]) .enum [(.v 1)] [.own 7 (.lst []), .loop (.n 8) .range1 [(.v 6)] [.app 7 (.bin .add (.bin .sub (.b 6) (.b 8)) (.bt .len [(.comp (.v 9) [9] (.n 9) .seq [(.sl (.b 1) [(.bin .add (.b 5) (.k (.int 1)))] [])] [(.cmp .gt (.b 9) (.b 8))])]))], .app 4 (.bt .tuple [(.b 7)])], .ite (.cmp .ne (.call 91 [(.v 1)]) (.bt .tuple [(.b 4)])) [.ret (.k (.bool false))] [], .own 10 (.lst []), .loop (.n 11) .seq [(.call 127 [(.v 1), (.v 3)])] [.own 12 (.lst []), .loop (.n 5) .seq [(.v 11)] [.own 12 (.bin .add (.b 12) (.bt .list [(.b 5)]))], .ite (.cmp .eq (.bt .lenSet [(.b 12)]) (.b 3)) [.app 10 (.v 11)] []], .ite (.or (.cmp .ne (.call 66 [(.v 1)]) (.bt .tuple [(.b 10)])) (.cmp .ne (.call 93 [(.v 1)]) (.bt .len [(.b 10)]))) [.ret (.k (.bool false))] [], .fz [2], .set (.n 7) (.call 127 [(.v 1), (.v 2)]), .fz [2], .ite (.or (.cmp .ne (.call 125 [(.v 1), (.v 2)]) (.bt .tuple [(.b 7)])) (.cmp .ne (.call 123 [(.v 1), (.v 2)]) (.bt .len [(.b 7)]))) [.ret (.k (.bool false))] [], .own 13 (.bin .mod (.call 9 [(.v 0), (.k (.int 2))]) (.k (.int 9))), .fz [13], .ret (.cmp .eq (.call 64 [(.v 13)]) (.bt .tuple [(.bt .sorted [(.call 126 [(.v 13), (.k (.int 12))])])]))]⟩
def F_Lorders_2 : Fn := ⟨1, 3, [.set (.n 1) (.k (.int 1)), .loop (.n 2) .range2 [(.k (.int 1)), (.bin .add (.b 0) (.k (.int 1)))] [.own 1 (.bin .mul (.b 1) (.b 2))], .fz [1], .ret (.v 1)]⟩
def F_k51_law : Fn := ⟨1, 15, [.set (.n 1) (.call 128 [(.call 9 [(.v 0), (.k (.int 0))]), (.k (.int 12))]), .set (.n 2) (.call 93 [(.v 1)]), .set (.n 3) (.v 2), .loop (.n 4) .seq [(.call 91 [(.v 1)])] [.loop (.n 5) .seq [(.v 4)] [.own 3 (.bin .mul (.b 3) (.b 5))]], .ite (.or (.cmp .ne (.b 3) (.call 130 [(.bt .sum [(.b 1)])])) (.cmp .ne (.call 93 [(.call 21 [(.v 1)])]) (.b 2))) [.ret (.k (.bool false))] [], .ite (.cmp .ne (.b 1) (.tup [])) [.set (.n 6) (.k (.int 0)), .loop (.t [4, 7]) .seq [(.call 20 [(.v 1)])] [.own 8 (.bin .add (.bin .add (.sl (.b 1) [] [(.b 4)]) (.tup [(.bin .sub (.ix (.b 1) (.b 4)) (.k (.int 1)))])) (.sl (.b 1) [(.bin .add (.b 4) (.k (.int 1)))] [])), .own 6 (.bin .add (.b 6) (.call 93 [(.bt .tuple [(.comp (.v 9) [9] (.n 9) .seq [(.b 8)] [(.cmp .gt (.b 9) (.k (.int 0)))])])]))], .ite (.cmp .ne (.b 6) (.b 2)) [.ret (.k (.bool false))] []] [], .own 10 (.bin .mod (.call 9 [(.v 0), (.k (.int 1))]) (.k (.int 8))), .own 11 (.bin .add (.k (.int 1)) (.bin .mod (.call 9 [(.v 0), (.k (.int 2))]) (.k (.int 5)))), .fz [10], .set (.n 12) (.call 64 [(.v 10)]), .ite (.or (.cmp .ne (.bt .list [(.b 12)]) (.bt .sortedSet [(.b 12)])) (.cmp .ne (.comp (.v 8) [8] (.n 8) .seq [(.b 12)] [(.or (.not (.call 2 [(.v 8)])) (.cmp .ne (.bt .sum [(.b 8)]) (.b 10)))]) (.lst []))) [.ret (.k (.bool false))] [], .fz [10], .ite (.cmp .ne (.bt .sum [(.comp (.bin .mul (.call 93 [(.v 8)]) (.call 93 [(.v 8)])) [8] (.n 8) .seq [(.b 12)] [])]) (.call 130 [(.v 10)])) [.ret (.k (.bool false))] [], .set (.n 13) (.k (.int 1)), .fz [10], .loop (.n 14) .range1 [(.v 10)] [.own 13 (.bin .mul (.b 13) (.b 11))], .fz [11], .ite (.cmp .ne (.bt .sum [(.comp (.bin .mul (.call 93 [(.v 8)]) (.call 123 [(.v 8), (.v 11)])) [8] (.n 8) .seq [(.b 12)] [])]) (.b 13)) [.ret (.k (.bool false))] [], .fz [11], .ret (.cmp .eq (.comp (.v 8) [8] (.n 8) .seq [(.b 12)] [(.cmp .ne (.cmp .eq (.call 123 [(.v 8), (.v 11)]) (.k (.int 0))) (.cmp .gt (.bt .len [(.b 8)]) (.b 11)))]) (.lst []))]⟩
def F_strips : Fn := ⟨2, 10, [.own 2 (.lst [(.tup [])]), .loop (.t [3, 4]) .enum [(.v 0)] [.set (.n 5) (.k (.int 0)), .ite (.cmp .lt (.bin .add (.b 3) (.k (.int 1))) (.bt .len [(.b 0)])) [.set (.n 5) (.ix (.b 0) (.bin .add (.b 3) (.k (.int 1))))] [], .own 6 (.lst []), .fz [2], .loop (.n 7) .seq [(.v 2)] [.ext 6 (.comp (.bin .add (.b 7) (.tup [(.v 8)])) [8] (.n 8) .range2 [(.b 5), (.bin .add (.b 4) (.k (.int 1)))] [])], .fz [6], .set (.n 2) (.v 6)], .own 9 (.bin .sub (.bt .sum [(.b 0)]) (.b 1)), .ret (.comp (.bt .tuple [(.comp (.v 8) [8] (.n 8) .seq [(.b 7)] [(.cmp .gt (.b 8) (.k (.int 0)))])]) [7] (.n 7) .seq [(.b 2)] [(.cmp .eq (.bt .sum [(.b 7)]) (.b 9))])]⟩
def F_many_with : Fn := ⟨2, 3, [.ite (.cmp .eq (.bt .len [(.b 1)]) (.k (.int 0))) [.ret (.bt .toInt [(.cmp .eq (.b 0) (.tup []))])] [], .ret (.bt .sum [(.comp (.call 133 [(.v 2), (.sl (.b 1) [] [(.neg (.k (.int 1)))])]) [2] (.n 2) .seq [(.call 132 [(.v 0), (.ix (.b 1) (.neg (.k (.int 1))))])] [])])]⟩
def F_Lcounts : Fn := ⟨2, 6, [.own 2 (.bin .mul (.lst [(.k (.int 0))]) (.bin .add (.k (.int 1)) (.bin .mod (.b 0) (.k (.int 5))))), .loop (.n 3) .range1 [(.v 1)] [.own 4 (.bin .mod (.bin .fdiv (.call 10 [(.v 0), (.bin .add (.k (.int 80)) (.b 3))]) (.k (.int 4))) (.bt .len [(.b 2)])), .fz [4], .put 2 (.v 4) (.bin .add (.ix (.b 2) (.b 4)) (.k (.int 1)))], .own 5 (.bin .mod (.bin .fdiv (.b 0) (.k (.int 8))) (.k (.int 6))), .own 4 (.bin .mod (.bin .fdiv (.b 0) (.k (.int 64))) (.bt .len [(.b 2)])), .ite (.and (.cmp .eq (.b 5) (.k (.int 0))) (.cmp .lt (.ix (.b 2) (.b 4)) (.k (.int 6)))) [.fz [4], .put 2 (.v 4) (.bin .add (.ix (.b 2) (.b 4)) (.k (.int 1)))] [], .ite (.and (.cmp .eq (.b 5) (.k (.int 1))) (.cmp .gt (.ix (.b 2) (.b 4)) (.k (.int 0)))) [.fz [4], .put 2 (.v 4) (.bin .sub (.ix (.b 2) (.b 4)) (.k (.int 1)))] [], .ret (.bt .tuple [(.b 2)])]⟩
def F_Lwords : Fn := ⟨1, 5, [.set (.n 1) (.k (.int 1)), .set (.n 2) (.bt .sum [(.b 0)]), .loop (.n 3) .seq [(.v 0)] [.loop (.n 4) .range1 [(.v 3)] [.own 1 (.bin .fdiv (.bin .mul (.b 1) (.bin .sub (.b 2) (.b 4))) (.bin .add (.b 4) (.k (.int 1))))], .own 2 (.bin .sub (.b 2) (.b 3))], .fz [1], .ret (.v 1)]⟩
def F_k52_law : Fn := ⟨1, 10, [.set (.n 1) (.call 128 [(.call 9 [(.v 0), (.k (.int 0))]), (.k (.int 5))]), .own 2 (.bin .add (.k (.int 1)) (.bin .mod (.call 9 [(.v 0), (.k (.int 1))]) (.k (.int 3)))), .fz [2], .set (.n 3) (.call 125 [(.v 1), (.v 2)]), .fz [2], .ite (.or (.cmp .ne (.bt .list [(.b 3)]) (.bt .sortedSet [(.b 3)])) (.cmp .ne (.bt .len [(.b 3)]) (.call 123 [(.v 1), (.v 2)]))) [.ret (.k (.bool false))] [], .loop (.n 4) .seq [(.v 3)] [.ite (.or (.not (.call 4 [(.v 4)])) (.or (.cmp .ne (.call 7 [(.v 4)]) (.b 1)) (.cmp .ne (.call 56 [(.call 22 [(.v 4)])]) (.b 4)))) [.ret (.k (.bool false))] [], .ite (.cmp .ne (.comp (.v 5) [5] (.n 5) .seq [(.call 22 [(.v 4)])] [(.cmp .gt (.b 5) (.b 2))]) (.lst [])) [.ret (.k (.bool false))] []], .loop (.n 4) .seq [(.call 66 [(.v 1)])] [.ite (.or (.not (.call 4 [(.v 4)])) (.or (.not (.call 23 [(.v 4)])) (.cmp .ne (.call 7 [(.v 4)]) (.b 1)))) [.ret (.k (.bool false))] []], .set (.n 6) (.call 134 [(.call 9 [(.v 0), (.k (.int 2))]), (.bin .mod (.call 9 [(.v 0), (.k (.int 3))]) (.k (.int 6)))]), .set (.n 7) (.bt .sum [(.b 6)]), .ite (.cmp .gt (.b 7) (.k (.int 6))) [.ret (.k (.bool true))] [], .set (.n 8) (.bt .sum [(.comp (.bin .mul (.call 133 [(.v 9), (.v 6)]) (.call 93 [(.v 9)])) [9] (.n 9) .seq [(.call 64 [(.v 7)])] [])]), .ret (.cmp .eq (.b 8) (.call 135 [(.v 6)]))]⟩
def F_turned_about : Fn := ⟨1, 2, [.ret (.call 56 [(.bt .tuple [(.comp (.bin .sub (.k (.int 10)) (.b 1)) [1] (.n 1) .seq [(.rev (.call 22 [(.v 0)]))] [])])])]⟩
def F_Lgapped : Fn := ⟨2, 9, [.set (.n 2) (.call 13 [(.call 11 [(.v 0), (.v 1)])]), .own 3 (.lst []), .loop (.n 4) .seq [(.v 2)] [.set (.n 5) (.bt .len [(.b 4)]), .ite (.cmp .ne (.b 3) (.lst [])) [.set (.n 5) (.bt .min2 [(.b 5), (.ix (.b 3) (.neg (.k (.int 1))))])] [], .own 6 (.bin .fdiv (.call 10 [(.v 0), (.bin .add (.k (.int 70)) (.bt .len [(.b 3)]))]) (.k (.int 4))), .app 3 (.bt .min2 [(.b 5), (.bin .add (.bin .mod (.b 6) (.bin .add (.b 5) (.k (.int 1)))) (.bin .mod (.bin .fdiv (.b 6) (.k (.int 16))) (.k (.int 2))))])], .set (.n 7) (.tup []), .fz [3], .loop (.t [4, 8]) .zip2 [(.v 2), (.v 3)] [.own 7 (.bin .add (.b 7) (.tup [(.bin .add (.bin .mul (.tup [(.k .none)]) (.b 8)) (.sl (.b 4) [(.b 8)] []))]))], .fz [7], .ret (.v 7)]⟩
def F_Lat : Fn := ⟨3, 3, [.ite (.and (.chain .le .lt (.k (.int 0)) (.b 1) (.bt .len [(.b 0)])) (.chain .le .lt (.k (.int 0)) (.b 2) (.bt .len [(.ix (.b 0) (.b 1))]))) [.ret (.ix (.ix (.b 0) (.b 1)) (.b 2))] [], .ret (.k (.int 0))]⟩
def F_Lopen : Fn := ⟨1, 5, [.own 1 (.lst []), .loop (.n 2) .range1 [(.bt .len [(.b 0)])] [.loop (.n 3) .range1 [(.bt .len [(.ix (.b 0) (.b 2))])] [.set (.n 4) (.tup [(.call 139 [(.v 0), (.v 2), (.bin .add (.b 3) (.k (.int 1)))]), (.call 139 [(.v 0), (.bin .add (.b 2) (.k (.int 1))), (.v 3)])]), .ite (.and (.cmp .isN (.ix (.ix (.b 0) (.b 2)) (.b 3)) (.k .none)) (.cmp .nin (.k .none) (.b 4))) [.app 1 (.tup [(.v 2), (.v 3)])] []]], .fz [1], .ret (.v 1)]⟩
def F_Lnumber : Fn := ⟨1, 1, [.ret (.and (.bt .isInt [(.b 0)]) (.and (.not (.bt .isBool [(.b 0)])) (.chain .le .le (.k (.int 1)) (.b 0) (.k (.int 9)))))]⟩
def F_Lis_gapped : Fn := ⟨1, 7, [.ite (.or (.not (.bt .isTuple [(.b 0)])) (.cmp .ne (.comp (.v 1) [1] (.n 1) .seq [(.b 0)] [(.or (.not (.bt .isTuple [(.b 1)])) (.cmp .eq (.b 1) (.tup [])))]) (.lst []))) [.ret (.k (.bool false))] [], .ite (.cmp .gt (.bt .sum [(.comp (.bt .len [(.b 1)]) [1] (.n 1) .seq [(.b 0)] [])]) (.k (.int 12))) [.ret (.k (.bool false))] [], .loop (.t [2, 1]) .enum [(.v 0)] [.loop (.t [3, 4]) .enum [(.v 1)] [.set (.n 5) (.ife (.cmp .gt (.b 3) (.k (.int 0))) (.ix (.bin .add (.sl (.b 1) [] [(.b 3)]) (.tup [(.k .none)])) (.bin .sub (.b 3) (.k (.int 1)))) (.k .none)), .set (.n 6) (.call 139 [(.v 0), (.bin .sub (.b 2) (.k (.int 1))), (.v 3)]), .ite (.and (.cmp .gt (.b 2) (.k (.int 0))) (.cmp .eq (.b 6) (.k (.int 0)))) [.ret (.k (.bool false))] [], .ite (.cmp .isN (.b 4) (.k .none)) [.ite (.or (.cmp .notN (.b 5) (.k .none)) (.and (.cmp .gt (.b 2) (.k (.int 0))) (.cmp .notN (.b 6) (.k .none)))) [.ret (.k (.bool false))] []] [.ite (.or (.not (.call 142 [(.v 4)])) (.and (.cmp .notN (.b 5) (.k .none)) (.or (.not (.call 142 [(.v 5)])) (.cmp .gt (.b 5) (.b 4))))) [.ret (.k (.bool false))] [.ite (.and (.cmp .gt (.b 2) (.k (.int 0))) (.and (.cmp .notN (.b 6) (.k .none)) (.or (.not (.call 142 [(.v 6)])) (.cmp .ge (.b 6) (.b 4))))) [.ret (.k (.bool false))] []]]]], .ret (.k (.bool true))]⟩
def F_Lspoilt_6 : Fn := ⟨2, 7, [.ite (.cmp .eq (.b 0) (.tup [])) [.ret (.ix (.lst [(.k .none), (.lst []), (.tup [(.tup [])]), (.tup [(.tup [(.k .none)])])]) (.bin .mod (.bin .fdiv (.b 1) (.k (.int 8))) (.k (.int 4))))] [], .own 2 (.bin .mod (.bin .fdiv (.b 1) (.k (.int 8))) (.bt .len [(.b 0)])), .set (.n 3) (.ix (.b 0) (.b 2)), .own 4 (.bin .mod (.bin .fdiv (.b 1) (.k (.int 64))) (.bt .len [(.b 3)])), .set (.n 5) (.ix (.lst [(.k .none), (.k (.int 1)), (.k (.int 9)), (.k (.int 10)), (.k (.int 0)), (.k (.bool true)), (.k (.str (Str.ofString "1"))), (.k (.int 5)), (.k (.int 2)), (.neg (.k (.int 1))), (.k (.int 7))]) (.bin .mod (.bin .fdiv (.b 1) (.k (.int 512))) (.k (.int 11)))), .own 6 (.lst [(.bin .add (.bin .add (.sl (.b 3) [] [(.b 4)]) (.tup [(.v 5)])) (.sl (.b 3) [(.bin .add (.b 4) (.k (.int 1)))] [])), (.sl (.b 3) [] [(.neg (.k (.int 1)))]), (.bin .add (.b 3) (.tup [(.k (.int 9))])), (.bt .list [(.b 3)]), (.rev (.b 3)), (.bin .add (.tup [(.k .none)]) (.b 3)), (.tup [])]), .ite (.cmp .eq (.bin .mod (.b 1) (.k (.int 4))) (.k (.int 0))) [.ret (.ix (.lst [(.sl (.b 0) [] [(.neg (.k (.int 1)))]), (.bin .add (.b 0) (.tup [(.tup [(.k .none)])])), (.bt .list [(.b 0)]), (.rev (.b 0)), (.bin .add (.b 0) (.tup [(.tup [(.k (.int 9)), (.k (.int 9))])]))]) (.bin .mod (.bin .fdiv (.b 1) (.k (.int 64))) (.k (.int 5))))] [], .ret (.bin .add (.bin .add (.sl (.b 0) [] [(.b 2)]) (.tup [(.ix (.b 6) (.bin .mod (.bin .fdiv (.b 1) (.k (.int 8192))) (.k (.int 7))))])) (.sl (.b 0) [(.bin .add (.b 2) (.k (.int 1)))] []))]⟩
def F_times : Fn := ⟨2, 2, [.ret (.call 56 [(.bin .add (.call 22 [(.v 0)]) (.call 22 [(.v 1)]))])]⟩
def F_k61_law : Fn := ⟨1, 13, [.set (.n 1) (.call 138 [(.call 9 [(.v 0), (.k (.int 0))]), (.k (.int 8))]), .set (.n 2) (.call 75 [(.v 1)]), .set (.n 3) (.tup []), .loop (.n 4) .seq [(.v 1)] [.own 3 (.bin .add (.bt .tuple [(.comp (.v 5) [5] (.n 5) .seq [(.b 4)] [(.cmp .notN (.b 5) (.k .none))])]) (.b 3))], .fz [3], .ite (.or (.not (.call 4 [(.v 2)])) (.cmp .ne (.call 56 [(.v 3)]) (.b 2))) [.ret (.k (.bool false))] [], .loop (.n 6) .range1 [(.k (.int 2))] [.set (.n 7) (.v 1), .set (.n 8) (.k (.int 0)), .while (.cmp .ne (.call 141 [(.v 7)]) (.lst [])) [.set (.n 9) (.call 141 [(.v 7)]), .set (.n 10) (.call 74 [(.v 7), (.ix (.b 9) (.bin .mod (.call 9 [(.v 0), (.bin .add (.bin .add (.k (.int 1)) (.bin .mul (.k (.int 9)) (.b 6))) (.b 8))]) (.bt .len [(.b 9)])))]), .ite (.or (.not (.call 70 [(.v 10)])) (.cmp .ne (.bt .sum [(.call 7 [(.v 10)])]) (.bin .sub (.bt .sum [(.call 7 [(.v 7)])]) (.k (.int 1))))) [.ret (.k (.bool false))] [], .set (.n 7) (.v 10), .own 8 (.bin .add (.b 8) (.k (.int 1)))], .ite (.cmp .ne (.b 7) (.b 2)) [.ret (.k (.bool false))] []], .set (.n 4) (.call 13 [(.call 11 [(.call 9 [(.v 0), (.k (.int 30))]), (.k (.int 6))])]), .set (.n 11) (.call 13 [(.call 11 [(.call 9 [(.v 0), (.k (.int 31))]), (.k (.int 6))])]), .set (.n 12) (.call 137 [(.v 4)]), .ite (.or (.not (.call 4 [(.v 12)])) (.or (.cmp .ne (.call 137 [(.v 12)]) (.b 4)) (.cmp .ne (.call 7 [(.v 12)]) (.call 7 [(.v 4)])))) [.ret (.k (.bool false))] [], .ret (.cmp .eq (.call 137 [(.call 146 [(.v 4), (.v 11)])]) (.call 146 [(.call 137 [(.v 11)]), (.v 12)]))]⟩
def F_k62_law : Fn := ⟨1, 6, [.set (.n 1) (.call 13 [(.call 11 [(.call 9 [(.v 0), (.k (.int 0))]), (.k (.int 4))])]), .set (.n 2) (.call 13 [(.call 11 [(.call 9 [(.v 0), (.k (.int 1))]), (.k (.int 4))])]), .set (.n 3) (.bt .len [(.ix (.bin .add (.b 1) (.tup [(.tup [])])) (.k (.int 0)))]), .own 4 (.bin .add (.bt .tuple [(.comp (.bin .add (.bin .mul (.tup [(.k .none)]) (.b 3)) (.b 5)) [5] (.n 5) .seq [(.b 2)] [])]) (.b 1)), .fz [4], .ite (.cmp .gt (.bt .sum [(.call 7 [(.v 4)])]) (.k (.int 12))) [.ret (.k (.bool true))] [], .fz [4], .ite (.not (.call 70 [(.v 4)])) [.ret (.k (.bool false))] [], .fz [4], .ret (.cmp .eq (.call 75 [(.v 4)]) (.call 146 [(.v 1), (.v 2)]))]⟩
def F_k69_law : Fn := ⟨1, 3, [.loop (.n 1) .range1 [(.k (.int 8))] [.ite (.not (.call 149 [(.bin .add (.comp (.bin .add (.b 2) (.bin .mul (.k (.int 104729)) (.b 1))) [2] (.n 2) .seq [(.b 0)] []) (.lst [(.v 1)]))])) [.ret (.k (.bool false))] []], .ret (.k (.bool true))]⟩
def F_renamed : Fn := ⟨2, 4, [.ret (.bt .tuple [(.comp (.bt .tuple [(.comp (.ix (.b 1) (.bin .sub (.b 2) (.k (.int 1)))) [2] (.n 2) .seq [(.b 3)] [])]) [3] (.n 3) .seq [(.b 0)] [])])]⟩
def F_all_lots : Fn := ⟨3, 6, [.ite (.cmp .eq (.b 0) (.k (.int 0))) [.ret (.lst [(.tup [])])] [], .own 3 (.lst []), .loop (.n 4) .range2 [(.v 1), (.bin .add (.b 2) (.k (.int 1)))] [.ext 3 (.comp (.bin .add (.tup [(.v 4)]) (.b 5)) [5] (.n 5) .seq [(.call 152 [(.bin .sub (.b 0) (.k (.int 1))), (.bin .add (.b 4) (.k (.int 1))), (.v 2)])] [])], .fz [3], .ret (.v 3)]⟩
def F_how_often : Fn := ⟨3, 11, [.set (.n 3) (.bt .sum [(.b 2)]), .ite (.cmp .ne (.bin .add (.bt .sum [(.b 0)]) (.bt .sum [(.b 1)])) (.b 3)) [.ret (.k (.int 0))] [], .set (.n 4) (.ix (.call 66 [(.v 2)]) (.k (.int 0))), .set (.n 5) (.k (.int 0)), .loop (.n 6) .seq [(.call 152 [(.bt .sum [(.b 0)]), (.k (.int 1)), (.v 3)])] [.own 7 (.comp (.v 8) [8] (.n 8) .range2 [(.k (.int 1)), (.bin .add (.b 3) (.k (.int 1)))] [(.cmp .nin (.b 8) (.b 6))]), .loop (.n 9) .seq [(.call 66 [(.v 0)])] [.loop (.n 10) .seq [(.call 66 [(.v 1)])] [.fz [7], .ite (.cmp .eq (.call 146 [(.call 151 [(.v 9), (.v 6)]), (.call 151 [(.v 10), (.v 7)])]) (.b 4)) [.own 5 (.bin .add (.b 5) (.k (.int 1)))] []]]], .fz [5], .ret (.v 5)]⟩
def F_Lstandard : Fn := ⟨2, 7, [.own 2 (.lst []), .loop (.n 3) .seq [(.call 127 [(.v 0), (.bt .len [(.b 1)])])] [.set (.n 4) (.call 26 [(.v 3)]), .ite (.chain .eq .eq (.bt .lenSet [(.b 4)]) (.bt .len [(.b 4)]) (.bt .len [(.b 1)])) [.app 2 (.bt .tuple [(.comp (.bt .tuple [(.comp (.ix (.b 1) (.bin .sub (.b 5) (.k (.int 1)))) [5] (.n 5) .seq [(.b 6)] [])]) [6] (.n 6) .seq [(.b 3)] [])])] []], .fz [2], .ret (.v 2)]⟩
def F_Llots : Fn := ⟨2, 5, [.own 2 (.lst [(.tup [])]), .loop (.n 3) .seq [(.v 0)] [.own 2 (.bin .add (.b 2) (.comp (.bin .add (.b 4) (.tup [(.v 3)])) [4] (.n 4) .seq [(.b 2)] [(.cmp .lt (.bt .len [(.b 4)]) (.b 1))]))], .ret (.comp (.v 4) [4] (.n 4) .seq [(.b 2)] [(.cmp .eq (.bt .len [(.b 4)]) (.b 1))])]⟩
def F_k70_law : Fn := ⟨1, 18, [.set (.n 1) (.call 13 [(.call 11 [(.call 9 [(.v 0), (.k (.int 0))]), (.k (.int 6))])]), .set (.n 2) (.call 13 [(.call 11 [(.call 9 [(.v 0), (.k (.int 1))]), (.k (.int 6))])]), .ite (.cmp .ne (.call 146 [(.v 1), (.v 2)]) (.call 13 [(.bin .add (.call 26 [(.v 1)]) (.call 26 [(.v 2)]))])) [.ret (.k (.bool false))] [], .set (.n 3) (.call 128 [(.call 9 [(.v 0), (.k (.int 2))]), (.k (.int 3))]), .set (.n 4) (.call 128 [(.call 9 [(.v 0), (.k (.int 3))]), (.k (.int 3))]), .own 5 (.bin .add (.bt .sum [(.b 3)]) (.bt .sum [(.b 4)])), .fz [5], .set (.n 6) (.call 126 [(.v 5), (.k (.int 12))]), .set (.n 7) (.ix (.b 6) (.bin .mod (.call 9 [(.v 0), (.k (.int 4))]) (.bt .len [(.b 6)]))), .ite (.cmp .eq (.bin .mod (.call 9 [(.v 0), (.k (.int 5))]) (.k (.int 5))) (.k (.int 1))) [.set (.n 7) (.call 128 [(.call 9 [(.v 0), (.k (.int 4))]), (.k (.int 6))])] [], .set (.n 8) (.k (.int 0)), .ite (.cmp .eq (.bt .sum [(.b 7)]) (.b 5)) [.set (.n 9) (.call 154 [(.v 7), (.bt .tupRange2 [(.k (.int 1)), (.bin .add (.b 5) (.k (.int 1)))])]), .set (.n 10) (.ix (.b 9) (.bin .mod (.call 9 [(.v 0), (.k (.int 6))]) (.bt .len [(.b 9)]))), .set (.n 11) (.bt .tupRange2 [(.k (.int 1)), (.bin .add (.b 5) (.k (.int 1)))]), .loop (.n 12) .seq [(.call 155 [(.v 11), (.bt .sum [(.b 3)])])] [.set (.n 13) (.bt .tuple [(.comp (.v 14) [14] (.n 14) .seq [(.b 11)] [(.cmp .nin (.b 14) (.b 12))])]), .loop (.n 15) .seq [(.call 154 [(.v 3), (.v 12)])] [.loop (.n 16) .seq [(.call 154 [(.v 4), (.v 13)])] [.set (.n 17) (.call 13 [(.bin .add (.call 26 [(.v 15)]) (.call 26 [(.v 16)]))]), .own 8 (.bin .add (.b 8) (.bt .toInt [(.cmp .eq (.b 17) (.b 10))]))]]]] [], .ret (.cmp .eq (.call 153 [(.v 3), (.v 4), (.v 7)]) (.b 8))]⟩
def F_Llots_2 : Fn := ⟨2, 4, [.set (.n 2) (.k (.int 1)), .loop (.n 3) .range1 [(.v 1)] [.own 2 (.bin .fdiv (.bin .mul (.b 2) (.bin .sub (.b 0) (.b 3))) (.bin .add (.b 3) (.k (.int 1))))], .fz [2], .ret (.v 2)]⟩
def F_k71_law : Fn := ⟨1, 17, [.set (.t [1, 2, 3]) (.comp (.call 13 [(.call 11 [(.call 9 [(.v 0), (.v 4)]), (.k (.int 4))])]) [4] (.n 4) .range1 [(.k (.int 3))] []), .set (.n 5) (.call 146 [(.v 1), (.v 2)]), .ite (.or (.cmp .ne (.call 146 [(.v 5), (.v 3)]) (.call 146 [(.v 1), (.call 146 [(.v 2), (.v 3)])])) (.or (.cmp .ne (.call 146 [(.v 1), (.tup [])]) (.b 1)) (.cmp .ne (.call 146 [(.tup []), (.v 1)]) (.b 1)))) [.ret (.k (.bool false))] [], .set (.n 6) (.v 1), .loop (.n 7) .seq [(.call 22 [(.v 2)])] [.set (.n 6) (.ix (.call 47 [(.v 6), (.v 7)]) (.k (.int 0)))], .ite (.or (.cmp .ne (.b 5) (.b 6)) (.or (.not (.call 4 [(.v 5)])) (.cmp .ne (.bt .sorted [(.call 22 [(.v 5)])]) (.bt .sorted [(.bin .add (.call 22 [(.v 1)]) (.call 22 [(.v 2)]))])))) [.ret (.k (.bool false))] [], .loop (.n 8) .seq [(.tup [(.call 7 [(.v 1)]), (.call 7 [(.v 2)])])] [.ite (.or (.cmp .gt (.bt .len [(.b 8)]) (.bt .len [(.call 7 [(.v 5)])])) (.cmp .ne (.comp (.k (.int 1)) [9, 10] (.t [9, 10]) .zip2 [(.b 8), (.call 7 [(.v 5)])] [(.cmp .gt (.b 9) (.b 10))]) (.lst []))) [.ret (.k (.bool false))] []], .set (.n 11) (.call 128 [(.call 9 [(.v 0), (.k (.int 3))]), (.k (.int 3))]), .set (.n 12) (.call 128 [(.call 9 [(.v 0), (.k (.int 4))]), (.k (.int 3))]), .own 13 (.bin .add (.bt .sum [(.b 11)]) (.bt .sum [(.b 12)])), .set (.n 14) (.k (.int 0)), .fz [13], .loop (.n 15) .seq [(.call 64 [(.v 13)])] [.set (.n 16) (.call 153 [(.v 11), (.v 12), (.v 15)]), .ite (.cmp .ne (.b 16) (.call 153 [(.v 12), (.v 11), (.v 15)])) [.ret (.k (.bool false))] [], .ite (.cmp .ne (.b 16) (.call 153 [(.call 21 [(.v 11)]), (.call 21 [(.v 12)]), (.call 21 [(.v 15)])])) [.ret (.k (.bool false))] [], .own 14 (.bin .add (.b 14) (.bin .mul (.b 16) (.call 93 [(.v 15)])))], .fz [13], .ite (.cmp .ne (.b 14) (.bin .mul (.bin .mul (.call 157 [(.v 13), (.bt .sum [(.b 11)])]) (.call 93 [(.v 11)])) (.call 93 [(.v 12)]))) [.ret (.k (.bool false))] [], .ret (.and (.cmp .eq (.call 153 [(.v 11), (.tup []), (.v 11)]) (.k (.int 1))) (.cmp .eq (.call 153 [(.v 11), (.tup [(.k (.int 1))]), (.v 11)]) (.k (.int 0))))]⟩
def F_Lrow_more : Fn := ⟨2, 5, [.loop (.n 2) .range1 [(.bin .add (.bt .max2 [(.bt .len [(.b 0)]), (.bt .len [(.b 1)])]) (.k (.int 1)))] [.set (.n 3) (.ix (.bin .add (.b 0) (.bin .mul (.tup [(.k (.int 0))]) (.k (.int 9)))) (.b 2)), .set (.n 4) (.ix (.bin .add (.b 1) (.bin .mul (.tup [(.k (.int 0))]) (.k (.int 9)))) (.b 2)), .ite (.or (.cmp .lt (.b 4) (.b 3)) (.cmp .gt (.ix (.bin .add (.b 1) (.bin .mul (.tup [(.k (.int 0))]) (.k (.int 9)))) (.bin .add (.b 2) (.k (.int 1)))) (.b 3))) [.ret (.k (.bool false))] []], .ret (.k (.bool true))]⟩
def F_Lcolumns : Fn := ⟨1, 5, [.own 1 (.lst []), .loop (.n 2) .range1 [(.k (.int 9))] [.set (.n 3) (.bt .len [(.comp (.v 4) [4] (.n 4) .seq [(.b 0)] [(.cmp .gt (.b 4) (.b 2))])]), .own 1 (.bin .add (.b 1) (.bin .mul (.lst [(.v 3)]) (.bt .toInt [(.cmp .gt (.b 3) (.k (.int 0)))])))], .ret (.bt .tuple [(.b 1)])]⟩
def F_k72_law : Fn := ⟨1, 10, [.set (.n 1) (.call 128 [(.call 9 [(.v 0), (.k (.int 0))]), (.k (.int 4))]), .own 2 (.bin .add (.k (.int 1)) (.bin .mod (.call 9 [(.v 0), (.k (.int 1))]) (.k (.int 2)))), .loop (.n 3) .seq [(.call 64 [(.bin .add (.bt .sum [(.b 1)]) (.b 2))])] [.fz [2], .ite (.cmp .ne (.call 153 [(.v 1), (.tup [(.v 2)]), (.v 3)]) (.bt .toInt [(.call 159 [(.v 1), (.v 3)])])) [.ret (.k (.bool false))] [], .set (.n 4) (.bt .toInt [(.call 159 [(.call 160 [(.v 1)]), (.call 160 [(.v 3)])])]), .ite (.cmp .ne (.call 153 [(.v 1), (.bin .mul (.tup [(.k (.int 1))]) (.b 2)), (.v 3)]) (.b 4)) [.ret (.k (.bool false))] []], .set (.n 5) (.call 13 [(.call 11 [(.call 9 [(.v 0), (.k (.int 2))]), (.k (.int 5))])]), .set (.n 6) (.bt .tuple [(.bt .sorted [(.call 11 [(.call 9 [(.v 0), (.k (.int 3))]), (.k (.int 4))])])]), .ite (.cmp .eq (.b 6) (.tup [])) [.ret (.cmp .eq (.call 146 [(.v 5), (.tup [])]) (.b 5))] [], .set (.n 7) (.call 7 [(.v 5)]), .ite (.not (.call 159 [(.v 7), (.call 7 [(.call 146 [(.v 5), (.tup [(.v 6)])])])])) [.ret (.k (.bool false))] [], .set (.n 8) (.bt .tuple [(.comp (.tup [(.v 9)]) [9] (.n 9) .seq [(.bt .sortedSet [(.b 6)])] [])]), .ret (.call 159 [(.call 160 [(.v 7)]), (.call 160 [(.call 7 [(.call 146 [(.v 5), (.v 8)])])])])]⟩
def F_with_strip : Fn := ⟨3, 7, [.own 3 (.lst []), .loop (.t [4, 5]) .enum [(.v 1)] [.set (.n 6) (.ix (.bin .add (.b 0) (.bin .mul (.tup [(.tup [])]) (.bt .len [(.b 1)]))) (.b 4)), .app 3 (.bin .add (.b 6) (.bin .mul (.tup [(.v 2)]) (.bin .sub (.b 5) (.bt .len [(.b 6)]))))], .ret (.bt .tuple [(.b 3)])]⟩
def F_filling_with : Fn := ⟨2, 4, [.ite (.cmp .eq (.bt .len [(.b 1)]) (.k (.int 0))) [.ite (.cmp .eq (.b 0) (.tup [])) [.ret (.tup [])] [], .ret (.k .none)] [], .loop (.n 2) .seq [(.call 132 [(.v 0), (.ix (.b 1) (.neg (.k (.int 1))))])] [.set (.n 3) (.call 163 [(.v 2), (.sl (.b 1) [] [(.neg (.k (.int 1)))])]), .ite (.cmp .notN (.b 3) (.k .none)) [.ret (.call 162 [(.v 3), (.v 0), (.bt .len [(.b 1)])])] []], .ret (.k .none)]⟩
def F_shows : Fn := ⟨3, 6, [.set (.n 3) (.bt .sum [(.comp (.ix (.b 1) (.bin .sub (.b 4) (.k (.int 1)))) [4] (.n 4) .seq [(.b 2)] [])]), .ite (.cmp .gt (.b 3) (.bt .sum [(.sl (.b 0) [] [(.bt .len [(.b 2)])])])) [.ret (.k (.bool true))] [], .set (.n 5) (.bt .tuple [(.comp (.v 4) [4] (.n 4) .range2 [(.k (.int 1)), (.bin .add (.bt .len [(.b 1)]) (.k (.int 1)))] [(.cmp .gt (.ix (.b 1) (.bin .sub (.b 4) (.k (.int 1)))) (.k (.int 0)))])]), .ret (.and (.cmp .eq (.b 2) (.b 5)) (.cmp .lt (.b 3) (.bt .sum [(.b 0)])))]⟩
def F_why_none : Fn := ⟨2, 4, [.loop (.n 2) .range1 [(.bin .add (.bt .len [(.b 1)]) (.k (.int 1)))] [.loop (.n 3) .seq [(.call 152 [(.v 2), (.k (.int 1)), (.bt .len [(.b 1)])])] [.ite (.call 164 [(.v 0), (.v 1), (.v 3)]) [.ret (.v 3)] []]], .ret (.k .none)]⟩
def F_is_above : Fn := ⟨2, 3, [.ret (.bt .all [(.comp (.cmp .ge (.bt .sum [(.sl (.b 0) [] [(.b 2)])]) (.bt .sum [(.sl (.b 1) [] [(.b 2)])])) [2] (.n 2) .range1 [(.bin .add (.bt .len [(.b 0)]) (.bt .len [(.b 1)]))] [])])]⟩
def F_Lwith : Fn := ⟨2, 7, [.own 2 (.lst []), .loop (.n 3) .seq [(.call 127 [(.v 0), (.bt .len [(.b 1)])])] [.own 4 (.lst []), .loop (.n 5) .seq [(.v 3)] [.own 4 (.bin .add (.b 4) (.bt .list [(.b 5)]))], .ite (.cmp .eq (.bt .tuple [(.comp (.lcnt (.b 4) (.b 6)) [6] (.n 6) .range2 [(.k (.int 1)), (.bin .add (.bt .len [(.b 1)]) (.k (.int 1)))] [])]) (.b 1)) [.app 2 (.v 3)] []], .fz [2], .ret (.v 2)]⟩
def F_Lshows : Fn := ⟨3, 6, [.set (.n 3) (.bt .sum [(.comp (.ix (.b 1) (.bin .sub (.b 4) (.k (.int 1)))) [4] (.n 4) .seq [(.b 2)] [])]), .own 5 (.comp (.v 4) [4] (.n 4) .range2 [(.k (.int 1)), (.bin .add (.bt .len [(.b 1)]) (.k (.int 1)))] [(.cmp .ne (.ix (.b 1) (.bin .sub (.b 4) (.k (.int 1)))) (.k (.int 0)))]), .ite (.and (.cmp .eq (.bt .list [(.b 2)]) (.b 5)) (.cmp .lt (.b 3) (.bt .sum [(.b 0)]))) [.ret (.k (.bool true))] [], .ret (.cmp .gt (.b 3) (.bt .sum [(.sl (.b 0) [] [(.bt .len [(.b 2)])])]))]⟩
def F_k80_law : Fn := ⟨1, 13, [.set (.n 1) (.call 128 [(.call 9 [(.v 0), (.k (.int 0))]), (.k (.int 5))]), .set (.n 2) (.call 134 [(.call 9 [(.v 0), (.k (.int 1))]), (.bt .sum [(.b 1)])]), .set (.n 3) (.call 167 [(.v 1), (.v 2)]), .ite (.cmp .ne (.call 133 [(.v 1), (.v 2)]) (.bt .len [(.b 3)])) [.ret (.k (.bool false))] [], .set (.n 4) (.call 163 [(.v 1), (.v 2)]), .ite (.or (.and (.cmp .isN (.b 4) (.k .none)) (.cmp .ne (.b 3) (.lst []))) (.and (.cmp .notN (.b 4) (.k .none)) (.cmp .nin (.b 4) (.b 3)))) [.ret (.k (.bool false))] [], .set (.n 5) (.call 165 [(.v 1), (.v 2)]), .ite (.cmp .ne (.cmp .isN (.b 5) (.k .none)) (.cmp .ne (.b 3) (.lst []))) [.ret (.k (.bool false))] [], .ite (.cmp .notN (.b 5) (.k .none)) [.own 6 (.comp (.v 7) [7] (.n 7) .seq [(.b 5)] [(.chain .le .le (.k (.int 1)) (.b 7) (.bt .len [(.b 2)]))]), .ite (.or (.not (.bt .isTuple [(.b 5)])) (.or (.cmp .ne (.b 6) (.bt .sortedSet [(.b 5)])) (.not (.call 168 [(.v 1), (.v 2), (.v 5)])))) [.ret (.k (.bool false))] []] [], .set (.n 8) (.call 126 [(.bin .mod (.call 9 [(.v 0), (.k (.int 2))]) (.k (.int 8))), (.k (.int 12))]), .set (.n 9) (.ix (.b 8) (.bin .mod (.call 9 [(.v 0), (.k (.int 3))]) (.bt .len [(.b 8)]))), .set (.n 10) (.ix (.b 8) (.bin .mod (.call 9 [(.v 0), (.k (.int 4))]) (.bt .len [(.b 8)]))), .set (.n 4) (.call 166 [(.v 9), (.v 10)]), .set (.n 11) (.cmp .eq (.comp (.v 12) [12] (.n 12) .range1 [(.k (.int 9))] [(.cmp .lt (.bt .sum [(.sl (.b 9) [] [(.b 12)])]) (.bt .sum [(.sl (.b 10) [] [(.b 12)])]))]) (.lst [])), .ret (.and (.bt .isBool [(.b 4)]) (.cmp .eq (.b 4) (.b 11)))]⟩
def F_is_why_none : Fn := ⟨3, 6, [.ite (.or (.not (.bt .isTuple [(.b 2)])) (.not (.bt .all [(.comp (.call 0 [(.v 3), (.k (.int 1)), (.bt .len [(.b 1)])]) [3] (.n 3) .seq [(.b 2)] [])]))) [.ret (.k (.bool false))] [], .ret (.and (.bt .all [(.comp (.cmp .lt (.b 4) (.b 5)) [4, 5] (.t [4, 5]) .zip2 [(.sl (.b 2) [] [(.neg (.k (.int 1)))]), (.sl (.b 2) [(.k (.int 1))] [])] [])]) (.call 164 [(.v 0), (.v 1), (.v 2)]))]⟩
def F_Lall_counts : Fn := ⟨2, 5, [.ite (.cmp .eq (.b 1) (.k (.int 1))) [.ret (.lst [(.tup [(.v 0)])])] [], .own 2 (.lst []), .loop (.n 3) .range1 [(.bin .add (.b 0) (.k (.int 1)))] [.own 2 (.bin .add (.b 2) (.comp (.bin .add (.tup [(.v 3)]) (.b 4)) [4] (.n 4) .seq [(.call 171 [(.bin .sub (.b 0) (.b 3)), (.bin .sub (.b 1) (.k (.int 1)))])] []))], .fz [2], .ret (.v 2)]⟩
def F_k81_law : Fn := ⟨1, 11, [.set (.n 1) (.call 128 [(.call 9 [(.v 0), (.k (.int 0))]), (.k (.int 6))]), .set (.n 2) (.call 134 [(.call 9 [(.v 0), (.k (.int 1))]), (.bt .sum [(.b 1)])]), .set (.n 3) (.call 133 [(.v 1), (.v 2)]), .own 4 (.bin .mod (.call 9 [(.v 0), (.k (.int 2))]) (.bt .len [(.b 2)])), .loop (.n 5) .seq [(.tup [(.rev (.b 2)), (.bin .add (.sl (.b 2) [(.b 4)] []) (.sl (.b 2) [] [(.b 4)])), (.bt .tuple [(.bt .sorted [(.b 2)])])])] [.ite (.cmp .ne (.call 133 [(.v 1), (.v 5)]) (.b 3)) [.ret (.k (.bool false))] []], .set (.n 6) (.call 165 [(.v 1), (.v 2)]), .set (.n 7) (.call 163 [(.v 1), (.v 2)]), .ite (.cmp .eq (.b 3) (.k (.int 0))) [.ite (.or (.cmp .notN (.b 7) (.k .none)) (.cmp .notB (.call 170 [(.v 1), (.v 2), (.v 6)]) (.k (.bool true)))) [.ret (.k (.bool false))] []] [.ite (.or (.cmp .notN (.b 6) (.k .none)) (.or (.not (.call 4 [(.v 7)])) (.cmp .ne (.call 7 [(.v 7)]) (.b 1)))) [.ret (.k (.bool false))] [.ite (.cmp .ne (.bt .tuple [(.comp (.lcnt (.call 22 [(.v 7)]) (.b 8)) [8] (.n 8) .range2 [(.k (.int 1)), (.bin .add (.bt .len [(.b 2)]) (.k (.int 1)))] [])]) (.b 2)) [.ret (.k (.bool false))] []]], .own 9 (.bin .add (.k (.int 1)) (.bin .mod (.call 9 [(.v 0), (.k (.int 3))]) (.k (.int 3)))), .fz [9], .ite (.cmp .ne (.bt .sum [(.comp (.call 133 [(.v 1), (.v 10)]) [10] (.n 10) .seq [(.call 171 [(.bt .sum [(.b 1)]), (.v 9)])] [])]) (.call 123 [(.v 1), (.v 9)])) [.ret (.k (.bool false))] [], .loop (.n 5) .seq [(.call 64 [(.bt .sum [(.b 1)])])] [.ite (.cmp .lt (.bt .len [(.b 5)]) (.k (.int 6))) [.ite (.cmp .ne (.cmp .gt (.call 133 [(.v 1), (.bin .add (.b 5) (.bin .mul (.tup [(.k (.int 0))]) (.bt .toInt [(.cmp .eq (.b 5) (.tup []))])))]) (.k (.int 0))) (.call 166 [(.v 1), (.v 5)])) [.ret (.k (.bool false))] []] [], .ite (.cmp .ne (.call 166 [(.v 1), (.v 5)]) (.call 166 [(.call 21 [(.v 5)]), (.call 21 [(.v 1)])])) [.ret (.k (.bool false))] []], .ret (.or (.cmp .gt (.bt .len [(.b 1)]) (.k (.int 5))) (.or (.cmp .eq (.b 1) (.tup [])) (.cmp .eq (.call 133 [(.v 1), (.v 1)]) (.k (.int 1)))))]⟩
def F_Lodd : Fn := ⟨1, 2, [.own 1 (.lst [(.k .none), (.lst []), (.lst [(.k (.int 1))]), (.tup [(.k (.int 0))]), (.tup [(.k (.int 2)), (.k (.int 1))]), (.tup [(.k (.int 1)), (.k (.int 1))]), (.tup [(.k (.int 6))]), (.tup [(.k (.bool true))]), (.tup [(.k (.str (Str.ofString "1")))]), (.k (.int 1)), (.tup [(.k (.int 1)), (.k .none)]), (.tup [(.neg (.k (.int 1)))]), (.tup [(.tup [(.k (.int 1))])])]), .ret (.ix (.bin .add (.b 1) (.lst [(.tup [(.k (.int 1)), (.k (.int 2)), (.k (.int 3)), (.k (.int 4)), (.k (.int 5)), (.k (.int 6))])])) (.bin .mod (.b 0) (.k (.int 14))))]⟩
def F_k82_law : Fn := ⟨1, 10, [.set (.n 1) (.call 128 [(.call 9 [(.v 0), (.k (.int 0))]), (.k (.int 6))]), .set (.n 2) (.call 134 [(.call 9 [(.v 0), (.k (.int 1))]), (.bt .sum [(.b 1)])]), .own 3 (.lst [(.tup [])]), .loop (.n 4) .range2 [(.k (.int 1)), (.bin .add (.bt .len [(.b 2)]) (.k (.int 1)))] [.own 3 (.bin .add (.b 3) (.comp (.bin .add (.b 5) (.tup [(.v 4)])) [5] (.n 5) .seq [(.b 3)] []))], .set (.n 6) (.k (.bool false)), .fz [3], .loop (.n 5) .seq [(.v 3)] [.set (.n 7) (.call 168 [(.v 1), (.v 2), (.v 5)]), .set (.n 8) (.call 170 [(.v 1), (.v 2), (.v 5)]), .ite (.or (.not (.bt .isBool [(.b 8)])) (.cmp .ne (.b 8) (.b 7))) [.ret (.k (.bool false))] [], .set (.n 6) (.or (.v 6) (.v 7))], .set (.n 9) (.call 173 [(.call 9 [(.v 0), (.k (.int 2))])]), .ite (.and (.cmp .nin (.b 9) (.b 3)) (.cmp .notB (.call 170 [(.v 1), (.v 2), (.v 9)]) (.k (.bool false)))) [.ret (.k (.bool false))] [], .ret (.chain .eq .eq (.b 6) (.cmp .isN (.call 163 [(.v 1), (.v 2)]) (.k .none)) (.cmp .notN (.call 165 [(.v 1), (.v 2)]) (.k .none)))]⟩
def F_k83_law : Fn := ⟨1, 13, [.own 1 (.bin .mod (.call 9 [(.v 0), (.k (.int 0))]) (.k (.int 8))), .fz [1], .set (.n 2) (.call 64 [(.v 1)]), .set (.t [3, 4, 5]) (.comp (.ix (.b 2) (.bin .mod (.call 9 [(.v 0), (.bin .add (.k (.int 1)) (.b 6))]) (.bt .len [(.b 2)]))) [6] (.n 6) .range1 [(.k (.int 3))] []), .ite (.and (.call 166 [(.v 3), (.v 4)]) (.and (.call 166 [(.v 4), (.v 5)]) (.cmp .notB (.call 166 [(.v 3), (.v 5)]) (.k (.bool true))))) [.ret (.k (.bool false))] [], .ite (.or (.and (.call 166 [(.v 3), (.v 4)]) (.and (.call 166 [(.v 4), (.v 3)]) (.cmp .ne (.b 3) (.b 4)))) (.cmp .notB (.call 166 [(.v 3), (.v 3)]) (.k (.bool true)))) [.ret (.k (.bool false))] [], .fz [1], .own 7 (.bin .mul (.tup [(.v 1)]) (.bt .toInt [(.cmp .gt (.b 1) (.k (.int 0)))])), .fz [7], .ite (.or (.not (.call 166 [(.v 7), (.v 3)])) (.not (.call 166 [(.v 3), (.bin .mul (.tup [(.k (.int 1))]) (.b 1))]))) [.ret (.k (.bool false))] [], .ite (.cmp .ne (.call 166 [(.call 21 [(.v 4)]), (.call 21 [(.v 3)])]) (.call 166 [(.v 3), (.v 4)])) [.ret (.k (.bool false))] [], .loop (.t [8, 9]) .seq [(.call 20 [(.v 3)])] [.loop (.n 10) .range1 [(.v 8)] [.own 11 (.bin .add (.bin .add (.bin .add (.bin .add (.sl (.b 3) [] [(.b 10)]) (.tup [(.bin .add (.ix (.b 3) (.b 10)) (.k (.int 1)))])) (.sl (.b 3) [(.bin .add (.b 10) (.k (.int 1)))] [(.b 8)])) (.tup [(.bin .sub (.ix (.b 3) (.b 8)) (.k (.int 1)))])) (.sl (.b 3) [(.bin .add (.b 8) (.k (.int 1)))] [])), .set (.n 11) (.bt .tuple [(.comp (.v 12) [12] (.n 12) .seq [(.b 11)] [(.cmp .gt (.b 12) (.k (.int 0)))])]), .fz [11], .ite (.and (.call 2 [(.v 11)]) (.or (.cmp .notB (.call 166 [(.v 11), (.v 3)]) (.k (.bool true))) (.cmp .notB (.call 166 [(.v 3), (.v 11)]) (.k (.bool false))))) [.ret (.k (.bool false))] []]], .ret (.k (.bool true))]⟩
def F_k90_law : Fn := ⟨1, 11, [.set (.n 1) (.call 11 [(.call 9 [(.v 0), (.k (.int 0))]), (.k (.int 8))]), .set (.n 2) (.call 56 [(.v 1)]), .set (.n 3) (.bt .tuple [(.comp (.bin .sub (.k (.int 10)) (.b 4)) [4] (.n 4) .seq [(.rev (.b 1))] [])]), .ite (.or (.cmp .ne (.call 56 [(.v 3)]) (.call 137 [(.v 2)])) (.cmp .ne (.call 56 [(.call 22 [(.v 2)])]) (.b 2))) [.ret (.k (.bool false))] [], .set (.n 5) (.call 24 [(.call 9 [(.v 0), (.k (.int 1))]), (.k (.int 8))]), .set (.t [6, 7]) (.call 55 [(.v 5)]), .set (.n 8) (.call 56 [(.rev (.b 5))]), .ite (.cmp .ne (.call 7 [(.v 8)]) (.call 21 [(.call 7 [(.v 6)])])) [.ret (.k (.bool false))] [], .loop (.n 9) .range1 [(.bt .len [(.b 6)])] [.ite (.cmp .ne (.bt .tuple [(.comp (.ix (.b 10) (.b 9)) [10] (.n 10) .seq [(.b 8)] [(.cmp .gt (.bt .len [(.b 10)]) (.b 9))])]) (.ix (.b 6) (.b 9))) [.ret (.k (.bool false))] []], .ret (.and (.cmp .eq (.call 7 [(.v 7)]) (.call 7 [(.v 6)])) (.cmp .eq (.bt .sorted [(.call 22 [(.v 6)])]) (.bt .sorted [(.b 5)])))]⟩
def F_Labout : Fn := ⟨2, 3, [.ret (.call 56 [(.bt .tuple [(.comp (.bin .sub (.bin .add (.b 1) (.k (.int 1))) (.b 2)) [2] (.n 2) .seq [(.rev (.call 22 [(.v 0)]))] [])])])]⟩
def F_k91_law : Fn := ⟨1, 10, [.set (.n 1) (.call 24 [(.call 9 [(.v 0), (.k (.int 0))]), (.k (.int 7))]), .set (.n 2) (.bt .len [(.b 1)]), .set (.t [3, 4]) (.call 55 [(.v 1)]), .set (.n 5) (.bt .tuple [(.comp (.bin .sub (.bin .add (.b 2) (.k (.int 1))) (.b 6)) [6] (.n 6) .seq [(.rev (.b 1))] [])]), .ite (.cmp .ne (.call 55 [(.v 5)]) (.tup [(.call 177 [(.v 3), (.v 2)]), (.call 177 [(.v 4), (.v 2)])])) [.ret (.k (.bool false))] [], .set (.n 7) (.call 177 [(.v 3), (.v 2)]), .ite (.or (.not (.call 23 [(.v 7)])) (.or (.cmp .ne (.call 7 [(.v 7)]) (.call 7 [(.v 3)])) (.cmp .ne (.call 177 [(.v 7), (.v 2)]) (.b 3)))) [.ret (.k (.bool false))] [], .set (.n 8) (.bt .tuple [(.comp (.bt .tuple [(.comp (.bin .sub (.bin .add (.b 6) (.k (.int 9))) (.b 2)) [6] (.n 6) .seq [(.b 9)] [])]) [9] (.n 9) .seq [(.b 7)] [])]), .ret (.and (.cmp .eq (.call 137 [(.v 3)]) (.b 8)) (.cmp .eq (.call 137 [(.v 8)]) (.b 3)))]⟩
def T0 : Nat → Option Fn
  | 0 => some F_is_whole
  | 1 => some F_is_falling_row
  | 2 => some F_is_shape
  | 3 => some F_is_row
  | 4 => some F_is_filling
  | 5 => some F_are_columns
  | 6 => some F_is_word
  | 7 => some F_shape_of
  | 8 => some F_Lcell_at
  | 9 => some F_Lmixed
  | 10 => some F_Ldrawn
  | 11 => some F_Lword
  | 12 => some F_Lput
  | 13 => some F_Lmake
  | 14 => some F_Lis_shape
  | 15 => some F_Lis_filling
  | 16 => some F_Lis_word
  | 17 => some F_Lspoilt
  | 18 => some F_k01_law
  | 19 => some F_boxes
  | 20 => some F_corners
  | 21 => some F_turned
  | 22 => some F_reading
  | 23 => some F_is_standard
  | 24 => some F_Lunlike_word
  | 25 => some F_Lcorners
  | 26 => some F_Lreading
  | 27 => some F_k02_law
  | 30 => some F_word_text
  | 31 => some F_row_in
  | 33 => some F_read_word
  | 35 => some F_Lrow_due
  | 37 => some F_Lchanged
  | 39 => some F_Lplaces_in
  | 41 => some F_Lotherwise
  | 43 => some F_Lonce
  | 44 => some F_k09_law
  | 45 => some F_place_for
  | 46 => some F_put_with_boxes
  | 47 => some F_put
  | 48 => some F_pushed
  | 49 => some F_last_lesser
  | 50 => some F_out
  | 52 => some F_Lout
  | 54 => some F_k11_law
  | 55 => some F_pair_of
  | 56 => some F_filling_of
  | 57 => some F_box_of
  | 58 => some F_word_of
  | 59 => some F_Lpair
  | 61 => some F_Ldue_2
  | 63 => some F_grown
  | 64 => some F_shapes
  | 65 => some F_may_grow
  | 66 => some F_all_standard
  | 67 => some F_Lorders
  | 69 => some F_hole_counts
  | 70 => some F_is_gapped
  | 71 => some F_at_box
  | 72 => some F_with_box
  | 73 => some F_is_open
  | 74 => some F_slide
  | 75 => some F_straight
  | 76 => some F_Lcut
  | 77 => some F_k22_law
  | 78 => some F_k23_law
  | 79 => some F_is_step
  | 80 => some F_exchanged
  | 81 => some F_steps
  | 82 => some F_alike
  | 84 => some F_is_road
  | 85 => some F_Lsteps
  | 87 => some F_Lother
  | 88 => some F_Lis_road
  | 89 => some F_Lspoilt_3
  | 90 => some F_k30_law
  | 91 => some F_hooks
  | 92 => some F_all_hooks
  | 93 => some F_many_standard
  | 94 => some F_Lall_orders
  | 95 => some F_k31_law
  | 96 => some F_rises
  | 97 => some F_falls_down
  | 98 => some F_is_pick
  | 99 => some F_are_unlike
  | 100 => some F_most_in
  | 101 => some F_is_picks
  | 102 => some F_all_picks
  | 103 => some F_picks_for
  | 104 => some F_is_parting
  | 105 => some F_bound
  | 106 => some F_Lall_picks
  | 107 => some F_Lis_pick
  | 108 => some F_Lapart
  | 109 => some F_Lis_picks
  | 110 => some F_Lis_parting
  | 111 => some F_Ldrawn_picks
  | 112 => some F_Ldrawn_parting
  | 113 => some F_Lspoilt_4
  | 114 => some F_k40_law
  | 115 => some F_all_partings
  | 116 => some F_parting_for
  | 117 => some F_Llongest
  | 118 => some F_k41_law
  | 119 => some F_k42_law
  | 121 => some F_Lonce_2
  | 122 => some F_k49_law
  | 123 => some F_many_fillings
  | 124 => some F_all_rows
  | 125 => some F_all_fillings
  | 126 => some F_Lshapes
  | 127 => some F_Lfillings
  | 128 => some F_Lshape
  | 129 => some F_k50_law
  | 130 => some F_Lorders_2
  | 131 => some F_k51_law
  | 132 => some F_strips
  | 133 => some F_many_with
  | 134 => some F_Lcounts
  | 135 => some F_Lwords
  | 136 => some F_k52_law
  | 137 => some F_turned_about
  | 138 => some F_Lgapped
  | 139 => some F_Lat
  | 141 => some F_Lopen
  | 142 => some F_Lnumber
  | 143 => some F_Lis_gapped
  | 144 => some F_Lspoilt_6
  | 146 => some F_times
  | 147 => some F_k61_law
  | 148 => some F_k62_law
  | 150 => some F_k69_law
  | 151 => some F_renamed
  | 152 => some F_all_lots
  | 153 => some F_how_often
  | 154 => some F_Lstandard
  | 155 => some F_Llots
  | 156 => some F_k70_law
  | 157 => some F_Llots_2
  | 158 => some F_k71_law
  | 159 => some F_Lrow_more
  | 160 => some F_Lcolumns
  | 161 => some F_k72_law
  | 162 => some F_with_strip
  | 163 => some F_filling_with
  | 164 => some F_shows
  | 165 => some F_why_none
  | 166 => some F_is_above
  | 167 => some F_Lwith
  | 168 => some F_Lshows
  | 169 => some F_k80_law
  | 170 => some F_is_why_none
  | 171 => some F_Lall_counts
  | 172 => some F_k81_law
  | 173 => some F_Lodd
  | 174 => some F_k82_law
  | 175 => some F_k83_law
  | 176 => some F_k90_law
  | 177 => some F_Labout
  | 178 => some F_k91_law
  | _ => none
end BP
namespace BP
open PySem
def G_shape_of (filling1 : (List (List Int))) : Option (List Int) :=
  ((compO (fun (row2 : (List Int)) => (some (row2.length : Int))) filling1).bind fun t3 => (some t3))
theorem c_shape_of (n : Nat) (filling1 : (List (List Int))) : XE (callF T0 (n + 1) 7 [(eT (eT PyData.int)) filling1]) (eT PyData.int) (G_shape_of filling1) := by
  unfold G_shape_of
  refine fn_of (n := n) (fn := F_shape_of) (ρ := [.val ((eT (eT PyData.int)) filling1), .non]) rfl rfl rfl ?_
  exact sb_ret0 (xe_bindr (en1 := (eL PyData.int)) (fun t3 ht3 => (xe_pure (en := (eT PyData.int)) (x_bt1 ht3 (k_tupL (en := PyData.int))))) (x_comp (enx := (eT PyData.int)) (en := PyData.int) (f := fun (row2 : (List Int)) => (some (row2.length : Int))) (src_T (en := (eT PyData.int)) (x_b rfl)) fun row2 _ => ⟨_, rfl, (xe_pure (en := PyData.int) (x_bt1 (x_b rfl) (k_lenT (en := PyData.int))))⟩)) (fun _ => rfl)
def G_Lcell_at (script1 : (List Int)) (k2 : Int) : Option Int :=
  if (decide (k2 < (script1.length : Int))) = true then (L2.atI script1 k2) else (some (0 : Int))
theorem c_Lcell_at (n : Nat) (script1 : (List Int)) (k2 : Int) : XE (callF T0 (n + 1) 8 [(eL PyData.int) script1, PyData.int k2]) PyData.int (G_Lcell_at script1 k2) := by
  unfold G_Lcell_at
  refine fn_of (n := n) (fn := F_Lcell_at) (ρ := [.val ((eL PyData.int) script1), .val (PyData.int k2)]) rfl rfl rfl ?_
  refine sb_if (x_cmp (x_b rfl) (x_bt1 (x_b rfl) (k_lenL (en := PyData.int))) c_lt) ?_ ?_
  · intro hc
    exact sb_ret0 (x_ixL (en := PyData.int) (x_b rfl) (x_b rfl)) (fun _ => rfl)
  intro hc
  exact sb_ret0 (xe_pure (en := PyData.int) (x_k (d := .int (0)))) (fun _ => rfl)
def G_Lmixed (script1 : (List Int)) (k2 : Int) : Option Int :=
  ((G_Lcell_at script1 k2).bind fun t3 => (some ((((t3 + ((7919 : Int) * k2)) + (1 : Int)) * (48271 : Int)) % (2147483647 : Int)))).bind fun drawnhere4 => ((mulO drawnhere4 drawnhere4).bind fun t5 => (some (((t5 + ((7 : Int) * drawnhere4)) + k2) % (2147483629 : Int))))
theorem c_Lmixed (n : Nat) (script1 : (List Int)) (k2 : Int) : XE (callF T0 (n + 2) 9 [(eL PyData.int) script1, PyData.int k2]) PyData.int (G_Lmixed script1 k2) := by
  unfold G_Lmixed
  refine fn_of (n := n + 1) (fn := F_Lmixed) (ρ := [.val ((eL PyData.int) script1), .val (PyData.int k2), .non]) rfl rfl rfl ?_
  refine sb_ownV (en := PyData.int) (xe_bindr (en1 := PyData.int) (fun t3 ht3 => (xe_pure (en := PyData.int) (x_modk (x_mulk (x_add (x_add ht3 (x_mulk (x_k (d := .int (7919))) (x_b rfl) (.inl (by decide)))) (x_k (d := .int (1)))) (x_k (d := .int (48271))) (.inr (by decide))) (x_k (d := .int (2147483647))) (by decide)))) (x_call (es_cons (x_v rfl) (es_cons (x_v rfl) es_nil)) (c_Lcell_at n _ _))) (fun _ => rfl) fun drawnhere4 => ?_
  exact sb_ret0 (xe_bindr (en1 := PyData.int) (fun t5 ht5 => (xe_pure (en := PyData.int) (x_modk (x_add (x_add ht5 (x_mulk (x_k (d := .int (7))) (x_b rfl) (.inl (by decide)))) (x_b rfl)) (x_k (d := .int (2147483629))) (by decide)))) (x_mul (x_b rfl) (x_b rfl))) (fun _ => rfl)
def G_Ldrawn (number1 : Int) (k2 : Int) : Option Int :=
  (some ((((number1 + ((104729 : Int) * k2)) + (17 : Int)) * (69621 : Int)) % (2147483647 : Int))).bind fun drawnhere3 => ((mulO drawnhere3 drawnhere3).bind fun t4 => (some (((t4 + ((3 : Int) * drawnhere3)) + k2) % (2147483629 : Int))))
theorem c_Ldrawn (n : Nat) (number1 : Int) (k2 : Int) : XE (callF T0 (n + 1) 10 [PyData.int number1, PyData.int k2]) PyData.int (G_Ldrawn number1 k2) := by
  unfold G_Ldrawn
  refine fn_of (n := n) (fn := F_Ldrawn) (ρ := [.val (PyData.int number1), .val (PyData.int k2), .non]) rfl rfl rfl ?_
  refine sb_ownV (en := PyData.int) (xe_pure (en := PyData.int) (x_modk (x_mulk (x_add (x_add (x_b rfl) (x_mulk (x_k (d := .int (104729))) (x_b rfl) (.inl (by decide)))) (x_k (d := .int (17)))) (x_k (d := .int (69621))) (.inr (by decide))) (x_k (d := .int (2147483647))) (by decide))) (fun _ => rfl) fun drawnhere3 => ?_
  exact sb_ret0 (xe_bindr (en1 := PyData.int) (fun t4 ht4 => (xe_pure (en := PyData.int) (x_modk (x_add (x_add ht4 (x_mulk (x_k (d := .int (3))) (x_b rfl) (.inl (by decide)))) (x_b rfl)) (x_k (d := .int (2147483629))) (by decide)))) (x_mul (x_b rfl) (x_b rfl))) (fun _ => rfl)
def G_Lword (number1 : Int) (most2 : Int) : Option (List Int) :=
  (L2.atI [(9 : Int), (3 : Int), (5 : Int), (2 : Int)] ((number1 / (16 : Int)) % (4 : Int))).bind fun of4 => ((modO (number1 / (64 : Int)) ((10 : Int) - of4)).bind fun t5 => (some ((1 : Int) + t5))).bind fun low6 => ((modO number1 (most2 + (1 : Int))).bind fun t7 => ((rg1O t7).bind fun rg8 => ((compO (fun (k9 : Int) => ((G_Ldrawn number1 k9).bind fun t10 => ((modO (t10 / (4 : Int)) of4).bind fun t11 => (some (low6 + t11))))) rg8).bind fun t12 => (some t12))))
theorem c_Lword (n : Nat) (number1 : Int) (most2 : Int) : XE (callF T0 (n + 2) 11 [PyData.int number1, PyData.int most2]) (eT PyData.int) (G_Lword number1 most2) := by
  unfold G_Lword
  refine fn_of (n := n + 1) (fn := F_Lword) (ρ := [.val (PyData.int number1), .val (PyData.int most2), .non, .non, .non]) rfl rfl rfl ?_
  refine sb_set (en := PyData.int) (x_ixT (en := PyData.int) (x_tupT (en := PyData.int) (et_cons (en := PyData.int) (x_k (d := .int (9))) (et_cons (en := PyData.int) (x_k (d := .int (3))) (et_cons (en := PyData.int) (x_k (d := .int (5))) (et_cons (en := PyData.int) (x_k (d := .int (2))) (et_nil (en := PyData.int)))))) (Nat.le_of_ble_eq_true rfl)) (x_modk (x_fdivk (x_b rfl) (x_k (d := .int (16))) (by decide)) (x_k (d := .int (4))) (by decide))) fun of4 => ?_
  refine sb_ownV (en := PyData.int) (xe_bindr (en1 := PyData.int) (fun t5 ht5 => (xe_pure (en := PyData.int) (x_add (x_k (d := .int (1))) ht5))) (x_mod (x_fdivk (x_b rfl) (x_k (d := .int (64))) (by decide)) (x_sub (x_k (d := .int (10))) (x_b rfl)))) (fun _ => rfl) fun low6 => ?_
  exact sb_ret0 (xe_bindr (en1 := PyData.int) (fun t7 ht7 => (xe_bindSr (en1 := PyData.int) (fun rg8 hrg8 => (xe_bindr (en1 := (eL PyData.int)) (fun t12 ht12 => (xe_pure (en := (eT PyData.int)) (x_bt1 ht12 (k_tupL (en := PyData.int))))) (x_comp (enx := PyData.int) (en := PyData.int) (f := fun (k9 : Int) => ((G_Ldrawn number1 k9).bind fun t10 => ((modO (t10 / (4 : Int)) of4).bind fun t11 => (some (low6 + t11))))) hrg8 fun k9 _ => ⟨_, rfl, (xe_bindr (en1 := PyData.int) (fun t10 ht10 => (xe_bindr (en1 := PyData.int) (fun t11 ht11 => (xe_pure (en := PyData.int) (x_add (x_b rfl) ht11))) (x_mod (x_fdivk ht10 (x_k (d := .int (4))) (by decide)) (x_b rfl)))) (x_call (es_cons (x_v rfl) (es_cons (x_v rfl) es_nil)) (c_Ldrawn n _ _)))⟩))) (src_r1 ht7))) (x_mod (x_b rfl) (x_add (x_b rfl) (x_k (d := .int (1)))))) (fun _ => rfl)
def G_Lput : Nat → (List (List Int)) → Int → Option ((List (List Int)) × (List Int))
  | 0, _, _ => none
  | m + 1, rows1, number2 =>
    if (decide (rows1 = ([] : List (List Int)))) = true then (some ([[number2]], [(0 : Int)])) else ((L2.atI rows1 (0 : Int)).bind fun t4 => (compF (fun (p5 : (Int × Int)) => (some (decide (number2 < p5.2)))) (fun (p5 : (Int × Int)) => (some p5.1)) (enumI 0 t4))).bind fun greater7 => if (decide (greater7 = ([] : List Int))) = true then ((L2.atI rows1 (0 : Int)).bind fun t9 => ((catO t9 [number2]).bind fun t10 => ((catO [t10] (cutD rows1 (some (1 : Int)) none)).bind fun t11 => ((L2.atI rows1 (0 : Int)).bind fun t12 => (some (t11, [(t12.length : Int)])))))) else (L2.atI greater7 (0 : Int)).bind fun at14 => ((L2.atI rows1 (0 : Int)).bind fun t15 => ((L2.atI t15 at14).bind fun t16 => (G_Lput m (cutD rows1 (some (1 : Int)) none) t16))).bind fun p18 => ((L2.atI rows1 (0 : Int)).bind fun t19 => ((catO (cutD t19 none (some at14)) [number2]).bind fun t20 => ((L2.atI rows1 (0 : Int)).bind fun t21 => ((catO t20 (cutD t21 (some (at14 + (1 : Int))) none)).bind fun t22 => ((catO [t22] p18.1).bind fun t23 => ((catO [at14] p18.2).bind fun t24 => (some (t23, t24))))))))
theorem c_Lput (n : Nat) : ∀ (m : Nat) (rows1 : (List (List Int))) (number2 : Int), XE (callF T0 (n + m + 0) 12 [(eT (eT PyData.int)) rows1, PyData.int number2]) (eP (eT (eT PyData.int)) (eT PyData.int)) (G_Lput m rows1 number2)
  | 0, _, _ => fun _ e => nomatch e
  | m + 1, rows1, number2 => by
    unfold G_Lput
    show XE (callF T0 ((n + m + 0) + 1) 12 [(eT (eT PyData.int)) rows1, PyData.int number2]) _ _
    refine fn_of (n := n + m + 0) (fn := F_Lput) (ρ := [.val ((eT (eT PyData.int)) rows1), .val (PyData.int number2), .non, .non, .non, .non, .non, .non]) rfl rfl rfl ?_
    refine sb_if (x_cmp (x_b rfl) (x_tupT (en := (eT PyData.int)) (et_nil (en := (eT PyData.int))) (Nat.le_of_ble_eq_true rfl)) (k_eq (en := (eT (eT PyData.int))) (by decide))) ?_ ?_
    · intro hc
      exact sb_ret0 (xe_pure (en := (eP (eT (eT PyData.int)) (eT PyData.int))) (x_pair (e := (eT (eT PyData.int))) (f := (eT PyData.int)) (x_tupT (en := (eT PyData.int)) (et_cons (en := (eT PyData.int)) (x_tupT (en := PyData.int) (et_cons (en := PyData.int) (x_v rfl) (et_nil (en := PyData.int))) (Nat.le_of_ble_eq_true rfl)) (et_nil (en := (eT PyData.int)))) (Nat.le_of_ble_eq_true rfl)) (x_tupT (en := PyData.int) (et_cons (en := PyData.int) (x_k (d := .int (0))) (et_nil (en := PyData.int))) (Nat.le_of_ble_eq_true rfl)))) (fun _ => rfl)
    intro hc
    refine sb_own (en := (eL PyData.int)) (xe_bindr (en1 := (eT PyData.int)) (fun t4 ht4 => (x_compF (enx := (eP PyData.int PyData.int)) (en := PyData.int) (g := fun (p5 : (Int × Int)) => (some (decide (number2 < p5.2)))) (f := fun (p5 : (Int × Int)) => (some p5.1)) (src_en (en := PyData.int) ht4 rfl) fun p5 _ => ⟨_, bindT_2, (xe_pure (en := PyData.bool) (x_cmp (x_b rfl) (x_b rfl) c_gt)), fun _ => (xe_pure (en := PyData.int) (x_v rfl))⟩)) (x_ixT (en := (eT PyData.int)) (x_b rfl) (x_k (d := .int (0))))) (fun _ => rfl) fun greater7 => ?_
    refine sb_if (x_cmp (x_o rfl) (x_lstL (en := PyData.int) (et_nil (en := PyData.int)) (Nat.le_of_ble_eq_true rfl)) (k_eq (en := (eL PyData.int)) (by decide))) ?_ ?_
    · intro hc
      exact sb_ret0 (xe_bindr (en1 := (eT PyData.int)) (fun t9 ht9 => (xe_bindr (en1 := (eT PyData.int)) (fun t10 ht10 => (xe_bindr (en1 := (eT (eT PyData.int))) (fun t11 ht11 => (xe_bindr (en1 := (eT PyData.int)) (fun t12 ht12 => (xe_pure (en := (eP (eT (eT PyData.int)) (eT PyData.int))) (x_pair (e := (eT (eT PyData.int))) (f := (eT PyData.int)) ht11 (x_tupT (en := PyData.int) (et_cons (en := PyData.int) (x_bt1 ht12 (k_lenT (en := PyData.int))) (et_nil (en := PyData.int))) (Nat.le_of_ble_eq_true rfl))))) (x_ixT (en := (eT PyData.int)) (x_b rfl) (x_k (d := .int (0)))))) (x_catT (en := (eT PyData.int)) (x_tupT (en := (eT PyData.int)) (et_cons (en := (eT PyData.int)) ht10 (et_nil (en := (eT PyData.int)))) (Nat.le_of_ble_eq_true rfl)) (x_slT (en := (eT PyData.int)) (x_b rfl) (po_some (x_k (d := .int (1)))) po_none)))) (x_catT (en := PyData.int) ht9 (x_tupT (en := PyData.int) (et_cons (en := PyData.int) (x_v rfl) (et_nil (en := PyData.int))) (Nat.le_of_ble_eq_true rfl))))) (x_ixT (en := (eT PyData.int)) (x_b rfl) (x_k (d := .int (0))))) (fun _ => rfl)
    intro hc
    refine sb_set (en := PyData.int) (x_ixL (en := PyData.int) (x_o rfl) (x_k (d := .int (0)))) fun at14 => ?_
    refine sb_set2 (e1 := (eT (eT PyData.int))) (e2 := (eT PyData.int)) (xe_bindr (en1 := (eT PyData.int)) (fun t15 ht15 => (xe_bindr (en1 := PyData.int) (fun t16 ht16 => (x_call (es_cons (x_slT (en := (eT PyData.int)) (x_b rfl) (po_some (x_k (d := .int (1)))) po_none) (es_cons ht16 es_nil)) (c_Lput n m _ _))) (x_ixT (en := PyData.int) ht15 (x_b rfl)))) (x_ixT (en := (eT PyData.int)) (x_b rfl) (x_k (d := .int (0))))) fun p18 => ?_
    exact sb_ret0 (xe_bindr (en1 := (eT PyData.int)) (fun t19 ht19 => (xe_bindr (en1 := (eT PyData.int)) (fun t20 ht20 => (xe_bindr (en1 := (eT PyData.int)) (fun t21 ht21 => (xe_bindr (en1 := (eT PyData.int)) (fun t22 ht22 => (xe_bindr (en1 := (eT (eT PyData.int))) (fun t23 ht23 => (xe_bindr (en1 := (eT PyData.int)) (fun t24 ht24 => (xe_pure (en := (eP (eT (eT PyData.int)) (eT PyData.int))) (x_pair (e := (eT (eT PyData.int))) (f := (eT PyData.int)) ht23 ht24))) (x_catT (en := PyData.int) (x_tupT (en := PyData.int) (et_cons (en := PyData.int) (x_v rfl) (et_nil (en := PyData.int))) (Nat.le_of_ble_eq_true rfl)) (x_b rfl)))) (x_catT (en := (eT PyData.int)) (x_tupT (en := (eT PyData.int)) (et_cons (en := (eT PyData.int)) ht22 (et_nil (en := (eT PyData.int)))) (Nat.le_of_ble_eq_true rfl)) (x_b rfl)))) (x_catT (en := PyData.int) ht20 (x_slT (en := PyData.int) ht21 (po_some (x_add (x_b rfl) (x_k (d := .int (1))))) po_none)))) (x_ixT (en := (eT PyData.int)) (x_b rfl) (x_k (d := .int (0)))))) (x_catT (en := PyData.int) (x_slT (en := PyData.int) ht19 po_none (po_some (x_b rfl))) (x_tupT (en := PyData.int) (et_cons (en := PyData.int) (x_v rfl) (et_nil (en := PyData.int))) (Nat.le_of_ble_eq_true rfl))))) (x_ixT (en := (eT PyData.int)) (x_b rfl) (x_k (d := .int (0))))) (fun _ => rfl)
def G_Lmake (wordhere1 : (List Int)) : Option (List (List Int)) :=
  (some ([] : List (List Int))).bind fun rows2 => (foldO (fun (s3 : (List (List Int))) (number4 : Int) => ((G_Lput 12 s3 number4).bind fun t5 => (some t5.1)).bind fun rows6 => some rows6) wordhere1 rows2).bind fun (s3 : (List (List Int))) => (some s3)
theorem c_Lmake (n : Nat) (wordhere1 : (List Int)) : XE (callF T0 (n + 13) 13 [(eT PyData.int) wordhere1]) (eT (eT PyData.int)) (G_Lmake wordhere1) := by
  unfold G_Lmake
  refine fn_of (n := n + 12) (fn := F_Lmake) (ρ := [.val ((eT PyData.int) wordhere1), .non, .non]) rfl rfl rfl ?_
  refine sb_set (en := (eT (eT PyData.int))) (xe_pure (en := (eT (eT PyData.int))) (x_tupT (en := (eT PyData.int)) (et_nil (en := (eT PyData.int))) (Nat.le_of_ble_eq_true rfl))) fun rows2 => ?_
  refine sb_seqN (R := fun (s3 : (List (List Int))) ρ => ∃ j2 : Slot, ρ = [.val ((eT PyData.int) wordhere1), .val ((eT (eT PyData.int)) s3), j2]) (sb_loop (enx := PyData.int) (s0 := (rows2 : (List (List Int)))) (src_T (en := PyData.int) (x_v rfl)) ⟨_, rfl⟩ ?_) ?_
  · rintro s3 number4 _ - ⟨j2, rfl⟩
    refine ⟨_, rfl, ?_⟩
    refine sb_set (en := (eT (eT PyData.int))) (xe_bindr (en1 := (eP (eT (eT PyData.int)) (eT PyData.int))) (fun t5 ht5 => (xe_pure (en := (eT (eT PyData.int))) (x_ixP0 (e := (eT (eT PyData.int))) (f := (eT PyData.int)) ht5 (x_k (d := .int (0)))))) (x_call (es_cons (x_v rfl) (es_cons (x_v rfl) es_nil)) (c_Lput n 12 _ _))) fun rows6 => ?_
    exact sb_endN ⟨_, rfl⟩
  rintro s3 _ ⟨j2, rfl⟩
  exact sb_ret0 (xe_pure (en := (eT (eT PyData.int))) (x_v rfl)) (fun _ => rfl)
def G_boxes (shape1 : (List Int)) : Option (List (Int × Int)) :=
  (some ([] : List (Int × Int))).bind fun found2 => (foldO (fun (s3 : (List (Int × Int))) (p4 : (Int × Int)) => (((rg1O p4.2).bind fun rg5 => (compO (fun (place6 : Int) => (some (p4.1, place6))) rg5)).bind fun y8 => extO s3 y8).bind fun found9 => some found9) (enumI 0 shape1) found2).bind fun (s3 : (List (Int × Int))) => (some s3)
theorem c_boxes (n : Nat) (shape1 : (List Int)) : XE (callF T0 (n + 1) 19 [(eT PyData.int) shape1]) (eT (eP PyData.int PyData.int)) (G_boxes shape1) := by
  unfold G_boxes
  refine fn_of (n := n) (fn := F_boxes) (ρ := [.val ((eT PyData.int) shape1), .non, .non, .non, .non]) rfl rfl rfl ?_
  refine sb_own (en := (eL (eP PyData.int PyData.int))) (xe_pure (en := (eL (eP PyData.int PyData.int))) (x_lstL (en := (eP PyData.int PyData.int)) (et_nil (en := (eP PyData.int PyData.int))) (Nat.le_of_ble_eq_true rfl))) (fun _ => rfl) fun found2 => ?_
  refine sb_seqN (R := fun (s3 : (List (Int × Int))) ρ => ∃ j2 j3 : Slot, ρ = [.val ((eT PyData.int) shape1), .own ((eL (eP PyData.int PyData.int)) s3), j2, j3, .non]) (sb_loop (enx := (eP PyData.int PyData.int)) (s0 := (found2 : (List (Int × Int)))) (src_en (en := PyData.int) (x_v rfl) rfl) ⟨_, _, rfl⟩ ?_) ?_
  · rintro s3 p4 _ - ⟨j2, j3, rfl⟩
    refine ⟨_, bindT_2, ?_⟩
    refine sb_extLM (en := (eP PyData.int PyData.int)) rfl (xe_bindSr (en1 := PyData.int) (fun rg5 hrg5 => (x_comp (enx := PyData.int) (en := (eP PyData.int PyData.int)) (f := fun (place6 : Int) => (some (p4.1, place6))) hrg5 fun place6 _ => ⟨_, rfl, (xe_pure (en := (eP PyData.int PyData.int)) (x_pair (e := PyData.int) (f := PyData.int) (x_v rfl) (x_v rfl)))⟩)) (src_r1 (x_b rfl))) fun found9 => ?_
    exact sb_endN ⟨_, _, rfl⟩
  rintro s3 _ ⟨j2, j3, rfl⟩
  exact sb_ret0 (xe_pure (en := (eT (eP PyData.int PyData.int))) (x_bt1 (x_o rfl) (k_tupL (en := (eP PyData.int PyData.int))))) (fun _ => rfl)
def G_corners (shape1 : (List Int)) : Option (List (Int × Int)) :=
  (some ([] : List (Int × Int))).bind fun found2 => (foldO (fun (s3 : (List (Int × Int))) (p4 : (Int × Int)) => (if (decide ((p4.1 + (1 : Int)) = (shape1.length : Int))) = true then some true else ((L2.atI shape1 (p4.1 + (1 : Int))).bind fun t5 => (some (decide (t5 < p4.2))))).bind fun t7 => if t7 = true then (appO s3 (p4.1, (p4.2 - (1 : Int)))).bind fun found8 => some found8 else some s3) (enumI 0 shape1) found2).bind fun (s3 : (List (Int × Int))) => (some s3)
theorem c_corners (n : Nat) (shape1 : (List Int)) : XE (callF T0 (n + 1) 20 [(eT PyData.int) shape1]) (eT (eP PyData.int PyData.int)) (G_corners shape1) := by
  unfold G_corners
  refine fn_of (n := n) (fn := F_corners) (ρ := [.val ((eT PyData.int) shape1), .non, .non, .non]) rfl rfl rfl ?_
  refine sb_own (en := (eL (eP PyData.int PyData.int))) (xe_pure (en := (eL (eP PyData.int PyData.int))) (x_lstL (en := (eP PyData.int PyData.int)) (et_nil (en := (eP PyData.int PyData.int))) (Nat.le_of_ble_eq_true rfl))) (fun _ => rfl) fun found2 => ?_
  refine sb_seqN (R := fun (s3 : (List (Int × Int))) ρ => ∃ j2 j3 : Slot, ρ = [.val ((eT PyData.int) shape1), .own ((eL (eP PyData.int PyData.int)) s3), j2, j3]) (sb_loop (enx := (eP PyData.int PyData.int)) (s0 := (found2 : (List (Int × Int)))) (src_en (en := PyData.int) (x_v rfl) rfl) ⟨_, _, rfl⟩ ?_) ?_
  · rintro s3 p4 _ - ⟨j2, j3, rfl⟩
    refine ⟨_, bindT_2, ?_⟩
    refine sb_iteM (x_orM (x_cmp (x_add (x_b rfl) (x_k (d := .int (1)))) (x_bt1 (x_b rfl) (k_lenT (en := PyData.int))) (k_eq (en := PyData.int) (by decide))) fun _ => (xe_bindr (en1 := PyData.int) (fun t5 ht5 => (xe_pure (en := PyData.bool) (x_cmp ht5 (x_b rfl) c_lt))) (x_ixT (en := PyData.int) (x_b rfl) (x_add (x_b rfl) (x_k (d := .int (1))))))) ?_ ?_
    · skip
      refine sb_app (en := (eP PyData.int PyData.int)) rfl (x_pair (e := PyData.int) (f := PyData.int) (x_v rfl) (x_sub (x_b rfl) (x_k (d := .int (1))))) fun found8 => ?_
      exact sb_endN ⟨_, _, rfl⟩
    · skip
      exact sb_endN ⟨_, _, rfl⟩
  rintro s3 _ ⟨j2, j3, rfl⟩
  exact sb_ret0 (xe_pure (en := (eT (eP PyData.int PyData.int))) (x_bt1 (x_o rfl) (k_tupL (en := (eP PyData.int PyData.int))))) (fun _ => rfl)
def G_turned (shape1 : (List Int)) : Option (List Int) :=
  if (decide ((shape1.length : Int) = (0 : Int))) = true then (some ([] : List Int)) else ((L2.atI shape1 (0 : Int)).bind fun t3 => ((rg1O t3).bind fun rg4 => ((compO (fun (place5 : Int) => ((compF (fun (long6 : Int) => (some (decide (place5 < long6)))) (fun (long6 : Int) => (some long6)) shape1).bind fun t7 => (some (t7.length : Int)))) rg4).bind fun t8 => (some t8))))
theorem c_turned (n : Nat) (shape1 : (List Int)) : XE (callF T0 (n + 1) 21 [(eT PyData.int) shape1]) (eT PyData.int) (G_turned shape1) := by
  unfold G_turned
  refine fn_of (n := n) (fn := F_turned) (ρ := [.val ((eT PyData.int) shape1), .non, .non]) rfl rfl rfl ?_
  refine sb_if (x_cmp (x_bt1 (x_b rfl) (k_lenT (en := PyData.int))) (x_k (d := .int (0))) (k_eq (en := PyData.int) (by decide))) ?_ ?_
  · intro hc
    exact sb_ret0 (xe_pure (en := (eT PyData.int)) (x_tupT (en := PyData.int) (et_nil (en := PyData.int)) (Nat.le_of_ble_eq_true rfl))) (fun _ => rfl)
  intro hc
  exact sb_ret0 (xe_bindr (en1 := PyData.int) (fun t3 ht3 => (xe_bindSr (en1 := PyData.int) (fun rg4 hrg4 => (xe_bindr (en1 := (eL PyData.int)) (fun t8 ht8 => (xe_pure (en := (eT PyData.int)) (x_bt1 ht8 (k_tupL (en := PyData.int))))) (x_comp (enx := PyData.int) (en := PyData.int) (f := fun (place5 : Int) => ((compF (fun (long6 : Int) => (some (decide (place5 < long6)))) (fun (long6 : Int) => (some long6)) shape1).bind fun t7 => (some (t7.length : Int)))) hrg4 fun place5 _ => ⟨_, rfl, (xe_bindr (en1 := (eL PyData.int)) (fun t7 ht7 => (xe_pure (en := PyData.int) (x_bt1 ht7 (k_lenL (en := PyData.int))))) (x_compF (enx := PyData.int) (en := PyData.int) (g := fun (long6 : Int) => (some (decide (place5 < long6)))) (f := fun (long6 : Int) => (some long6)) (src_T (en := PyData.int) (x_b rfl)) fun long6 _ => ⟨_, rfl, (xe_pure (en := PyData.bool) (x_cmp (x_b rfl) (x_b rfl) c_gt)), fun _ => (xe_pure (en := PyData.int) (x_v rfl))⟩))⟩))) (src_r1 ht3))) (x_ixT (en := PyData.int) (x_b rfl) (x_k (d := .int (0))))) (fun _ => rfl)
def G_reading (filling1 : (List (List Int))) : Option (List Int) :=
  (some ([] : List Int)).bind fun found2 => (foldO (fun (s3 : (List Int)) (row4 : (List Int)) => (catO row4 s3).bind fun found6 => some found6) filling1 found2).bind fun (s3 : (List Int)) => (some s3)
theorem c_reading (n : Nat) (filling1 : (List (List Int))) : XE (callF T0 (n + 1) 22 [(eT (eT PyData.int)) filling1]) (eT PyData.int) (G_reading filling1) := by
  unfold G_reading
  refine fn_of (n := n) (fn := F_reading) (ρ := [.val ((eT (eT PyData.int)) filling1), .non, .non]) rfl rfl rfl ?_
  refine sb_set (en := (eT PyData.int)) (xe_pure (en := (eT PyData.int)) (x_tupT (en := PyData.int) (et_nil (en := PyData.int)) (Nat.le_of_ble_eq_true rfl))) fun found2 => ?_
  refine sb_seqN (R := fun (s3 : (List Int)) ρ => ∃ j2 : Slot, ρ = [.val ((eT (eT PyData.int)) filling1), .val ((eT PyData.int) s3), j2]) (sb_loop (enx := (eT PyData.int)) (s0 := (found2 : (List Int))) (src_T (en := (eT PyData.int)) (x_v rfl)) ⟨_, rfl⟩ ?_) ?_
  · rintro s3 row4 _ - ⟨j2, rfl⟩
    refine ⟨_, rfl, ?_⟩
    refine sb_ownV (en := (eT PyData.int)) (x_catT (en := PyData.int) (x_b rfl) (x_b rfl)) (fun _ => rfl) fun found6 => ?_
    exact sb_endN ⟨_, rfl⟩
  rintro s3 _ ⟨j2, rfl⟩
  refine sb_fzv rfl ?_
  refine sb_fzn ?_
  exact sb_ret0 (xe_pure (en := (eT PyData.int)) (x_v rfl)) (fun _ => rfl)
def G_is_standard (filling1 : (List (List Int))) : Option Bool :=
  ((G_reading filling1).bind fun t2 => ((G_reading filling1).bind fun t3 => ((rg2O (1 : Int) ((t3.length : Int) + (1 : Int))).bind fun t4 => (some (decide ((sortI t2) = t4))))))
theorem c_is_standard (n : Nat) (filling1 : (List (List Int))) : XE (callF T0 (n + 2) 23 [(eT (eT PyData.int)) filling1]) PyData.bool (G_is_standard filling1) := by
  unfold G_is_standard
  refine fn_of (n := n + 1) (fn := F_is_standard) (ρ := [.val ((eT (eT PyData.int)) filling1)]) rfl rfl rfl ?_
  exact sb_ret0 (xe_bindr (en1 := (eT PyData.int)) (fun t2 ht2 => (xe_bindr (en1 := (eT PyData.int)) (fun t3 ht3 => (xe_bindr (en1 := (eL PyData.int)) (fun t4 ht4 => (xe_pure (en := PyData.bool) (x_cmp (x_bt1 ht2 k_sortT) ht4 (k_eq (en := (eL PyData.int)) (by decide))))) (x_lr2 (x_k (d := .int (1))) (x_add (x_bt1 ht3 (k_lenT (en := PyData.int))) (x_k (d := .int (1))))))) (x_call (es_cons (x_v rfl) es_nil) (c_reading n _)))) (x_call (es_cons (x_v rfl) es_nil) (c_reading n _))) (fun _ => rfl)
def G_Lunlike_word (number1 : Int) (most2 : Int) : Option (List Int) :=
  ((modO number1 (most2 + (1 : Int))).bind fun t3 => (rg2O (1 : Int) ((1 : Int) + t3))).bind fun left5 => (some ([] : List Int)).bind fun found6 => ((rg1O (left5.length : Int)).bind fun xs18 => foldO (fun (s8 : (List Int) × (List Int)) (k9 : Int) => ((G_Ldrawn number1 ((20 : Int) + k9)).bind fun t10 => (modO (t10 / (4 : Int)) (s8.1.length : Int))).bind fun at12 => ((L2.atI s8.1 at12).bind fun t13 => (catO s8.2 [t13])).bind fun found15 => (catO (cutD s8.1 none (some at12)) (cutD s8.1 (some (at12 + (1 : Int))) none)).bind fun left17 => some (left17, found15)) xs18 (left5, found6)).bind fun (s8 : (List Int) × (List Int)) => (some s8.2)
theorem c_Lunlike_word (n : Nat) (number1 : Int) (most2 : Int) : XE (callF T0 (n + 2) 24 [PyData.int number1, PyData.int most2]) (eT PyData.int) (G_Lunlike_word number1 most2) := by
  unfold G_Lunlike_word
  refine fn_of (n := n + 1) (fn := F_Lunlike_word) (ρ := [.val (PyData.int number1), .val (PyData.int most2), .non, .non, .non, .non]) rfl rfl rfl ?_
  refine sb_own (en := (eL PyData.int)) (xe_bindr (en1 := PyData.int) (fun t3 ht3 => (x_lr2 (x_k (d := .int (1))) (x_add (x_k (d := .int (1))) ht3))) (x_mod (x_b rfl) (x_add (x_b rfl) (x_k (d := .int (1)))))) (fun _ => rfl) fun left5 => ?_
  refine sb_set (en := (eT PyData.int)) (xe_pure (en := (eT PyData.int)) (x_tupT (en := PyData.int) (et_nil (en := PyData.int)) (Nat.le_of_ble_eq_true rfl))) fun found6 => ?_
  refine sb_seqN (R := fun (s8 : (List Int) × (List Int)) ρ => ∃ j4 j5 : Slot, ρ = [.val (PyData.int number1), .val (PyData.int most2), .own ((eL PyData.int) s8.1), .val ((eT PyData.int) s8.2), j4, j5]) (sb_loopM (enx := PyData.int) (s0 := ((left5, found6) : (List Int) × (List Int))) (src_r1 (x_bt1 (x_o rfl) (k_lenL (en := PyData.int)))) ⟨_, _, rfl⟩ ?_) ?_
  · rintro s8 k9 _ ⟨j4, j5, rfl⟩
    refine ⟨_, rfl, ?_⟩
    refine sb_ownV (en := PyData.int) (xe_bindr (en1 := PyData.int) (fun t10 ht10 => (x_mod (x_fdivk ht10 (x_k (d := .int (4))) (by decide)) (x_bt1 (x_o rfl) (k_lenL (en := PyData.int))))) (x_call (es_cons (x_v rfl) (es_cons (x_add (x_k (d := .int (20))) (x_b rfl)) es_nil)) (c_Ldrawn n _ _))) (fun _ => rfl) fun at12 => ?_
    refine sb_ownV (en := (eT PyData.int)) (xe_bindr (en1 := PyData.int) (fun t13 ht13 => (x_catT (en := PyData.int) (x_b rfl) (x_tupT (en := PyData.int) (et_cons (en := PyData.int) ht13 (et_nil (en := PyData.int))) (Nat.le_of_ble_eq_true rfl)))) (x_ixL (en := PyData.int) (x_o rfl) (x_b rfl))) (fun _ => rfl) fun found15 => ?_
    refine sb_own (en := (eL PyData.int)) (x_catL (en := PyData.int) (x_slL (en := PyData.int) (x_o rfl) po_none (po_some (x_b rfl))) (x_slL (en := PyData.int) (x_o rfl) (po_some (x_add (x_b rfl) (x_k (d := .int (1))))) po_none)) (fun _ => rfl) fun left17 => ?_
    exact sb_endN ⟨_, _, rfl⟩
  rintro s8 _ ⟨j4, j5, rfl⟩
  refine sb_fzv rfl ?_
  refine sb_fzn ?_
  exact sb_ret0 (xe_pure (en := (eT PyData.int)) (x_v rfl)) (fun _ => rfl)
def G_Lcorners (shape1 : (List Int)) : Option (List (Int × Int)) :=
  ((compF (fun (p2 : (Int × Int)) => ((catO shape1 [(0 : Int)]).bind fun t3 => ((L2.atI t3 (p2.1 + (1 : Int))).bind fun t4 => (some (decide (t4 < p2.2)))))) (fun (p2 : (Int × Int)) => (some (p2.1, (p2.2 - (1 : Int))))) (enumI 0 shape1)).bind fun t5 => (some t5))
theorem c_Lcorners (n : Nat) (shape1 : (List Int)) : XE (callF T0 (n + 1) 25 [(eT PyData.int) shape1]) (eT (eP PyData.int PyData.int)) (G_Lcorners shape1) := by
  unfold G_Lcorners
  refine fn_of (n := n) (fn := F_Lcorners) (ρ := [.val ((eT PyData.int) shape1), .non, .non]) rfl rfl rfl ?_
  exact sb_ret0 (xe_bindr (en1 := (eL (eP PyData.int PyData.int))) (fun t5 ht5 => (xe_pure (en := (eT (eP PyData.int PyData.int))) (x_bt1 ht5 (k_tupL (en := (eP PyData.int PyData.int)))))) (x_compF (enx := (eP PyData.int PyData.int)) (en := (eP PyData.int PyData.int)) (g := fun (p2 : (Int × Int)) => ((catO shape1 [(0 : Int)]).bind fun t3 => ((L2.atI t3 (p2.1 + (1 : Int))).bind fun t4 => (some (decide (t4 < p2.2)))))) (f := fun (p2 : (Int × Int)) => (some (p2.1, (p2.2 - (1 : Int))))) (src_en (en := PyData.int) (x_b rfl) rfl) fun p2 _ => ⟨_, bindT_2, (xe_bindr (en1 := (eT PyData.int)) (fun t3 ht3 => (xe_bindr (en1 := PyData.int) (fun t4 ht4 => (xe_pure (en := PyData.bool) (x_cmp ht4 (x_b rfl) c_lt))) (x_ixT (en := PyData.int) ht3 (x_add (x_b rfl) (x_k (d := .int (1))))))) (x_catT (en := PyData.int) (x_b rfl) (x_tupT (en := PyData.int) (et_cons (en := PyData.int) (x_k (d := .int (0))) (et_nil (en := PyData.int))) (Nat.le_of_ble_eq_true rfl)))), fun _ => (xe_pure (en := (eP PyData.int PyData.int)) (x_pair (e := PyData.int) (f := PyData.int) (x_v rfl) (x_sub (x_b rfl) (x_k (d := .int (1))))))⟩)) (fun _ => rfl)
def G_Lreading (rows1 : (List (List Int))) : Option (List Int) :=
  (some ([] : List Int)).bind fun found2 => (foldO (fun (s3 : (List Int)) (row4 : (List Int)) => (catO s3 row4).bind fun found6 => some found6) (rows1.reverse) found2).bind fun (s3 : (List Int)) => (some s3)
theorem c_Lreading (n : Nat) (rows1 : (List (List Int))) : XE (callF T0 (n + 1) 26 [(eT (eT PyData.int)) rows1]) (eT PyData.int) (G_Lreading rows1) := by
  unfold G_Lreading
  refine fn_of (n := n) (fn := F_Lreading) (ρ := [.val ((eT (eT PyData.int)) rows1), .non, .non]) rfl rfl rfl ?_
  refine sb_set (en := (eT PyData.int)) (xe_pure (en := (eT PyData.int)) (x_tupT (en := PyData.int) (et_nil (en := PyData.int)) (Nat.le_of_ble_eq_true rfl))) fun found2 => ?_
  refine sb_seqN (R := fun (s3 : (List Int)) ρ => ∃ j2 : Slot, ρ = [.val ((eT (eT PyData.int)) rows1), .val ((eT PyData.int) s3), j2]) (sb_loop (enx := (eT PyData.int)) (s0 := (found2 : (List Int))) (src_T (en := (eT PyData.int)) (x_revT (en := (eT PyData.int)) (x_b rfl))) ⟨_, rfl⟩ ?_) ?_
  · rintro s3 row4 _ - ⟨j2, rfl⟩
    refine ⟨_, rfl, ?_⟩
    refine sb_ownV (en := (eT PyData.int)) (x_catT (en := PyData.int) (x_b rfl) (x_b rfl)) (fun _ => rfl) fun found6 => ?_
    exact sb_endN ⟨_, rfl⟩
  rintro s3 _ ⟨j2, rfl⟩
  refine sb_fzv rfl ?_
  refine sb_fzn ?_
  exact sb_ret0 (xe_pure (en := (eT PyData.int)) (x_v rfl)) (fun _ => rfl)
def G_k02_law (script1 : (List Int)) : Option Bool :=
  (G_Lmixed script1 (0 : Int)).bind fun number3 => ((G_Lmixed script1 (1 : Int)).bind fun t4 => (G_Lword t4 (8 : Int))).bind fun wordhere6 => (if (decide ((number3 % (2 : Int)) = (0 : Int))) = true then ((G_Lmixed script1 (1 : Int)).bind fun t9 => (G_Lunlike_word t9 (8 : Int))).bind fun wordhere11 => some wordhere11 else some wordhere6).bind fun (s8 : (List Int)) => (G_Lmake s8).bind fun filling13 => (G_shape_of filling13).bind fun shape15 => (some ([] : List (Int × Int))).bind fun every16 => ((rg1O (shape15.length : Int)).bind fun xs26 => foldO (fun (s18 : (List (Int × Int))) (row19 : Int) => ((L2.atI shape15 row19).bind fun t20 => ((rg1O t20).bind fun rg21 => ((compO (fun (place22 : Int) => (some (row19, place22))) rg21).bind fun t23 => (catO s18 t23)))).bind fun every25 => some every25) xs26 every16).bind fun (s18 : (List (Int × Int))) => ((G_shape_of filling13).bind fun t27 => (if (!decide (t27 = shape15)) = true then some true else ((G_boxes shape15).bind fun t28 => (if (!decide (t28 = s18)) = true then some true else ((G_corners shape15).bind fun t29 => ((G_Lcorners shape15).bind fun t30 => (some (!decide (t29 = t30))))))))).bind fun t33 => if t33 = true then (some false) else (some ([] : List Int)).bind fun columns34 => ((rg1O (9 : Int)).bind fun xs44 => foldO (fun (s36 : (List Int)) (place37 : Int) => ((compF (fun (long38 : Int) => (some (decide (place37 < long38)))) (fun (long38 : Int) => (some long38)) shape15).bind fun t39 => (some (t39.length : Int))).bind fun many40 => ((repO (if (decide ((0 : Int) < many40)) = true then (1 : Int) else 0) [many40]).bind fun t41 => (catO s36 t41)).bind fun columns43 => some columns43) xs44 columns34).bind fun (s36 : (List Int)) => ((G_turned shape15).bind fun t45 => (if (!decide (t45 = s36)) = true then some true else ((G_turned s36).bind fun t46 => (some (!decide (t46 = shape15)))))).bind fun t48 => if t48 = true then (some false) else (G_Lreading filling13).bind fun row50 => (G_is_standard filling13).bind fun found52 => ((rg2O (1 : Int) ((row50.length : Int) + (1 : Int))).bind fun rg53 => ((compF (fun (k54 : Int) => (some (!decide (k54 ∈ row50)))) (fun (k54 : Int) => (some k54)) rg53).bind fun t55 => (some (decide (t55 = ([] : List Int)))))).bind fun due56 => ((G_reading filling13).bind fun t57 => (some ((decide (t57 = row50)) && ((isBoolD (PyData.bool found52)) && (decide (found52 = due56))))))
theorem c_k02_law (n : Nat) (script1 : (List Int)) : XE (callF T0 (n + 14) 27 [(eL PyData.int) script1]) PyData.bool (G_k02_law script1) := by
  unfold G_k02_law
  refine fn_of (n := n + 13) (fn := F_k02_law) (ρ := [.val ((eL PyData.int) script1), .non, .non, .non, .non, .non, .non, .non, .non, .non, .non, .non, .non, .non]) rfl rfl rfl ?_
  refine sb_set (en := PyData.int) (x_call (es_cons (x_v rfl) (es_cons (x_k (d := .int (0))) es_nil)) (c_Lmixed (n + 11) _ _)) fun number3 => ?_
  refine sb_set (en := (eT PyData.int)) (xe_bindr (en1 := PyData.int) (fun t4 ht4 => (x_call (es_cons ht4 (es_cons (x_k (d := .int (8))) es_nil)) (c_Lword (n + 11) _ _))) (x_call (es_cons (x_v rfl) (es_cons (x_k (d := .int (1))) es_nil)) (c_Lmixed (n + 11) _ _))) fun wordhere6 => ?_
  refine sb_seqN (R := fun (s8 : (List Int)) ρ => ρ = [.val ((eL PyData.int) script1), .val (PyData.int number3), .val ((eT PyData.int) s8), .non, .non, .non, .non, .non, .non, .non, .non, .non, .non, .non]) (sb_ite (x_cmp (x_modk (x_b rfl) (x_k (d := .int (2))) (by decide)) (x_k (d := .int (0))) (k_eq (en := PyData.int) (by decide))) ?_ ?_) ?_
  · intro hc
    refine sb_set (en := (eT PyData.int)) (xe_bindr (en1 := PyData.int) (fun t9 ht9 => (x_call (es_cons ht9 (es_cons (x_k (d := .int (8))) es_nil)) (c_Lunlike_word (n + 11) _ _))) (x_call (es_cons (x_v rfl) (es_cons (x_k (d := .int (1))) es_nil)) (c_Lmixed (n + 11) _ _))) fun wordhere11 => ?_
    exact sb_endN rfl
  · intro hc
    exact sb_endN rfl
  rintro s8 _ rfl
  refine sb_set (en := (eT (eT PyData.int))) (x_call (es_cons (x_v rfl) es_nil) (c_Lmake n _)) fun filling13 => ?_
  refine sb_set (en := (eT PyData.int)) (x_call (es_cons (x_v rfl) es_nil) (c_shape_of (n + 12) _)) fun shape15 => ?_
  refine sb_own (en := (eL (eP PyData.int PyData.int))) (xe_pure (en := (eL (eP PyData.int PyData.int))) (x_lstL (en := (eP PyData.int PyData.int)) (et_nil (en := (eP PyData.int PyData.int))) (Nat.le_of_ble_eq_true rfl))) (fun _ => rfl) fun every16 => ?_
  refine sb_seqN (R := fun (s18 : (List (Int × Int))) ρ => ∃ j6 : Slot, ρ = [.val ((eL PyData.int) script1), .val (PyData.int number3), .val ((eT PyData.int) s8), .val ((eT (eT PyData.int)) filling13), .val ((eT PyData.int) shape15), .own ((eL (eP PyData.int PyData.int)) s18), j6, .non, .non, .non, .non, .non, .non, .non]) (sb_loopM (enx := PyData.int) (s0 := (every16 : (List (Int × Int)))) (src_r1 (x_bt1 (x_b rfl) (k_lenT (en := PyData.int)))) ⟨_, rfl⟩ ?_) ?_
  · rintro s18 row19 _ ⟨j6, rfl⟩
    refine ⟨_, rfl, ?_⟩
    refine sb_own (en := (eL (eP PyData.int PyData.int))) (xe_bindr (en1 := PyData.int) (fun t20 ht20 => (xe_bindSr (en1 := PyData.int) (fun rg21 hrg21 => (xe_bindr (en1 := (eL (eP PyData.int PyData.int))) (fun t23 ht23 => (x_catL (en := (eP PyData.int PyData.int)) (x_o rfl) ht23)) (x_comp (enx := PyData.int) (en := (eP PyData.int PyData.int)) (f := fun (place22 : Int) => (some (row19, place22))) hrg21 fun place22 _ => ⟨_, rfl, (xe_pure (en := (eP PyData.int PyData.int)) (x_pair (e := PyData.int) (f := PyData.int) (x_v rfl) (x_v rfl)))⟩))) (src_r1 ht20))) (x_ixT (en := PyData.int) (x_b rfl) (x_b rfl))) (fun _ => rfl) fun every25 => ?_
    exact sb_endN ⟨_, rfl⟩
  rintro s18 _ ⟨j6, rfl⟩
  refine sb_ifM (xe_bindr (en1 := (eT PyData.int)) (fun t27 ht27 => (x_orM (x_cmp ht27 (x_b rfl) (k_ne (en := (eT PyData.int)) (by decide))) fun _ => (xe_bindr (en1 := (eT (eP PyData.int PyData.int))) (fun t28 ht28 => (x_orM (x_cmp ht28 (x_bt1 (x_o rfl) (k_tupL (en := (eP PyData.int PyData.int)))) (k_ne (en := (eT (eP PyData.int PyData.int))) (by decide))) fun _ => (xe_bindr (en1 := (eT (eP PyData.int PyData.int))) (fun t29 ht29 => (xe_bindr (en1 := (eT (eP PyData.int PyData.int))) (fun t30 ht30 => (xe_pure (en := PyData.bool) (x_cmp ht29 ht30 (k_ne (en := (eT (eP PyData.int PyData.int))) (by decide))))) (x_call (es_cons (x_v rfl) es_nil) (c_Lcorners (n + 12) _)))) (x_call (es_cons (x_v rfl) es_nil) (c_corners (n + 12) _))))) (x_call (es_cons (x_v rfl) es_nil) (c_boxes (n + 12) _))))) (x_call (es_cons (x_v rfl) es_nil) (c_shape_of (n + 12) _))) ?_ ?_
  · skip
    exact sb_ret0 (xe_pure (en := PyData.bool) (x_k (d := .bool false))) (fun _ => rfl)
  refine sb_own (en := (eL PyData.int)) (xe_pure (en := (eL PyData.int)) (x_lstL (en := PyData.int) (et_nil (en := PyData.int)) (Nat.le_of_ble_eq_true rfl))) (fun _ => rfl) fun columns34 => ?_
  refine sb_seqN (R := fun (s36 : (List Int)) ρ => ∃ j6 j7 j9 : Slot, ρ = [.val ((eL PyData.int) script1), .val (PyData.int number3), .val ((eT PyData.int) s8), .val ((eT (eT PyData.int)) filling13), .val ((eT PyData.int) shape15), .own ((eL (eP PyData.int PyData.int)) s18), j6, j7, .own ((eL PyData.int) s36), j9, .non, .non, .non, .non]) (sb_loopM (enx := PyData.int) (s0 := (columns34 : (List Int))) (src_r1 (x_k (d := .int (9)))) ⟨_, _, _, rfl⟩ ?_) ?_
  · rintro s36 place37 _ ⟨j6, j7, j9, rfl⟩
    refine ⟨_, rfl, ?_⟩
    refine sb_set (en := PyData.int) (xe_bindr (en1 := (eL PyData.int)) (fun t39 ht39 => (xe_pure (en := PyData.int) (x_bt1 ht39 (k_lenL (en := PyData.int))))) (x_compF (enx := PyData.int) (en := PyData.int) (g := fun (long38 : Int) => (some (decide (place37 < long38)))) (f := fun (long38 : Int) => (some long38)) (src_T (en := PyData.int) (x_b rfl)) fun long38 _ => ⟨_, rfl, (xe_pure (en := PyData.bool) (x_cmp (x_b rfl) (x_b rfl) c_gt)), fun _ => (xe_pure (en := PyData.int) (x_v rfl))⟩)) fun many40 => ?_
    refine sb_own (en := (eL PyData.int)) (xe_bindr (en1 := (eL PyData.int)) (fun t41 ht41 => (x_catL (en := PyData.int) (x_o rfl) ht41)) (x_repL (en := PyData.int) (x_lstL (en := PyData.int) (et_cons (en := PyData.int) (x_v rfl) (et_nil (en := PyData.int))) (Nat.le_of_ble_eq_true rfl)) (x_bt1 (x_cmp (x_b rfl) (x_k (d := .int (0))) c_gt) k_intB))) (fun _ => rfl) fun columns43 => ?_
    exact sb_endN ⟨_, _, _, rfl⟩
  rintro s36 _ ⟨j6, j7, j9, rfl⟩
  refine sb_ifM (xe_bindr (en1 := (eT PyData.int)) (fun t45 ht45 => (x_orM (x_cmp ht45 (x_bt1 (x_o rfl) (k_tupL (en := PyData.int))) (k_ne (en := (eT PyData.int)) (by decide))) fun _ => (xe_bindr (en1 := (eT PyData.int)) (fun t46 ht46 => (xe_pure (en := PyData.bool) (x_cmp ht46 (x_b rfl) (k_ne (en := (eT PyData.int)) (by decide))))) (x_call (es_cons (x_bt1 (x_o rfl) (k_tupL (en := PyData.int))) es_nil) (c_turned (n + 12) _))))) (x_call (es_cons (x_v rfl) es_nil) (c_turned (n + 12) _))) ?_ ?_
  · skip
    exact sb_ret0 (xe_pure (en := PyData.bool) (x_k (d := .bool false))) (fun _ => rfl)
  refine sb_set (en := (eT PyData.int)) (x_call (es_cons (x_v rfl) es_nil) (c_Lreading (n + 12) _)) fun row50 => ?_
  refine sb_set (en := PyData.bool) (x_call (es_cons (x_v rfl) es_nil) (c_is_standard (n + 11) _)) fun found52 => ?_
  refine sb_set (en := PyData.bool) (xe_bindSr (en1 := PyData.int) (fun rg53 hrg53 => (xe_bindr (en1 := (eL PyData.int)) (fun t55 ht55 => (xe_pure (en := PyData.bool) (x_cmp ht55 (x_lstL (en := PyData.int) (et_nil (en := PyData.int)) (Nat.le_of_ble_eq_true rfl)) (k_eq (en := (eL PyData.int)) (by decide))))) (x_compF (enx := PyData.int) (en := PyData.int) (g := fun (k54 : Int) => (some (!decide (k54 ∈ row50)))) (f := fun (k54 : Int) => (some k54)) hrg53 fun k54 _ => ⟨_, rfl, (xe_pure (en := PyData.bool) (x_cmp (x_b rfl) (x_b rfl) (k_ninT (en := PyData.int) (by decide)))), fun _ => (xe_pure (en := PyData.int) (x_v rfl))⟩))) (src_r2 (x_k (d := .int (1))) (x_add (x_bt1 (x_b rfl) (k_lenT (en := PyData.int))) (x_k (d := .int (1)))))) fun due56 => ?_
  exact sb_ret0 (xe_bindr (en1 := (eT PyData.int)) (fun t57 ht57 => (xe_pure (en := PyData.bool) (x_and (x_cmp ht57 (x_b rfl) (k_eq (en := (eT PyData.int)) (by decide))) (x_and (x_bt1 (x_b rfl) k_isB') (x_cmp (x_b rfl) (x_b rfl) (k_eq (en := PyData.bool) (by decide))))))) (x_call (es_cons (x_v rfl) es_nil) (c_reading (n + 12) _))) (fun _ => rfl)
end BP
/-! Rows, numbers pushed into rows: plain Lean. -/
namespace BP
/-- a number put into a row; what it pushes out -/
def bump : List Int → Int → List Int × Option Int
  | [], x => ([x], none)
  | y :: r, x => if x < y then (x :: r, some y) else ((y :: (bump r x).1), (bump r x).2)
def ins : List (List Int) → Int → List (List Int)
  | [], x => [[x]]
  | r :: rs, x => match (bump r x).2 with
    | none => (bump r x).1 :: rs
    | some y => (bump r x).1 :: ins rs y
def insL (T : List (List Int)) (w : List Int) : List (List Int) := w.foldl ins T
def mk (w : List Int) : List (List Int) := insL [] w
/-- the reading: the last row first -/
def rdg : List (List Int) → List Int
  | [] => []
  | r :: rs => rdg rs ++ r
def Inc (r : List Int) : Prop := r.Pairwise (· ≤ ·)
/-- below each number stands a greater one -/
def Col : List Int → List Int → Prop
  | _, [] => True
  | [], _ :: _ => False
  | a :: r, b :: s => a < b ∧ Col r s
def Tab : List (List Int) → Prop
  | [] => True
  | r :: rs => r ≠ [] ∧ Inc r ∧ Col r (rs.headD []) ∧ Tab rs
def place : List Int → Int → Nat
  | [], _ => 0
  | y :: r, x => if x < y then 0 else place r x + 1
def way : List (List Int) → Int → List Nat
  | [], _ => [0]
  | r :: rs, x => place r x :: (match (bump r x).2 with
    | none => []
    | some y => way rs y)
theorem place_le : ∀ (r : List Int) (x : Int), place r x ≤ r.length
  | [], _ => Nat.le_refl _
  | y :: r, x => by
    unfold place
    split
    · simp
    · have := place_le r x; simp; omega
theorem bump_eq : ∀ (r : List Int) (x : Int), bump r x = (r.take (place r x) ++ x :: r.drop (place r x + 1), r[place r x]?)
  | [], x => rfl
  | y :: r, x => by
    unfold bump place
    split
    · simp
    · simp [bump_eq r x]
theorem bump_lt {a x : Int} (r : List Int) (h : x < a) : bump (a :: r) x = (x :: r, some a) := by rw [bump, if_pos h]
theorem bump_ge {a x : Int} (r : List Int) (h : ¬ x < a) : bump (a :: r) x = (a :: (bump r x).1, (bump r x).2) := by rw [bump, if_neg h]
theorem bump_gt : ∀ {r : List Int} {x y : Int}, (bump r x).2 = some y → x < y
  | [], _, _, h => by cases h
  | a :: r, x, y, h => by
    unfold bump at h
    split at h
    · cases h; assumption
    · exact bump_gt h
theorem bump_ne (r : List Int) (x : Int) : (bump r x).1 ≠ [] := by
  cases r with
  | nil => intro h; cases h
  | cons a r => unfold bump; split <;> (intro h; cases h)
theorem bump_mem : ∀ {r : List Int} {x z : Int}, z ∈ (bump r x).1 → z = x ∨ z ∈ r
  | [], x, z, h => by simp [bump] at h; exact .inl h
  | a :: r, x, z, h => by
    unfold bump at h
    split at h
    · rcases List.mem_cons.mp h with h | h
      · exact .inl h
      · exact .inr (List.mem_cons_of_mem _ h)
    · rcases List.mem_cons.mp h with h | h
      · exact .inr (h ▸ List.mem_cons_self)
      · exact (bump_mem h).imp id (List.mem_cons_of_mem _)
theorem bump_perm : ∀ (r : List Int) (x : Int), ((bump r x).2.toList ++ (bump r x).1).Perm (x :: r)
  | [], x => .refl _
  | a :: r, x => by
    unfold bump
    split
    · exact .swap _ _ _
    · have h := bump_perm r x
      show ((bump r x).2.toList ++ a :: (bump r x).1).Perm (x :: a :: r)
      exact (List.perm_middle).trans ((h.cons a).trans (.swap _ _ _))
theorem bump_inc : ∀ {r : List Int} {x : Int}, Inc r → Inc (bump r x).1
  | [], x, _ => List.pairwise_singleton _ _
  | a :: r, x, h => by
    have h' := List.pairwise_cons.mp h
    unfold bump
    split
    · rename_i hx
      exact List.pairwise_cons.mpr ⟨fun z hz => by have := h'.1 z hz; omega, h'.2⟩
    · rename_i hx
      refine List.pairwise_cons.mpr ⟨fun z hz => ?_, bump_inc h'.2⟩
      rcases bump_mem hz with rfl | hz
      · omega
      · exact h'.1 z hz
theorem col_nil (r : List Int) : Col r [] := by cases r <;> exact trivial
theorem col_len : ∀ {r s : List Int}, Col r s → s.length ≤ r.length
  | _, [], _ => Nat.zero_le _
  | [], _ :: _, h => h.elim
  | a :: r, b :: s, h => by have := col_len h.2; simp; omega
theorem col_bump : ∀ {r s : List Int} (x : Int), Col r s → Col (bump r x).1 s
  | r, [], _, _ => col_nil _
  | [], _ :: _, _, h => h.elim
  | a :: r, b :: s, x, h => by
    unfold bump
    split
    · exact ⟨by have := h.1; omega, h.2⟩
    · exact ⟨h.1, col_bump x h.2⟩
theorem col_bump2 : ∀ {r s : List Int} {x y : Int}, Col r s → (bump r x).2 = some y → Col (bump r x).1 (bump s y).1
  | [], _, _, _, _, h => by cases h
  | a :: r, s, x, y, c, h => by
    unfold bump at h
    split at h
    · rename_i hx
      cases h
      have e : (bump (a :: r) x).1 = x :: r := by rw [bump_lt _ hx]
      rw [e]
      cases s with
      | nil => exact ⟨hx, col_nil _⟩
      | cons b s =>
        have e2 : (bump (b :: s) a).1 = a :: s := by rw [bump_lt _ c.1]
        rw [e2]
        exact ⟨hx, c.2⟩
    · rename_i hx
      have e : (bump (a :: r) x).1 = a :: (bump r x).1 := by rw [bump_ge _ hx]
      rw [e]
      have hy := bump_gt h
      cases s with
      | nil => exact ⟨by omega, col_nil _⟩
      | cons b s =>
        by_cases hb : y < b
        · have e2 : (bump (b :: s) y).1 = y :: s := by rw [bump_lt _ hb]
          rw [e2]
          exact ⟨by omega, col_bump x c.2⟩
        · have e2 : (bump (b :: s) y).1 = b :: (bump s y).1 := by rw [bump_ge _ hb]
          rw [e2]
          exact ⟨c.1, col_bump2 c.2 h⟩
theorem ins_head (T : List (List Int)) (x : Int) : (ins T x).headD [] = (bump (T.headD []) x).1 := by
  cases T with
  | nil => rfl
  | cons r rs => unfold ins; split <;> rfl
theorem tab_ins : ∀ {T : List (List Int)} (x : Int), Tab T → Tab (ins T x)
  | [], x, _ => ⟨by simp, List.pairwise_singleton _ _, col_nil _, trivial⟩
  | r :: rs, x, ⟨h1, h2, h3, h4⟩ => by
    unfold ins
    split
    · exact ⟨bump_ne _ _, bump_inc h2, col_bump x h3, h4⟩
    · rename_i y hy
      refine ⟨bump_ne _ _, bump_inc h2, ?_, tab_ins y h4⟩
      rw [ins_head]
      exact col_bump2 h3 hy
theorem tab_insL {T : List (List Int)} (h : Tab T) (w : List Int) : Tab (insL T w) := by
  unfold insL
  induction w generalizing T with
  | nil => exact h
  | cons x w ih => exact ih (tab_ins x h)
theorem tab_mk (w : List Int) : Tab (mk w) := tab_insL (T := []) trivial w
theorem rdg_ins : ∀ (T : List (List Int)) (x : Int), (rdg (ins T x)).Perm (x :: rdg T)
  | [], x => .refl _
  | r :: rs, x => by
    have hp := bump_perm r x
    unfold ins
    split
    · rename_i hn
      rw [hn] at hp
      show (rdg rs ++ (bump r x).1).Perm (x :: (rdg rs ++ r))
      have hp : (bump r x).1.Perm (x :: r) := hp
      exact (hp.append_left _).trans List.perm_middle
    · rename_i y hy
      rw [hy] at hp
      have hp : (y :: (bump r x).1).Perm (x :: r) := hp
      show (rdg (ins rs y) ++ (bump r x).1).Perm (x :: (rdg rs ++ r))
      have h1 := (rdg_ins rs y).append_right (bump r x).1
      refine h1.trans ?_
      show (y :: (rdg rs ++ (bump r x).1)).Perm _
      exact List.perm_middle.symm.trans ((hp.append_left _).trans List.perm_middle)
theorem rdg_insL (T : List (List Int)) (w : List Int) : (rdg (insL T w)).Perm (w ++ rdg T) := by
  unfold insL
  induction w generalizing T with
  | nil => exact .refl _
  | cons x w ih => exact (ih (ins T x)).trans (((rdg_ins T x).append_left w).trans List.perm_middle)
theorem rdg_mk (w : List Int) : (rdg (mk w)).Perm w := by
  have := rdg_insL [] w
  rw [show rdg [] = ([] : List Int) from rfl, List.append_nil] at this
  exact this
def lens (T : List (List Int)) : List Nat := T.map List.length
theorem rdg_len (T : List (List Int)) : (rdg T).length = (lens T).sum := by
  induction T with
  | nil => rfl
  | cons r rs ih =>
    have : (rdg (r :: rs)).length = (rdg rs).length + r.length := List.length_append
    rw [this, ih]
    simp [lens]
    omega
theorem lens_mk (w : List Int) : (lens (mk w)).sum = w.length := by rw [← rdg_len, (rdg_mk w).length_eq]
/-- a shape: none greater than the one ahead of it, none 0 -/
def Part : List Nat → Prop
  | [] => True
  | a :: l => 0 < a ∧ l.headD 0 ≤ a ∧ Part l
theorem part_lens : ∀ {T : List (List Int)}, Tab T → Part (lens T)
  | [], _ => trivial
  | r :: rs, ⟨h1, _, h3, h4⟩ => by
    refine ⟨List.length_pos_iff.mpr h1, ?_, part_lens h4⟩
    cases rs with
    | nil => exact Nat.zero_le _
    | cons s rs => exact col_len h3
/-! all shapes of so many boxes, first rows no longer than most -/
def parts : Nat → Nat → Nat → List (List Nat)
  | 0, _, _ => []
  | _ + 1, 0, _ => [[]]
  | f + 1, n + 1, most => (List.range (min (n + 1) most)).flatMap fun i => (parts f (n - i) (i + 1)).map ((i + 1) :: ·)
theorem mem_parts : ∀ (f : Nat) (l : List Nat) (most : Nat), Part l → l.sum < f → l.headD 0 ≤ most → l ∈ parts f l.sum most
  | 0, _, _, _, h, _ => absurd h (Nat.not_lt_zero _)
  | f + 1, [], most, _, _, _ => by simp [parts]
  | f + 1, a :: l, most, ⟨h1, h2, h3⟩, h, hm => by
    have hs : (a :: l).sum = a + l.sum := by simp
    have hm : a ≤ most := hm
    rw [hs] at h ⊢
    obtain ⟨i, rfl⟩ : ∃ i, a = i + 1 := ⟨a - 1, by omega⟩
    have e : i + 1 + l.sum = (i + l.sum) + 1 := by omega
    rw [e, parts]
    rw [List.mem_flatMap]
    refine ⟨i, by rw [List.mem_range]; omega, ?_⟩
    rw [List.mem_map]
    refine ⟨l, ?_, rfl⟩
    have : i + l.sum - i = l.sum := by omega
    rw [this]
    exact mem_parts f l (i + 1) h3 (by omega) h2
/-- all shapes of up to so many boxes -/
def partsTo (n : Nat) : List (List Nat) := (List.range (n + 1)).flatMap fun k => parts (n + 1) k n
theorem mem_partsTo {l : List Nat} {n : Nat} (h : Part l) (hs : l.sum ≤ n) : l ∈ partsTo n := by
  unfold partsTo
  rw [List.mem_flatMap]
  refine ⟨l.sum, by rw [List.mem_range]; omega, mem_parts _ _ _ h (by omega) ?_⟩
  cases l with
  | nil => exact Nat.zero_le _
  | cons a l => simp at hs ⊢; omega
end BP
namespace BP
open PySem
theorem ob {α β : Type} (a : α) (f : α → Option β) : (some a).bind f = f a := Eq.trans rfl rfl
theorem mulO_small {i j : Int} (h : -(2 ^ 64) < i) (h' : i < 2 ^ 64) : mulO i j = some (i * j) := by
  unfold mulO
  rw [if_pos (.inl (small_lt h h'))]
theorem modO_pos {i j : Int} (h : 0 < j) : modO i j = some (i % j) := by unfold modO; rw [if_pos h]
theorem fdivO_pos {i j : Int} (h : 0 < j) (h' : j < 1073741824) : fdivO i j = some (i / j) := by unfold fdivO; rw [if_pos ⟨h, h'⟩]
theorem inM_of {j : Int} (h : -1000000 ≤ j) (h' : j ≤ 1000000) : inM j = true := inM_iff.mpr ⟨h, h'⟩
theorem rg1O_of {j : Int} (h : -1000000 ≤ j) (h' : j ≤ 1000000) : rg1O j = some (rangeI 0 j) := by unfold rg1O; rw [if_pos (inM_of h h')]
theorem rg2O_of {i j : Int} (h : -1000000 ≤ i) (h' : i ≤ 1000000) (g : -1000000 ≤ j) (g' : j ≤ 1000000) : rg2O i j = some (rangeI i j) := by unfold rg2O; rw [if_pos ⟨inM_of h h', inM_of g g'⟩]
theorem catO_of {α : Type} {xs ys : List α} (h : xs.length + ys.length ≤ 1000000) : catO xs ys = some (xs ++ ys) := by unfold catO; rw [if_pos h]
theorem compO_map {α β : Type} {f : α → β} {xs : List α} (h : xs.length ≤ 1000000) : compO (fun x => some (f x)) xs = some (xs.map f) := by
  unfold compO
  rw [if_pos h]
  clear h
  induction xs with
  | nil => rfl
  | cons x xs ih => rw [mapO, ih]; rfl
theorem mapO_of {α β : Type} {f : α → Option β} {g : α → β} : ∀ {xs : List α}, (∀ x ∈ xs, f x = some (g x)) → mapO f xs = some (xs.map g)
  | [], _ => rfl
  | x :: xs, h => by rw [mapO, h x List.mem_cons_self, mapO_of fun y hy => h y (List.mem_cons_of_mem _ hy)]; rfl
theorem compO_of {α β : Type} {f : α → Option β} {g : α → β} {xs : List α} (h : xs.length ≤ 1000000) (hf : ∀ x ∈ xs, f x = some (g x)) : compO f xs = some (xs.map g) := by
  unfold compO
  rw [if_pos h, mapO_of hf]
theorem filO_of {α β : Type} {c : α → Option Bool} {f : α → Option β} {p : α → Bool} {g : α → β} : ∀ {xs : List α}, (∀ x ∈ xs, c x = some (p x)) → (∀ x ∈ xs, p x = true → f x = some (g x)) → filO c f xs = some ((xs.filter p).map g)
  | [], _, _ => rfl
  | x :: xs, h, h' => by
    rw [filO, h x List.mem_cons_self, filO_of (fun y hy => h y (List.mem_cons_of_mem _ hy)) fun y hy => h' y (List.mem_cons_of_mem _ hy)]
    cases hp : p x with
    | false => simp [hp]
    | true => simp [hp, h' x List.mem_cons_self hp]
theorem compF_of {α β : Type} {c : α → Option Bool} {f : α → Option β} {p : α → Bool} {g : α → β} {xs : List α} (h : xs.length ≤ 1000000) (hc : ∀ x ∈ xs, c x = some (p x)) (hf : ∀ x ∈ xs, p x = true → f x = some (g x)) : compF c f xs = some ((xs.filter p).map g) := by
  unfold compF
  rw [if_pos h, filO_of hc hf]
theorem mem_rangeI {lo hi x : Int} : x ∈ rangeI lo hi ↔ lo ≤ x ∧ x < hi := by
  unfold rangeI
  rw [List.mem_map]
  constructor
  · rintro ⟨i, hi', rfl⟩
    rw [List.mem_range] at hi'
    omega
  · rintro ⟨h1, h2⟩
    exact ⟨(x - lo).toNat, by rw [List.mem_range]; omega, by omega⟩
theorem len_rangeI (lo hi : Int) : (rangeI lo hi).length = (hi - lo).toNat := by unfold rangeI; simp
theorem atI_mem {α : Type} {xs : List α} {i : Int} (h0 : 0 ≤ i) (h : i < xs.length) : ∃ x, L2.atI xs i = some x ∧ x ∈ xs := atI_int h0 h

/-! the numbers of the laws -/
theorem cell_ok (s : List Int) {k : Int} (hk : 0 ≤ k) : ∃ c, G_Lcell_at s k = some c := by
  unfold G_Lcell_at
  by_cases h : k < s.length
  · obtain ⟨x, hx, _⟩ := atI_int hk h
    exact ⟨x, by simp [h, hx]⟩
  · exact ⟨0, by simp [h]⟩
theorem mixed_ok (s : List Int) {k : Int} (hk : 0 ≤ k) : ∃ n, G_Lmixed s k = some n ∧ 0 ≤ n ∧ n < 2147483629 := by
  obtain ⟨c, hc⟩ := cell_ok s hk
  unfold G_Lmixed
  rw [hc, ob, ob, mulO_small (by omega) (by omega), ob]
  exact ⟨_, rfl, by omega, by omega⟩
theorem drawn_ok (n k : Int) : ∃ r, G_Ldrawn n k = some r ∧ 0 ≤ r ∧ r < 2147483629 := by
  unfold G_Ldrawn
  rw [ob, mulO_small (by omega) (by omega), ob]
  exact ⟨_, rfl, by omega, by omega⟩
/-- a word: its length, its numbers -/
structure WordOk (most : Int) (w : List Int) : Prop where
  len : (w.length : Int) ≤ most
  num : ∀ x ∈ w, 1 ≤ x ∧ x ≤ 9
theorem word_ok {n most : Int} (hn : 0 ≤ n) (h0 : 0 ≤ most) (h1 : most ≤ 100) : ∃ w, G_Lword n most = some w ∧ WordOk most w := by
  obtain ⟨a, ha, hm⟩ := atI_mem (xs := [(9 : Int), 3, 5, 2]) (i := n / 16 % 4) (by omega) (by simp; omega)
  have hb : 2 ≤ a ∧ a ≤ 9 := by simp at hm; omega
  have hl := Int.emod_lt_of_pos n (show 0 < most + 1 by omega)
  have hl0 := Int.emod_nonneg n (show most + 1 ≠ 0 by omega)
  unfold G_Lword
  simp only [ha, ob, modO_pos (show 0 < 10 - a by omega), modO_pos (show 0 < most + 1 by omega), rg1O_of (show -1000000 ≤ n % (most + 1) by omega) (show n % (most + 1) ≤ 1000000 by omega)]
  have hc : ∀ x ∈ rangeI 0 (n % (most + 1)), ((G_Ldrawn n x).bind fun t10 => (modO (t10 / (4 : Int)) a).bind fun t11 => some (1 + n / 64 % (10 - a) + t11)) = some (1 + n / 64 % (10 - a) + ((G_Ldrawn n x).getD 0) / 4 % a) := fun x _ => by
    obtain ⟨r, hr, _⟩ := drawn_ok n x
    rw [hr, ob, modO_pos (by omega)]
    rfl
  rw [compO_of (by rw [len_rangeI]; omega) hc]
  refine ⟨_, rfl, ?_, fun y hy => ?_⟩
  · rw [List.length_map, len_rangeI]; omega
  · obtain ⟨x, hx, rfl⟩ := List.mem_map.mp hy
    have h1 := Int.emod_lt_of_pos (n / 64) (show 0 < 10 - a by omega)
    have h2 := Int.emod_nonneg (n / 64) (show 10 - a ≠ 0 by omega)
    have h3 := Int.emod_lt_of_pos ((G_Ldrawn n x).getD 0 / 4) (show 0 < a by omega)
    have h4 := Int.emod_nonneg ((G_Ldrawn n x).getD 0 / 4) (show a ≠ 0 by omega)
    omega
end BP
namespace BP
open PySem
def G_Lcounts (number1 : Int) (many2 : Int) : Option (List Int) :=
  (repO ((1 : Int) + (number1 % (5 : Int))) [(0 : Int)]).bind fun found4 => ((rg1O many2).bind fun xs15 => foldO (fun (s6 : (List Int)) (k7 : Int) => ((G_Ldrawn number1 ((80 : Int) + k7)).bind fun t8 => (modO (t8 / (4 : Int)) (s6.length : Int))).bind fun at10 => ((some at10).bind fun i12 => ((L2.atI s6 at10).bind fun t11 => (some (t11 + (1 : Int)))).bind fun y13 => setO s6 i12 y13).bind fun found14 => some found14) xs15 found4).bind fun (s6 : (List Int)) => (some ((number1 / (8 : Int)) % (6 : Int))).bind fun kind16 => (modO (number1 / (64 : Int)) (s6.length : Int)).bind fun at18 => ((if (decide (kind16 = (0 : Int))) = true then ((L2.atI s6 at18).bind fun t19 => (some (decide (t19 < (6 : Int))))) else some false).bind fun t21 => if t21 = true then ((some at18).bind fun i24 => ((L2.atI s6 at18).bind fun t23 => (some (t23 + (1 : Int)))).bind fun y25 => setO s6 i24 y25).bind fun found26 => some found26 else some s6).bind fun (s22 : (List Int)) => ((if (decide (kind16 = (1 : Int))) = true then ((L2.atI s22 at18).bind fun t27 => (some (decide ((0 : Int) < t27)))) else some false).bind fun t29 => if t29 = true then ((some at18).bind fun i32 => ((L2.atI s22 at18).bind fun t31 => (some (t31 - (1 : Int)))).bind fun y33 => setO s22 i32 y33).bind fun found34 => some found34 else some s22).bind fun (s30 : (List Int)) => (some s30)
theorem c_Lcounts (n : Nat) (number1 : Int) (many2 : Int) : XE (callF T0 (n + 2) 134 [PyData.int number1, PyData.int many2]) (eT PyData.int) (G_Lcounts number1 many2) := by
  unfold G_Lcounts
  refine fn_of (n := n + 1) (fn := F_Lcounts) (ρ := [.val (PyData.int number1), .val (PyData.int many2), .non, .non, .non, .non]) rfl rfl rfl ?_
  refine sb_own (en := (eL PyData.int)) (x_repL (en := PyData.int) (x_lstL (en := PyData.int) (et_cons (en := PyData.int) (x_k (d := .int (0))) (et_nil (en := PyData.int))) (Nat.le_of_ble_eq_true rfl)) (x_add (x_k (d := .int (1))) (x_modk (x_b rfl) (x_k (d := .int (5))) (by decide)))) (fun _ => rfl) fun found4 => ?_
  refine sb_seqN (R := fun (s6 : (List Int)) ρ => ∃ (j3 : Slot) (j4 : Slot), ρ = [.val (PyData.int number1), .val (PyData.int many2), .own ((eL PyData.int) s6), j3, j4, .non]) (sb_loopM (enx := PyData.int) (s0 := (found4 : (List Int))) (src_r1 (x_v rfl)) ⟨_, _, rfl⟩ ?_) ?_
  · rintro s6 k7 _ ⟨j3, j4, rfl⟩
    refine ⟨_, rfl, ?_⟩
    refine sb_ownV (en := PyData.int) (xe_bindr (en1 := PyData.int) (fun t8 ht8 => (x_mod (x_fdivk ht8 (x_k (d := .int (4))) (by decide)) (x_bt1 (x_o rfl) (k_lenL (en := PyData.int))))) (x_call (es_cons (x_v rfl) (es_cons (x_add (x_k (d := .int (80))) (x_b rfl)) es_nil)) (c_Ldrawn n _ _))) (fun _ => rfl) fun at10 => ?_
    refine sb_fzv rfl ?_
    refine sb_fzn ?_
    refine sb_putMM (en := PyData.int) rfl (xe_pure (en := PyData.int) (x_v rfl)) (xe_bindr (en1 := PyData.int) (fun t11 ht11 => (xe_pure (en := PyData.int) (x_add ht11 (x_k (d := .int (1)))))) (x_ixL (en := PyData.int) (x_o rfl) (x_b rfl))) fun found14 => ?_
    exact sb_endN ⟨_, _, rfl⟩
  rintro s6 _ ⟨j3, j4, rfl⟩
  refine sb_ownV (en := PyData.int) (xe_pure (en := PyData.int) (x_modk (x_fdivk (x_b rfl) (x_k (d := .int (8))) (by decide)) (x_k (d := .int (6))) (by decide))) (fun _ => rfl) fun kind16 => ?_
  refine sb_ownV (en := PyData.int) (x_mod (x_fdivk (x_b rfl) (x_k (d := .int (64))) (by decide)) (x_bt1 (x_o rfl) (k_lenL (en := PyData.int)))) (fun _ => rfl) fun at18 => ?_
  refine sb_seqN (R := fun (s22 : (List Int)) ρ => ∃ (j3 : Slot), ρ = [.val (PyData.int number1), .val (PyData.int many2), .own ((eL PyData.int) s22), j3, .val (PyData.int at18), .val (PyData.int kind16)]) (sb_iteM (x_andM (x_cmp (x_b rfl) (x_k (d := .int (0))) (k_eq (en := PyData.int) (by decide))) fun _ => (xe_bindr (en1 := PyData.int) (fun t19 ht19 => (xe_pure (en := PyData.bool) (x_cmp ht19 (x_k (d := .int (6))) c_lt))) (x_ixL (en := PyData.int) (x_o rfl) (x_b rfl)))) ?_ ?_) ?_
  · skip
    refine sb_fzv rfl ?_
    refine sb_fzn ?_
    refine sb_putMM (en := PyData.int) rfl (xe_pure (en := PyData.int) (x_v rfl)) (xe_bindr (en1 := PyData.int) (fun t23 ht23 => (xe_pure (en := PyData.int) (x_add ht23 (x_k (d := .int (1)))))) (x_ixL (en := PyData.int) (x_o rfl) (x_b rfl))) fun found26 => ?_
    exact sb_endN ⟨_, rfl⟩
  · skip
    exact sb_endN ⟨_, rfl⟩
  rintro s22 _ ⟨j3, rfl⟩
  refine sb_seqN (R := fun (s30 : (List Int)) ρ => ∃ (j3 : Slot), ρ = [.val (PyData.int number1), .val (PyData.int many2), .own ((eL PyData.int) s30), j3, .val (PyData.int at18), .val (PyData.int kind16)]) (sb_iteM (x_andM (x_cmp (x_b rfl) (x_k (d := .int (1))) (k_eq (en := PyData.int) (by decide))) fun _ => (xe_bindr (en1 := PyData.int) (fun t27 ht27 => (xe_pure (en := PyData.bool) (x_cmp ht27 (x_k (d := .int (0))) c_gt))) (x_ixL (en := PyData.int) (x_o rfl) (x_b rfl)))) ?_ ?_) ?_
  · skip
    refine sb_fzv rfl ?_
    refine sb_fzn ?_
    refine sb_putMM (en := PyData.int) rfl (xe_pure (en := PyData.int) (x_v rfl)) (xe_bindr (en1 := PyData.int) (fun t31 ht31 => (xe_pure (en := PyData.int) (x_sub ht31 (x_k (d := .int (1)))))) (x_ixL (en := PyData.int) (x_o rfl) (x_b rfl))) fun found34 => ?_
    exact sb_endN ⟨_, rfl⟩
  · skip
    exact sb_endN ⟨_, rfl⟩
  rintro s30 _ ⟨j3, rfl⟩
  exact sb_ret0 (xe_pure (en := (eT PyData.int)) (x_bt1 (x_o rfl) (k_tupL (en := PyData.int)))) (fun _ => rfl)
end BP
/-! Counts drawn: their sum. -/
namespace BP
open PySem
theorem ixN_natL {n : Nat} {i : Nat} (h : i < n) : L2.ixN n (i : Int) = some i := by
  unfold L2.ixN
  rw [if_pos (by omega), if_pos (by omega)]
  simp
structure CntS (m : Nat) (t : Int) (s : List Int) : Prop where
  len : s.length = m
  pos : ∀ x ∈ s, 0 ≤ x
  sum : s.sum = t
theorem sum_set : ∀ {s : List Int} {j : Nat} {x v : Int}, s[j]? = some x → (s.set j v).sum = s.sum - x + v
  | [], j, x, v, h => by simp at h
  | a :: s, 0, x, v, h => by simp at h; subst h; simp; omega
  | a :: s, j + 1, x, v, h => by
    have := sum_set (s := s) (j := j) (x := x) (v := v) (by simpa using h)
    simp [this]; omega
theorem CntS.at {m : Nat} {t : Int} {s : List Int} (h : CntS m t s) (hm : 0 < m) (a : Int) : ∃ x j, L2.atI s (a % (m : Int)) = some x ∧ 0 ≤ x ∧ L2.ixN s.length (a % (m : Int)) = some j ∧ s[j]? = some x := by
  obtain ⟨x, hx, hm'⟩ := atI_mem (xs := s) (i := a % (m : Int)) (Int.emod_nonneg _ (by omega)) (by rw [h.len]; exact Int.emod_lt_of_pos _ (by omega))
  have h1 := Int.emod_nonneg a (show (m : Int) ≠ 0 by omega)
  have h2 := Int.emod_lt_of_pos a (show (0 : Int) < m by omega)
  obtain ⟨j, hj⟩ : ∃ j : Nat, a % (m : Int) = (j : Int) := ⟨(a % (m : Int)).toNat, by omega⟩
  have hix : L2.ixN s.length (a % (m : Int)) = some j := by rw [hj]; exact ixN_natL (by rw [h.len]; omega)
  refine ⟨x, j, hx, h.pos x hm', hix, ?_⟩
  unfold L2.atI at hx
  rw [hix] at hx
  exact hx
theorem CntS.put {m : Nat} {t : Int} {s : List Int} (h : CntS m t s) {j : Nat} {x v : Int} (hj : s[j]? = some x) (hv : 0 ≤ v) : CntS m (t - x + v) (s.set j v) where
  len := by rw [List.length_set]; exact h.len
  pos := fun x hx => by
    rcases List.mem_or_eq_of_mem_set hx with q | q
    · exact h.pos x q
    · rw [q]; exact hv
  sum := by rw [sum_set hj, h.sum]
theorem foldO_cnt {α σ : Type} {f : σ → α → Option σ} (P : Int → σ → Prop) : ∀ {xs : List α} {s : σ} {t : Int}, P t s → (∀ t s x, P t s → ∃ s', f s x = some s' ∧ P (t + 1) s') → ∃ s', foldO f xs s = some s' ∧ P (t + xs.length) s'
  | [], s, t, h, _ => ⟨s, rfl, by simpa using h⟩
  | x :: xs, s, t, h, hf => by
    obtain ⟨s', e, h'⟩ := hf t s x h
    obtain ⟨s2, e2, h2⟩ := foldO_cnt P (xs := xs) h' hf
    refine ⟨s2, by rw [foldO, e, ob, e2], ?_⟩
    have : t + ((x :: xs).length : Int) = t + 1 + (xs.length : Int) := by simp; omega
    rw [this]; exact h2
theorem lcounts_sum {n : Int} (hn : 0 ≤ n) {many : Int} (h0 : 0 ≤ many) (h1 : many ≤ 100) : ∃ (m : Nat) (t : Int) (c : List Int), G_Lcounts n many = some c ∧ (1 ≤ m ∧ m ≤ 5) ∧ (many - 1 ≤ t ∧ t ≤ many + 1) ∧ CntS m t c := by
  obtain ⟨m, hm, hm0⟩ : ∃ m : Nat, (1 : Int) + n % 5 = (m : Int) ∧ (1 ≤ m ∧ m ≤ 5) := ⟨(1 + n % 5).toNat, by omega, by omega⟩
  have hrep : repO ((1 : Int) + (n % (5 : Int))) [(0 : Int)] = some (List.replicate m 0) := by
    unfold repO
    rw [hm, if_pos ⟨by omega, by omega, by simp⟩]
    unfold repL
    simp [List.flatten_replicate_singleton]
  have base : CntS m 0 (List.replicate m 0) := ⟨by simp, fun x hx => by rw [List.eq_of_mem_replicate hx]; omega, by simp⟩
  have put : ∀ (t : Int) (s : List Int) (a d : Int), CntS m t s → (∀ x j, L2.atI s (a % (m : Int)) = some x → 0 ≤ x + d) → ∃ x s', L2.atI s (a % (m : Int)) = some x ∧ setO s (a % (m : Int)) (x + d) = some s' ∧ CntS m (t + d) s' ∧ 0 ≤ x := fun t s a d hs hv => by
    obtain ⟨x, j, hx, x0, hj, hg⟩ := hs.at (by omega) a
    refine ⟨x, s.set j (x + d), hx, by unfold setO; rw [hj]; rfl, ?_, x0⟩
    have := hs.put hg (hv x j hx)
    have e : t - x + (x + d) = t + d := by omega
    rw [e] at this
    exact this
  obtain ⟨s1, e1, k1⟩ := foldO_cnt (f := fun (s6 : (List Int)) (k7 : Int) => ((G_Ldrawn n ((80 : Int) + k7)).bind fun t8 => (modO (t8 / (4 : Int)) (s6.length : Int))).bind fun at10 => ((some at10).bind fun i12 => ((L2.atI s6 at10).bind fun t11 => (some (t11 + (1 : Int)))).bind fun y13 => setO s6 i12 y13).bind fun found14 => some found14) (CntS m) (xs := rangeI 0 many) base fun t s k hs => by
    obtain ⟨r, hr, r0, _⟩ := drawn_ok n (80 + k)
    obtain ⟨x, s', hx, hs', k', _⟩ := put t s (r / 4) 1 hs fun x j hx => by
      obtain ⟨y, j, hy, y0, _⟩ := hs.at (by omega) (r / 4)
      have := hx.symm.trans hy
      cases this
      omega
    exact ⟨s', by simp only [hr, ob, hs.len, modO_pos (show (0 : Int) < (m : Int) by omega), hx, hs'], k'⟩
  have hl : (0 : Int) + ((rangeI 0 many).length : Int) = many := by rw [len_rangeI]; omega
  rw [hl] at k1
  have hr1 := rg1O_of (j := many) (by omega) (by omega)
  obtain ⟨x1, j1, hx1, x10, _⟩ := k1.at (by omega) (n / 64)
  obtain ⟨y1, p1, hy1, hp1, kp1, _⟩ := put many s1 (n / 64) 1 k1 fun x j hx => by
    have := hx.symm.trans hx1
    cases this
    omega
  cases (hy1.symm.trans hx1)
  have c1 : ∃ t2 s2, ((if (decide (n / 8 % 6 = (0 : Int))) = true then ((L2.atI s1 (n / 64 % (m : Int))).bind fun t19 => (some (decide (t19 < (6 : Int))))) else some false).bind fun t21 => if t21 = true then ((some (n / 64 % (m : Int))).bind fun i24 => ((L2.atI s1 (n / 64 % (m : Int))).bind fun t23 => (some (t23 + (1 : Int)))).bind fun y25 => setO s1 i24 y25).bind fun found26 => some found26 else some s1) = some s2 ∧ CntS m t2 s2 ∧ (n / 8 % 6 = 0 ∧ t2 = many + 1 ∨ t2 = many) := by
    by_cases q : n / 8 % 6 = 0
    · by_cases q2 : x1 < 6
      · exact ⟨many + 1, p1, by simp [q, hx1, q2, hp1], kp1, .inl ⟨q, rfl⟩⟩
      · exact ⟨many, s1, by simp [q, hx1, q2], k1, .inr rfl⟩
    · exact ⟨many, s1, by simp [q], k1, .inr rfl⟩
  obtain ⟨t2, s2, e2, k2, ht2⟩ := c1
  obtain ⟨x2, j2, hx2, x20, _⟩ := k2.at (by omega) (n / 64)
  have c2 : ∃ t3 s3, ((if (decide (n / 8 % 6 = (1 : Int))) = true then ((L2.atI s2 (n / 64 % (m : Int))).bind fun t27 => (some (decide ((0 : Int) < t27)))) else some false).bind fun t29 => if t29 = true then ((some (n / 64 % (m : Int))).bind fun i32 => ((L2.atI s2 (n / 64 % (m : Int))).bind fun t31 => (some (t31 - (1 : Int)))).bind fun y33 => setO s2 i32 y33).bind fun found34 => some found34 else some s2) = some s3 ∧ CntS m t3 s3 ∧ (many - 1 ≤ t3 ∧ t3 ≤ many + 1) := by
    by_cases q : n / 8 % 6 = 1
    · by_cases q2 : 0 < x2
      · obtain ⟨y2, p2, hy2, hp2, kp2, _⟩ := put t2 s2 (n / 64) (-1) k2 fun x j hx => by
          have := hx.symm.trans hx2
          cases this
          omega
        cases (hy2.symm.trans hx2)
        have hp2' : setO s2 (n / 64 % (m : Int)) (x2 - 1) = some p2 := hp2
        exact ⟨t2 + -1, p2, by simp [q, hx2, q2, hp2'], kp2, by omega⟩
      · exact ⟨t2, s2, by simp [q, hx2, q2], k2, by omega⟩
    · exact ⟨t2, s2, by simp [q], k2, by omega⟩
  obtain ⟨t3, s3, e3, k3, ht3⟩ := c2
  refine ⟨m, t3, s3, ?_, hm0, ht3, k3⟩
  unfold G_Lcounts
  simp only [hrep, hr1, e1, k1.len, modO_pos (show (0 : Int) < (m : Int) by omega), ob]
  simp only [ob] at e1 e2 e3
  simp only [e1, ob, k1.len, modO_pos (show (0 : Int) < (m : Int) by omega), e2, e3]
/-- all lists of k numbers from 0 on with the sum m -/
def vecs : Nat → Nat → List (List Int)
  | 0, m => if m = 0 then [[]] else []
  | k + 1, m => (List.range (m + 1)).flatMap fun a => (vecs k (m - a)).map fun v => (a : Int) :: v
theorem mem_vecs : ∀ {k m : Nat} {c : List Int}, CntS k m c → c ∈ vecs k m
  | 0, m, c, h => by
    have e : c = [] := List.eq_nil_of_length_eq_zero h.len
    subst e
    have := h.sum
    simp at this
    have e : m = 0 := by omega
    subst e
    simp [vecs]
  | k + 1, m, [], h => by have := h.len; simp at this
  | k + 1, m, a :: c, h => by
    have ha := h.pos a List.mem_cons_self
    have hc : ∀ x ∈ c, 0 ≤ x := fun x hx => h.pos x (List.mem_cons_of_mem _ hx)
    have hs := h.sum
    have hl := h.len
    have h0 : 0 ≤ c.sum := by
      clear h hs hl
      induction c with
      | nil => simp
      | cons y c ih =>
        have := hc y List.mem_cons_self
        have := ih fun x hx => hc x (List.mem_cons_of_mem _ hx)
        simp; omega
    simp at hs hl
    unfold vecs
    rw [List.mem_flatMap]
    refine ⟨a.toNat, by rw [List.mem_range]; omega, ?_⟩
    rw [List.mem_map]
    have hk : CntS k ((m - a.toNat : Nat) : Int) c := ⟨hl, hc, by omega⟩
    exact ⟨c, mem_vecs hk, by congr 1; omega⟩
end BP
namespace BP
open PySem
def G_Lshapes : Nat → Int → Int → Option (List (List Int))
  | 0, _, _ => none
  | m + 1, many1, most2 =>
    if (decide (many1 = (0 : Int))) = true then (some [([] : List Int)]) else (some ([] : List (List Int))).bind fun found4 => ((rg2O (1 : Int) ((if most2 < many1 then most2 else many1) + (1 : Int))).bind fun xs14 => foldO (fun (s6 : (List (List Int))) (first7 : Int) => ((G_Lshapes m (many1 - first7) first7).bind fun t8 => ((compO (fun (rest9 : (List Int)) => (catO [first7] rest9)) t8).bind fun t11 => (catO s6 t11))).bind fun found13 => some found13) xs14 found4).bind fun (s6 : (List (List Int))) => (some s6)
theorem c_Lshapes (n : Nat) : ∀ (m : Nat) (many1 : Int) (most2 : Int), XE (callF T0 (n + m + 0) 126 [PyData.int many1, PyData.int most2]) (eL (eT PyData.int)) (G_Lshapes m many1 most2)
  | 0, _, _ => fun _ e => nomatch e
  | m + 1, many1, most2 => by
    unfold G_Lshapes
    show XE (callF T0 ((n + m + 0) + 1) 126 [PyData.int many1, PyData.int most2]) _ _
    refine fn_of (n := n + m + 0) (fn := F_Lshapes) (ρ := [.val (PyData.int many1), .val (PyData.int most2), .non, .non, .non]) rfl rfl rfl ?_
    refine sb_if (x_cmp (x_b rfl) (x_k (d := .int (0))) (k_eq (en := PyData.int) (by decide))) ?_ ?_
    · intro hc
      exact sb_ret0 (xe_pure (en := (eL (eT PyData.int))) (x_lstL (en := (eT PyData.int)) (et_cons (en := (eT PyData.int)) (x_tupT (en := PyData.int) (et_nil (en := PyData.int)) (Nat.le_of_ble_eq_true rfl)) (et_nil (en := (eT PyData.int)))) (Nat.le_of_ble_eq_true rfl))) (fun _ => rfl)
    intro hc
    refine sb_own (en := (eL (eT PyData.int))) (xe_pure (en := (eL (eT PyData.int))) (x_lstL (en := (eT PyData.int)) (et_nil (en := (eT PyData.int))) (Nat.le_of_ble_eq_true rfl))) (fun _ => rfl) fun found4 => ?_
    refine sb_seqN (R := fun (s6 : (List (List Int))) ρ => ∃ (j3 : Slot), ρ = [.val (PyData.int many1), .val (PyData.int most2), .own ((eL (eT PyData.int)) s6), j3, .non]) (sb_loopM (enx := PyData.int) (s0 := (found4 : (List (List Int)))) (src_r2 (x_k (d := .int (1))) (x_add (x_bt2 (x_b rfl) (x_b rfl) k_min) (x_k (d := .int (1))))) ⟨_, rfl⟩ ?_) ?_
    · rintro s6 first7 _ ⟨j3, rfl⟩
      refine ⟨_, rfl, ?_⟩
      refine sb_own (en := (eL (eT PyData.int))) (xe_bindr (en1 := (eL (eT PyData.int))) (fun t8 ht8 => (xe_bindr (en1 := (eL (eT PyData.int))) (fun t11 ht11 => (x_catL (en := (eT PyData.int)) (x_o rfl) ht11)) (x_comp (enx := (eT PyData.int)) (en := (eT PyData.int)) (f := fun (rest9 : (List Int)) => (catO [first7] rest9)) (src_L (en := (eT PyData.int)) ht8) fun rest9 _ => ⟨_, rfl, (x_catT (en := PyData.int) (x_tupT (en := PyData.int) (et_cons (en := PyData.int) (x_v rfl) (et_nil (en := PyData.int))) (Nat.le_of_ble_eq_true rfl)) (x_b rfl))⟩))) (x_call (es_cons (x_sub (x_b rfl) (x_b rfl)) (es_cons (x_v rfl) es_nil)) (c_Lshapes n m _ _))) (fun _ => rfl) fun found13 => ?_
      exact sb_endN ⟨_, rfl⟩
    rintro s6 _ ⟨j3, rfl⟩
    refine sb_fzo rfl ?_
    refine sb_fzn ?_
    exact sb_ret0 (xe_pure (en := (eL (eT PyData.int))) (x_v rfl)) (fun _ => rfl)
def G_Lshape (number1 : Int) (most2 : Int) : Option (List Int) :=
  ((modO number1 (most2 + (1 : Int))).bind fun t3 => (G_Lshapes 14 t3 (12 : Int))).bind fun some5 => ((modO (number1 / (16 : Int)) (some5.length : Int)).bind fun t6 => (L2.atI some5 t6))
theorem c_Lshape (n : Nat) (number1 : Int) (most2 : Int) : XE (callF T0 (n + 15) 128 [PyData.int number1, PyData.int most2]) (eT PyData.int) (G_Lshape number1 most2) := by
  unfold G_Lshape
  refine fn_of (n := n + 14) (fn := F_Lshape) (ρ := [.val (PyData.int number1), .val (PyData.int most2), .non]) rfl rfl rfl ?_
  refine sb_set (en := (eL (eT PyData.int))) (xe_bindr (en1 := PyData.int) (fun t3 ht3 => (x_call (es_cons ht3 (es_cons (x_k (d := .int (12))) es_nil)) (c_Lshapes n 14 _ _))) (x_mod (x_b rfl) (x_add (x_b rfl) (x_k (d := .int (1)))))) fun some5 => ?_
  exact sb_ret0 (xe_bindr (en1 := PyData.int) (fun t6 ht6 => (x_ixL (en := (eT PyData.int)) (x_b rfl) ht6)) (x_mod (x_fdivk (x_b rfl) (x_k (d := .int (16))) (by decide)) (x_bt1 (x_b rfl) (k_lenL (en := (eT PyData.int)))))) (fun _ => rfl)
end BP
/-! Shapes drawn: finitely many. -/
namespace BP
open PySem
def shTab (t : Int) (p : List Int → Bool) : Bool := match G_Lshapes 14 t 12 with
  | some L => decide (0 < L.length) && L.all p
  | none => false
theorem lshape_in {n m : Int} {p : List Int → Bool} (hm : 0 ≤ m) (hn : 0 ≤ n) (h : shTab (n % (m + 1)) p = true) : ∃ sh, G_Lshape n m = some sh ∧ p sh = true := by
  unfold shTab at h
  cases e : G_Lshapes 14 (n % (m + 1)) 12 with
  | none => rw [e] at h; cases h
  | some L =>
    rw [e] at h
    rw [Bool.and_eq_true, decide_eq_true_eq, List.all_eq_true] at h
    obtain ⟨h1, h2⟩ := h
    obtain ⟨s, hs, hmm⟩ := atI_mem (xs := L) (i := n / 16 % (L.length : Int)) (Int.emod_nonneg _ (by omega)) (Int.emod_lt_of_pos _ (by omega))
    refine ⟨s, ?_, h2 s hmm⟩
    unfold G_Lshape
    simp only [modO_pos (show (0 : Int) < m + 1 by omega), ob, e, modO_pos (show (0 : Int) < (L.length : Int) by omega), hs]
end BP
namespace BP
open PySem
def wholeB (lo hi : Int) (d : D) : Bool := match d with
  | .int i => decide (lo ≤ i) && decide (i ≤ hi)
  | _ => false
theorem m_is_whole (n : Nat) (d : D) (lo hi : Int) : callF T0 (n + 1) 0 [d, .int lo, .int hi] = .ok (.bool (wholeB lo hi d)) := by
  rw [call_eq (fn := F_is_whole) rfl rfl]
  cases d <;> simp [F_is_whole, isIntD, isBoolD, wholeB, startR, ev_k, ev_v, ev_b, gb_eq, gv_eq, slb_v, slb_o, slv_v, ev_tup, ev_lst, ev_bin, ev_cmp, ev_chain, ev_neg1, ev_not, ev_and, ev_or, ev_ife, ev_call, ev_bt, ev_ix, ev_sl, ev_rev, ev_dict0, evs_nil, evs_cons, eva_nil, eva_cons, bnd_ok, asB, pl_nil, pl_int, sl_t, sl_l, rv_t, rv_l, b_add, b_sub, b_fdiv, b_mod, c_lt, c_le, c_gt, c_ge, c_eqI, c_neI, c_neB, c_isN, c_notN, c_isB, c_notB, t_len, t_lenL, t_tup, t_tupT, t_lst, t_lstL, t_sum, t_all, t_any, t_sorted, t_isT, t_isI, t_isB, t_isS, t_max, t_min, t_int, t_intB, s_seqT, s_seqL, s_enT, s_enL, s_zipT, ss_nil, ss_cons, nx_nx, nx_rt, nx_ex, fl_ok, ownS_i, ownS_t, ownS_l, ownS_b, ownS_s, ownS_n, ownS_d, s_fz, s_set, s_setT, s_own, s_ite, s_ret, resF_rt, bindT_n, bindT_2, bindT_2l, bindT_3, optFl_some, frz_cons, frz_nil, wipe_cons, wipe_nil, mkT_nil, mkL_nil, mkT_1, mkT_2, mkT_3, mkT_4, mkL_6, List.getElem?_cons_zero, List.getElem?_cons_succ, List.set_cons_zero, List.set_cons_succ, List.map_cons, List.map_nil, List.cons_append, List.nil_append, List.replicate_succ, List.replicate_zero, List.length_cons, List.length_nil]
  rename_i i
  by_cases h : lo ≤ i <;> simp [h, startR, ev_k, ev_v, ev_b, gb_eq, gv_eq, slb_v, slb_o, slv_v, ev_tup, ev_lst, ev_bin, ev_cmp, ev_chain, ev_neg1, ev_not, ev_and, ev_or, ev_ife, ev_call, ev_bt, ev_ix, ev_sl, ev_rev, ev_dict0, evs_nil, evs_cons, eva_nil, eva_cons, bnd_ok, asB, pl_nil, pl_int, sl_t, sl_l, rv_t, rv_l, b_add, b_sub, b_fdiv, b_mod, c_lt, c_le, c_gt, c_ge, c_eqI, c_neI, c_neB, c_isN, c_notN, c_isB, c_notB, t_len, t_lenL, t_tup, t_tupT, t_lst, t_lstL, t_sum, t_all, t_any, t_sorted, t_isT, t_isI, t_isB, t_isS, t_max, t_min, t_int, t_intB, s_seqT, s_seqL, s_enT, s_enL, s_zipT, ss_nil, ss_cons, nx_nx, nx_rt, nx_ex, fl_ok, ownS_i, ownS_t, ownS_l, ownS_b, ownS_s, ownS_n, ownS_d, s_fz, s_set, s_setT, s_own, s_ite, s_ret, resF_rt, bindT_n, bindT_2, bindT_2l, bindT_3, optFl_some, frz_cons, frz_nil, wipe_cons, wipe_nil, mkT_nil, mkL_nil, mkT_1, mkT_2, mkT_3, mkT_4, mkL_6, List.getElem?_cons_zero, List.getElem?_cons_succ, List.set_cons_zero, List.set_cons_succ, List.map_cons, List.map_nil, List.cons_append, List.nil_append, List.replicate_succ, List.replicate_zero, List.length_cons, List.length_nil]
theorem whole_ints {lo hi : Int} : ∀ {xs : List D}, xs.all (wholeB lo hi) = true → ∃ ns : List Int, xs = ns.map PyData.int ∧ ∀ n ∈ ns, lo ≤ n ∧ n ≤ hi
  | [], _ => ⟨[], rfl, by simp⟩
  | x :: xs, h => by
    rw [List.all_cons, Bool.and_eq_true] at h
    obtain ⟨ns, rfl, hn⟩ := whole_ints h.2
    cases x with
    | int i =>
      refine ⟨i :: ns, rfl, fun n hm => ?_⟩
      rcases List.mem_cons.mp hm with rfl | hm
      · have := h.1
        simp only [wholeB, Bool.and_eq_true, decide_eq_true_eq] at this
        exact this
      · exact hn n hm
    | _ => cases h.1
/-! ### rows that fall, rise -/
def fallB (ns : List Int) : Bool := (adj ns).all fun p => decide (p.2 ≤ p.1)
def riseB (ns : List Int) : Bool := (adj ns).all fun p => decide (p.1 ≤ p.2)
theorem len_adj {α : Type} (xs : List α) : (adj xs).length ≤ xs.length := by rw [← zip_adj]; simp <;> omega
theorem m_falling (n : Nat) (ns : List Int) (hl : ns.length ≤ 1000) : callF T0 (n + 1) 1 [tpI ns] = .ok (.bool (fallB ns)) := by
  have hc : evalE (callF T0 n) (.comp (.cmp .ge (.b 1) (.b 2)) [1, 2] (.t [1, 2]) .zip2 [(.sl (.b 0) [] [(.neg (.k (.int 1)))]), (.sl (.b 0) [(.k (.int 1))] [])] []) [.val (tpI ns), .non, .non] =
      .ok (.list ((adj ns).map fun p => .bool (decide (p.2 ≤ p.1)))) := by
    refine ev_comp (items := (adj ns).map fun p => .tuple [.int p.1, .int p.2]) ?_ ?_ ?_
    · simp [startR, ev_k, ev_v, ev_b, gb_eq, gv_eq, slb_v, slb_o, slv_v, ev_tup, ev_lst, ev_bin, ev_cmp, ev_chain, ev_neg1, ev_not, ev_and, ev_or, ev_ife, ev_call, ev_bt, ev_ix, ev_sl, ev_rev, ev_dict0, evs_nil, evs_cons, eva_nil, eva_cons, bnd_ok, asB, pl_nil, pl_int, sl_t, sl_l, rv_t, rv_l, b_add, b_sub, b_fdiv, b_mod, c_lt, c_le, c_gt, c_ge, c_eqI, c_neI, c_neB, c_isN, c_notN, c_isB, c_notB, t_len, t_lenL, t_tup, t_tupT, t_lst, t_lstL, t_sum, t_all, t_any, t_sorted, t_isT, t_isI, t_isB, t_isS, t_max, t_min, t_int, t_intB, s_seqT, s_seqL, s_enT, s_enL, s_zipT, ss_nil, ss_cons, nx_nx, nx_rt, nx_ex, fl_ok, ownS_i, ownS_t, ownS_l, ownS_b, ownS_s, ownS_n, ownS_d, s_fz, s_set, s_setT, s_own, s_ite, s_ret, resF_rt, bindT_n, bindT_2, bindT_2l, bindT_3, optFl_some, frz_cons, frz_nil, wipe_cons, wipe_nil, mkT_nil, mkL_nil, mkT_1, mkT_2, mkT_3, mkT_4, mkL_6, List.getElem?_cons_zero, List.getElem?_cons_succ, List.set_cons_zero, List.set_cons_succ, List.map_cons, List.map_nil, List.cons_append, List.nil_append, List.replicate_succ, List.replicate_zero, List.length_cons, List.length_nil]
      rw [cut_init, cut_tail, ← List.map_dropLast, ← List.map_drop, zip2D_map, zip_adj]
    · rw [List.length_map]; have := len_adj ns; omega
    · refine (compL_map (f := fun d => match d with | .tuple [.int a, .int b] => .bool (decide (b ≤ a)) | _ => .none) ?_).trans ?_
      · intro x hx
        obtain ⟨p, _, rfl⟩ := List.mem_map.mp hx
        rw [turn_eq bindT_2]
        simp [startR, ev_k, ev_v, ev_b, gb_eq, gv_eq, slb_v, slb_o, slv_v, ev_tup, ev_lst, ev_bin, ev_cmp, ev_chain, ev_neg1, ev_not, ev_and, ev_or, ev_ife, ev_call, ev_bt, ev_ix, ev_sl, ev_rev, ev_dict0, evs_nil, evs_cons, eva_nil, eva_cons, bnd_ok, asB, pl_nil, pl_int, sl_t, sl_l, rv_t, rv_l, b_add, b_sub, b_fdiv, b_mod, c_lt, c_le, c_gt, c_ge, c_eqI, c_neI, c_neB, c_isN, c_notN, c_isB, c_notB, t_len, t_lenL, t_tup, t_tupT, t_lst, t_lstL, t_sum, t_all, t_any, t_sorted, t_isT, t_isI, t_isB, t_isS, t_max, t_min, t_int, t_intB, s_seqT, s_seqL, s_enT, s_enL, s_zipT, ss_nil, ss_cons, nx_nx, nx_rt, nx_ex, fl_ok, ownS_i, ownS_t, ownS_l, ownS_b, ownS_s, ownS_n, ownS_d, s_fz, s_set, s_setT, s_own, s_ite, s_ret, resF_rt, bindT_n, bindT_2, bindT_2l, bindT_3, optFl_some, frz_cons, frz_nil, wipe_cons, wipe_nil, mkT_nil, mkL_nil, mkT_1, mkT_2, mkT_3, mkT_4, mkL_6, List.getElem?_cons_zero, List.getElem?_cons_succ, List.set_cons_zero, List.set_cons_succ, List.map_cons, List.map_nil, List.cons_append, List.nil_append, List.replicate_succ, List.replicate_zero, List.length_cons, List.length_nil]
      · rw [List.map_map]; rfl
  rw [call_eq (fn := F_is_falling_row) rfl rfl]
  simp [F_is_falling_row, hc, all_map_bool, fallB, startR, ev_k, ev_v, ev_b, gb_eq, gv_eq, slb_v, slb_o, slv_v, ev_tup, ev_lst, ev_bin, ev_cmp, ev_chain, ev_neg1, ev_not, ev_and, ev_or, ev_ife, ev_call, ev_bt, ev_ix, ev_sl, ev_rev, ev_dict0, evs_nil, evs_cons, eva_nil, eva_cons, bnd_ok, asB, pl_nil, pl_int, sl_t, sl_l, rv_t, rv_l, b_add, b_sub, b_fdiv, b_mod, c_lt, c_le, c_gt, c_ge, c_eqI, c_neI, c_neB, c_isN, c_notN, c_isB, c_notB, t_len, t_lenL, t_tup, t_tupT, t_lst, t_lstL, t_sum, t_all, t_any, t_sorted, t_isT, t_isI, t_isB, t_isS, t_max, t_min, t_int, t_intB, s_seqT, s_seqL, s_enT, s_enL, s_zipT, ss_nil, ss_cons, nx_nx, nx_rt, nx_ex, fl_ok, ownS_i, ownS_t, ownS_l, ownS_b, ownS_s, ownS_n, ownS_d, s_fz, s_set, s_setT, s_own, s_ite, s_ret, resF_rt, bindT_n, bindT_2, bindT_2l, bindT_3, optFl_some, frz_cons, frz_nil, wipe_cons, wipe_nil, mkT_nil, mkL_nil, mkT_1, mkT_2, mkT_3, mkT_4, mkL_6, List.getElem?_cons_zero, List.getElem?_cons_succ, List.set_cons_zero, List.set_cons_succ, List.map_cons, List.map_nil, List.cons_append, List.nil_append, List.replicate_succ, List.replicate_zero, List.length_cons, List.length_nil]
/-- one comprehension over the items of a slot, each handed to a def -/
theorem comp_call {C : Nat → List D → Res D} {e : Ex} {ρ : Env} {i j : Nat} {d : D} {xs : List D} {f : D → D} (hρ : ρ[j]? = some (.val d)) (hd : seqS d = .ok xs) (hz : xs.length ≤ 1000000)
    (hf : ∀ x ∈ xs, evalE C e ((ρ.set i .non).set i (.val x)) = .ok (f x)) : evalE C (.comp e [i] (.n i) .seq [.b j] []) ρ = .ok (.list (xs.map f)) := by
  refine ev_comp (items := xs) ?_ hz (compL_map fun x hx => ?_)
  · rw [evs_cons, ev_b, gb_eq, hρ, slb_v, Res.bind_ok, evs_nil, Res.bind_ok, Res.bind_ok]
    exact hd
  · rw [turn_eq bindT_n]
    simp only [wipe_cons, wipe_nil]
    rw [eva_nil, Res.bind_ok, if_pos rfl, hf x hx, Res.bind_ok]
theorem comp_filt {C : Nat → List D → Res D} {e c : Ex} {ρ : Env} {i j : Nat} {d : D} {xs : List D} {f : D → D} {p : D → Bool} (hρ : ρ[j]? = some (.val d)) (hd : seqS d = .ok xs) (hz : xs.length ≤ 1000000)
    (hc : ∀ x ∈ xs, evalE C c ((ρ.set i .non).set i (.val x)) = .ok (.bool (p x))) (hf : ∀ x ∈ xs, p x = true → evalE C e ((ρ.set i .non).set i (.val x)) = .ok (f x)) :
    evalE C (.comp e [i] (.n i) .seq [.b j] [c]) ρ = .ok (.list ((xs.filter p).map f)) := by
  refine ev_comp (items := xs) ?_ hz (compL_filter fun x hx => ?_)
  · rw [evs_cons, ev_b, gb_eq, hρ, slb_v, Res.bind_ok, evs_nil, Res.bind_ok, Res.bind_ok]
    exact hd
  · rw [turn_eq bindT_n]
    simp only [wipe_cons, wipe_nil]
    rw [eva_cons, hc x hx, Res.bind_ok, asB, Res.bind_ok]
    cases hp : p x with
    | false => simp [startR, ev_k, ev_v, ev_b, gb_eq, gv_eq, slb_v, slb_o, slv_v, ev_tup, ev_lst, ev_bin, ev_cmp, ev_chain, ev_neg1, ev_not, ev_and, ev_or, ev_ife, ev_call, ev_bt, ev_ix, ev_sl, ev_rev, ev_dict0, evs_nil, evs_cons, eva_nil, eva_cons, bnd_ok, asB, pl_nil, pl_int, sl_t, sl_l, rv_t, rv_l, b_add, b_sub, b_fdiv, b_mod, c_lt, c_le, c_gt, c_ge, c_eqI, c_neI, c_neB, c_isN, c_notN, c_isB, c_notB, t_len, t_lenL, t_tup, t_tupT, t_lst, t_lstL, t_sum, t_all, t_any, t_sorted, t_isT, t_isI, t_isB, t_isS, t_max, t_min, t_int, t_intB, s_seqT, s_seqL, s_enT, s_enL, s_zipT, ss_nil, ss_cons, nx_nx, nx_rt, nx_ex, fl_ok, ownS_i, ownS_t, ownS_l, ownS_b, ownS_s, ownS_n, ownS_d, s_fz, s_set, s_setT, s_own, s_ite, s_ret, resF_rt, bindT_n, bindT_2, bindT_2l, bindT_3, optFl_some, frz_cons, frz_nil, wipe_cons, wipe_nil, mkT_nil, mkL_nil, mkT_1, mkT_2, mkT_3, mkT_4, mkL_6, List.getElem?_cons_zero, List.getElem?_cons_succ, List.set_cons_zero, List.set_cons_succ, List.map_cons, List.map_nil, List.cons_append, List.nil_append, List.replicate_succ, List.replicate_zero, List.length_cons, List.length_nil]
    | true => rw [if_pos rfl, eva_nil, Res.bind_ok, if_pos rfl, hf x hx hp, Res.bind_ok, if_pos rfl]
/-- a loop that leaves at the first item that fails -/
theorem loop_guard {turn : Env → D → Fl} {P : Env → Prop} {g : D → Bool} {d : D} : ∀ {xs : List D} {ρ : Env}, (∀ ρ x, P ρ → x ∈ xs → (g x = true → ∃ ρ', turn ρ x = .nx ρ' ∧ P ρ') ∧ (g x = false → turn ρ x = .rt d)) → P ρ →
    (xs.all g = true → ∃ ρ', loopL turn xs ρ = .nx ρ' ∧ P ρ') ∧ (xs.all g = false → loopL turn xs ρ = .rt d)
  | [], ρ, _, hp => ⟨fun _ => ⟨ρ, rfl, hp⟩, fun h => (by cases h)⟩
  | x :: xs, ρ, ht, hp => by
    obtain ⟨h1, h2⟩ := ht ρ x hp List.mem_cons_self
    rw [List.all_cons, loop_cons]
    cases hg : g x with
    | false =>
      rw [h2 hg]
      exact ⟨fun h => (by cases h), fun _ => rfl⟩
    | true =>
      obtain ⟨ρ', e, p'⟩ := h1 hg
      rw [e]
      exact loop_guard (fun ρ y hρ hy => ht ρ y hρ (List.mem_cons_of_mem _ hy)) p'
theorem filter_empty {p : D → Bool} (xs : List D) : ((xs.filter p).map id).isEmpty = xs.all fun x => !p x := by
  induction xs with
  | nil => rfl
  | cons x xs ih => cases h : p x <;> simp_all
def shapeB (d : D) : Bool := match d with
  | .tuple xs => xs.all (wholeB 1 12) && (fallB ((intsOf xs).getD []) && decide (((intsOf xs).getD []).sum ≤ 12))
  | _ => false
def Few (d : D) : Prop := ∀ xs, d = .tuple xs → xs.length ≤ 1000
def rowB (d : D) : Bool := match d with
  | .tuple xs => xs.all (wholeB 1 9) && riseB ((intsOf xs).getD [])
  | _ => false
theorem m_is_row (n : Nat) (d : D) (h : Few d) : callF T0 (n + 2) 3 [d] = .ok (.bool (rowB d)) := by
  rw [call_eq (fn := F_is_row) rfl rfl]
  cases d <;> simp [F_is_row, isTupleD, rowB, startR, ev_k, ev_v, ev_b, gb_eq, gv_eq, slb_v, slb_o, slv_v, ev_tup, ev_lst, ev_bin, ev_cmp, ev_chain, ev_neg1, ev_not, ev_and, ev_or, ev_ife, ev_call, ev_bt, ev_ix, ev_sl, ev_rev, ev_dict0, evs_nil, evs_cons, eva_nil, eva_cons, bnd_ok, asB, pl_nil, pl_int, sl_t, sl_l, rv_t, rv_l, b_add, b_sub, b_fdiv, b_mod, c_lt, c_le, c_gt, c_ge, c_eqI, c_neI, c_neB, c_isN, c_notN, c_isB, c_notB, t_len, t_lenL, t_tup, t_tupT, t_lst, t_lstL, t_sum, t_all, t_any, t_sorted, t_isT, t_isI, t_isB, t_isS, t_max, t_min, t_int, t_intB, s_seqT, s_seqL, s_enT, s_enL, s_zipT, ss_nil, ss_cons, nx_nx, nx_rt, nx_ex, fl_ok, ownS_i, ownS_t, ownS_l, ownS_b, ownS_s, ownS_n, ownS_d, s_fz, s_set, s_setT, s_own, s_ite, s_ret, resF_rt, bindT_n, bindT_2, bindT_2l, bindT_3, optFl_some, frz_cons, frz_nil, wipe_cons, wipe_nil, mkT_nil, mkL_nil, mkT_1, mkT_2, mkT_3, mkT_4, mkL_6, List.getElem?_cons_zero, List.getElem?_cons_succ, List.set_cons_zero, List.set_cons_succ, List.map_cons, List.map_nil, List.cons_append, List.nil_append, List.replicate_succ, List.replicate_zero, List.length_cons, List.length_nil]
  rename_i xs
  have hl := h xs rfl
  have hc : evalE (callF T0 (n + 1)) (.comp (.call 0 [(.v 1), (.k (.int 1)), (.k (.int 9))]) [1] (.n 1) .seq [(.b 0)] []) [.val (.tuple xs), .non, .non, .non] = .ok (.list (xs.map fun x => .bool (wholeB 1 9 x))) :=
    comp_call rfl rfl (by omega) fun x _ => by simp [m_is_whole, startR, ev_k, ev_v, ev_b, gb_eq, gv_eq, slb_v, slb_o, slv_v, ev_tup, ev_lst, ev_bin, ev_cmp, ev_chain, ev_neg1, ev_not, ev_and, ev_or, ev_ife, ev_call, ev_bt, ev_ix, ev_sl, ev_rev, ev_dict0, evs_nil, evs_cons, eva_nil, eva_cons, bnd_ok, asB, pl_nil, pl_int, sl_t, sl_l, rv_t, rv_l, b_add, b_sub, b_fdiv, b_mod, c_lt, c_le, c_gt, c_ge, c_eqI, c_neI, c_neB, c_isN, c_notN, c_isB, c_notB, t_len, t_lenL, t_tup, t_tupT, t_lst, t_lstL, t_sum, t_all, t_any, t_sorted, t_isT, t_isI, t_isB, t_isS, t_max, t_min, t_int, t_intB, s_seqT, s_seqL, s_enT, s_enL, s_zipT, ss_nil, ss_cons, nx_nx, nx_rt, nx_ex, fl_ok, ownS_i, ownS_t, ownS_l, ownS_b, ownS_s, ownS_n, ownS_d, s_fz, s_set, s_setT, s_own, s_ite, s_ret, resF_rt, bindT_n, bindT_2, bindT_2l, bindT_3, optFl_some, frz_cons, frz_nil, wipe_cons, wipe_nil, mkT_nil, mkL_nil, mkT_1, mkT_2, mkT_3, mkT_4, mkL_6, List.getElem?_cons_zero, List.getElem?_cons_succ, List.set_cons_zero, List.set_cons_succ, List.map_cons, List.map_nil, List.cons_append, List.nil_append, List.replicate_succ, List.replicate_zero, List.length_cons, List.length_nil]
  simp only [hc, Res.bind_ok, t_all, all_map_bool, asB]
  cases ha : xs.all (wholeB 1 9) with
  | false => simp [startR, ev_k, ev_v, ev_b, gb_eq, gv_eq, slb_v, slb_o, slv_v, ev_tup, ev_lst, ev_bin, ev_cmp, ev_chain, ev_neg1, ev_not, ev_and, ev_or, ev_ife, ev_call, ev_bt, ev_ix, ev_sl, ev_rev, ev_dict0, evs_nil, evs_cons, eva_nil, eva_cons, bnd_ok, asB, pl_nil, pl_int, sl_t, sl_l, rv_t, rv_l, b_add, b_sub, b_fdiv, b_mod, c_lt, c_le, c_gt, c_ge, c_eqI, c_neI, c_neB, c_isN, c_notN, c_isB, c_notB, t_len, t_lenL, t_tup, t_tupT, t_lst, t_lstL, t_sum, t_all, t_any, t_sorted, t_isT, t_isI, t_isB, t_isS, t_max, t_min, t_int, t_intB, s_seqT, s_seqL, s_enT, s_enL, s_zipT, ss_nil, ss_cons, nx_nx, nx_rt, nx_ex, fl_ok, ownS_i, ownS_t, ownS_l, ownS_b, ownS_s, ownS_n, ownS_d, s_fz, s_set, s_setT, s_own, s_ite, s_ret, resF_rt, bindT_n, bindT_2, bindT_2l, bindT_3, optFl_some, frz_cons, frz_nil, wipe_cons, wipe_nil, mkT_nil, mkL_nil, mkT_1, mkT_2, mkT_3, mkT_4, mkL_6, List.getElem?_cons_zero, List.getElem?_cons_succ, List.set_cons_zero, List.set_cons_succ, List.map_cons, List.map_nil, List.cons_append, List.nil_append, List.replicate_succ, List.replicate_zero, List.length_cons, List.length_nil]
  | true =>
    obtain ⟨ns, rfl, hn⟩ := whole_ints ha
    rw [List.length_map] at hl
    have hc : evalE (callF T0 (n + 1)) (.comp (.cmp .le (.b 2) (.b 3)) [2, 3] (.t [2, 3]) .zip2 [(.sl (.b 0) [] [(.neg (.k (.int 1)))]), (.sl (.b 0) [(.k (.int 1))] [])] []) [.val (tpI ns), .non, .non, .non] =
        .ok (.list ((adj ns).map fun p => .bool (decide (p.1 ≤ p.2)))) := by
      refine ev_comp (items := (adj ns).map fun p => .tuple [.int p.1, .int p.2]) ?_ ?_ ?_
      · simp [startR, ev_k, ev_v, ev_b, gb_eq, gv_eq, slb_v, slb_o, slv_v, ev_tup, ev_lst, ev_bin, ev_cmp, ev_chain, ev_neg1, ev_not, ev_and, ev_or, ev_ife, ev_call, ev_bt, ev_ix, ev_sl, ev_rev, ev_dict0, evs_nil, evs_cons, eva_nil, eva_cons, bnd_ok, asB, pl_nil, pl_int, sl_t, sl_l, rv_t, rv_l, b_add, b_sub, b_fdiv, b_mod, c_lt, c_le, c_gt, c_ge, c_eqI, c_neI, c_neB, c_isN, c_notN, c_isB, c_notB, t_len, t_lenL, t_tup, t_tupT, t_lst, t_lstL, t_sum, t_all, t_any, t_sorted, t_isT, t_isI, t_isB, t_isS, t_max, t_min, t_int, t_intB, s_seqT, s_seqL, s_enT, s_enL, s_zipT, ss_nil, ss_cons, nx_nx, nx_rt, nx_ex, fl_ok, ownS_i, ownS_t, ownS_l, ownS_b, ownS_s, ownS_n, ownS_d, s_fz, s_set, s_setT, s_own, s_ite, s_ret, resF_rt, bindT_n, bindT_2, bindT_2l, bindT_3, optFl_some, frz_cons, frz_nil, wipe_cons, wipe_nil, mkT_nil, mkL_nil, mkT_1, mkT_2, mkT_3, mkT_4, mkL_6, List.getElem?_cons_zero, List.getElem?_cons_succ, List.set_cons_zero, List.set_cons_succ, List.map_cons, List.map_nil, List.cons_append, List.nil_append, List.replicate_succ, List.replicate_zero, List.length_cons, List.length_nil]
        rw [cut_init, cut_tail, ← List.map_dropLast, ← List.map_drop, zip2D_map, zip_adj]
      · rw [List.length_map]; have := len_adj ns; omega
      · refine (compL_map (f := fun d => match d with | .tuple [.int a, .int b] => .bool (decide (a ≤ b)) | _ => .none) ?_).trans ?_
        · intro x hx
          obtain ⟨p, _, rfl⟩ := List.mem_map.mp hx
          rw [turn_eq bindT_2]
          simp [startR, ev_k, ev_v, ev_b, gb_eq, gv_eq, slb_v, slb_o, slv_v, ev_tup, ev_lst, ev_bin, ev_cmp, ev_chain, ev_neg1, ev_not, ev_and, ev_or, ev_ife, ev_call, ev_bt, ev_ix, ev_sl, ev_rev, ev_dict0, evs_nil, evs_cons, eva_nil, eva_cons, bnd_ok, asB, pl_nil, pl_int, sl_t, sl_l, rv_t, rv_l, b_add, b_sub, b_fdiv, b_mod, c_lt, c_le, c_gt, c_ge, c_eqI, c_neI, c_neB, c_isN, c_notN, c_isB, c_notB, t_len, t_lenL, t_tup, t_tupT, t_lst, t_lstL, t_sum, t_all, t_any, t_sorted, t_isT, t_isI, t_isB, t_isS, t_max, t_min, t_int, t_intB, s_seqT, s_seqL, s_enT, s_enL, s_zipT, ss_nil, ss_cons, nx_nx, nx_rt, nx_ex, fl_ok, ownS_i, ownS_t, ownS_l, ownS_b, ownS_s, ownS_n, ownS_d, s_fz, s_set, s_setT, s_own, s_ite, s_ret, resF_rt, bindT_n, bindT_2, bindT_2l, bindT_3, optFl_some, frz_cons, frz_nil, wipe_cons, wipe_nil, mkT_nil, mkL_nil, mkT_1, mkT_2, mkT_3, mkT_4, mkL_6, List.getElem?_cons_zero, List.getElem?_cons_succ, List.set_cons_zero, List.set_cons_succ, List.map_cons, List.map_nil, List.cons_append, List.nil_append, List.replicate_succ, List.replicate_zero, List.length_cons, List.length_nil]
        · rw [List.map_map]; rfl
    simp [hc, all_map_bool, riseB, intsOf_map, startR, ev_k, ev_v, ev_b, gb_eq, gv_eq, slb_v, slb_o, slv_v, ev_tup, ev_lst, ev_bin, ev_cmp, ev_chain, ev_neg1, ev_not, ev_and, ev_or, ev_ife, ev_call, ev_bt, ev_ix, ev_sl, ev_rev, ev_dict0, evs_nil, evs_cons, eva_nil, eva_cons, bnd_ok, asB, pl_nil, pl_int, sl_t, sl_l, rv_t, rv_l, b_add, b_sub, b_fdiv, b_mod, c_lt, c_le, c_gt, c_ge, c_eqI, c_neI, c_neB, c_isN, c_notN, c_isB, c_notB, t_len, t_lenL, t_tup, t_tupT, t_lst, t_lstL, t_sum, t_all, t_any, t_sorted, t_isT, t_isI, t_isB, t_isS, t_max, t_min, t_int, t_intB, s_seqT, s_seqL, s_enT, s_enL, s_zipT, ss_nil, ss_cons, nx_nx, nx_rt, nx_ex, fl_ok, ownS_i, ownS_t, ownS_l, ownS_b, ownS_s, ownS_n, ownS_d, s_fz, s_set, s_setT, s_own, s_ite, s_ret, resF_rt, bindT_n, bindT_2, bindT_2l, bindT_3, optFl_some, frz_cons, frz_nil, wipe_cons, wipe_nil, mkT_nil, mkL_nil, mkT_1, mkT_2, mkT_3, mkT_4, mkL_6, List.getElem?_cons_zero, List.getElem?_cons_succ, List.set_cons_zero, List.set_cons_succ, List.map_cons, List.map_nil, List.cons_append, List.nil_append, List.replicate_succ, List.replicate_zero, List.length_cons, List.length_nil]
theorem row_of {d : D} (h : rowB d = true) : ∃ ns : List Int, d = tpI ns ∧ (∀ n ∈ ns, 1 ≤ n ∧ n ≤ 9) ∧ riseB ns = true := by
  cases d <;> simp [rowB] at h
  rename_i xs
  obtain ⟨ns, rfl, hn⟩ := whole_ints (lo := 1) (hi := 9) (xs := xs) (by simpa using h.1)
  rw [intsOf_map] at h
  exact ⟨ns, rfl, hn, h.2⟩
theorem rows_of : ∀ {xs : List D}, xs.all rowB = true → ∃ rs : List (List Int), xs = rs.map tpI ∧ (∀ r ∈ rs, (∀ n ∈ r, 1 ≤ n ∧ n ≤ 9) ∧ riseB r = true)
  | [], _ => ⟨[], rfl, by simp⟩
  | x :: xs, h => by
    rw [List.all_cons, Bool.and_eq_true] at h
    obtain ⟨ns, rfl, h1⟩ := row_of h.1
    obtain ⟨rs, rfl, h2⟩ := rows_of h.2
    refine ⟨ns :: rs, rfl, fun r hr => ?_⟩
    rcases List.mem_cons.mp hr with rfl | hr
    · exact h1
    · exact h2 r hr
def colsB (r b : List Int) : Bool := (r.zip b).all fun p => decide (p.1 < p.2)
theorem m_columns (n : Nat) (r b : List Int) (hl : r.length ≤ 1000) : callF T0 (n + 1) 5 [tpI r, tpI b] = .ok (.bool (colsB r b)) := by
  have hc : evalE (callF T0 n) (.comp (.cmp .lt (.b 2) (.b 3)) [2, 3] (.t [2, 3]) .zip2 [(.b 0), (.b 1)] []) [.val (tpI r), .val (tpI b), .non, .non] = .ok (.list ((r.zip b).map fun p => .bool (decide (p.1 < p.2)))) := by
    refine ev_comp (items := (r.zip b).map fun p => .tuple [.int p.1, .int p.2]) ?_ ?_ ?_
    · simp [startR, ev_k, ev_v, ev_b, gb_eq, gv_eq, slb_v, slb_o, slv_v, ev_tup, ev_lst, ev_bin, ev_cmp, ev_chain, ev_neg1, ev_not, ev_and, ev_or, ev_ife, ev_call, ev_bt, ev_ix, ev_sl, ev_rev, ev_dict0, evs_nil, evs_cons, eva_nil, eva_cons, bnd_ok, asB, pl_nil, pl_int, sl_t, sl_l, rv_t, rv_l, b_add, b_sub, b_fdiv, b_mod, c_lt, c_le, c_gt, c_ge, c_eqI, c_neI, c_neB, c_isN, c_notN, c_isB, c_notB, t_len, t_lenL, t_tup, t_tupT, t_lst, t_lstL, t_sum, t_all, t_any, t_sorted, t_isT, t_isI, t_isB, t_isS, t_max, t_min, t_int, t_intB, s_seqT, s_seqL, s_enT, s_enL, s_zipT, ss_nil, ss_cons, nx_nx, nx_rt, nx_ex, fl_ok, ownS_i, ownS_t, ownS_l, ownS_b, ownS_s, ownS_n, ownS_d, s_fz, s_set, s_setT, s_own, s_ite, s_ret, resF_rt, bindT_n, bindT_2, bindT_2l, bindT_3, optFl_some, frz_cons, frz_nil, wipe_cons, wipe_nil, mkT_nil, mkL_nil, mkT_1, mkT_2, mkT_3, mkT_4, mkL_6, List.getElem?_cons_zero, List.getElem?_cons_succ, List.set_cons_zero, List.set_cons_succ, List.map_cons, List.map_nil, List.cons_append, List.nil_append, List.replicate_succ, List.replicate_zero, List.length_cons, List.length_nil]
      rw [zip2D_map]
    · rw [List.length_map, List.length_zip]; omega
    · refine (compL_map (f := fun d => match d with | .tuple [.int a, .int b] => .bool (decide (a < b)) | _ => .none) ?_).trans ?_
      · intro x hx
        obtain ⟨p, _, rfl⟩ := List.mem_map.mp hx
        rw [turn_eq bindT_2]
        simp [startR, ev_k, ev_v, ev_b, gb_eq, gv_eq, slb_v, slb_o, slv_v, ev_tup, ev_lst, ev_bin, ev_cmp, ev_chain, ev_neg1, ev_not, ev_and, ev_or, ev_ife, ev_call, ev_bt, ev_ix, ev_sl, ev_rev, ev_dict0, evs_nil, evs_cons, eva_nil, eva_cons, bnd_ok, asB, pl_nil, pl_int, sl_t, sl_l, rv_t, rv_l, b_add, b_sub, b_fdiv, b_mod, c_lt, c_le, c_gt, c_ge, c_eqI, c_neI, c_neB, c_isN, c_notN, c_isB, c_notB, t_len, t_lenL, t_tup, t_tupT, t_lst, t_lstL, t_sum, t_all, t_any, t_sorted, t_isT, t_isI, t_isB, t_isS, t_max, t_min, t_int, t_intB, s_seqT, s_seqL, s_enT, s_enL, s_zipT, ss_nil, ss_cons, nx_nx, nx_rt, nx_ex, fl_ok, ownS_i, ownS_t, ownS_l, ownS_b, ownS_s, ownS_n, ownS_d, s_fz, s_set, s_setT, s_own, s_ite, s_ret, resF_rt, bindT_n, bindT_2, bindT_2l, bindT_3, optFl_some, frz_cons, frz_nil, wipe_cons, wipe_nil, mkT_nil, mkL_nil, mkT_1, mkT_2, mkT_3, mkT_4, mkL_6, List.getElem?_cons_zero, List.getElem?_cons_succ, List.set_cons_zero, List.set_cons_succ, List.map_cons, List.map_nil, List.cons_append, List.nil_append, List.replicate_succ, List.replicate_zero, List.length_cons, List.length_nil]
      · rw [List.map_map]; rfl
  rw [call_eq (fn := F_are_columns) rfl rfl]
  simp [F_are_columns, hc, all_map_bool, colsB, startR, ev_k, ev_v, ev_b, gb_eq, gv_eq, slb_v, slb_o, slv_v, ev_tup, ev_lst, ev_bin, ev_cmp, ev_chain, ev_neg1, ev_not, ev_and, ev_or, ev_ife, ev_call, ev_bt, ev_ix, ev_sl, ev_rev, ev_dict0, evs_nil, evs_cons, eva_nil, eva_cons, bnd_ok, asB, pl_nil, pl_int, sl_t, sl_l, rv_t, rv_l, b_add, b_sub, b_fdiv, b_mod, c_lt, c_le, c_gt, c_ge, c_eqI, c_neI, c_neB, c_isN, c_notN, c_isB, c_notB, t_len, t_lenL, t_tup, t_tupT, t_lst, t_lstL, t_sum, t_all, t_any, t_sorted, t_isT, t_isI, t_isB, t_isS, t_max, t_min, t_int, t_intB, s_seqT, s_seqL, s_enT, s_enL, s_zipT, ss_nil, ss_cons, nx_nx, nx_rt, nx_ex, fl_ok, ownS_i, ownS_t, ownS_l, ownS_b, ownS_s, ownS_n, ownS_d, s_fz, s_set, s_setT, s_own, s_ite, s_ret, resF_rt, bindT_n, bindT_2, bindT_2l, bindT_3, optFl_some, frz_cons, frz_nil, wipe_cons, wipe_nil, mkT_nil, mkL_nil, mkT_1, mkT_2, mkT_3, mkT_4, mkL_6, List.getElem?_cons_zero, List.getElem?_cons_succ, List.set_cons_zero, List.set_cons_succ, List.map_cons, List.map_nil, List.cons_append, List.nil_append, List.replicate_succ, List.replicate_zero, List.length_cons, List.length_nil]
def lensI (rs : List (List Int)) : List Int := rs.map fun r => (r.length : Int)
theorem m_shape_of (n : Nat) (rs : List (List Int)) (hl : rs.length ≤ 1000) : callF T0 (n + 1) 7 [tpR rs] = .ok (tpI (lensI rs)) := by
  have hc : evalE (callF T0 n) (.comp (.bt .len [(.b 1)]) [1] (.n 1) .seq [(.b 0)] []) [.val (tpR rs), .non] = .ok (.list ((rs.map tpI).map fun d => match d with | .tuple xs => .int xs.length | _ => .none)) :=
    comp_call rfl rfl (by rw [List.length_map]; omega) fun x hx => by
      obtain ⟨r, _, rfl⟩ := List.mem_map.mp hx
      simp [startR, ev_k, ev_v, ev_b, gb_eq, gv_eq, slb_v, slb_o, slv_v, ev_tup, ev_lst, ev_bin, ev_cmp, ev_chain, ev_neg1, ev_not, ev_and, ev_or, ev_ife, ev_call, ev_bt, ev_ix, ev_sl, ev_rev, ev_dict0, evs_nil, evs_cons, eva_nil, eva_cons, bnd_ok, asB, pl_nil, pl_int, sl_t, sl_l, rv_t, rv_l, b_add, b_sub, b_fdiv, b_mod, c_lt, c_le, c_gt, c_ge, c_eqI, c_neI, c_neB, c_isN, c_notN, c_isB, c_notB, t_len, t_lenL, t_tup, t_tupT, t_lst, t_lstL, t_sum, t_all, t_any, t_sorted, t_isT, t_isI, t_isB, t_isS, t_max, t_min, t_int, t_intB, s_seqT, s_seqL, s_enT, s_enL, s_zipT, ss_nil, ss_cons, nx_nx, nx_rt, nx_ex, fl_ok, ownS_i, ownS_t, ownS_l, ownS_b, ownS_s, ownS_n, ownS_d, s_fz, s_set, s_setT, s_own, s_ite, s_ret, resF_rt, bindT_n, bindT_2, bindT_2l, bindT_3, optFl_some, frz_cons, frz_nil, wipe_cons, wipe_nil, mkT_nil, mkL_nil, mkT_1, mkT_2, mkT_3, mkT_4, mkL_6, List.getElem?_cons_zero, List.getElem?_cons_succ, List.set_cons_zero, List.set_cons_succ, List.map_cons, List.map_nil, List.cons_append, List.nil_append, List.replicate_succ, List.replicate_zero, List.length_cons, List.length_nil]
  rw [call_eq (fn := F_shape_of) rfl rfl]
  simp [F_shape_of, hc, startR, ev_k, ev_v, ev_b, gb_eq, gv_eq, slb_v, slb_o, slv_v, ev_tup, ev_lst, ev_bin, ev_cmp, ev_chain, ev_neg1, ev_not, ev_and, ev_or, ev_ife, ev_call, ev_bt, ev_ix, ev_sl, ev_rev, ev_dict0, evs_nil, evs_cons, eva_nil, eva_cons, bnd_ok, asB, pl_nil, pl_int, sl_t, sl_l, rv_t, rv_l, b_add, b_sub, b_fdiv, b_mod, c_lt, c_le, c_gt, c_ge, c_eqI, c_neI, c_neB, c_isN, c_notN, c_isB, c_notB, t_len, t_lenL, t_tup, t_tupT, t_lst, t_lstL, t_sum, t_all, t_any, t_sorted, t_isT, t_isI, t_isB, t_isS, t_max, t_min, t_int, t_intB, s_seqT, s_seqL, s_enT, s_enL, s_zipT, ss_nil, ss_cons, nx_nx, nx_rt, nx_ex, fl_ok, ownS_i, ownS_t, ownS_l, ownS_b, ownS_s, ownS_n, ownS_d, s_fz, s_set, s_setT, s_own, s_ite, s_ret, resF_rt, bindT_n, bindT_2, bindT_2l, bindT_3, optFl_some, frz_cons, frz_nil, wipe_cons, wipe_nil, mkT_nil, mkL_nil, mkT_1, mkT_2, mkT_3, mkT_4, mkL_6, List.getElem?_cons_zero, List.getElem?_cons_succ, List.set_cons_zero, List.set_cons_succ, List.map_cons, List.map_nil, List.cons_append, List.nil_append, List.replicate_succ, List.replicate_zero, List.length_cons, List.length_nil, lensI]
def rowsOr (xs : List D) : List (List Int) := xs.map fun d => match d with
  | .tuple ys => (intsOf ys).getD []
  | _ => []
theorem rowsOr_map (rs : List (List Int)) : rowsOr (rs.map tpI) = rs := by
  unfold rowsOr
  rw [List.map_map]
  conv => rhs; rw [← List.map_id rs]
  apply List.map_congr_left
  intro r _
  simp [intsOf_map]
def fillB (d : D) : Bool := match d with
  | .tuple xs => xs.all rowB && (shapeB (tpI (lensI (rowsOr xs))) && (adj (rowsOr xs)).all fun p => colsB p.1 p.2)
  | _ => false
def Few2 (d : D) : Prop := ∀ xs, d = .tuple xs → xs.length ≤ 1000 ∧ ∀ x ∈ xs, Few x
theorem m_is_shape (n : Nat) (d : D) (h : Few d) : callF T0 (n + 2) 2 [d] = .ok (.bool (shapeB d)) := by
  rw [call_eq (fn := F_is_shape) rfl rfl]
  cases d <;> simp [F_is_shape, isTupleD, shapeB, startR, ev_k, ev_v, ev_b, gb_eq, gv_eq, slb_v, slb_o, slv_v, ev_tup, ev_lst, ev_bin, ev_cmp, ev_chain, ev_neg1, ev_not, ev_and, ev_or, ev_ife, ev_call, ev_bt, ev_ix, ev_sl, ev_rev, ev_dict0, evs_nil, evs_cons, eva_nil, eva_cons, bnd_ok, asB, pl_nil, pl_int, sl_t, sl_l, rv_t, rv_l, b_add, b_sub, b_fdiv, b_mod, c_lt, c_le, c_gt, c_ge, c_eqI, c_neI, c_neB, c_isN, c_notN, c_isB, c_notB, t_len, t_lenL, t_tup, t_tupT, t_lst, t_lstL, t_sum, t_all, t_any, t_sorted, t_isT, t_isI, t_isB, t_isS, t_max, t_min, t_int, t_intB, s_seqT, s_seqL, s_enT, s_enL, s_zipT, ss_nil, ss_cons, nx_nx, nx_rt, nx_ex, fl_ok, ownS_i, ownS_t, ownS_l, ownS_b, ownS_s, ownS_n, ownS_d, s_fz, s_set, s_setT, s_own, s_ite, s_ret, resF_rt, bindT_n, bindT_2, bindT_2l, bindT_3, optFl_some, frz_cons, frz_nil, wipe_cons, wipe_nil, mkT_nil, mkL_nil, mkT_1, mkT_2, mkT_3, mkT_4, mkL_6, List.getElem?_cons_zero, List.getElem?_cons_succ, List.set_cons_zero, List.set_cons_succ, List.map_cons, List.map_nil, List.cons_append, List.nil_append, List.replicate_succ, List.replicate_zero, List.length_cons, List.length_nil]
  rename_i xs
  have hl := h xs rfl
  have hc : evalE (callF T0 (n + 1)) (.comp (.call 0 [(.v 1), (.k (.int 1)), (.k (.int 12))]) [1] (.n 1) .seq [(.b 0)] []) [.val (.tuple xs), .non] = .ok (.list (xs.map fun x => .bool (wholeB 1 12 x))) :=
    comp_call rfl rfl (by omega) fun x _ => by simp [m_is_whole, startR, ev_k, ev_v, ev_b, gb_eq, gv_eq, slb_v, slb_o, slv_v, ev_tup, ev_lst, ev_bin, ev_cmp, ev_chain, ev_neg1, ev_not, ev_and, ev_or, ev_ife, ev_call, ev_bt, ev_ix, ev_sl, ev_rev, ev_dict0, evs_nil, evs_cons, eva_nil, eva_cons, bnd_ok, asB, pl_nil, pl_int, sl_t, sl_l, rv_t, rv_l, b_add, b_sub, b_fdiv, b_mod, c_lt, c_le, c_gt, c_ge, c_eqI, c_neI, c_neB, c_isN, c_notN, c_isB, c_notB, t_len, t_lenL, t_tup, t_tupT, t_lst, t_lstL, t_sum, t_all, t_any, t_sorted, t_isT, t_isI, t_isB, t_isS, t_max, t_min, t_int, t_intB, s_seqT, s_seqL, s_enT, s_enL, s_zipT, ss_nil, ss_cons, nx_nx, nx_rt, nx_ex, fl_ok, ownS_i, ownS_t, ownS_l, ownS_b, ownS_s, ownS_n, ownS_d, s_fz, s_set, s_setT, s_own, s_ite, s_ret, resF_rt, bindT_n, bindT_2, bindT_2l, bindT_3, optFl_some, frz_cons, frz_nil, wipe_cons, wipe_nil, mkT_nil, mkL_nil, mkT_1, mkT_2, mkT_3, mkT_4, mkL_6, List.getElem?_cons_zero, List.getElem?_cons_succ, List.set_cons_zero, List.set_cons_succ, List.map_cons, List.map_nil, List.cons_append, List.nil_append, List.replicate_succ, List.replicate_zero, List.length_cons, List.length_nil]
  simp only [hc, Res.bind_ok, t_all, all_map_bool, asB]
  cases ha : xs.all (wholeB 1 12) with
  | false => simp [startR, ev_k, ev_v, ev_b, gb_eq, gv_eq, slb_v, slb_o, slv_v, ev_tup, ev_lst, ev_bin, ev_cmp, ev_chain, ev_neg1, ev_not, ev_and, ev_or, ev_ife, ev_call, ev_bt, ev_ix, ev_sl, ev_rev, ev_dict0, evs_nil, evs_cons, eva_nil, eva_cons, bnd_ok, asB, pl_nil, pl_int, sl_t, sl_l, rv_t, rv_l, b_add, b_sub, b_fdiv, b_mod, c_lt, c_le, c_gt, c_ge, c_eqI, c_neI, c_neB, c_isN, c_notN, c_isB, c_notB, t_len, t_lenL, t_tup, t_tupT, t_lst, t_lstL, t_sum, t_all, t_any, t_sorted, t_isT, t_isI, t_isB, t_isS, t_max, t_min, t_int, t_intB, s_seqT, s_seqL, s_enT, s_enL, s_zipT, ss_nil, ss_cons, nx_nx, nx_rt, nx_ex, fl_ok, ownS_i, ownS_t, ownS_l, ownS_b, ownS_s, ownS_n, ownS_d, s_fz, s_set, s_setT, s_own, s_ite, s_ret, resF_rt, bindT_n, bindT_2, bindT_2l, bindT_3, optFl_some, frz_cons, frz_nil, wipe_cons, wipe_nil, mkT_nil, mkL_nil, mkT_1, mkT_2, mkT_3, mkT_4, mkL_6, List.getElem?_cons_zero, List.getElem?_cons_succ, List.set_cons_zero, List.set_cons_succ, List.map_cons, List.map_nil, List.cons_append, List.nil_append, List.replicate_succ, List.replicate_zero, List.length_cons, List.length_nil]
  | true =>
    obtain ⟨ns, rfl, hn⟩ := whole_ints ha
    rw [List.length_map] at hl
    simp [m_falling n ns hl, intsOf_map, sum_tpI, startR, ev_k, ev_v, ev_b, gb_eq, gv_eq, slb_v, slb_o, slv_v, ev_tup, ev_lst, ev_bin, ev_cmp, ev_chain, ev_neg1, ev_not, ev_and, ev_or, ev_ife, ev_call, ev_bt, ev_ix, ev_sl, ev_rev, ev_dict0, evs_nil, evs_cons, eva_nil, eva_cons, bnd_ok, asB, pl_nil, pl_int, sl_t, sl_l, rv_t, rv_l, b_add, b_sub, b_fdiv, b_mod, c_lt, c_le, c_gt, c_ge, c_eqI, c_neI, c_neB, c_isN, c_notN, c_isB, c_notB, t_len, t_lenL, t_tup, t_tupT, t_lst, t_lstL, t_sum, t_all, t_any, t_sorted, t_isT, t_isI, t_isB, t_isS, t_max, t_min, t_int, t_intB, s_seqT, s_seqL, s_enT, s_enL, s_zipT, ss_nil, ss_cons, nx_nx, nx_rt, nx_ex, fl_ok, ownS_i, ownS_t, ownS_l, ownS_b, ownS_s, ownS_n, ownS_d, s_fz, s_set, s_setT, s_own, s_ite, s_ret, resF_rt, bindT_n, bindT_2, bindT_2l, bindT_3, optFl_some, frz_cons, frz_nil, wipe_cons, wipe_nil, mkT_nil, mkL_nil, mkT_1, mkT_2, mkT_3, mkT_4, mkL_6, List.getElem?_cons_zero, List.getElem?_cons_succ, List.set_cons_zero, List.set_cons_succ, List.map_cons, List.map_nil, List.cons_append, List.nil_append, List.replicate_succ, List.replicate_zero, List.length_cons, List.length_nil]
    cases fallB ns <;> simp [startR, ev_k, ev_v, ev_b, gb_eq, gv_eq, slb_v, slb_o, slv_v, ev_tup, ev_lst, ev_bin, ev_cmp, ev_chain, ev_neg1, ev_not, ev_and, ev_or, ev_ife, ev_call, ev_bt, ev_ix, ev_sl, ev_rev, ev_dict0, evs_nil, evs_cons, eva_nil, eva_cons, bnd_ok, asB, pl_nil, pl_int, sl_t, sl_l, rv_t, rv_l, b_add, b_sub, b_fdiv, b_mod, c_lt, c_le, c_gt, c_ge, c_eqI, c_neI, c_neB, c_isN, c_notN, c_isB, c_notB, t_len, t_lenL, t_tup, t_tupT, t_lst, t_lstL, t_sum, t_all, t_any, t_sorted, t_isT, t_isI, t_isB, t_isS, t_max, t_min, t_int, t_intB, s_seqT, s_seqL, s_enT, s_enL, s_zipT, ss_nil, ss_cons, nx_nx, nx_rt, nx_ex, fl_ok, ownS_i, ownS_t, ownS_l, ownS_b, ownS_s, ownS_n, ownS_d, s_fz, s_set, s_setT, s_own, s_ite, s_ret, resF_rt, bindT_n, bindT_2, bindT_2l, bindT_3, optFl_some, frz_cons, frz_nil, wipe_cons, wipe_nil, mkT_nil, mkL_nil, mkT_1, mkT_2, mkT_3, mkT_4, mkL_6, List.getElem?_cons_zero, List.getElem?_cons_succ, List.set_cons_zero, List.set_cons_succ, List.map_cons, List.map_nil, List.cons_append, List.nil_append, List.replicate_succ, List.replicate_zero, List.length_cons, List.length_nil]
theorem few_ints (ns : List Int) (h : ns.length ≤ 1000) : Few (tpI ns) := fun xs e => by cases e; rw [List.length_map]; exact h
theorem m_is_filling (n : Nat) (d : D) (h : Few2 d) : callF T0 (n + 3) 4 [d] = .ok (.bool (fillB d)) := by
  rw [call_eq (fn := F_is_filling) rfl rfl]
  cases d <;> simp [F_is_filling, isTupleD, fillB, startR, ev_k, ev_v, ev_b, gb_eq, gv_eq, slb_v, slb_o, slv_v, ev_tup, ev_lst, ev_bin, ev_cmp, ev_chain, ev_neg1, ev_not, ev_and, ev_or, ev_ife, ev_call, ev_bt, ev_ix, ev_sl, ev_rev, ev_dict0, evs_nil, evs_cons, eva_nil, eva_cons, bnd_ok, asB, pl_nil, pl_int, sl_t, sl_l, rv_t, rv_l, b_add, b_sub, b_fdiv, b_mod, c_lt, c_le, c_gt, c_ge, c_eqI, c_neI, c_neB, c_isN, c_notN, c_isB, c_notB, t_len, t_lenL, t_tup, t_tupT, t_lst, t_lstL, t_sum, t_all, t_any, t_sorted, t_isT, t_isI, t_isB, t_isS, t_max, t_min, t_int, t_intB, s_seqT, s_seqL, s_enT, s_enL, s_zipT, ss_nil, ss_cons, nx_nx, nx_rt, nx_ex, fl_ok, ownS_i, ownS_t, ownS_l, ownS_b, ownS_s, ownS_n, ownS_d, s_fz, s_set, s_setT, s_own, s_ite, s_ret, resF_rt, bindT_n, bindT_2, bindT_2l, bindT_3, optFl_some, frz_cons, frz_nil, wipe_cons, wipe_nil, mkT_nil, mkL_nil, mkT_1, mkT_2, mkT_3, mkT_4, mkL_6, List.getElem?_cons_zero, List.getElem?_cons_succ, List.set_cons_zero, List.set_cons_succ, List.map_cons, List.map_nil, List.cons_append, List.nil_append, List.replicate_succ, List.replicate_zero, List.length_cons, List.length_nil]
  rename_i xs
  obtain ⟨hl, hx⟩ := h xs rfl
  have hc : evalE (callF T0 (n + 2)) (.comp (.call 3 [(.v 1)]) [1] (.n 1) .seq [(.b 0)] []) [.val (.tuple xs), .non, .non, .non] = .ok (.list (xs.map fun x => .bool (rowB x))) :=
    comp_call rfl rfl (by omega) fun x hm => by simp [m_is_row n x (hx x hm), startR, ev_k, ev_v, ev_b, gb_eq, gv_eq, slb_v, slb_o, slv_v, ev_tup, ev_lst, ev_bin, ev_cmp, ev_chain, ev_neg1, ev_not, ev_and, ev_or, ev_ife, ev_call, ev_bt, ev_ix, ev_sl, ev_rev, ev_dict0, evs_nil, evs_cons, eva_nil, eva_cons, bnd_ok, asB, pl_nil, pl_int, sl_t, sl_l, rv_t, rv_l, b_add, b_sub, b_fdiv, b_mod, c_lt, c_le, c_gt, c_ge, c_eqI, c_neI, c_neB, c_isN, c_notN, c_isB, c_notB, t_len, t_lenL, t_tup, t_tupT, t_lst, t_lstL, t_sum, t_all, t_any, t_sorted, t_isT, t_isI, t_isB, t_isS, t_max, t_min, t_int, t_intB, s_seqT, s_seqL, s_enT, s_enL, s_zipT, ss_nil, ss_cons, nx_nx, nx_rt, nx_ex, fl_ok, ownS_i, ownS_t, ownS_l, ownS_b, ownS_s, ownS_n, ownS_d, s_fz, s_set, s_setT, s_own, s_ite, s_ret, resF_rt, bindT_n, bindT_2, bindT_2l, bindT_3, optFl_some, frz_cons, frz_nil, wipe_cons, wipe_nil, mkT_nil, mkL_nil, mkT_1, mkT_2, mkT_3, mkT_4, mkL_6, List.getElem?_cons_zero, List.getElem?_cons_succ, List.set_cons_zero, List.set_cons_succ, List.map_cons, List.map_nil, List.cons_append, List.nil_append, List.replicate_succ, List.replicate_zero, List.length_cons, List.length_nil]
  simp only [hc, Res.bind_ok, t_all, all_map_bool, asB]
  cases ha : xs.all rowB with
  | false => simp [startR, ev_k, ev_v, ev_b, gb_eq, gv_eq, slb_v, slb_o, slv_v, ev_tup, ev_lst, ev_bin, ev_cmp, ev_chain, ev_neg1, ev_not, ev_and, ev_or, ev_ife, ev_call, ev_bt, ev_ix, ev_sl, ev_rev, ev_dict0, evs_nil, evs_cons, eva_nil, eva_cons, bnd_ok, asB, pl_nil, pl_int, sl_t, sl_l, rv_t, rv_l, b_add, b_sub, b_fdiv, b_mod, c_lt, c_le, c_gt, c_ge, c_eqI, c_neI, c_neB, c_isN, c_notN, c_isB, c_notB, t_len, t_lenL, t_tup, t_tupT, t_lst, t_lstL, t_sum, t_all, t_any, t_sorted, t_isT, t_isI, t_isB, t_isS, t_max, t_min, t_int, t_intB, s_seqT, s_seqL, s_enT, s_enL, s_zipT, ss_nil, ss_cons, nx_nx, nx_rt, nx_ex, fl_ok, ownS_i, ownS_t, ownS_l, ownS_b, ownS_s, ownS_n, ownS_d, s_fz, s_set, s_setT, s_own, s_ite, s_ret, resF_rt, bindT_n, bindT_2, bindT_2l, bindT_3, optFl_some, frz_cons, frz_nil, wipe_cons, wipe_nil, mkT_nil, mkL_nil, mkT_1, mkT_2, mkT_3, mkT_4, mkL_6, List.getElem?_cons_zero, List.getElem?_cons_succ, List.set_cons_zero, List.set_cons_succ, List.map_cons, List.map_nil, List.cons_append, List.nil_append, List.replicate_succ, List.replicate_zero, List.length_cons, List.length_nil]
  | true =>
    obtain ⟨rs, rfl, hn⟩ := rows_of ha
    rw [List.length_map] at hl
    have hr : ∀ r ∈ rs, r.length ≤ 1000 := fun r hr => by
      have := hx (tpI r) (List.mem_map_of_mem hr) _ rfl
      rwa [List.length_map] at this
    have hc : evalE (callF T0 (n + 2)) (.comp (.call 5 [(.v 2), (.v 3)]) [2, 3] (.t [2, 3]) .zip2 [(.sl (.b 0) [] [(.neg (.k (.int 1)))]), (.sl (.b 0) [(.k (.int 1))] [])] []) [.val (.tuple (rs.map tpI)), .non, .non, .non] =
        .ok (.list ((adj rs).map fun p => .bool (colsB p.1 p.2))) := by
      refine ev_comp (items := (adj rs).map fun p => .tuple [tpI p.1, tpI p.2]) ?_ ?_ ?_
      · simp [startR, ev_k, ev_v, ev_b, gb_eq, gv_eq, slb_v, slb_o, slv_v, ev_tup, ev_lst, ev_bin, ev_cmp, ev_chain, ev_neg1, ev_not, ev_and, ev_or, ev_ife, ev_call, ev_bt, ev_ix, ev_sl, ev_rev, ev_dict0, evs_nil, evs_cons, eva_nil, eva_cons, bnd_ok, asB, pl_nil, pl_int, sl_t, sl_l, rv_t, rv_l, b_add, b_sub, b_fdiv, b_mod, c_lt, c_le, c_gt, c_ge, c_eqI, c_neI, c_neB, c_isN, c_notN, c_isB, c_notB, t_len, t_lenL, t_tup, t_tupT, t_lst, t_lstL, t_sum, t_all, t_any, t_sorted, t_isT, t_isI, t_isB, t_isS, t_max, t_min, t_int, t_intB, s_seqT, s_seqL, s_enT, s_enL, s_zipT, ss_nil, ss_cons, nx_nx, nx_rt, nx_ex, fl_ok, ownS_i, ownS_t, ownS_l, ownS_b, ownS_s, ownS_n, ownS_d, s_fz, s_set, s_setT, s_own, s_ite, s_ret, resF_rt, bindT_n, bindT_2, bindT_2l, bindT_3, optFl_some, frz_cons, frz_nil, wipe_cons, wipe_nil, mkT_nil, mkL_nil, mkT_1, mkT_2, mkT_3, mkT_4, mkL_6, List.getElem?_cons_zero, List.getElem?_cons_succ, List.set_cons_zero, List.set_cons_succ, List.map_cons, List.map_nil, List.cons_append, List.nil_append, List.replicate_succ, List.replicate_zero, List.length_cons, List.length_nil]
        rw [cut_init, cut_tail, ← List.map_dropLast, ← List.map_drop, zip2D_map, zip_adj]
      · rw [List.length_map]; have := len_adj rs; omega
      · refine (compL_map (f := fun d => match d with | .tuple [.tuple a, .tuple b] => .bool (colsB ((intsOf a).getD []) ((intsOf b).getD [])) | _ => .none) ?_).trans ?_
        · intro x hx
          obtain ⟨p, hp, rfl⟩ := List.mem_map.mp hx
          rw [turn_eq bindT_2]
          have h1 : p.1 ∈ rs := by
            rw [← zip_adj] at hp
            exact List.dropLast_subset _ (List.of_mem_zip (a := p.1) (b := p.2) hp).1
          simp [m_columns (n + 1) p.1 p.2 (hr _ h1), intsOf_map, startR, ev_k, ev_v, ev_b, gb_eq, gv_eq, slb_v, slb_o, slv_v, ev_tup, ev_lst, ev_bin, ev_cmp, ev_chain, ev_neg1, ev_not, ev_and, ev_or, ev_ife, ev_call, ev_bt, ev_ix, ev_sl, ev_rev, ev_dict0, evs_nil, evs_cons, eva_nil, eva_cons, bnd_ok, asB, pl_nil, pl_int, sl_t, sl_l, rv_t, rv_l, b_add, b_sub, b_fdiv, b_mod, c_lt, c_le, c_gt, c_ge, c_eqI, c_neI, c_neB, c_isN, c_notN, c_isB, c_notB, t_len, t_lenL, t_tup, t_tupT, t_lst, t_lstL, t_sum, t_all, t_any, t_sorted, t_isT, t_isI, t_isB, t_isS, t_max, t_min, t_int, t_intB, s_seqT, s_seqL, s_enT, s_enL, s_zipT, ss_nil, ss_cons, nx_nx, nx_rt, nx_ex, fl_ok, ownS_i, ownS_t, ownS_l, ownS_b, ownS_s, ownS_n, ownS_d, s_fz, s_set, s_setT, s_own, s_ite, s_ret, resF_rt, bindT_n, bindT_2, bindT_2l, bindT_3, optFl_some, frz_cons, frz_nil, wipe_cons, wipe_nil, mkT_nil, mkL_nil, mkT_1, mkT_2, mkT_3, mkT_4, mkL_6, List.getElem?_cons_zero, List.getElem?_cons_succ, List.set_cons_zero, List.set_cons_succ, List.map_cons, List.map_nil, List.cons_append, List.nil_append, List.replicate_succ, List.replicate_zero, List.length_cons, List.length_nil]
        · rw [List.map_map]
          refine congrArg Res.ok (List.map_congr_left fun p _ => ?_)
          simp only [Function.comp, intsOf_map, Option.getD_some]
    have hs := m_is_shape n (tpI (lensI rs)) (few_ints _ (by unfold lensI; rw [List.length_map]; omega))
    simp only [m_shape_of (n + 1) rs hl, hs, rowsOr_map, hc, all_map_bool, startR, ev_k, ev_v, ev_b, gb_eq, gv_eq, slb_v, slb_o, slv_v, ev_tup, ev_lst, ev_bin, ev_cmp, ev_chain, ev_neg1, ev_not, ev_and, ev_or, ev_ife, ev_call, ev_bt, ev_ix, ev_sl, ev_rev, ev_dict0, evs_nil, evs_cons, eva_nil, eva_cons, bnd_ok, asB, pl_nil, pl_int, sl_t, sl_l, rv_t, rv_l, b_add, b_sub, b_fdiv, b_mod, c_lt, c_le, c_gt, c_ge, c_eqI, c_neI, c_neB, c_isN, c_notN, c_isB, c_notB, t_len, t_lenL, t_tup, t_tupT, t_lst, t_lstL, t_sum, t_all, t_any, t_sorted, t_isT, t_isI, t_isB, t_isS, t_max, t_min, t_int, t_intB, s_seqT, s_seqL, s_enT, s_enL, s_zipT, ss_nil, ss_cons, nx_nx, nx_rt, nx_ex, fl_ok, ownS_i, ownS_t, ownS_l, ownS_b, ownS_s, ownS_n, ownS_d, s_fz, s_set, s_setT, s_own, s_ite, s_ret, resF_rt, bindT_n, bindT_2, bindT_2l, bindT_3, optFl_some, frz_cons, frz_nil, wipe_cons, wipe_nil, mkT_nil, mkL_nil, mkT_1, mkT_2, mkT_3, mkT_4, mkL_6, List.getElem?_cons_zero, List.getElem?_cons_succ, List.set_cons_zero, List.set_cons_succ, List.map_cons, List.map_nil, List.cons_append, List.nil_append, List.replicate_succ, List.replicate_zero, List.length_cons, List.length_nil]
    cases shapeB (tpI (lensI rs)) with
    | false => simp [startR, ev_k, ev_v, ev_b, gb_eq, gv_eq, slb_v, slb_o, slv_v, ev_tup, ev_lst, ev_bin, ev_cmp, ev_chain, ev_neg1, ev_not, ev_and, ev_or, ev_ife, ev_call, ev_bt, ev_ix, ev_sl, ev_rev, ev_dict0, evs_nil, evs_cons, eva_nil, eva_cons, bnd_ok, asB, pl_nil, pl_int, sl_t, sl_l, rv_t, rv_l, b_add, b_sub, b_fdiv, b_mod, c_lt, c_le, c_gt, c_ge, c_eqI, c_neI, c_neB, c_isN, c_notN, c_isB, c_notB, t_len, t_lenL, t_tup, t_tupT, t_lst, t_lstL, t_sum, t_all, t_any, t_sorted, t_isT, t_isI, t_isB, t_isS, t_max, t_min, t_int, t_intB, s_seqT, s_seqL, s_enT, s_enL, s_zipT, ss_nil, ss_cons, nx_nx, nx_rt, nx_ex, fl_ok, ownS_i, ownS_t, ownS_l, ownS_b, ownS_s, ownS_n, ownS_d, s_fz, s_set, s_setT, s_own, s_ite, s_ret, resF_rt, bindT_n, bindT_2, bindT_2l, bindT_3, optFl_some, frz_cons, frz_nil, wipe_cons, wipe_nil, mkT_nil, mkL_nil, mkT_1, mkT_2, mkT_3, mkT_4, mkL_6, List.getElem?_cons_zero, List.getElem?_cons_succ, List.set_cons_zero, List.set_cons_succ, List.map_cons, List.map_nil, List.cons_append, List.nil_append, List.replicate_succ, List.replicate_zero, List.length_cons, List.length_nil]
    | true =>
      simp [startR, ev_k, ev_v, ev_b, gb_eq, gv_eq, slb_v, slb_o, slv_v, ev_tup, ev_lst, ev_bin, ev_cmp, ev_chain, ev_neg1, ev_not, ev_and, ev_or, ev_ife, ev_call, ev_bt, ev_ix, ev_sl, ev_rev, ev_dict0, evs_nil, evs_cons, eva_nil, eva_cons, bnd_ok, asB, pl_nil, pl_int, sl_t, sl_l, rv_t, rv_l, b_add, b_sub, b_fdiv, b_mod, c_lt, c_le, c_gt, c_ge, c_eqI, c_neI, c_neB, c_isN, c_notN, c_isB, c_notB, t_len, t_lenL, t_tup, t_tupT, t_lst, t_lstL, t_sum, t_all, t_any, t_sorted, t_isT, t_isI, t_isB, t_isS, t_max, t_min, t_int, t_intB, s_seqT, s_seqL, s_enT, s_enL, s_zipT, ss_nil, ss_cons, nx_nx, nx_rt, nx_ex, fl_ok, ownS_i, ownS_t, ownS_l, ownS_b, ownS_s, ownS_n, ownS_d, s_fz, s_set, s_setT, s_own, s_ite, s_ret, resF_rt, bindT_n, bindT_2, bindT_2l, bindT_3, optFl_some, frz_cons, frz_nil, wipe_cons, wipe_nil, mkT_nil, mkL_nil, mkT_1, mkT_2, mkT_3, mkT_4, mkL_6, List.getElem?_cons_zero, List.getElem?_cons_succ, List.set_cons_zero, List.set_cons_succ, List.map_cons, List.map_nil, List.cons_append, List.nil_append, List.replicate_succ, List.replicate_zero, List.length_cons, List.length_nil]
      rw [hc]
      simp [all_map_bool, startR, ev_k, ev_v, ev_b, gb_eq, gv_eq, slb_v, slb_o, slv_v, ev_tup, ev_lst, ev_bin, ev_cmp, ev_chain, ev_neg1, ev_not, ev_and, ev_or, ev_ife, ev_call, ev_bt, ev_ix, ev_sl, ev_rev, ev_dict0, evs_nil, evs_cons, eva_nil, eva_cons, bnd_ok, asB, pl_nil, pl_int, sl_t, sl_l, rv_t, rv_l, b_add, b_sub, b_fdiv, b_mod, c_lt, c_le, c_gt, c_ge, c_eqI, c_neI, c_neB, c_isN, c_notN, c_isB, c_notB, t_len, t_lenL, t_tup, t_tupT, t_lst, t_lstL, t_sum, t_all, t_any, t_sorted, t_isT, t_isI, t_isB, t_isS, t_max, t_min, t_int, t_intB, s_seqT, s_seqL, s_enT, s_enL, s_zipT, ss_nil, ss_cons, nx_nx, nx_rt, nx_ex, fl_ok, ownS_i, ownS_t, ownS_l, ownS_b, ownS_s, ownS_n, ownS_d, s_fz, s_set, s_setT, s_own, s_ite, s_ret, resF_rt, bindT_n, bindT_2, bindT_2l, bindT_3, optFl_some, frz_cons, frz_nil, wipe_cons, wipe_nil, mkT_nil, mkL_nil, mkT_1, mkT_2, mkT_3, mkT_4, mkL_6, List.getElem?_cons_zero, List.getElem?_cons_succ, List.set_cons_zero, List.set_cons_succ, List.map_cons, List.map_nil, List.cons_append, List.nil_append, List.replicate_succ, List.replicate_zero, List.length_cons, List.length_nil]
def wordB (d : D) : Bool := match d with
  | .tuple xs => decide (xs.length ≤ 8) && xs.all (wholeB 1 9)
  | _ => false
theorem m_is_word (n : Nat) (d : D) : callF T0 (n + 2) 6 [d] = .ok (.bool (wordB d)) := by
  rw [call_eq (fn := F_is_word) rfl rfl]
  cases d <;> simp [F_is_word, isTupleD, wordB, startR, ev_k, ev_v, ev_b, gb_eq, gv_eq, slb_v, slb_o, slv_v, ev_tup, ev_lst, ev_bin, ev_cmp, ev_chain, ev_neg1, ev_not, ev_and, ev_or, ev_ife, ev_call, ev_bt, ev_ix, ev_sl, ev_rev, ev_dict0, evs_nil, evs_cons, eva_nil, eva_cons, bnd_ok, asB, pl_nil, pl_int, sl_t, sl_l, rv_t, rv_l, b_add, b_sub, b_fdiv, b_mod, c_lt, c_le, c_gt, c_ge, c_eqI, c_neI, c_neB, c_isN, c_notN, c_isB, c_notB, t_len, t_lenL, t_tup, t_tupT, t_lst, t_lstL, t_sum, t_all, t_any, t_sorted, t_isT, t_isI, t_isB, t_isS, t_max, t_min, t_int, t_intB, s_seqT, s_seqL, s_enT, s_enL, s_zipT, ss_nil, ss_cons, nx_nx, nx_rt, nx_ex, fl_ok, ownS_i, ownS_t, ownS_l, ownS_b, ownS_s, ownS_n, ownS_d, s_fz, s_set, s_setT, s_own, s_ite, s_ret, resF_rt, bindT_n, bindT_2, bindT_2l, bindT_3, optFl_some, frz_cons, frz_nil, wipe_cons, wipe_nil, mkT_nil, mkL_nil, mkT_1, mkT_2, mkT_3, mkT_4, mkL_6, List.getElem?_cons_zero, List.getElem?_cons_succ, List.set_cons_zero, List.set_cons_succ, List.map_cons, List.map_nil, List.cons_append, List.nil_append, List.replicate_succ, List.replicate_zero, List.length_cons, List.length_nil]
  rename_i xs
  by_cases hl : xs.length ≤ 8
  · have hc : evalE (callF T0 (n + 1)) (.comp (.call 0 [(.v 1), (.k (.int 1)), (.k (.int 9))]) [1] (.n 1) .seq [(.b 0)] []) [.val (.tuple xs), .non] = .ok (.list (xs.map fun x => .bool (wholeB 1 9 x))) :=
      comp_call rfl rfl (by omega) fun x _ => by simp [m_is_whole, startR, ev_k, ev_v, ev_b, gb_eq, gv_eq, slb_v, slb_o, slv_v, ev_tup, ev_lst, ev_bin, ev_cmp, ev_chain, ev_neg1, ev_not, ev_and, ev_or, ev_ife, ev_call, ev_bt, ev_ix, ev_sl, ev_rev, ev_dict0, evs_nil, evs_cons, eva_nil, eva_cons, bnd_ok, asB, pl_nil, pl_int, sl_t, sl_l, rv_t, rv_l, b_add, b_sub, b_fdiv, b_mod, c_lt, c_le, c_gt, c_ge, c_eqI, c_neI, c_neB, c_isN, c_notN, c_isB, c_notB, t_len, t_lenL, t_tup, t_tupT, t_lst, t_lstL, t_sum, t_all, t_any, t_sorted, t_isT, t_isI, t_isB, t_isS, t_max, t_min, t_int, t_intB, s_seqT, s_seqL, s_enT, s_enL, s_zipT, ss_nil, ss_cons, nx_nx, nx_rt, nx_ex, fl_ok, ownS_i, ownS_t, ownS_l, ownS_b, ownS_s, ownS_n, ownS_d, s_fz, s_set, s_setT, s_own, s_ite, s_ret, resF_rt, bindT_n, bindT_2, bindT_2l, bindT_3, optFl_some, frz_cons, frz_nil, wipe_cons, wipe_nil, mkT_nil, mkL_nil, mkT_1, mkT_2, mkT_3, mkT_4, mkL_6, List.getElem?_cons_zero, List.getElem?_cons_succ, List.set_cons_zero, List.set_cons_succ, List.map_cons, List.map_nil, List.cons_append, List.nil_append, List.replicate_succ, List.replicate_zero, List.length_cons, List.length_nil]
    have : ¬ (8 : Int) < xs.length := by omega
    simp [hl, this, hc, all_map_bool, startR, ev_k, ev_v, ev_b, gb_eq, gv_eq, slb_v, slb_o, slv_v, ev_tup, ev_lst, ev_bin, ev_cmp, ev_chain, ev_neg1, ev_not, ev_and, ev_or, ev_ife, ev_call, ev_bt, ev_ix, ev_sl, ev_rev, ev_dict0, evs_nil, evs_cons, eva_nil, eva_cons, bnd_ok, asB, pl_nil, pl_int, sl_t, sl_l, rv_t, rv_l, b_add, b_sub, b_fdiv, b_mod, c_lt, c_le, c_gt, c_ge, c_eqI, c_neI, c_neB, c_isN, c_notN, c_isB, c_notB, t_len, t_lenL, t_tup, t_tupT, t_lst, t_lstL, t_sum, t_all, t_any, t_sorted, t_isT, t_isI, t_isB, t_isS, t_max, t_min, t_int, t_intB, s_seqT, s_seqL, s_enT, s_enL, s_zipT, ss_nil, ss_cons, nx_nx, nx_rt, nx_ex, fl_ok, ownS_i, ownS_t, ownS_l, ownS_b, ownS_s, ownS_n, ownS_d, s_fz, s_set, s_setT, s_own, s_ite, s_ret, resF_rt, bindT_n, bindT_2, bindT_2l, bindT_3, optFl_some, frz_cons, frz_nil, wipe_cons, wipe_nil, mkT_nil, mkL_nil, mkT_1, mkT_2, mkT_3, mkT_4, mkL_6, List.getElem?_cons_zero, List.getElem?_cons_succ, List.set_cons_zero, List.set_cons_succ, List.map_cons, List.map_nil, List.cons_append, List.nil_append, List.replicate_succ, List.replicate_zero, List.length_cons, List.length_nil]
  · have : (8 : Int) < xs.length := by omega
    simp [hl, this, startR, ev_k, ev_v, ev_b, gb_eq, gv_eq, slb_v, slb_o, slv_v, ev_tup, ev_lst, ev_bin, ev_cmp, ev_chain, ev_neg1, ev_not, ev_and, ev_or, ev_ife, ev_call, ev_bt, ev_ix, ev_sl, ev_rev, ev_dict0, evs_nil, evs_cons, eva_nil, eva_cons, bnd_ok, asB, pl_nil, pl_int, sl_t, sl_l, rv_t, rv_l, b_add, b_sub, b_fdiv, b_mod, c_lt, c_le, c_gt, c_ge, c_eqI, c_neI, c_neB, c_isN, c_notN, c_isB, c_notB, t_len, t_lenL, t_tup, t_tupT, t_lst, t_lstL, t_sum, t_all, t_any, t_sorted, t_isT, t_isI, t_isB, t_isS, t_max, t_min, t_int, t_intB, s_seqT, s_seqL, s_enT, s_enL, s_zipT, ss_nil, ss_cons, nx_nx, nx_rt, nx_ex, fl_ok, ownS_i, ownS_t, ownS_l, ownS_b, ownS_s, ownS_n, ownS_d, s_fz, s_set, s_setT, s_own, s_ite, s_ret, resF_rt, bindT_n, bindT_2, bindT_2l, bindT_3, optFl_some, frz_cons, frz_nil, wipe_cons, wipe_nil, mkT_nil, mkL_nil, mkT_1, mkT_2, mkT_3, mkT_4, mkL_6, List.getElem?_cons_zero, List.getElem?_cons_succ, List.set_cons_zero, List.set_cons_succ, List.map_cons, List.map_nil, List.cons_append, List.nil_append, List.replicate_succ, List.replicate_zero, List.length_cons, List.length_nil]
/-! for the typed mirrors -/
def fewB (d : D) : Bool := match d with
  | .tuple xs => decide (xs.length ≤ 1000)
  | _ => true
def few2B (d : D) : Bool := match d with
  | .tuple xs => decide (xs.length ≤ 1000) && xs.all fewB
  | _ => true
theorem fewB_ok {d : D} (h : fewB d = true) : Few d := fun xs e => by subst e; simpa [fewB] using h
theorem few2B_ok {d : D} (h : few2B d = true) : Few2 d := fun xs e => by
  subst e
  simp only [few2B, Bool.and_eq_true, decide_eq_true_eq, List.all_eq_true] at h
  exact ⟨h.1, fun x hx => fewB_ok (h.2 x hx)⟩
def G_is_whole (d : D) (lo hi : Int) : Option Bool := some (wholeB lo hi d)
theorem c_is_whole (n : Nat) (d : D) (lo hi : Int) : XE (callF T0 (n + 1) 0 [eD d, PyData.int lo, PyData.int hi]) PyData.bool (G_is_whole d lo hi) := xe_pure (m_is_whole n d lo hi)
def G_is_shape (d : D) : Option Bool := if fewB d = true then some (shapeB d) else none
theorem c_is_shape (n : Nat) (d : D) : XE (callF T0 (n + 2) 2 [eD d]) PyData.bool (G_is_shape d) := fun a e => by
  obtain ⟨h, e⟩ := ite_some' e; cases e; exact m_is_shape n d (fewB_ok h)
def G_is_row (d : D) : Option Bool := if fewB d = true then some (rowB d) else none
theorem c_is_row (n : Nat) (d : D) : XE (callF T0 (n + 2) 3 [eD d]) PyData.bool (G_is_row d) := fun a e => by
  obtain ⟨h, e⟩ := ite_some' e; cases e; exact m_is_row n d (fewB_ok h)
def G_is_filling (d : D) : Option Bool := if few2B d = true then some (fillB d) else none
theorem c_is_filling (n : Nat) (d : D) : XE (callF T0 (n + 3) 4 [eD d]) PyData.bool (G_is_filling d) := fun a e => by
  obtain ⟨h, e⟩ := ite_some' e; cases e; exact m_is_filling n d (few2B_ok h)
def G_is_word (d : D) : Option Bool := some (wordB d)
theorem c_is_word (n : Nat) (d : D) : XE (callF T0 (n + 2) 6 [eD d]) PyData.bool (G_is_word d) := xe_pure (m_is_word n d)
end BP
namespace BP
open PySem
def G_strips (shape1 : (List Int)) (many2 : Int) : Option (List (List Int)) :=
  (some [([] : List Int)]).bind fun found3 => (foldO (fun (s4 : (List (List Int))) (p5 : (Int × Int)) => (if (decide ((p5.1 + (1 : Int)) < (shape1.length : Int))) = true then (L2.atI shape1 (p5.1 + (1 : Int))).bind fun least9 => some least9 else some (0 : Int)).bind fun (s7 : Int) => (some ([] : List (List Int))).bind fun longer10 => (foldO (fun (s11 : (List (List Int))) (some12 : (List Int)) => (((rg2O s7 (p5.2 + (1 : Int))).bind fun rg13 => (compO (fun (left14 : Int) => (catO some12 [left14])) rg13)).bind fun y17 => extO s11 y17).bind fun longer18 => some longer18) s4 longer10).bind fun (s11 : (List (List Int))) => some s11) (enumI 0 shape1) found3).bind fun (s4 : (List (List Int))) => (some ((shape1.sum) - many2)).bind fun rest19 => (compF (fun (some20 : (List Int)) => (some (decide ((some20.sum) = rest19)))) (fun (some20 : (List Int)) => ((compF (fun (left21 : Int) => (some (decide ((0 : Int) < left21)))) (fun (left21 : Int) => (some left21)) some20).bind fun t22 => (some t22))) s4)
theorem c_strips (n : Nat) (shape1 : (List Int)) (many2 : Int) : XE (callF T0 (n + 1) 132 [(eT PyData.int) shape1, PyData.int many2]) (eL (eT PyData.int)) (G_strips shape1 many2) := by
  unfold G_strips
  refine fn_of (n := n) (fn := F_strips) (ρ := [.val ((eT PyData.int) shape1), .val (PyData.int many2), .non, .non, .non, .non, .non, .non, .non, .non]) rfl rfl rfl ?_
  refine sb_own (en := (eL (eT PyData.int))) (xe_pure (en := (eL (eT PyData.int))) (x_lstL (en := (eT PyData.int)) (et_cons (en := (eT PyData.int)) (x_tupT (en := PyData.int) (et_nil (en := PyData.int)) (Nat.le_of_ble_eq_true rfl)) (et_nil (en := (eT PyData.int)))) (Nat.le_of_ble_eq_true rfl))) (fun _ => rfl) fun found3 => ?_
  refine sb_seqN (R := fun (s4 : (List (List Int))) ρ => ∃ (b2 : Bool) (j3 : Slot) (j4 : Slot) (j5 : Slot) (j6 : Slot) (j7 : Slot), ρ = [.val ((eT PyData.int) shape1), .val (PyData.int many2), slB b2 ((eL (eT PyData.int)) s4), j3, j4, j5, j6, j7, .non, .non]) (sb_loop (enx := (eP PyData.int PyData.int)) (s0 := (found3 : (List (List Int)))) (src_en (en := PyData.int) (x_v rfl) rfl) ⟨true, _, _, _, _, _, rfl⟩ ?_) ?_
  · rintro s4 p5 _ - ⟨b2, j3, j4, j5, j6, j7, rfl⟩
    refine ⟨_, bindT_2, ?_⟩
    refine sb_setA (d := PyData.int (0 : Int)) (x_k (d := .int (0))) ?_
    refine sb_seqN (R := fun (s7 : Int) ρ => ∃ (j6 : Slot) (j7 : Slot), ρ = [.val ((eT PyData.int) shape1), .val (PyData.int many2), slB b2 ((eL (eT PyData.int)) s4), .val (PyData.int p5.1), .val (PyData.int p5.2), .val (PyData.int s7), j6, j7, .non, .non]) (sb_ite (x_cmp (x_add (x_b rfl) (x_k (d := .int (1)))) (x_bt1 (x_b rfl) (k_lenT (en := PyData.int))) c_lt) ?_ ?_) ?_
    · intro hc
      refine sb_set (en := PyData.int) (x_ixT (en := PyData.int) (x_b rfl) (x_add (x_b rfl) (x_k (d := .int (1))))) fun least9 => ?_
      exact sb_endN ⟨_, _, rfl⟩
    · intro hc
      exact sb_endN ⟨_, _, rfl⟩
    rintro s7 _ ⟨j6, j7, rfl⟩
    refine sb_own (en := (eL (eT PyData.int))) (xe_pure (en := (eL (eT PyData.int))) (x_lstL (en := (eT PyData.int)) (et_nil (en := (eT PyData.int))) (Nat.le_of_ble_eq_true rfl))) (fun _ => rfl) fun longer10 => ?_
    refine sb_fzb rfl ?_
    refine sb_fzn ?_
    refine sb_seqN (R := fun (s11 : (List (List Int))) ρ => ∃ (j7 : Slot), ρ = [.val ((eT PyData.int) shape1), .val (PyData.int many2), .val ((eL (eT PyData.int)) s4), .val (PyData.int p5.1), .val (PyData.int p5.2), .val (PyData.int s7), .own ((eL (eT PyData.int)) s11), j7, .non, .non]) (sb_loop (enx := (eT PyData.int)) (s0 := (longer10 : (List (List Int)))) (src_L (en := (eT PyData.int)) (x_v rfl)) ⟨_, rfl⟩ ?_) ?_
    · rintro s11 some12 _ - ⟨j7, rfl⟩
      refine ⟨_, rfl, ?_⟩
      refine sb_extLM (en := (eT PyData.int)) rfl (xe_bindSr (en1 := PyData.int) (fun rg13 hrg13 => (x_comp (enx := PyData.int) (en := (eT PyData.int)) (f := fun (left14 : Int) => (catO some12 [left14])) hrg13 fun left14 _ => ⟨_, rfl, (x_catT (en := PyData.int) (x_b rfl) (x_tupT (en := PyData.int) (et_cons (en := PyData.int) (x_v rfl) (et_nil (en := PyData.int))) (Nat.le_of_ble_eq_true rfl)))⟩)) (src_r2 (x_b rfl) (x_add (x_b rfl) (x_k (d := .int (1)))))) fun longer18 => ?_
      exact sb_endN ⟨_, rfl⟩
    rintro s11 _ ⟨j7, rfl⟩
    refine sb_fzo rfl ?_
    refine sb_fzn ?_
    refine sb_setA (d := (eL (eT PyData.int)) s11) (x_v rfl) ?_
    exact sb_endN ⟨false, _, _, _, _, _, rfl⟩
  rintro s4 _ ⟨b2, j3, j4, j5, j6, j7, rfl⟩
  refine sb_ownV (en := PyData.int) (xe_pure (en := PyData.int) (x_sub (x_bt1 (x_b rfl) k_sumT) (x_b rfl))) (fun _ => rfl) fun rest19 => ?_
  exact sb_ret0 (x_compF (enx := (eT PyData.int)) (en := (eT PyData.int)) (g := fun (some20 : (List Int)) => (some (decide ((some20.sum) = rest19)))) (f := fun (some20 : (List Int)) => ((compF (fun (left21 : Int) => (some (decide ((0 : Int) < left21)))) (fun (left21 : Int) => (some left21)) some20).bind fun t22 => (some t22))) (src_L (en := (eT PyData.int)) (x_ob rfl)) fun some20 _ => ⟨_, rfl, (xe_pure (en := PyData.bool) (x_cmp (x_bt1 (x_b rfl) k_sumT) (x_b rfl) (k_eq (en := PyData.int) (by decide)))), fun _ => (xe_bindr (en1 := (eL PyData.int)) (fun t22 ht22 => (xe_pure (en := (eT PyData.int)) (x_bt1 ht22 (k_tupL (en := PyData.int))))) (x_compF (enx := PyData.int) (en := PyData.int) (g := fun (left21 : Int) => (some (decide ((0 : Int) < left21)))) (f := fun (left21 : Int) => (some left21)) (src_T (en := PyData.int) (x_b rfl)) fun left21 _ => ⟨_, rfl, (xe_pure (en := PyData.bool) (x_cmp (x_b rfl) (x_k (d := .int (0))) c_gt)), fun _ => (xe_pure (en := PyData.int) (x_v rfl))⟩))⟩) (fun _ => rfl)
def G_many_with : Nat → (List Int) → (List Int) → Option Int
  | 0, _, _ => none
  | m + 1, shape1, counts2 =>
    if (decide ((counts2.length : Int) = (0 : Int))) = true then (some (if (decide (shape1 = ([] : List Int))) = true then (1 : Int) else 0)) else ((L2.atI counts2 (-1 : Int)).bind fun t4 => ((G_strips shape1 t4).bind fun t5 => ((compO (fun (less6 : (List Int)) => (G_many_with m less6 (cutD counts2 none (some (-1 : Int))))) t5).bind fun t8 => (some (t8.sum)))))
theorem c_many_with (n : Nat) : ∀ (m : Nat) (shape1 : (List Int)) (counts2 : (List Int)), XE (callF T0 (n + m + 1) 133 [(eT PyData.int) shape1, (eT PyData.int) counts2]) PyData.int (G_many_with m shape1 counts2)
  | 0, _, _ => fun _ e => nomatch e
  | m + 1, shape1, counts2 => by
    unfold G_many_with
    show XE (callF T0 ((n + m + 1) + 1) 133 [(eT PyData.int) shape1, (eT PyData.int) counts2]) _ _
    refine fn_of (n := n + m + 1) (fn := F_many_with) (ρ := [.val ((eT PyData.int) shape1), .val ((eT PyData.int) counts2), .non]) rfl rfl rfl ?_
    refine sb_if (x_cmp (x_bt1 (x_b rfl) (k_lenT (en := PyData.int))) (x_k (d := .int (0))) (k_eq (en := PyData.int) (by decide))) ?_ ?_
    · intro hc
      exact sb_ret0 (xe_pure (en := PyData.int) (x_bt1 (x_cmp (x_b rfl) (x_tupT (en := PyData.int) (et_nil (en := PyData.int)) (Nat.le_of_ble_eq_true rfl)) (k_eq (en := (eT PyData.int)) (by decide))) k_intB)) (fun _ => rfl)
    intro hc
    exact sb_ret0 (xe_bindr (en1 := PyData.int) (fun t4 ht4 => (xe_bindr (en1 := (eL (eT PyData.int))) (fun t5 ht5 => (xe_bindr (en1 := (eL PyData.int)) (fun t8 ht8 => (xe_pure (en := PyData.int) (x_bt1 ht8 k_sumL))) (x_comp (enx := (eT PyData.int)) (en := PyData.int) (f := fun (less6 : (List Int)) => (G_many_with m less6 (cutD counts2 none (some (-1 : Int))))) (src_L (en := (eT PyData.int)) ht5) fun less6 _ => ⟨_, rfl, (x_call (es_cons (x_v rfl) (es_cons (x_slT (en := PyData.int) (x_b rfl) po_none (po_some (x_neg (x_k (d := .int (1)))))) es_nil)) (c_many_with n m _ _))⟩))) (x_call (es_cons (x_v rfl) (es_cons ht4 es_nil)) (c_strips (n + m) _ _)))) (x_ixT (en := PyData.int) (x_b rfl) (x_neg (x_k (d := .int (1)))))) (fun _ => rfl)
def G_with_strip (filling1 : (List (List Int))) (shape2 : (List Int)) (number3 : Int) : Option (List (List Int)) :=
  (some ([] : List (List Int))).bind fun found4 => (foldO (fun (s5 : (List (List Int))) (p6 : (Int × Int)) => ((repO (shape2.length : Int) [([] : List Int)]).bind fun t7 => ((catO filling1 t7).bind fun t8 => (L2.atI t8 p6.1))).bind fun old10 => (((repO (p6.2 - (old10.length : Int)) [number3]).bind fun t11 => (catO old10 t11)).bind fun y13 => appO s5 y13).bind fun found14 => some found14) (enumI 0 shape2) found4).bind fun (s5 : (List (List Int))) => (some s5)
theorem c_with_strip (n : Nat) (filling1 : (List (List Int))) (shape2 : (List Int)) (number3 : Int) : XE (callF T0 (n + 1) 162 [(eT (eT PyData.int)) filling1, (eT PyData.int) shape2, PyData.int number3]) (eT (eT PyData.int)) (G_with_strip filling1 shape2 number3) := by
  unfold G_with_strip
  refine fn_of (n := n) (fn := F_with_strip) (ρ := [.val ((eT (eT PyData.int)) filling1), .val ((eT PyData.int) shape2), .val (PyData.int number3), .non, .non, .non, .non]) rfl rfl rfl ?_
  refine sb_own (en := (eL (eT PyData.int))) (xe_pure (en := (eL (eT PyData.int))) (x_lstL (en := (eT PyData.int)) (et_nil (en := (eT PyData.int))) (Nat.le_of_ble_eq_true rfl))) (fun _ => rfl) fun found4 => ?_
  refine sb_seqN (R := fun (s5 : (List (List Int))) ρ => ∃ (j4 : Slot) (j5 : Slot) (j6 : Slot), ρ = [.val ((eT (eT PyData.int)) filling1), .val ((eT PyData.int) shape2), .val (PyData.int number3), .own ((eL (eT PyData.int)) s5), j4, j5, j6]) (sb_loop (enx := (eP PyData.int PyData.int)) (s0 := (found4 : (List (List Int)))) (src_en (en := PyData.int) (x_v rfl) rfl) ⟨_, _, _, rfl⟩ ?_) ?_
  · rintro s5 p6 _ - ⟨j4, j5, j6, rfl⟩
    refine ⟨_, bindT_2, ?_⟩
    refine sb_set (en := (eT PyData.int)) (xe_bindr (en1 := (eT (eT PyData.int))) (fun t7 ht7 => (xe_bindr (en1 := (eT (eT PyData.int))) (fun t8 ht8 => (x_ixT (en := (eT PyData.int)) ht8 (x_b rfl))) (x_catT (en := (eT PyData.int)) (x_b rfl) ht7))) (x_repT (en := (eT PyData.int)) (x_tupT (en := (eT PyData.int)) (et_cons (en := (eT PyData.int)) (x_tupT (en := PyData.int) (et_nil (en := PyData.int)) (Nat.le_of_ble_eq_true rfl)) (et_nil (en := (eT PyData.int)))) (Nat.le_of_ble_eq_true rfl)) (x_bt1 (x_b rfl) (k_lenT (en := PyData.int))))) fun old10 => ?_
    refine sb_appM (en := (eT PyData.int)) rfl (xe_bindr (en1 := (eT PyData.int)) (fun t11 ht11 => (x_catT (en := PyData.int) (x_b rfl) ht11)) (x_repT (en := PyData.int) (x_tupT (en := PyData.int) (et_cons (en := PyData.int) (x_v rfl) (et_nil (en := PyData.int))) (Nat.le_of_ble_eq_true rfl)) (x_sub (x_b rfl) (x_bt1 (x_b rfl) (k_lenT (en := PyData.int)))))) fun found14 => ?_
    exact sb_endN ⟨_, _, _, rfl⟩
  rintro s5 _ ⟨j4, j5, j6, rfl⟩
  exact sb_ret0 (xe_pure (en := (eT (eT PyData.int))) (x_bt1 (x_o rfl) (k_tupL (en := (eT PyData.int))))) (fun _ => rfl)
def G_filling_with : Nat → (List Int) → (List Int) → Option (Option (List (List Int)))
  | 0, _, _ => none
  | m + 1, shape1, counts2 =>
    if (decide ((counts2.length : Int) = (0 : Int))) = true then if (decide (shape1 = ([] : List Int))) = true then (some (some ([] : List (List Int)))) else (some none) else (((L2.atI counts2 (-1 : Int)).bind fun t5 => ((G_strips shape1 t5).bind fun t6 => (some t6))).bind fun xs14 => foldF (fun (s7 : Unit) (less8 : (List Int)) => (G_filling_with m less8 (cutD counts2 none (some (-1 : Int)))).bind fun filling10 => if (filling10.isSome) = true then (filling10.bind fun o12 => ((G_with_strip o12 shape1 (counts2.length : Int)).bind fun t13 => (some (some t13)))).bind fun a => some (.rt a) else some (.nx ())) xs14 ()).bind (F.elim (fun (s7 : Unit) => (some none)) fun b => some (id b))
theorem c_filling_with (n : Nat) : ∀ (m : Nat) (shape1 : (List Int)) (counts2 : (List Int)), XE (callF T0 (n + m + 1) 163 [(eT PyData.int) shape1, (eT PyData.int) counts2]) (eO (eT (eT PyData.int))) (G_filling_with m shape1 counts2)
  | 0, _, _ => fun _ e => nomatch e
  | m + 1, shape1, counts2 => by
    unfold G_filling_with
    show XE (callF T0 ((n + m + 1) + 1) 163 [(eT PyData.int) shape1, (eT PyData.int) counts2]) _ _
    refine fn_of (n := n + m + 1) (fn := F_filling_with) (ρ := [.val ((eT PyData.int) shape1), .val ((eT PyData.int) counts2), .non, .non]) rfl rfl rfl ?_
    refine sb_if (x_cmp (x_bt1 (x_b rfl) (k_lenT (en := PyData.int))) (x_k (d := .int (0))) (k_eq (en := PyData.int) (by decide))) ?_ ?_
    · intro hc
      refine sb_if (x_cmp (x_b rfl) (x_tupT (en := PyData.int) (et_nil (en := PyData.int)) (Nat.le_of_ble_eq_true rfl)) (k_eq (en := (eT PyData.int)) (by decide))) ?_ ?_
      · intro hc
        exact sb_ret0 (xe_pure (en := (eO (eT (eT PyData.int)))) (x_some (en := (eT (eT PyData.int))) (x_tupT (en := (eT PyData.int)) (et_nil (en := (eT PyData.int))) (Nat.le_of_ble_eq_true rfl)))) (fun _ => rfl)
      intro hc
      exact sb_ret0 (xe_pure (en := (eO (eT (eT PyData.int)))) (x_none (en := (eT (eT PyData.int))))) (fun _ => rfl)
    intro hc
    refine sb_seqF (R := fun (s7 : Unit) ρ => ∃ (j2 : Slot) (j3 : Slot), ρ = [.val ((eT PyData.int) shape1), .val ((eT PyData.int) counts2), j2, j3]) (en := (eO (eT (eT PyData.int)))) (w := id) (sb_loopFM (enx := (eT PyData.int)) (s0 := (() : Unit)) (xs_bindr (en1 := PyData.int) (fun t5 ht5 => (xs_bindr (en1 := (eL (eT PyData.int))) (fun t6 ht6 => (xs_pure (en := (eT PyData.int)) (src_L (en := (eT PyData.int)) ht6))) (x_call (es_cons (x_v rfl) (es_cons ht5 es_nil)) (c_strips (n + m) _ _)))) (x_ixT (en := PyData.int) (x_b rfl) (x_neg (x_k (d := .int (1)))))) ⟨_, _, rfl⟩ ?_) (fun _ => rfl) ?_
    · rintro s7 less8 _ ⟨j2, j3, rfl⟩
      refine ⟨_, rfl, ?_⟩
      refine sb_set (en := (eO (eT (eT PyData.int)))) (x_call (es_cons (x_v rfl) (es_cons (x_slT (en := PyData.int) (x_b rfl) po_none (po_some (x_neg (x_k (d := .int (1)))))) es_nil)) (c_filling_with n m _ _)) fun filling10 => ?_
      refine sb_ite (x_cmp (x_b rfl) (x_k (d := .none)) (k_notN (en := (eT (eT PyData.int))))) ?_ ?_
      · intro hc
        exact sb_ret (w := F.rt) (xe_bindr (en1 := (eT (eT PyData.int))) (fun o12 ho12 => (xe_bindr (en1 := (eT (eT PyData.int))) (fun t13 ht13 => (xe_pure (en := (eO (eT (eT PyData.int)))) (x_some (en := (eT (eT PyData.int))) ht13))) (x_call (es_cons ho12 (es_cons (x_v rfl) (es_cons (x_bt1 (x_b rfl) (k_lenT (en := PyData.int))) es_nil))) (c_with_strip (n + m) _ _ _)))) (x_asO (en := (eT (eT PyData.int))) (x_v rfl))) (fun _ => rfl)
      · intro hc
        exact sb_endF ⟨_, _, rfl⟩
    rintro s7 _ ⟨j2, j3, rfl⟩
    exact sb_ret0 (xe_pure (en := (eO (eT (eT PyData.int)))) (x_none (en := (eT (eT PyData.int))))) (fun _ => rfl)
def G_all_lots : Nat → Int → Int → Int → Option (List (List Int))
  | 0, _, _, _ => none
  | m + 1, many1, least2, most3 =>
    if (decide (many1 = (0 : Int))) = true then (some [([] : List Int)]) else (some ([] : List (List Int))).bind fun found5 => ((rg2O least2 (most3 + (1 : Int))).bind fun xs15 => foldO (fun (s7 : (List (List Int))) (number8 : Int) => (((G_all_lots m (many1 - (1 : Int)) (number8 + (1 : Int)) most3).bind fun t9 => (compO (fun (rest10 : (List Int)) => (catO [number8] rest10)) t9)).bind fun y13 => extO s7 y13).bind fun found14 => some found14) xs15 found5).bind fun (s7 : (List (List Int))) => (some s7)
theorem c_all_lots (n : Nat) : ∀ (m : Nat) (many1 : Int) (least2 : Int) (most3 : Int), XE (callF T0 (n + m + 0) 152 [PyData.int many1, PyData.int least2, PyData.int most3]) (eL (eT PyData.int)) (G_all_lots m many1 least2 most3)
  | 0, _, _, _ => fun _ e => nomatch e
  | m + 1, many1, least2, most3 => by
    unfold G_all_lots
    show XE (callF T0 ((n + m + 0) + 1) 152 [PyData.int many1, PyData.int least2, PyData.int most3]) _ _
    refine fn_of (n := n + m + 0) (fn := F_all_lots) (ρ := [.val (PyData.int many1), .val (PyData.int least2), .val (PyData.int most3), .non, .non, .non]) rfl rfl rfl ?_
    refine sb_if (x_cmp (x_b rfl) (x_k (d := .int (0))) (k_eq (en := PyData.int) (by decide))) ?_ ?_
    · intro hc
      exact sb_ret0 (xe_pure (en := (eL (eT PyData.int))) (x_lstL (en := (eT PyData.int)) (et_cons (en := (eT PyData.int)) (x_tupT (en := PyData.int) (et_nil (en := PyData.int)) (Nat.le_of_ble_eq_true rfl)) (et_nil (en := (eT PyData.int)))) (Nat.le_of_ble_eq_true rfl))) (fun _ => rfl)
    intro hc
    refine sb_own (en := (eL (eT PyData.int))) (xe_pure (en := (eL (eT PyData.int))) (x_lstL (en := (eT PyData.int)) (et_nil (en := (eT PyData.int))) (Nat.le_of_ble_eq_true rfl))) (fun _ => rfl) fun found5 => ?_
    refine sb_seqN (R := fun (s7 : (List (List Int))) ρ => ∃ (j4 : Slot), ρ = [.val (PyData.int many1), .val (PyData.int least2), .val (PyData.int most3), .own ((eL (eT PyData.int)) s7), j4, .non]) (sb_loopM (enx := PyData.int) (s0 := (found5 : (List (List Int)))) (src_r2 (x_v rfl) (x_add (x_b rfl) (x_k (d := .int (1))))) ⟨_, rfl⟩ ?_) ?_
    · rintro s7 number8 _ ⟨j4, rfl⟩
      refine ⟨_, rfl, ?_⟩
      refine sb_extLM (en := (eT PyData.int)) rfl (xe_bindr (en1 := (eL (eT PyData.int))) (fun t9 ht9 => (x_comp (enx := (eT PyData.int)) (en := (eT PyData.int)) (f := fun (rest10 : (List Int)) => (catO [number8] rest10)) (src_L (en := (eT PyData.int)) ht9) fun rest10 _ => ⟨_, rfl, (x_catT (en := PyData.int) (x_tupT (en := PyData.int) (et_cons (en := PyData.int) (x_v rfl) (et_nil (en := PyData.int))) (Nat.le_of_ble_eq_true rfl)) (x_b rfl))⟩)) (x_call (es_cons (x_sub (x_b rfl) (x_k (d := .int (1)))) (es_cons (x_add (x_b rfl) (x_k (d := .int (1)))) (es_cons (x_v rfl) es_nil))) (c_all_lots n m _ _ _))) fun found14 => ?_
      exact sb_endN ⟨_, rfl⟩
    rintro s7 _ ⟨j4, rfl⟩
    refine sb_fzo rfl ?_
    refine sb_fzn ?_
    exact sb_ret0 (xe_pure (en := (eL (eT PyData.int))) (x_v rfl)) (fun _ => rfl)
def G_shows (shape1 : (List Int)) (counts2 : (List Int)) (lot3 : (List Int)) : Option Bool :=
  ((compO (fun (number4 : Int) => (L2.atI counts2 (number4 - (1 : Int)))) lot3).bind fun t6 => (some (t6.sum))).bind fun here7 => if (decide (((cutD shape1 none (some (lot3.length : Int))).sum) < here7)) = true then (some true) else ((rg2O (1 : Int) ((counts2.length : Int) + (1 : Int))).bind fun rg9 => ((compF (fun (number10 : Int) => ((L2.atI counts2 (number10 - (1 : Int))).bind fun t11 => (some (decide ((0 : Int) < t11))))) (fun (number10 : Int) => (some number10)) rg9).bind fun t12 => (some t12))).bind fun every13 => (some ((decide (lot3 = every13)) && (decide (here7 < (shape1.sum)))))
theorem c_shows (n : Nat) (shape1 : (List Int)) (counts2 : (List Int)) (lot3 : (List Int)) : XE (callF T0 (n + 1) 164 [(eT PyData.int) shape1, (eT PyData.int) counts2, (eT PyData.int) lot3]) PyData.bool (G_shows shape1 counts2 lot3) := by
  unfold G_shows
  refine fn_of (n := n) (fn := F_shows) (ρ := [.val ((eT PyData.int) shape1), .val ((eT PyData.int) counts2), .val ((eT PyData.int) lot3), .non, .non, .non]) rfl rfl rfl ?_
  refine sb_set (en := PyData.int) (xe_bindr (en1 := (eL PyData.int)) (fun t6 ht6 => (xe_pure (en := PyData.int) (x_bt1 ht6 k_sumL))) (x_comp (enx := PyData.int) (en := PyData.int) (f := fun (number4 : Int) => (L2.atI counts2 (number4 - (1 : Int)))) (src_T (en := PyData.int) (x_b rfl)) fun number4 _ => ⟨_, rfl, (x_ixT (en := PyData.int) (x_b rfl) (x_sub (x_b rfl) (x_k (d := .int (1)))))⟩)) fun here7 => ?_
  refine sb_if (x_cmp (x_b rfl) (x_bt1 (x_slT (en := PyData.int) (x_b rfl) po_none (po_some (x_bt1 (x_b rfl) (k_lenT (en := PyData.int))))) k_sumT) c_gt) ?_ ?_
  · intro hc
    exact sb_ret0 (xe_pure (en := PyData.bool) (x_k (d := .bool true))) (fun _ => rfl)
  intro hc
  refine sb_set (en := (eT PyData.int)) (xe_bindSr (en1 := PyData.int) (fun rg9 hrg9 => (xe_bindr (en1 := (eL PyData.int)) (fun t12 ht12 => (xe_pure (en := (eT PyData.int)) (x_bt1 ht12 (k_tupL (en := PyData.int))))) (x_compF (enx := PyData.int) (en := PyData.int) (g := fun (number10 : Int) => ((L2.atI counts2 (number10 - (1 : Int))).bind fun t11 => (some (decide ((0 : Int) < t11))))) (f := fun (number10 : Int) => (some number10)) hrg9 fun number10 _ => ⟨_, rfl, (xe_bindr (en1 := PyData.int) (fun t11 ht11 => (xe_pure (en := PyData.bool) (x_cmp ht11 (x_k (d := .int (0))) c_gt))) (x_ixT (en := PyData.int) (x_b rfl) (x_sub (x_b rfl) (x_k (d := .int (1)))))), fun _ => (xe_pure (en := PyData.int) (x_v rfl))⟩))) (src_r2 (x_k (d := .int (1))) (x_add (x_bt1 (x_b rfl) (k_lenT (en := PyData.int))) (x_k (d := .int (1)))))) fun every13 => ?_
  exact sb_ret0 (xe_pure (en := PyData.bool) (x_and (x_cmp (x_b rfl) (x_b rfl) (k_eq (en := (eT PyData.int)) (by decide))) (x_cmp (x_b rfl) (x_bt1 (x_b rfl) k_sumT) c_lt))) (fun _ => rfl)
def G_why_none (shape1 : (List Int)) (counts2 : (List Int)) : Option (Option (List Int)) :=
  ((rg1O ((counts2.length : Int) + (1 : Int))).bind fun xs12 => foldF (fun (s4 : Unit) (many5 : Int) => (((G_all_lots 14 many5 (1 : Int) (counts2.length : Int)).bind fun t6 => (some t6)).bind fun xs11 => foldF (fun (s7 : Unit) (lot8 : (List Int)) => (G_shows shape1 counts2 lot8).bind fun t10 => if t10 = true then (some (some lot8)).bind fun a => some (.rt a) else some (.nx ())) xs11 ()).bind (F.elim (fun (s7 : Unit) => some (.nx ())) fun b => some (F.rt b))) xs12 ()).bind (F.elim (fun (s4 : Unit) => (some none)) fun b => some (id b))
theorem c_why_none (n : Nat) (shape1 : (List Int)) (counts2 : (List Int)) : XE (callF T0 (n + 15) 165 [(eT PyData.int) shape1, (eT PyData.int) counts2]) (eO (eT PyData.int)) (G_why_none shape1 counts2) := by
  unfold G_why_none
  refine fn_of (n := n + 14) (fn := F_why_none) (ρ := [.val ((eT PyData.int) shape1), .val ((eT PyData.int) counts2), .non, .non]) rfl rfl rfl ?_
  refine sb_seqF (R := fun (s4 : Unit) ρ => ∃ (j2 : Slot) (j3 : Slot), ρ = [.val ((eT PyData.int) shape1), .val ((eT PyData.int) counts2), j2, j3]) (en := (eO (eT PyData.int))) (w := id) (sb_loopFM (enx := PyData.int) (s0 := (() : Unit)) (src_r1 (x_add (x_bt1 (x_b rfl) (k_lenT (en := PyData.int))) (x_k (d := .int (1))))) ⟨_, _, rfl⟩ ?_) (fun _ => rfl) ?_
  · rintro s4 many5 _ ⟨j2, j3, rfl⟩
    refine ⟨_, rfl, ?_⟩
    refine sb_seqF (R := fun (s7 : Unit) ρ => ∃ (j3 : Slot), ρ = [.val ((eT PyData.int) shape1), .val ((eT PyData.int) counts2), .val (PyData.int many5), j3]) (en := (eO (eT PyData.int))) (w := F.rt) (sb_loopFM (enx := (eT PyData.int)) (s0 := (() : Unit)) (xs_bindr (en1 := (eL (eT PyData.int))) (fun t6 ht6 => (xs_pure (en := (eT PyData.int)) (src_L (en := (eT PyData.int)) ht6))) (x_call (es_cons (x_v rfl) (es_cons (x_k (d := .int (1))) (es_cons (x_bt1 (x_b rfl) (k_lenT (en := PyData.int))) es_nil))) (c_all_lots n 14 _ _ _))) ⟨_, rfl⟩ ?_) (fun _ => rfl) ?_
    · rintro s7 lot8 _ ⟨j3, rfl⟩
      refine ⟨_, rfl, ?_⟩
      refine sb_iteM (x_call (es_cons (x_v rfl) (es_cons (x_v rfl) (es_cons (x_v rfl) es_nil))) (c_shows (n + 13) _ _ _)) ?_ ?_
      · skip
        exact sb_ret (w := F.rt) (xe_pure (en := (eO (eT PyData.int))) (x_some (en := (eT PyData.int)) (x_v rfl))) (fun _ => rfl)
      · skip
        exact sb_endF ⟨_, rfl⟩
    rintro s7 _ ⟨j3, rfl⟩
    exact sb_endF ⟨_, _, rfl⟩
  rintro s4 _ ⟨j2, j3, rfl⟩
  exact sb_ret0 (xe_pure (en := (eO (eT PyData.int))) (x_none (en := (eT PyData.int)))) (fun _ => rfl)
def G_is_above (one1 : (List Int)) (other2 : (List Int)) : Option Bool :=
  ((rg1O ((one1.length : Int) + (other2.length : Int))).bind fun rg3 => ((compO (fun (many4 : Int) => (some (decide (((cutD other2 none (some many4)).sum) ≤ ((cutD one1 none (some many4)).sum))))) rg3).bind fun t5 => (some (t5.all id))))
theorem c_is_above (n : Nat) (one1 : (List Int)) (other2 : (List Int)) : XE (callF T0 (n + 1) 166 [(eT PyData.int) one1, (eT PyData.int) other2]) PyData.bool (G_is_above one1 other2) := by
  unfold G_is_above
  refine fn_of (n := n) (fn := F_is_above) (ρ := [.val ((eT PyData.int) one1), .val ((eT PyData.int) other2), .non]) rfl rfl rfl ?_
  exact sb_ret0 (xe_bindSr (en1 := PyData.int) (fun rg3 hrg3 => (xe_bindr (en1 := (eL PyData.bool)) (fun t5 ht5 => (xe_pure (en := PyData.bool) (x_bt1 ht5 k_all))) (x_comp (enx := PyData.int) (en := PyData.bool) (f := fun (many4 : Int) => (some (decide (((cutD other2 none (some many4)).sum) ≤ ((cutD one1 none (some many4)).sum))))) hrg3 fun many4 _ => ⟨_, rfl, (xe_pure (en := PyData.bool) (x_cmp (x_bt1 (x_slT (en := PyData.int) (x_b rfl) po_none (po_some (x_b rfl))) k_sumT) (x_bt1 (x_slT (en := PyData.int) (x_b rfl) po_none (po_some (x_b rfl))) k_sumT) c_ge))⟩))) (src_r1 (x_add (x_bt1 (x_b rfl) (k_lenT (en := PyData.int))) (x_bt1 (x_b rfl) (k_lenT (en := PyData.int)))))) (fun _ => rfl)
def G_Lfillings (shapehere1 : (List Int)) (most2 : Int) : Option (List (List (List Int))) :=
  (some ([] : List (Int × Int))).bind fun every3 => ((rg1O (shapehere1.length : Int)).bind fun xs13 => foldO (fun (s5 : (List (Int × Int))) (row6 : Int) => ((L2.atI shapehere1 row6).bind fun t7 => ((rg1O t7).bind fun rg8 => ((compO (fun (place9 : Int) => (some (row6, place9))) rg8).bind fun t10 => (catO s5 t10)))).bind fun every12 => some every12) xs13 every3).bind fun (s5 : (List (Int × Int))) => (some [([] : (List ((Int × Int) × Int)))]).bind fun found14 => (foldO (fun (s15 : (List (List ((Int × Int) × Int)))) (p16 : (Int × Int)) => (some ([] : List (List ((Int × Int) × Int)))).bind fun longer17 => (foldO (fun (s18 : (List (List ((Int × Int) × Int)))) (book19 : (List ((Int × Int) × Int))) => (some (if (getDM book19 (p16.1, (p16.2 - (1 : Int))) (1 : Int)) < ((getDM book19 ((p16.1 - (1 : Int)), p16.2) (0 : Int)) + (1 : Int)) then ((getDM book19 ((p16.1 - (1 : Int)), p16.2) (0 : Int)) + (1 : Int)) else (getDM book19 (p16.1, (p16.2 - (1 : Int))) (1 : Int)))).bind fun low20 => ((rg2O low20 (most2 + (1 : Int))).bind fun xs30 => foldO (fun (s22 : (List (List ((Int × Int) × Int)))) (number23 : Int) => (dictO book19).bind fun new25 => ((some (p16.1, p16.2)).bind fun i26 => (some number23).bind fun y27 => putO new25 i26 y27).bind fun new28 => (appO s22 new28).bind fun longer29 => some longer29) xs30 s18).bind fun (s22 : (List (List ((Int × Int) × Int)))) => some s22) s15 longer17).bind fun (s18 : (List (List ((Int × Int) × Int)))) => some s18) s5 found14).bind fun (s15 : (List (List ((Int × Int) × Int)))) => (some ([] : List (List (List Int)))).bind fun rows31 => (foldO (fun (s32 : (List (List (List Int)))) (book33 : (List ((Int × Int) × Int))) => (some ([] : List (List Int))).bind fun filling34 => ((rg1O (shapehere1.length : Int)).bind fun xs45 => foldO (fun (s36 : (List (List Int))) (row37 : Int) => ((L2.atI shapehere1 row37).bind fun t38 => ((rg1O t38).bind fun rg39 => ((compO (fun (place40 : Int) => (getM book33 (row37, place40))) rg39).bind fun t42 => (catO s36 [t42])))).bind fun filling44 => some filling44) xs45 filling34).bind fun (s36 : (List (List Int))) => (appO s32 s36).bind fun rows46 => some rows46) s15 rows31).bind fun (s32 : (List (List (List Int)))) => (sortedO (eT (eT PyData.int)) s32)
theorem c_Lfillings (n : Nat) (shapehere1 : (List Int)) (most2 : Int) : XE (callF T0 (n + 1) 127 [(eT PyData.int) shapehere1, PyData.int most2]) (eL (eT (eT PyData.int))) (G_Lfillings shapehere1 most2) := by
  unfold G_Lfillings
  refine fn_of (n := n) (fn := F_Lfillings) (ρ := [.val ((eT PyData.int) shapehere1), .val (PyData.int most2), .non, .non, .non, .non, .non, .non, .non, .non, .non, .non, .non]) rfl rfl rfl ?_
  refine sb_own (en := (eL (eP PyData.int PyData.int))) (xe_pure (en := (eL (eP PyData.int PyData.int))) (x_lstL (en := (eP PyData.int PyData.int)) (et_nil (en := (eP PyData.int PyData.int))) (Nat.le_of_ble_eq_true rfl))) (fun _ => rfl) fun every3 => ?_
  refine sb_seqN (R := fun (s5 : (List (Int × Int))) ρ => ∃ (j3 : Slot), ρ = [.val ((eT PyData.int) shapehere1), .val (PyData.int most2), .own ((eL (eP PyData.int PyData.int)) s5), j3, .non, .non, .non, .non, .non, .non, .non, .non, .non]) (sb_loopM (enx := PyData.int) (s0 := (every3 : (List (Int × Int)))) (src_r1 (x_bt1 (x_b rfl) (k_lenT (en := PyData.int)))) ⟨_, rfl⟩ ?_) ?_
  · rintro s5 row6 _ ⟨j3, rfl⟩
    refine ⟨_, rfl, ?_⟩
    refine sb_own (en := (eL (eP PyData.int PyData.int))) (xe_bindr (en1 := PyData.int) (fun t7 ht7 => (xe_bindSr (en1 := PyData.int) (fun rg8 hrg8 => (xe_bindr (en1 := (eL (eP PyData.int PyData.int))) (fun t10 ht10 => (x_catL (en := (eP PyData.int PyData.int)) (x_o rfl) ht10)) (x_comp (enx := PyData.int) (en := (eP PyData.int PyData.int)) (f := fun (place9 : Int) => (some (row6, place9))) hrg8 fun place9 _ => ⟨_, rfl, (xe_pure (en := (eP PyData.int PyData.int)) (x_pair (e := PyData.int) (f := PyData.int) (x_v rfl) (x_v rfl)))⟩))) (src_r1 ht7))) (x_ixT (en := PyData.int) (x_b rfl) (x_b rfl))) (fun _ => rfl) fun every12 => ?_
    exact sb_endN ⟨_, rfl⟩
  rintro s5 _ ⟨j3, rfl⟩
  refine sb_own (en := (eL (eM (eP PyData.int PyData.int) PyData.int))) (xe_pure (en := (eL (eM (eP PyData.int PyData.int) PyData.int))) (x_lstL (en := (eM (eP PyData.int PyData.int) PyData.int)) (et_cons (en := (eM (eP PyData.int PyData.int) PyData.int)) (x_dict0 (ek := (eP PyData.int PyData.int)) (ev := PyData.int)) (et_nil (en := (eM (eP PyData.int PyData.int) PyData.int)))) (Nat.le_of_ble_eq_true rfl))) (fun _ => rfl) fun found14 => ?_
  refine sb_fzo rfl ?_
  refine sb_fzn ?_
  refine sb_seqN (R := fun (s15 : (List (List ((Int × Int) × Int)))) ρ => ∃ (j3 : Slot) (j4 : Slot) (b5 : Bool) (j6 : Slot) (j7 : Slot) (j8 : Slot) (j9 : Slot) (j10 : Slot), ρ = [.val ((eT PyData.int) shapehere1), .val (PyData.int most2), .val ((eL (eP PyData.int PyData.int)) s5), j3, j4, slB b5 ((eL (eM (eP PyData.int PyData.int) PyData.int)) s15), j6, j7, j8, j9, j10, .non, .non]) (sb_loop (enx := (eP PyData.int PyData.int)) (s0 := (found14 : (List (List ((Int × Int) × Int))))) (src_L (en := (eP PyData.int PyData.int)) (x_v rfl)) ⟨_, _, true, _, _, _, _, _, rfl⟩ ?_) ?_
  · rintro s15 p16 _ - ⟨j3, j4, b5, j6, j7, j8, j9, j10, rfl⟩
    refine ⟨_, bindT_2, ?_⟩
    refine sb_own (en := (eL (eM (eP PyData.int PyData.int) PyData.int))) (xe_pure (en := (eL (eM (eP PyData.int PyData.int) PyData.int))) (x_lstL (en := (eM (eP PyData.int PyData.int) PyData.int)) (et_nil (en := (eM (eP PyData.int PyData.int) PyData.int))) (Nat.le_of_ble_eq_true rfl))) (fun _ => rfl) fun longer17 => ?_
    refine sb_fzb rfl ?_
    refine sb_fzn ?_
    refine sb_seqN (R := fun (s18 : (List (List ((Int × Int) × Int)))) ρ => ∃ (j7 : Slot) (j8 : Slot) (j9 : Slot) (j10 : Slot), ρ = [.val ((eT PyData.int) shapehere1), .val (PyData.int most2), .val ((eL (eP PyData.int PyData.int)) s5), .val (PyData.int p16.1), .val (PyData.int p16.2), .val ((eL (eM (eP PyData.int PyData.int) PyData.int)) s15), .own ((eL (eM (eP PyData.int PyData.int) PyData.int)) s18), j7, j8, j9, j10, .non, .non]) (sb_loop (enx := (eM (eP PyData.int PyData.int) PyData.int)) (s0 := (longer17 : (List (List ((Int × Int) × Int))))) (src_L (en := (eM (eP PyData.int PyData.int) PyData.int)) (x_v rfl)) ⟨_, _, _, _, rfl⟩ ?_) ?_
    · rintro s18 book19 _ - ⟨j7, j8, j9, j10, rfl⟩
      refine ⟨_, rfl, ?_⟩
      refine sb_set (en := PyData.int) (xe_pure (en := PyData.int) (x_bt2 (x_dget (ek := (eP PyData.int PyData.int)) (ev := PyData.int) (x_b rfl) (x_pair (e := PyData.int) (f := PyData.int) (x_v rfl) (x_sub (x_b rfl) (x_k (d := .int (1))))) (x_k (d := .int (1)))) (x_add (x_dget (ek := (eP PyData.int PyData.int)) (ev := PyData.int) (x_b rfl) (x_pair (e := PyData.int) (f := PyData.int) (x_sub (x_b rfl) (x_k (d := .int (1)))) (x_v rfl)) (x_k (d := .int (0)))) (x_k (d := .int (1)))) k_max)) fun low20 => ?_
      refine sb_seqN (R := fun (s22 : (List (List ((Int × Int) × Int)))) ρ => ∃ (j9 : Slot) (j10 : Slot), ρ = [.val ((eT PyData.int) shapehere1), .val (PyData.int most2), .val ((eL (eP PyData.int PyData.int)) s5), .val (PyData.int p16.1), .val (PyData.int p16.2), .val ((eL (eM (eP PyData.int PyData.int) PyData.int)) s15), .own ((eL (eM (eP PyData.int PyData.int) PyData.int)) s22), .val ((eM (eP PyData.int PyData.int) PyData.int) book19), .val (PyData.int low20), j9, j10, .non, .non]) (sb_loopM (enx := PyData.int) (s0 := (s18 : (List (List ((Int × Int) × Int))))) (src_r2 (x_v rfl) (x_add (x_b rfl) (x_k (d := .int (1))))) ⟨_, _, rfl⟩ ?_) ?_
      · rintro s22 number23 _ ⟨j9, j10, rfl⟩
        refine ⟨_, rfl, ?_⟩
        refine sb_own (en := (eM (eP PyData.int PyData.int) PyData.int)) (x_dict (ev := PyData.int) (x_b rfl)) (fun _ => rfl) fun new25 => ?_
        refine sb_putDM (ek := (eP PyData.int PyData.int)) (ev := PyData.int) rfl (xe_pure (en := (eP PyData.int PyData.int)) (x_pair (e := PyData.int) (f := PyData.int) (x_v rfl) (x_v rfl))) (xe_pure (en := PyData.int) (x_v rfl)) fun new28 => ?_
        refine sb_fzo rfl ?_
        refine sb_fzn ?_
        refine sb_app (en := (eM (eP PyData.int PyData.int) PyData.int)) rfl (x_v rfl) fun longer29 => ?_
        exact sb_endN ⟨_, _, rfl⟩
      rintro s22 _ ⟨j9, j10, rfl⟩
      exact sb_endN ⟨_, _, _, _, rfl⟩
    rintro s18 _ ⟨j7, j8, j9, j10, rfl⟩
    refine sb_fzo rfl ?_
    refine sb_fzn ?_
    refine sb_setA (d := (eL (eM (eP PyData.int PyData.int) PyData.int)) s18) (x_v rfl) ?_
    exact sb_endN ⟨_, _, false, _, _, _, _, _, rfl⟩
  rintro s15 _ ⟨j3, j4, b5, j6, j7, j8, j9, j10, rfl⟩
  refine sb_own (en := (eL (eT (eT PyData.int)))) (xe_pure (en := (eL (eT (eT PyData.int)))) (x_lstL (en := (eT (eT PyData.int))) (et_nil (en := (eT (eT PyData.int)))) (Nat.le_of_ble_eq_true rfl))) (fun _ => rfl) fun rows31 => ?_
  refine sb_fzb rfl ?_
  refine sb_fzn ?_
  refine sb_seqN (R := fun (s32 : (List (List (List Int)))) ρ => ∃ (j3 : Slot) (j4 : Slot) (j6 : Slot) (j7 : Slot) (j8 : Slot) (j9 : Slot) (j10 : Slot) (j12 : Slot), ρ = [.val ((eT PyData.int) shapehere1), .val (PyData.int most2), .val ((eL (eP PyData.int PyData.int)) s5), j3, j4, .val ((eL (eM (eP PyData.int PyData.int) PyData.int)) s15), j6, j7, j8, j9, j10, .own ((eL (eT (eT PyData.int))) s32), j12]) (sb_loop (enx := (eM (eP PyData.int PyData.int) PyData.int)) (s0 := (rows31 : (List (List (List Int))))) (src_L (en := (eM (eP PyData.int PyData.int) PyData.int)) (x_v rfl)) ⟨_, _, _, _, _, _, _, _, rfl⟩ ?_) ?_
  · rintro s32 book33 _ - ⟨j3, j4, j6, j7, j8, j9, j10, j12, rfl⟩
    refine ⟨_, rfl, ?_⟩
    refine sb_set (en := (eT (eT PyData.int))) (xe_pure (en := (eT (eT PyData.int))) (x_tupT (en := (eT PyData.int)) (et_nil (en := (eT PyData.int))) (Nat.le_of_ble_eq_true rfl))) fun filling34 => ?_
    refine sb_seqN (R := fun (s36 : (List (List Int))) ρ => ∃ (j3 : Slot) (j4 : Slot) (j6 : Slot) (j8 : Slot) (j9 : Slot) (j10 : Slot), ρ = [.val ((eT PyData.int) shapehere1), .val (PyData.int most2), .val ((eL (eP PyData.int PyData.int)) s5), j3, j4, .val ((eL (eM (eP PyData.int PyData.int) PyData.int)) s15), j6, .val ((eM (eP PyData.int PyData.int) PyData.int) book33), j8, j9, j10, .own ((eL (eT (eT PyData.int))) s32), .val ((eT (eT PyData.int)) s36)]) (sb_loopM (enx := PyData.int) (s0 := (filling34 : (List (List Int)))) (src_r1 (x_bt1 (x_b rfl) (k_lenT (en := PyData.int)))) ⟨_, _, _, _, _, _, rfl⟩ ?_) ?_
    · rintro s36 row37 _ ⟨j3, j4, j6, j8, j9, j10, rfl⟩
      refine ⟨_, rfl, ?_⟩
      refine sb_ownV (en := (eT (eT PyData.int))) (xe_bindr (en1 := PyData.int) (fun t38 ht38 => (xe_bindSr (en1 := PyData.int) (fun rg39 hrg39 => (xe_bindr (en1 := (eL PyData.int)) (fun t42 ht42 => (x_catT (en := (eT PyData.int)) (x_b rfl) (x_tupT (en := (eT PyData.int)) (et_cons (en := (eT PyData.int)) (x_bt1 ht42 (k_tupL (en := PyData.int))) (et_nil (en := (eT PyData.int)))) (Nat.le_of_ble_eq_true rfl)))) (x_comp (enx := PyData.int) (en := PyData.int) (f := fun (place40 : Int) => (getM book33 (row37, place40))) hrg39 fun place40 _ => ⟨_, rfl, (x_ixM (ek := (eP PyData.int PyData.int)) (ev := PyData.int) (x_b rfl) (x_pair (e := PyData.int) (f := PyData.int) (x_v rfl) (x_v rfl)))⟩))) (src_r1 ht38))) (x_ixT (en := PyData.int) (x_b rfl) (x_b rfl))) (fun _ => rfl) fun filling44 => ?_
      exact sb_endN ⟨_, _, _, _, _, _, rfl⟩
    rintro s36 _ ⟨j3, j4, j6, j8, j9, j10, rfl⟩
    refine sb_fzv rfl ?_
    refine sb_fzn ?_
    refine sb_app (en := (eT (eT PyData.int))) rfl (x_v rfl) fun rows46 => ?_
    exact sb_endN ⟨_, _, _, _, _, _, _, _, rfl⟩
  rintro s32 _ ⟨j3, j4, j6, j7, j8, j9, j10, j12, rfl⟩
  exact sb_ret0 (x_sortedL (en := (eT (eT PyData.int))) (x_o rfl)) (fun _ => rfl)
def G_Lwith (shapehere1 : (List Int)) (countshere2 : (List Int)) : Option (List (List (List Int))) :=
  (some ([] : List (List (List Int)))).bind fun found3 => (((G_Lfillings shapehere1 (countshere2.length : Int)).bind fun t4 => (some t4)).bind fun xs17 => foldO (fun (s5 : (List (List (List Int)))) (filling6 : (List (List Int))) => (some ([] : List Int)).bind fun numbers7 => (foldO (fun (s8 : (List Int)) (row9 : (List Int)) => (catO s8 row9).bind fun numbers11 => some numbers11) filling6 numbers7).bind fun (s8 : (List Int)) => ((rg2O (1 : Int) ((countshere2.length : Int) + (1 : Int))).bind fun rg12 => ((compO (fun (k13 : Int) => (some ((s8.count k13 : Nat) : Int))) rg12).bind fun t14 => (some (decide (t14 = countshere2))))).bind fun t15 => if t15 = true then (appO s5 filling6).bind fun found16 => some found16 else some s5) xs17 found3).bind fun (s5 : (List (List (List Int)))) => (some s5)
theorem c_Lwith (n : Nat) (shapehere1 : (List Int)) (countshere2 : (List Int)) : XE (callF T0 (n + 2) 167 [(eT PyData.int) shapehere1, (eT PyData.int) countshere2]) (eL (eT (eT PyData.int))) (G_Lwith shapehere1 countshere2) := by
  unfold G_Lwith
  refine fn_of (n := n + 1) (fn := F_Lwith) (ρ := [.val ((eT PyData.int) shapehere1), .val ((eT PyData.int) countshere2), .non, .non, .non, .non, .non]) rfl rfl rfl ?_
  refine sb_own (en := (eL (eT (eT PyData.int)))) (xe_pure (en := (eL (eT (eT PyData.int)))) (x_lstL (en := (eT (eT PyData.int))) (et_nil (en := (eT (eT PyData.int)))) (Nat.le_of_ble_eq_true rfl))) (fun _ => rfl) fun found3 => ?_
  refine sb_seqN (R := fun (s5 : (List (List (List Int)))) ρ => ∃ (j3 : Slot) (j4 : Slot) (j5 : Slot), ρ = [.val ((eT PyData.int) shapehere1), .val ((eT PyData.int) countshere2), .own ((eL (eT (eT PyData.int))) s5), j3, j4, j5, .non]) (sb_loopM (enx := (eT (eT PyData.int))) (s0 := (found3 : (List (List (List Int))))) (xs_bindr (en1 := (eL (eT (eT PyData.int)))) (fun t4 ht4 => (xs_pure (en := (eT (eT PyData.int))) (src_L (en := (eT (eT PyData.int))) ht4))) (x_call (es_cons (x_v rfl) (es_cons (x_bt1 (x_b rfl) (k_lenT (en := PyData.int))) es_nil)) (c_Lfillings n _ _))) ⟨_, _, _, rfl⟩ ?_) ?_
  · rintro s5 filling6 _ ⟨j3, j4, j5, rfl⟩
    refine ⟨_, rfl, ?_⟩
    refine sb_own (en := (eL PyData.int)) (xe_pure (en := (eL PyData.int)) (x_lstL (en := PyData.int) (et_nil (en := PyData.int)) (Nat.le_of_ble_eq_true rfl))) (fun _ => rfl) fun numbers7 => ?_
    refine sb_seqN (R := fun (s8 : (List Int)) ρ => ∃ (j5 : Slot), ρ = [.val ((eT PyData.int) shapehere1), .val ((eT PyData.int) countshere2), .own ((eL (eT (eT PyData.int))) s5), .val ((eT (eT PyData.int)) filling6), .own ((eL PyData.int) s8), j5, .non]) (sb_loop (enx := (eT PyData.int)) (s0 := (numbers7 : (List Int))) (src_T (en := (eT PyData.int)) (x_v rfl)) ⟨_, rfl⟩ ?_) ?_
    · rintro s8 row9 _ - ⟨j5, rfl⟩
      refine ⟨_, rfl, ?_⟩
      refine sb_own (en := (eL PyData.int)) (x_catL (en := PyData.int) (x_o rfl) (x_bt1 (x_b rfl) (k_lstT (en := PyData.int)))) (fun _ => rfl) fun numbers11 => ?_
      exact sb_endN ⟨_, rfl⟩
    rintro s8 _ ⟨j5, rfl⟩
    refine sb_iteM (xe_bindSr (en1 := PyData.int) (fun rg12 hrg12 => (xe_bindr (en1 := (eL PyData.int)) (fun t14 ht14 => (xe_pure (en := PyData.bool) (x_cmp (x_bt1 ht14 (k_tupL (en := PyData.int))) (x_b rfl) (k_eq (en := (eT PyData.int)) (by decide))))) (x_comp (enx := PyData.int) (en := PyData.int) (f := fun (k13 : Int) => (some ((s8.count k13 : Nat) : Int))) hrg12 fun k13 _ => ⟨_, rfl, (xe_pure (en := PyData.int) (x_lcnt (x_o rfl) (x_b rfl)))⟩))) (src_r2 (x_k (d := .int (1))) (x_add (x_bt1 (x_b rfl) (k_lenT (en := PyData.int))) (x_k (d := .int (1)))))) ?_ ?_
    · skip
      refine sb_app (en := (eT (eT PyData.int))) rfl (x_v rfl) fun found16 => ?_
      exact sb_endN ⟨_, _, _, rfl⟩
    · skip
      exact sb_endN ⟨_, _, _, rfl⟩
  rintro s5 _ ⟨j3, j4, j5, rfl⟩
  refine sb_fzo rfl ?_
  refine sb_fzn ?_
  exact sb_ret0 (xe_pure (en := (eL (eT (eT PyData.int)))) (x_v rfl)) (fun _ => rfl)
def G_Lshows (shapehere1 : (List Int)) (countshere2 : (List Int)) (lot3 : (List Int)) : Option Bool :=
  ((compO (fun (number4 : Int) => (L2.atI countshere2 (number4 - (1 : Int)))) lot3).bind fun t6 => (some (t6.sum))).bind fun here7 => ((rg2O (1 : Int) ((countshere2.length : Int) + (1 : Int))).bind fun rg8 => (compF (fun (number9 : Int) => ((L2.atI countshere2 (number9 - (1 : Int))).bind fun t10 => (some (!decide (t10 = (0 : Int)))))) (fun (number9 : Int) => (some number9)) rg8)).bind fun every12 => if ((decide (lot3 = every12)) && (decide (here7 < (shapehere1.sum)))) = true then (some true) else (some (decide (((cutD shapehere1 none (some (lot3.length : Int))).sum) < here7)))
theorem c_Lshows (n : Nat) (shapehere1 : (List Int)) (countshere2 : (List Int)) (lot3 : (List Int)) : XE (callF T0 (n + 1) 168 [(eT PyData.int) shapehere1, (eT PyData.int) countshere2, (eT PyData.int) lot3]) PyData.bool (G_Lshows shapehere1 countshere2 lot3) := by
  unfold G_Lshows
  refine fn_of (n := n) (fn := F_Lshows) (ρ := [.val ((eT PyData.int) shapehere1), .val ((eT PyData.int) countshere2), .val ((eT PyData.int) lot3), .non, .non, .non]) rfl rfl rfl ?_
  refine sb_set (en := PyData.int) (xe_bindr (en1 := (eL PyData.int)) (fun t6 ht6 => (xe_pure (en := PyData.int) (x_bt1 ht6 k_sumL))) (x_comp (enx := PyData.int) (en := PyData.int) (f := fun (number4 : Int) => (L2.atI countshere2 (number4 - (1 : Int)))) (src_T (en := PyData.int) (x_b rfl)) fun number4 _ => ⟨_, rfl, (x_ixT (en := PyData.int) (x_b rfl) (x_sub (x_b rfl) (x_k (d := .int (1)))))⟩)) fun here7 => ?_
  refine sb_own (en := (eL PyData.int)) (xe_bindSr (en1 := PyData.int) (fun rg8 hrg8 => (x_compF (enx := PyData.int) (en := PyData.int) (g := fun (number9 : Int) => ((L2.atI countshere2 (number9 - (1 : Int))).bind fun t10 => (some (!decide (t10 = (0 : Int)))))) (f := fun (number9 : Int) => (some number9)) hrg8 fun number9 _ => ⟨_, rfl, (xe_bindr (en1 := PyData.int) (fun t10 ht10 => (xe_pure (en := PyData.bool) (x_cmp ht10 (x_k (d := .int (0))) (k_ne (en := PyData.int) (by decide))))) (x_ixT (en := PyData.int) (x_b rfl) (x_sub (x_b rfl) (x_k (d := .int (1)))))), fun _ => (xe_pure (en := PyData.int) (x_v rfl))⟩)) (src_r2 (x_k (d := .int (1))) (x_add (x_bt1 (x_b rfl) (k_lenT (en := PyData.int))) (x_k (d := .int (1)))))) (fun _ => rfl) fun every12 => ?_
  refine sb_if (x_and (x_cmp (x_bt1 (x_b rfl) (k_lstT (en := PyData.int))) (x_o rfl) (k_eq (en := (eL PyData.int)) (by decide))) (x_cmp (x_b rfl) (x_bt1 (x_b rfl) k_sumT) c_lt)) ?_ ?_
  · intro hc
    exact sb_ret0 (xe_pure (en := PyData.bool) (x_k (d := .bool true))) (fun _ => rfl)
  intro hc
  exact sb_ret0 (xe_pure (en := PyData.bool) (x_cmp (x_b rfl) (x_bt1 (x_slT (en := PyData.int) (x_b rfl) po_none (po_some (x_bt1 (x_b rfl) (k_lenT (en := PyData.int))))) k_sumT) c_gt)) (fun _ => rfl)
def G_k80_law (script1 : (List Int)) : Option Bool :=
  ((G_Lmixed script1 (0 : Int)).bind fun t2 => (G_Lshape t2 (5 : Int))).bind fun shapehere4 => ((G_Lmixed script1 (1 : Int)).bind fun t5 => (G_Lcounts t5 (shapehere4.sum))).bind fun countshere7 => (G_Lwith shapehere4 countshere7).bind fun some9 => ((G_many_with 8 shapehere4 countshere7).bind fun t10 => (some (!decide (t10 = (some9.length : Int))))).bind fun t11 => if t11 = true then (some false) else (G_filling_with 8 shapehere4 countshere7).bind fun found13 => (if ((found13.isNone) && (!decide (some9 = ([] : List (List (List Int)))))) = true then some true else (if (found13.isSome) = true then (found13.bind fun o14 => (some (!decide (o14 ∈ some9)))) else some false)).bind fun t17 => if t17 = true then (some false) else (G_why_none shapehere4 countshere7).bind fun lot19 => if (!decide ((lot19.isNone) = (!decide (some9 = ([] : List (List (List Int))))))) = true then (some false) else (if (lot19.isSome) = true then (lot19.bind fun o23 => (compF (fun (number24 : Int) => (some ((decide ((1 : Int) ≤ number24)) && (decide (number24 ≤ (countshere7.length : Int)))))) (fun (number24 : Int) => (some number24)) o23)).bind fun good26 => (if (!(isTupleD ((eO (eT PyData.int)) lot19))) = true then some true else (lot19.bind fun o27 => ((sortedSetI o27).bind fun t28 => (if (!decide (good26 = t28)) = true then some true else (lot19.bind fun o29 => ((G_Lshows shapehere4 countshere7 o29).bind fun t30 => (some (!t30)))))))).bind fun t33 => if t33 = true then (some false).bind fun a => some (.rt a) else some (.nx ()) else some (.nx ())).bind (F.elim (fun (s22 : Unit) => ((G_Lmixed script1 (2 : Int)).bind fun t34 => (G_Lshapes 14 (t34 % (8 : Int)) (12 : Int))).bind fun every36 => ((G_Lmixed script1 (3 : Int)).bind fun t37 => ((modO t37 (every36.length : Int)).bind fun t38 => (L2.atI every36 t38))).bind fun one40 => ((G_Lmixed script1 (4 : Int)).bind fun t41 => ((modO t41 (every36.length : Int)).bind fun t42 => (L2.atI every36 t42))).bind fun other44 => (G_is_above one40 other44).bind fun found46 => ((rg1O (9 : Int)).bind fun rg47 => ((compF (fun (many48 : Int) => (some (decide (((cutD one40 none (some many48)).sum) < ((cutD other44 none (some many48)).sum))))) (fun (many48 : Int) => (some many48)) rg47).bind fun t49 => (some (decide (t49 = ([] : List Int)))))).bind fun due50 => (some ((isBoolD (PyData.bool found46)) && (decide (found46 = due50))))) fun b => some (id b))
theorem c_k80_law (n : Nat) (script1 : (List Int)) : XE (callF T0 (n + 16) 169 [(eL PyData.int) script1]) PyData.bool (G_k80_law script1) := by
  unfold G_k80_law
  refine fn_of (n := n + 15) (fn := F_k80_law) (ρ := [.val ((eL PyData.int) script1), .non, .non, .non, .non, .non, .non, .non, .non, .non, .non, .non, .non]) rfl rfl rfl ?_
  refine sb_set (en := (eT PyData.int)) (xe_bindr (en1 := PyData.int) (fun t2 ht2 => (x_call (es_cons ht2 (es_cons (x_k (d := .int (5))) es_nil)) (c_Lshape n _ _))) (x_call (es_cons (x_v rfl) (es_cons (x_k (d := .int (0))) es_nil)) (c_Lmixed (n + 13) _ _))) fun shapehere4 => ?_
  refine sb_set (en := (eT PyData.int)) (xe_bindr (en1 := PyData.int) (fun t5 ht5 => (x_call (es_cons ht5 (es_cons (x_bt1 (x_b rfl) k_sumT) es_nil)) (c_Lcounts (n + 13) _ _))) (x_call (es_cons (x_v rfl) (es_cons (x_k (d := .int (1))) es_nil)) (c_Lmixed (n + 13) _ _))) fun countshere7 => ?_
  refine sb_set (en := (eL (eT (eT PyData.int)))) (x_call (es_cons (x_v rfl) (es_cons (x_v rfl) es_nil)) (c_Lwith (n + 13) _ _)) fun some9 => ?_
  refine sb_ifM (xe_bindr (en1 := PyData.int) (fun t10 ht10 => (xe_pure (en := PyData.bool) (x_cmp ht10 (x_bt1 (x_b rfl) (k_lenL (en := (eT (eT PyData.int))))) (k_ne (en := PyData.int) (by decide))))) (x_call (es_cons (x_v rfl) (es_cons (x_v rfl) es_nil)) (c_many_with (n + 6) 8 _ _))) ?_ ?_
  · skip
    exact sb_ret0 (xe_pure (en := PyData.bool) (x_k (d := .bool false))) (fun _ => rfl)
  refine sb_set (en := (eO (eT (eT PyData.int)))) (x_call (es_cons (x_v rfl) (es_cons (x_v rfl) es_nil)) (c_filling_with (n + 6) 8 _ _)) fun found13 => ?_
  refine sb_ifM (x_orM (x_and (x_cmp (x_b rfl) (x_k (d := .none)) (k_isN (en := (eT (eT PyData.int))))) (x_cmp (x_b rfl) (x_lstL (en := (eT (eT PyData.int))) (et_nil (en := (eT (eT PyData.int)))) (Nat.le_of_ble_eq_true rfl)) (k_ne (en := (eL (eT (eT PyData.int)))) (by decide)))) fun _ => (x_andM (x_cmp (x_b rfl) (x_k (d := .none)) (k_notN (en := (eT (eT PyData.int))))) fun _ => (xe_bindr (en1 := (eT (eT PyData.int))) (fun o14 ho14 => (xe_pure (en := PyData.bool) (x_cmp ho14 (x_b rfl) (k_ninL (en := (eT (eT PyData.int))) (by decide))))) (x_asO (en := (eT (eT PyData.int))) (x_b rfl))))) ?_ ?_
  · skip
    exact sb_ret0 (xe_pure (en := PyData.bool) (x_k (d := .bool false))) (fun _ => rfl)
  refine sb_set (en := (eO (eT PyData.int))) (x_call (es_cons (x_v rfl) (es_cons (x_v rfl) es_nil)) (c_why_none n _ _)) fun lot19 => ?_
  refine sb_if (x_cmp (x_cmp (x_b rfl) (x_k (d := .none)) (k_isN (en := (eT PyData.int)))) (x_cmp (x_b rfl) (x_lstL (en := (eT (eT PyData.int))) (et_nil (en := (eT (eT PyData.int)))) (Nat.le_of_ble_eq_true rfl)) (k_ne (en := (eL (eT (eT PyData.int)))) (by decide))) (k_ne (en := PyData.bool) (by decide))) ?_ ?_
  · intro hc
    exact sb_ret0 (xe_pure (en := PyData.bool) (x_k (d := .bool false))) (fun _ => rfl)
  intro hc
  refine sb_seqF (R := fun (s22 : Unit) ρ => ∃ (j6 : Slot), ρ = [.val ((eL PyData.int) script1), .val ((eT PyData.int) shapehere4), .val ((eT PyData.int) countshere7), .val ((eL (eT (eT PyData.int))) some9), .val ((eO (eT (eT PyData.int))) found13), .val ((eO (eT PyData.int)) lot19), j6, .non, .non, .non, .non, .non, .non]) (en := PyData.bool) (w := id) (sb_ite (x_cmp (x_b rfl) (x_k (d := .none)) (k_notN (en := (eT PyData.int)))) ?_ ?_) (fun _ => rfl) ?_
  · intro hc
    refine sb_own (en := (eL PyData.int)) (xe_bindr (en1 := (eT PyData.int)) (fun o23 ho23 => (x_compF (enx := PyData.int) (en := PyData.int) (g := fun (number24 : Int) => (some ((decide ((1 : Int) ≤ number24)) && (decide (number24 ≤ (countshere7.length : Int)))))) (f := fun (number24 : Int) => (some number24)) (src_T (en := PyData.int) ho23) fun number24 _ => ⟨_, rfl, (xe_pure (en := PyData.bool) (x_chain (x_k (d := .int (1))) (x_b rfl) (x_bt1 (x_b rfl) (k_lenT (en := PyData.int))) c_le c_le)), fun _ => (xe_pure (en := PyData.int) (x_v rfl))⟩)) (x_asO (en := (eT PyData.int)) (x_b rfl))) (fun _ => rfl) fun good26 => ?_
    refine sb_iteM (x_orM (x_not (x_bt1 (x_b rfl) k_isT)) fun _ => (xe_bindr (en1 := (eT PyData.int)) (fun o27 ho27 => (xe_bindr (en1 := (eL PyData.int)) (fun t28 ht28 => (x_orM (x_cmp (x_o rfl) ht28 (k_ne (en := (eL PyData.int)) (by decide))) fun _ => (xe_bindr (en1 := (eT PyData.int)) (fun o29 ho29 => (xe_bindr (en1 := PyData.bool) (fun t30 ht30 => (xe_pure (en := PyData.bool) (x_not ht30))) (x_call (es_cons (x_v rfl) (es_cons (x_v rfl) (es_cons ho29 es_nil))) (c_Lshows (n + 14) _ _ _)))) (x_asO (en := (eT PyData.int)) (x_v rfl))))) (x_sortedSetIT ho27))) (x_asO (en := (eT PyData.int)) (x_b rfl)))) ?_ ?_
    · skip
      exact sb_ret (w := F.rt) (xe_pure (en := PyData.bool) (x_k (d := .bool false))) (fun _ => rfl)
    · skip
      exact sb_endF ⟨_, rfl⟩
  · intro hc
    exact sb_endF ⟨_, rfl⟩
  rintro s22 _ ⟨j6, rfl⟩
  refine sb_set (en := (eL (eT PyData.int))) (xe_bindr (en1 := PyData.int) (fun t34 ht34 => (x_call (es_cons (x_modk ht34 (x_k (d := .int (8))) (by decide)) (es_cons (x_k (d := .int (12))) es_nil)) (c_Lshapes (n + 1) 14 _ _))) (x_call (es_cons (x_v rfl) (es_cons (x_k (d := .int (2))) es_nil)) (c_Lmixed (n + 13) _ _))) fun every36 => ?_
  refine sb_set (en := (eT PyData.int)) (xe_bindr (en1 := PyData.int) (fun t37 ht37 => (xe_bindr (en1 := PyData.int) (fun t38 ht38 => (x_ixL (en := (eT PyData.int)) (x_b rfl) ht38)) (x_mod ht37 (x_bt1 (x_b rfl) (k_lenL (en := (eT PyData.int))))))) (x_call (es_cons (x_v rfl) (es_cons (x_k (d := .int (3))) es_nil)) (c_Lmixed (n + 13) _ _))) fun one40 => ?_
  refine sb_set (en := (eT PyData.int)) (xe_bindr (en1 := PyData.int) (fun t41 ht41 => (xe_bindr (en1 := PyData.int) (fun t42 ht42 => (x_ixL (en := (eT PyData.int)) (x_b rfl) ht42)) (x_mod ht41 (x_bt1 (x_b rfl) (k_lenL (en := (eT PyData.int))))))) (x_call (es_cons (x_v rfl) (es_cons (x_k (d := .int (4))) es_nil)) (c_Lmixed (n + 13) _ _))) fun other44 => ?_
  refine sb_set (en := PyData.bool) (x_call (es_cons (x_v rfl) (es_cons (x_v rfl) es_nil)) (c_is_above (n + 14) _ _)) fun found46 => ?_
  refine sb_set (en := PyData.bool) (xe_bindSr (en1 := PyData.int) (fun rg47 hrg47 => (xe_bindr (en1 := (eL PyData.int)) (fun t49 ht49 => (xe_pure (en := PyData.bool) (x_cmp ht49 (x_lstL (en := PyData.int) (et_nil (en := PyData.int)) (Nat.le_of_ble_eq_true rfl)) (k_eq (en := (eL PyData.int)) (by decide))))) (x_compF (enx := PyData.int) (en := PyData.int) (g := fun (many48 : Int) => (some (decide (((cutD one40 none (some many48)).sum) < ((cutD other44 none (some many48)).sum))))) (f := fun (many48 : Int) => (some many48)) hrg47 fun many48 _ => ⟨_, rfl, (xe_pure (en := PyData.bool) (x_cmp (x_bt1 (x_slT (en := PyData.int) (x_b rfl) po_none (po_some (x_b rfl))) k_sumT) (x_bt1 (x_slT (en := PyData.int) (x_b rfl) po_none (po_some (x_b rfl))) k_sumT) c_lt)), fun _ => (xe_pure (en := PyData.int) (x_v rfl))⟩))) (src_r1 (x_k (d := .int (9))))) fun due50 => ?_
  exact sb_ret0 (xe_pure (en := PyData.bool) (x_and (x_bt1 (x_b rfl) k_isB') (x_cmp (x_b rfl) (x_b rfl) (k_eq (en := PyData.bool) (by decide))))) (fun _ => rfl)
end BP
namespace BP
open PySem
def A80 (shapehere4 countshere7 : List Int) (some9 : List (List (List Int))) (kk : Option Bool) : Option Bool := ((G_many_with 8 shapehere4 countshere7).bind fun t10 => (some (!decide (t10 = (some9.length : Int))))).bind fun t11 => if t11 = true then (some false) else (G_filling_with 8 shapehere4 countshere7).bind fun found13 => (if ((found13.isNone) && (!decide (some9 = ([] : List (List (List Int)))))) = true then some true else (if (found13.isSome) = true then (found13.bind fun o14 => (some (!decide (o14 ∈ some9)))) else some false)).bind fun t17 => if t17 = true then (some false) else (G_why_none shapehere4 countshere7).bind fun lot19 => if (!decide ((lot19.isNone) = (!decide (some9 = ([] : List (List (List Int))))))) = true then (some false) else (if (lot19.isSome) = true then (lot19.bind fun o23 => (compF (fun (number24 : Int) => (some ((decide ((1 : Int) ≤ number24)) && (decide (number24 ≤ (countshere7.length : Int)))))) (fun (number24 : Int) => (some number24)) o23)).bind fun good26 => (if (!(isTupleD ((eO (eT PyData.int)) lot19))) = true then some true else (lot19.bind fun o27 => ((sortedSetI o27).bind fun t28 => (if (!decide (good26 = t28)) = true then some true else (lot19.bind fun o29 => ((G_Lshows shapehere4 countshere7 o29).bind fun t30 => (some (!t30)))))))).bind fun t33 => if t33 = true then (some false).bind fun a => some (.rt a) else some (.nx ()) else some (.nx ())).bind (F.elim (fun (s22 : Unit) => kk) fun b => some (id b))
def B80 (one40 other44 : List Int) : Option Bool := (G_is_above one40 other44).bind fun found46 => ((rg1O (9 : Int)).bind fun rg47 => ((compF (fun (many48 : Int) => (some (decide (((cutD one40 none (some many48)).sum) < ((cutD other44 none (some many48)).sum))))) (fun (many48 : Int) => (some many48)) rg47).bind fun t49 => (some (decide (t49 = ([] : List Int)))))).bind fun due50 => (some ((isBoolD (PyData.bool found46)) && (decide (found46 = due50))))
/-- how often each number stands in a filling -/
def contO (kn : Int) (filling6 : List (List Int)) : Option (List Int) := (some ([] : List Int)).bind fun numbers7 => (foldO (fun (s8 : (List Int)) (row9 : (List Int)) => (catO s8 row9).bind fun numbers11 => some numbers11) filling6 numbers7).bind fun (s8 : (List Int)) => (rg2O (1 : Int) (kn + (1 : Int))).bind fun rg12 => compO (fun (k13 : Int) => (some ((s8.count k13 : Nat) : Int))) rg12
def tabOk (sh : List Int) (k : Nat) (T : List (List (List Int) × List Int)) : Bool := decide (G_Lfillings sh (k : Int) = some (T.map (·.1))) && (decide (T.length ≤ 1000) && T.all fun p => decide (contO (k : Int) p.1 = some p.2))
def withT (T : List (List (List Int) × List Int)) (c : List Int) : List (List (List Int)) := (T.filter fun p => decide (p.2 = c)).map (·.1)
theorem lwith_of {sh c : List Int} {k : Nat} {T : List (List (List Int) × List Int)} (h : tabOk sh k T = true) (hc : c.length = k) (hk2 : k ≤ 1000) : G_Lwith sh c = some (withT T c) := by
  unfold tabOk at h
  simp only [Bool.and_eq_true, decide_eq_true_eq, List.all_eq_true] at h
  obtain ⟨h1, h2, h3⟩ := h
  unfold G_Lwith
  have hk : (c.length : Int) = (k : Int) := by rw [hc]
  have hr : rg2O (1 : Int) ((k : Int) + (1 : Int)) = some (rangeI 1 ((k : Int) + 1)) := rg2O_of (by omega) (by omega) (by omega) (by omega)
  simp only [ob, hk, h1, hr]
  have key : ∀ (xs : List (List (List Int) × List Int)) (s : List (List (List Int))), (∀ p ∈ xs, contO (k : Int) p.1 = some p.2) → s.length + xs.length ≤ 100000 → foldO (fun (s5 : (List (List (List Int)))) (filling6 : (List (List Int))) => (foldO (fun (s8 : (List Int)) (row9 : (List Int)) => (catO s8 row9).bind fun numbers11 => some numbers11) filling6 ([] : List Int)).bind fun (s8 : (List Int)) => ((compO (fun (k13 : Int) => (some ((s8.count k13 : Nat) : Int))) (rangeI 1 ((k : Int) + 1))).bind fun t14 => (some (decide (t14 = c)))).bind fun t15 => if t15 = true then (appO s5 filling6).bind fun found16 => some found16 else some s5) (xs.map (·.1)) s = some (s ++ withT xs c) := by
    intro xs
    induction xs with
    | nil => intro s _ _; simp [foldO, withT]
    | cons p xs ih =>
      intro s hp hl
      simp only [List.length_cons] at hl
      have hq := hp p List.mem_cons_self
      unfold contO at hq
      simp only [ob, hr] at hq
      obtain ⟨s8, e1, e3⟩ := bind_some' hq
      rw [List.map_cons, foldO]
      simp only [e1, ob, e3]
      by_cases q : p.2 = c
      · have ha : appO s p.1 = some (s ++ [p.1]) := by unfold appO; rw [if_pos (by omega)]
        simp only [q, decide_true, if_true, ha, ob]
        rw [ih (s ++ [p.1]) (fun y hy => hp y (List.mem_cons_of_mem _ hy)) (by simp; omega)]
        simp [withT, q]
      · simp only [q, decide_false, Bool.false_eq_true, if_false, ob]
        rw [ih s (fun y hy => hp y (List.mem_cons_of_mem _ hy)) (by omega)]
        simp [withT, q]
  have := key T [] h3 (by simp; omega)
  rw [List.nil_append] at this
  rw [this, ob]
def chk80 (sh : List Int) (k : Nat) (T : List (List (List Int) × List Int)) (m : Nat) : Bool := (vecs k m).all fun c => decide (A80 sh c (withT T c) (some true) = some true)
def t80_e_1 : List (List (List Int) × List Int) := [([], [0])]
theorem t80_e_1_ok : tabOk [] 1 t80_e_1 = true := by decide +kernel
theorem t80_e_1_0 : chk80 [] 1 t80_e_1 0 = true := by decide +kernel
theorem t80_e_1_1 : chk80 [] 1 t80_e_1 1 = true := by decide +kernel
def t80_e_2 : List (List (List Int) × List Int) := [([], [0, 0])]
theorem t80_e_2_ok : tabOk [] 2 t80_e_2 = true := by decide +kernel
theorem t80_e_2_0 : chk80 [] 2 t80_e_2 0 = true := by decide +kernel
theorem t80_e_2_1 : chk80 [] 2 t80_e_2 1 = true := by decide +kernel
def t80_e_3 : List (List (List Int) × List Int) := [([], [0, 0, 0])]
theorem t80_e_3_ok : tabOk [] 3 t80_e_3 = true := by decide +kernel
theorem t80_e_3_0 : chk80 [] 3 t80_e_3 0 = true := by decide +kernel
theorem t80_e_3_1 : chk80 [] 3 t80_e_3 1 = true := by decide +kernel
def t80_e_4 : List (List (List Int) × List Int) := [([], [0, 0, 0, 0])]
theorem t80_e_4_ok : tabOk [] 4 t80_e_4 = true := by decide +kernel
theorem t80_e_4_0 : chk80 [] 4 t80_e_4 0 = true := by decide +kernel
theorem t80_e_4_1 : chk80 [] 4 t80_e_4 1 = true := by decide +kernel
def t80_e_5 : List (List (List Int) × List Int) := [([], [0, 0, 0, 0, 0])]
theorem t80_e_5_ok : tabOk [] 5 t80_e_5 = true := by decide +kernel
theorem t80_e_5_0 : chk80 [] 5 t80_e_5 0 = true := by decide +kernel
theorem t80_e_5_1 : chk80 [] 5 t80_e_5 1 = true := by decide +kernel
def t80_1_1 : List (List (List Int) × List Int) := [([[1]], [1])]
theorem t80_1_1_ok : tabOk [1] 1 t80_1_1 = true := by decide +kernel
theorem t80_1_1_0 : chk80 [1] 1 t80_1_1 0 = true := by decide +kernel
theorem t80_1_1_1 : chk80 [1] 1 t80_1_1 1 = true := by decide +kernel
theorem t80_1_1_2 : chk80 [1] 1 t80_1_1 2 = true := by decide +kernel
def t80_1_2 : List (List (List Int) × List Int) := [([[1]], [1, 0]), ([[2]], [0, 1])]
theorem t80_1_2_ok : tabOk [1] 2 t80_1_2 = true := by decide +kernel
theorem t80_1_2_0 : chk80 [1] 2 t80_1_2 0 = true := by decide +kernel
theorem t80_1_2_1 : chk80 [1] 2 t80_1_2 1 = true := by decide +kernel
theorem t80_1_2_2 : chk80 [1] 2 t80_1_2 2 = true := by decide +kernel
def t80_1_3 : List (List (List Int) × List Int) := [([[1]], [1, 0, 0]), ([[2]], [0, 1, 0]), ([[3]], [0, 0, 1])]
theorem t80_1_3_ok : tabOk [1] 3 t80_1_3 = true := by decide +kernel
theorem t80_1_3_0 : chk80 [1] 3 t80_1_3 0 = true := by decide +kernel
theorem t80_1_3_1 : chk80 [1] 3 t80_1_3 1 = true := by decide +kernel
theorem t80_1_3_2 : chk80 [1] 3 t80_1_3 2 = true := by decide +kernel
def t80_1_4 : List (List (List Int) × List Int) := [([[1]], [1, 0, 0, 0]), ([[2]], [0, 1, 0, 0]), ([[3]], [0, 0, 1, 0]), ([[4]], [0, 0, 0, 1])]
theorem t80_1_4_ok : tabOk [1] 4 t80_1_4 = true := by decide +kernel
theorem t80_1_4_0 : chk80 [1] 4 t80_1_4 0 = true := by decide +kernel
theorem t80_1_4_1 : chk80 [1] 4 t80_1_4 1 = true := by decide +kernel
theorem t80_1_4_2 : chk80 [1] 4 t80_1_4 2 = true := by decide +kernel
def t80_1_5 : List (List (List Int) × List Int) := [([[1]], [1, 0, 0, 0, 0]), ([[2]], [0, 1, 0, 0, 0]), ([[3]], [0, 0, 1, 0, 0]), ([[4]], [0, 0, 0, 1, 0]), ([[5]], [0, 0, 0, 0, 1])]
theorem t80_1_5_ok : tabOk [1] 5 t80_1_5 = true := by decide +kernel
theorem t80_1_5_0 : chk80 [1] 5 t80_1_5 0 = true := by decide +kernel
theorem t80_1_5_1 : chk80 [1] 5 t80_1_5 1 = true := by decide +kernel
theorem t80_1_5_2 : chk80 [1] 5 t80_1_5 2 = true := by decide +kernel
def t80_11_1 : List (List (List Int) × List Int) := []
theorem t80_11_1_ok : tabOk [1, 1] 1 t80_11_1 = true := by decide +kernel
theorem t80_11_1_1 : chk80 [1, 1] 1 t80_11_1 1 = true := by decide +kernel
theorem t80_11_1_2 : chk80 [1, 1] 1 t80_11_1 2 = true := by decide +kernel
theorem t80_11_1_3 : chk80 [1, 1] 1 t80_11_1 3 = true := by decide +kernel
def t80_11_2 : List (List (List Int) × List Int) := [([[1], [2]], [1, 1])]
theorem t80_11_2_ok : tabOk [1, 1] 2 t80_11_2 = true := by decide +kernel
theorem t80_11_2_1 : chk80 [1, 1] 2 t80_11_2 1 = true := by decide +kernel
theorem t80_11_2_2 : chk80 [1, 1] 2 t80_11_2 2 = true := by decide +kernel
theorem t80_11_2_3 : chk80 [1, 1] 2 t80_11_2 3 = true := by decide +kernel
def t80_11_3 : List (List (List Int) × List Int) := [([[1], [2]], [1, 1, 0]), ([[1], [3]], [1, 0, 1]), ([[2], [3]], [0, 1, 1])]
theorem t80_11_3_ok : tabOk [1, 1] 3 t80_11_3 = true := by decide +kernel
theorem t80_11_3_1 : chk80 [1, 1] 3 t80_11_3 1 = true := by decide +kernel
theorem t80_11_3_2 : chk80 [1, 1] 3 t80_11_3 2 = true := by decide +kernel
theorem t80_11_3_3 : chk80 [1, 1] 3 t80_11_3 3 = true := by decide +kernel
def t80_11_4 : List (List (List Int) × List Int) := [([[1], [2]], [1, 1, 0, 0]), ([[1], [3]], [1, 0, 1, 0]), ([[1], [4]], [1, 0, 0, 1]), ([[2], [3]], [0, 1, 1, 0]), ([[2], [4]], [0, 1, 0, 1]), ([[3], [4]], [0, 0, 1, 1])]
theorem t80_11_4_ok : tabOk [1, 1] 4 t80_11_4 = true := by decide +kernel
theorem t80_11_4_1 : chk80 [1, 1] 4 t80_11_4 1 = true := by decide +kernel
theorem t80_11_4_2 : chk80 [1, 1] 4 t80_11_4 2 = true := by decide +kernel
theorem t80_11_4_3 : chk80 [1, 1] 4 t80_11_4 3 = true := by decide +kernel
def t80_11_5 : List (List (List Int) × List Int) := [([[1], [2]], [1, 1, 0, 0, 0]), ([[1], [3]], [1, 0, 1, 0, 0]), ([[1], [4]], [1, 0, 0, 1, 0]), ([[1], [5]], [1, 0, 0, 0, 1]), ([[2], [3]], [0, 1, 1, 0, 0]), ([[2], [4]], [0, 1, 0, 1, 0]), ([[2], [5]], [0, 1, 0, 0, 1]), ([[3], [4]], [0, 0, 1, 1, 0]), ([[3], [5]], [0, 0, 1, 0, 1]), ([[4], [5]], [0, 0, 0, 1, 1])]
theorem t80_11_5_ok : tabOk [1, 1] 5 t80_11_5 = true := by decide +kernel
theorem t80_11_5_1 : chk80 [1, 1] 5 t80_11_5 1 = true := by decide +kernel
theorem t80_11_5_2 : chk80 [1, 1] 5 t80_11_5 2 = true := by decide +kernel
theorem t80_11_5_3 : chk80 [1, 1] 5 t80_11_5 3 = true := by decide +kernel
def t80_2_1 : List (List (List Int) × List Int) := [([[1, 1]], [2])]
theorem t80_2_1_ok : tabOk [2] 1 t80_2_1 = true := by decide +kernel
theorem t80_2_1_1 : chk80 [2] 1 t80_2_1 1 = true := by decide +kernel
theorem t80_2_1_2 : chk80 [2] 1 t80_2_1 2 = true := by decide +kernel
theorem t80_2_1_3 : chk80 [2] 1 t80_2_1 3 = true := by decide +kernel
def t80_2_2 : List (List (List Int) × List Int) := [([[1, 1]], [2, 0]), ([[1, 2]], [1, 1]), ([[2, 2]], [0, 2])]
theorem t80_2_2_ok : tabOk [2] 2 t80_2_2 = true := by decide +kernel
theorem t80_2_2_1 : chk80 [2] 2 t80_2_2 1 = true := by decide +kernel
theorem t80_2_2_2 : chk80 [2] 2 t80_2_2 2 = true := by decide +kernel
theorem t80_2_2_3 : chk80 [2] 2 t80_2_2 3 = true := by decide +kernel
def t80_2_3 : List (List (List Int) × List Int) := [([[1, 1]], [2, 0, 0]), ([[1, 2]], [1, 1, 0]), ([[1, 3]], [1, 0, 1]), ([[2, 2]], [0, 2, 0]), ([[2, 3]], [0, 1, 1]), ([[3, 3]], [0, 0, 2])]
theorem t80_2_3_ok : tabOk [2] 3 t80_2_3 = true := by decide +kernel
theorem t80_2_3_1 : chk80 [2] 3 t80_2_3 1 = true := by decide +kernel
theorem t80_2_3_2 : chk80 [2] 3 t80_2_3 2 = true := by decide +kernel
theorem t80_2_3_3 : chk80 [2] 3 t80_2_3 3 = true := by decide +kernel
def t80_2_4 : List (List (List Int) × List Int) := [([[1, 1]], [2, 0, 0, 0]), ([[1, 2]], [1, 1, 0, 0]), ([[1, 3]], [1, 0, 1, 0]), ([[1, 4]], [1, 0, 0, 1]), ([[2, 2]], [0, 2, 0, 0]), ([[2, 3]], [0, 1, 1, 0]), ([[2, 4]], [0, 1, 0, 1]), ([[3, 3]], [0, 0, 2, 0]), ([[3, 4]], [0, 0, 1, 1]), ([[4, 4]], [0, 0, 0, 2])]
theorem t80_2_4_ok : tabOk [2] 4 t80_2_4 = true := by decide +kernel
theorem t80_2_4_1 : chk80 [2] 4 t80_2_4 1 = true := by decide +kernel
theorem t80_2_4_2 : chk80 [2] 4 t80_2_4 2 = true := by decide +kernel
theorem t80_2_4_3 : chk80 [2] 4 t80_2_4 3 = true := by decide +kernel
def t80_2_5 : List (List (List Int) × List Int) := [([[1, 1]], [2, 0, 0, 0, 0]), ([[1, 2]], [1, 1, 0, 0, 0]), ([[1, 3]], [1, 0, 1, 0, 0]), ([[1, 4]], [1, 0, 0, 1, 0]), ([[1, 5]], [1, 0, 0, 0, 1]), ([[2, 2]], [0, 2, 0, 0, 0]), ([[2, 3]], [0, 1, 1, 0, 0]), ([[2, 4]], [0, 1, 0, 1, 0]), ([[2, 5]], [0, 1, 0, 0, 1]), ([[3, 3]], [0, 0, 2, 0, 0]), ([[3, 4]], [0, 0, 1, 1, 0]), ([[3, 5]], [0, 0, 1, 0, 1]), ([[4, 4]], [0, 0, 0, 2, 0]), ([[4, 5]], [0, 0, 0, 1, 1]), ([[5, 5]], [0, 0, 0, 0, 2])]
theorem t80_2_5_ok : tabOk [2] 5 t80_2_5 = true := by decide +kernel
theorem t80_2_5_1 : chk80 [2] 5 t80_2_5 1 = true := by decide +kernel
theorem t80_2_5_2 : chk80 [2] 5 t80_2_5 2 = true := by decide +kernel
theorem t80_2_5_3 : chk80 [2] 5 t80_2_5 3 = true := by decide +kernel
def t80_111_1 : List (List (List Int) × List Int) := []
theorem t80_111_1_ok : tabOk [1, 1, 1] 1 t80_111_1 = true := by decide +kernel
theorem t80_111_1_2 : chk80 [1, 1, 1] 1 t80_111_1 2 = true := by decide +kernel
theorem t80_111_1_3 : chk80 [1, 1, 1] 1 t80_111_1 3 = true := by decide +kernel
theorem t80_111_1_4 : chk80 [1, 1, 1] 1 t80_111_1 4 = true := by decide +kernel
def t80_111_2 : List (List (List Int) × List Int) := []
theorem t80_111_2_ok : tabOk [1, 1, 1] 2 t80_111_2 = true := by decide +kernel
theorem t80_111_2_2 : chk80 [1, 1, 1] 2 t80_111_2 2 = true := by decide +kernel
theorem t80_111_2_3 : chk80 [1, 1, 1] 2 t80_111_2 3 = true := by decide +kernel
theorem t80_111_2_4 : chk80 [1, 1, 1] 2 t80_111_2 4 = true := by decide +kernel
def t80_111_3 : List (List (List Int) × List Int) := [([[1], [2], [3]], [1, 1, 1])]
theorem t80_111_3_ok : tabOk [1, 1, 1] 3 t80_111_3 = true := by decide +kernel
theorem t80_111_3_2 : chk80 [1, 1, 1] 3 t80_111_3 2 = true := by decide +kernel
theorem t80_111_3_3 : chk80 [1, 1, 1] 3 t80_111_3 3 = true := by decide +kernel
theorem t80_111_3_4 : chk80 [1, 1, 1] 3 t80_111_3 4 = true := by decide +kernel
def t80_111_4 : List (List (List Int) × List Int) := [([[1], [2], [3]], [1, 1, 1, 0]), ([[1], [2], [4]], [1, 1, 0, 1]), ([[1], [3], [4]], [1, 0, 1, 1]), ([[2], [3], [4]], [0, 1, 1, 1])]
theorem t80_111_4_ok : tabOk [1, 1, 1] 4 t80_111_4 = true := by decide +kernel
theorem t80_111_4_2 : chk80 [1, 1, 1] 4 t80_111_4 2 = true := by decide +kernel
theorem t80_111_4_3 : chk80 [1, 1, 1] 4 t80_111_4 3 = true := by decide +kernel
theorem t80_111_4_4 : chk80 [1, 1, 1] 4 t80_111_4 4 = true := by decide +kernel
def t80_111_5 : List (List (List Int) × List Int) := [([[1], [2], [3]], [1, 1, 1, 0, 0]), ([[1], [2], [4]], [1, 1, 0, 1, 0]), ([[1], [2], [5]], [1, 1, 0, 0, 1]), ([[1], [3], [4]], [1, 0, 1, 1, 0]), ([[1], [3], [5]], [1, 0, 1, 0, 1]), ([[1], [4], [5]], [1, 0, 0, 1, 1]), ([[2], [3], [4]], [0, 1, 1, 1, 0]), ([[2], [3], [5]], [0, 1, 1, 0, 1]), ([[2], [4], [5]], [0, 1, 0, 1, 1]), ([[3], [4], [5]], [0, 0, 1, 1, 1])]
theorem t80_111_5_ok : tabOk [1, 1, 1] 5 t80_111_5 = true := by decide +kernel
theorem t80_111_5_2 : chk80 [1, 1, 1] 5 t80_111_5 2 = true := by decide +kernel
theorem t80_111_5_3 : chk80 [1, 1, 1] 5 t80_111_5 3 = true := by decide +kernel
theorem t80_111_5_4 : chk80 [1, 1, 1] 5 t80_111_5 4 = true := by decide +kernel
def t80_21_1 : List (List (List Int) × List Int) := []
theorem t80_21_1_ok : tabOk [2, 1] 1 t80_21_1 = true := by decide +kernel
theorem t80_21_1_2 : chk80 [2, 1] 1 t80_21_1 2 = true := by decide +kernel
theorem t80_21_1_3 : chk80 [2, 1] 1 t80_21_1 3 = true := by decide +kernel
theorem t80_21_1_4 : chk80 [2, 1] 1 t80_21_1 4 = true := by decide +kernel
def t80_21_2 : List (List (List Int) × List Int) := [([[1, 1], [2]], [2, 1]), ([[1, 2], [2]], [1, 2])]
theorem t80_21_2_ok : tabOk [2, 1] 2 t80_21_2 = true := by decide +kernel
theorem t80_21_2_2 : chk80 [2, 1] 2 t80_21_2 2 = true := by decide +kernel
theorem t80_21_2_3 : chk80 [2, 1] 2 t80_21_2 3 = true := by decide +kernel
theorem t80_21_2_4 : chk80 [2, 1] 2 t80_21_2 4 = true := by decide +kernel
def t80_21_3 : List (List (List Int) × List Int) := [([[1, 1], [2]], [2, 1, 0]), ([[1, 1], [3]], [2, 0, 1]), ([[1, 2], [2]], [1, 2, 0]), ([[1, 2], [3]], [1, 1, 1]), ([[1, 3], [2]], [1, 1, 1]), ([[1, 3], [3]], [1, 0, 2]), ([[2, 2], [3]], [0, 2, 1]), ([[2, 3], [3]], [0, 1, 2])]
theorem t80_21_3_ok : tabOk [2, 1] 3 t80_21_3 = true := by decide +kernel
theorem t80_21_3_2 : chk80 [2, 1] 3 t80_21_3 2 = true := by decide +kernel
theorem t80_21_3_3 : chk80 [2, 1] 3 t80_21_3 3 = true := by decide +kernel
theorem t80_21_3_4 : chk80 [2, 1] 3 t80_21_3 4 = true := by decide +kernel
def t80_21_4 : List (List (List Int) × List Int) := [([[1, 1], [2]], [2, 1, 0, 0]), ([[1, 1], [3]], [2, 0, 1, 0]), ([[1, 1], [4]], [2, 0, 0, 1]), ([[1, 2], [2]], [1, 2, 0, 0]), ([[1, 2], [3]], [1, 1, 1, 0]), ([[1, 2], [4]], [1, 1, 0, 1]), ([[1, 3], [2]], [1, 1, 1, 0]), ([[1, 3], [3]], [1, 0, 2, 0]), ([[1, 3], [4]], [1, 0, 1, 1]), ([[1, 4], [2]], [1, 1, 0, 1]), ([[1, 4], [3]], [1, 0, 1, 1]), ([[1, 4], [4]], [1, 0, 0, 2]), ([[2, 2], [3]], [0, 2, 1, 0]), ([[2, 2], [4]], [0, 2, 0, 1]), ([[2, 3], [3]], [0, 1, 2, 0]), ([[2, 3], [4]], [0, 1, 1, 1]), ([[2, 4], [3]], [0, 1, 1, 1]), ([[2, 4], [4]], [0, 1, 0, 2]), ([[3, 3], [4]], [0, 0, 2, 1]), ([[3, 4], [4]], [0, 0, 1, 2])]
theorem t80_21_4_ok : tabOk [2, 1] 4 t80_21_4 = true := by decide +kernel
theorem t80_21_4_2 : chk80 [2, 1] 4 t80_21_4 2 = true := by decide +kernel
theorem t80_21_4_3 : chk80 [2, 1] 4 t80_21_4 3 = true := by decide +kernel
theorem t80_21_4_4 : chk80 [2, 1] 4 t80_21_4 4 = true := by decide +kernel
def t80_21_5 : List (List (List Int) × List Int) := [([[1, 1], [2]], [2, 1, 0, 0, 0]), ([[1, 1], [3]], [2, 0, 1, 0, 0]), ([[1, 1], [4]], [2, 0, 0, 1, 0]), ([[1, 1], [5]], [2, 0, 0, 0, 1]), ([[1, 2], [2]], [1, 2, 0, 0, 0]), ([[1, 2], [3]], [1, 1, 1, 0, 0]), ([[1, 2], [4]], [1, 1, 0, 1, 0]), ([[1, 2], [5]], [1, 1, 0, 0, 1]), ([[1, 3], [2]], [1, 1, 1, 0, 0]), ([[1, 3], [3]], [1, 0, 2, 0, 0]), ([[1, 3], [4]], [1, 0, 1, 1, 0]), ([[1, 3], [5]], [1, 0, 1, 0, 1]), ([[1, 4], [2]], [1, 1, 0, 1, 0]), ([[1, 4], [3]], [1, 0, 1, 1, 0]), ([[1, 4], [4]], [1, 0, 0, 2, 0]), ([[1, 4], [5]], [1, 0, 0, 1, 1]), ([[1, 5], [2]], [1, 1, 0, 0, 1]), ([[1, 5], [3]], [1, 0, 1, 0, 1]), ([[1, 5], [4]], [1, 0, 0, 1, 1]), ([[1, 5], [5]], [1, 0, 0, 0, 2]), ([[2, 2], [3]], [0, 2, 1, 0, 0]), ([[2, 2], [4]], [0, 2, 0, 1, 0]), ([[2, 2], [5]], [0, 2, 0, 0, 1]), ([[2, 3], [3]], [0, 1, 2, 0, 0]), ([[2, 3], [4]], [0, 1, 1, 1, 0]), ([[2, 3], [5]], [0, 1, 1, 0, 1]), ([[2, 4], [3]], [0, 1, 1, 1, 0]), ([[2, 4], [4]], [0, 1, 0, 2, 0]), ([[2, 4], [5]], [0, 1, 0, 1, 1]), ([[2, 5], [3]], [0, 1, 1, 0, 1]), ([[2, 5], [4]], [0, 1, 0, 1, 1]), ([[2, 5], [5]], [0, 1, 0, 0, 2]), ([[3, 3], [4]], [0, 0, 2, 1, 0]), ([[3, 3], [5]], [0, 0, 2, 0, 1]), ([[3, 4], [4]], [0, 0, 1, 2, 0]), ([[3, 4], [5]], [0, 0, 1, 1, 1]), ([[3, 5], [4]], [0, 0, 1, 1, 1]), ([[3, 5], [5]], [0, 0, 1, 0, 2]), ([[4, 4], [5]], [0, 0, 0, 2, 1]), ([[4, 5], [5]], [0, 0, 0, 1, 2])]
theorem t80_21_5_ok : tabOk [2, 1] 5 t80_21_5 = true := by decide +kernel
theorem t80_21_5_2 : chk80 [2, 1] 5 t80_21_5 2 = true := by decide +kernel
theorem t80_21_5_3 : chk80 [2, 1] 5 t80_21_5 3 = true := by decide +kernel
theorem t80_21_5_4 : chk80 [2, 1] 5 t80_21_5 4 = true := by decide +kernel
def t80_3_1 : List (List (List Int) × List Int) := [([[1, 1, 1]], [3])]
theorem t80_3_1_ok : tabOk [3] 1 t80_3_1 = true := by decide +kernel
theorem t80_3_1_2 : chk80 [3] 1 t80_3_1 2 = true := by decide +kernel
theorem t80_3_1_3 : chk80 [3] 1 t80_3_1 3 = true := by decide +kernel
theorem t80_3_1_4 : chk80 [3] 1 t80_3_1 4 = true := by decide +kernel
def t80_3_2 : List (List (List Int) × List Int) := [([[1, 1, 1]], [3, 0]), ([[1, 1, 2]], [2, 1]), ([[1, 2, 2]], [1, 2]), ([[2, 2, 2]], [0, 3])]
theorem t80_3_2_ok : tabOk [3] 2 t80_3_2 = true := by decide +kernel
theorem t80_3_2_2 : chk80 [3] 2 t80_3_2 2 = true := by decide +kernel
theorem t80_3_2_3 : chk80 [3] 2 t80_3_2 3 = true := by decide +kernel
theorem t80_3_2_4 : chk80 [3] 2 t80_3_2 4 = true := by decide +kernel
def t80_3_3 : List (List (List Int) × List Int) := [([[1, 1, 1]], [3, 0, 0]), ([[1, 1, 2]], [2, 1, 0]), ([[1, 1, 3]], [2, 0, 1]), ([[1, 2, 2]], [1, 2, 0]), ([[1, 2, 3]], [1, 1, 1]), ([[1, 3, 3]], [1, 0, 2]), ([[2, 2, 2]], [0, 3, 0]), ([[2, 2, 3]], [0, 2, 1]), ([[2, 3, 3]], [0, 1, 2]), ([[3, 3, 3]], [0, 0, 3])]
theorem t80_3_3_ok : tabOk [3] 3 t80_3_3 = true := by decide +kernel
theorem t80_3_3_2 : chk80 [3] 3 t80_3_3 2 = true := by decide +kernel
theorem t80_3_3_3 : chk80 [3] 3 t80_3_3 3 = true := by decide +kernel
theorem t80_3_3_4 : chk80 [3] 3 t80_3_3 4 = true := by decide +kernel
def t80_3_4 : List (List (List Int) × List Int) := [([[1, 1, 1]], [3, 0, 0, 0]), ([[1, 1, 2]], [2, 1, 0, 0]), ([[1, 1, 3]], [2, 0, 1, 0]), ([[1, 1, 4]], [2, 0, 0, 1]), ([[1, 2, 2]], [1, 2, 0, 0]), ([[1, 2, 3]], [1, 1, 1, 0]), ([[1, 2, 4]], [1, 1, 0, 1]), ([[1, 3, 3]], [1, 0, 2, 0]), ([[1, 3, 4]], [1, 0, 1, 1]), ([[1, 4, 4]], [1, 0, 0, 2]), ([[2, 2, 2]], [0, 3, 0, 0]), ([[2, 2, 3]], [0, 2, 1, 0]), ([[2, 2, 4]], [0, 2, 0, 1]), ([[2, 3, 3]], [0, 1, 2, 0]), ([[2, 3, 4]], [0, 1, 1, 1]), ([[2, 4, 4]], [0, 1, 0, 2]), ([[3, 3, 3]], [0, 0, 3, 0]), ([[3, 3, 4]], [0, 0, 2, 1]), ([[3, 4, 4]], [0, 0, 1, 2]), ([[4, 4, 4]], [0, 0, 0, 3])]
theorem t80_3_4_ok : tabOk [3] 4 t80_3_4 = true := by decide +kernel
theorem t80_3_4_2 : chk80 [3] 4 t80_3_4 2 = true := by decide +kernel
theorem t80_3_4_3 : chk80 [3] 4 t80_3_4 3 = true := by decide +kernel
theorem t80_3_4_4 : chk80 [3] 4 t80_3_4 4 = true := by decide +kernel
def t80_3_5 : List (List (List Int) × List Int) := [([[1, 1, 1]], [3, 0, 0, 0, 0]), ([[1, 1, 2]], [2, 1, 0, 0, 0]), ([[1, 1, 3]], [2, 0, 1, 0, 0]), ([[1, 1, 4]], [2, 0, 0, 1, 0]), ([[1, 1, 5]], [2, 0, 0, 0, 1]), ([[1, 2, 2]], [1, 2, 0, 0, 0]), ([[1, 2, 3]], [1, 1, 1, 0, 0]), ([[1, 2, 4]], [1, 1, 0, 1, 0]), ([[1, 2, 5]], [1, 1, 0, 0, 1]), ([[1, 3, 3]], [1, 0, 2, 0, 0]), ([[1, 3, 4]], [1, 0, 1, 1, 0]), ([[1, 3, 5]], [1, 0, 1, 0, 1]), ([[1, 4, 4]], [1, 0, 0, 2, 0]), ([[1, 4, 5]], [1, 0, 0, 1, 1]), ([[1, 5, 5]], [1, 0, 0, 0, 2]), ([[2, 2, 2]], [0, 3, 0, 0, 0]), ([[2, 2, 3]], [0, 2, 1, 0, 0]), ([[2, 2, 4]], [0, 2, 0, 1, 0]), ([[2, 2, 5]], [0, 2, 0, 0, 1]), ([[2, 3, 3]], [0, 1, 2, 0, 0]), ([[2, 3, 4]], [0, 1, 1, 1, 0]), ([[2, 3, 5]], [0, 1, 1, 0, 1]), ([[2, 4, 4]], [0, 1, 0, 2, 0]), ([[2, 4, 5]], [0, 1, 0, 1, 1]), ([[2, 5, 5]], [0, 1, 0, 0, 2]), ([[3, 3, 3]], [0, 0, 3, 0, 0]), ([[3, 3, 4]], [0, 0, 2, 1, 0]), ([[3, 3, 5]], [0, 0, 2, 0, 1]), ([[3, 4, 4]], [0, 0, 1, 2, 0]), ([[3, 4, 5]], [0, 0, 1, 1, 1]), ([[3, 5, 5]], [0, 0, 1, 0, 2]), ([[4, 4, 4]], [0, 0, 0, 3, 0]), ([[4, 4, 5]], [0, 0, 0, 2, 1]), ([[4, 5, 5]], [0, 0, 0, 1, 2]), ([[5, 5, 5]], [0, 0, 0, 0, 3])]
theorem t80_3_5_ok : tabOk [3] 5 t80_3_5 = true := by decide +kernel
theorem t80_3_5_2 : chk80 [3] 5 t80_3_5 2 = true := by decide +kernel
theorem t80_3_5_3 : chk80 [3] 5 t80_3_5 3 = true := by decide +kernel
theorem t80_3_5_4 : chk80 [3] 5 t80_3_5 4 = true := by decide +kernel
def t80_1111_1 : List (List (List Int) × List Int) := []
theorem t80_1111_1_ok : tabOk [1, 1, 1, 1] 1 t80_1111_1 = true := by decide +kernel
theorem t80_1111_1_3 : chk80 [1, 1, 1, 1] 1 t80_1111_1 3 = true := by decide +kernel
theorem t80_1111_1_4 : chk80 [1, 1, 1, 1] 1 t80_1111_1 4 = true := by decide +kernel
theorem t80_1111_1_5 : chk80 [1, 1, 1, 1] 1 t80_1111_1 5 = true := by decide +kernel
def t80_1111_2 : List (List (List Int) × List Int) := []
theorem t80_1111_2_ok : tabOk [1, 1, 1, 1] 2 t80_1111_2 = true := by decide +kernel
theorem t80_1111_2_3 : chk80 [1, 1, 1, 1] 2 t80_1111_2 3 = true := by decide +kernel
theorem t80_1111_2_4 : chk80 [1, 1, 1, 1] 2 t80_1111_2 4 = true := by decide +kernel
theorem t80_1111_2_5 : chk80 [1, 1, 1, 1] 2 t80_1111_2 5 = true := by decide +kernel
def t80_1111_3 : List (List (List Int) × List Int) := []
theorem t80_1111_3_ok : tabOk [1, 1, 1, 1] 3 t80_1111_3 = true := by decide +kernel
theorem t80_1111_3_3 : chk80 [1, 1, 1, 1] 3 t80_1111_3 3 = true := by decide +kernel
theorem t80_1111_3_4 : chk80 [1, 1, 1, 1] 3 t80_1111_3 4 = true := by decide +kernel
theorem t80_1111_3_5 : chk80 [1, 1, 1, 1] 3 t80_1111_3 5 = true := by decide +kernel
def t80_1111_4 : List (List (List Int) × List Int) := [([[1], [2], [3], [4]], [1, 1, 1, 1])]
theorem t80_1111_4_ok : tabOk [1, 1, 1, 1] 4 t80_1111_4 = true := by decide +kernel
theorem t80_1111_4_3 : chk80 [1, 1, 1, 1] 4 t80_1111_4 3 = true := by decide +kernel
theorem t80_1111_4_4 : chk80 [1, 1, 1, 1] 4 t80_1111_4 4 = true := by decide +kernel
theorem t80_1111_4_5 : chk80 [1, 1, 1, 1] 4 t80_1111_4 5 = true := by decide +kernel
def t80_1111_5 : List (List (List Int) × List Int) := [([[1], [2], [3], [4]], [1, 1, 1, 1, 0]), ([[1], [2], [3], [5]], [1, 1, 1, 0, 1]), ([[1], [2], [4], [5]], [1, 1, 0, 1, 1]), ([[1], [3], [4], [5]], [1, 0, 1, 1, 1]), ([[2], [3], [4], [5]], [0, 1, 1, 1, 1])]
theorem t80_1111_5_ok : tabOk [1, 1, 1, 1] 5 t80_1111_5 = true := by decide +kernel
theorem t80_1111_5_3 : chk80 [1, 1, 1, 1] 5 t80_1111_5 3 = true := by decide +kernel
theorem t80_1111_5_4 : chk80 [1, 1, 1, 1] 5 t80_1111_5 4 = true := by decide +kernel
theorem t80_1111_5_5 : chk80 [1, 1, 1, 1] 5 t80_1111_5 5 = true := by decide +kernel
def t80_211_1 : List (List (List Int) × List Int) := []
theorem t80_211_1_ok : tabOk [2, 1, 1] 1 t80_211_1 = true := by decide +kernel
theorem t80_211_1_3 : chk80 [2, 1, 1] 1 t80_211_1 3 = true := by decide +kernel
theorem t80_211_1_4 : chk80 [2, 1, 1] 1 t80_211_1 4 = true := by decide +kernel
theorem t80_211_1_5 : chk80 [2, 1, 1] 1 t80_211_1 5 = true := by decide +kernel
def t80_211_2 : List (List (List Int) × List Int) := []
theorem t80_211_2_ok : tabOk [2, 1, 1] 2 t80_211_2 = true := by decide +kernel
theorem t80_211_2_3 : chk80 [2, 1, 1] 2 t80_211_2 3 = true := by decide +kernel
theorem t80_211_2_4 : chk80 [2, 1, 1] 2 t80_211_2 4 = true := by decide +kernel
theorem t80_211_2_5 : chk80 [2, 1, 1] 2 t80_211_2 5 = true := by decide +kernel
def t80_211_3 : List (List (List Int) × List Int) := [([[1, 1], [2], [3]], [2, 1, 1]), ([[1, 2], [2], [3]], [1, 2, 1]), ([[1, 3], [2], [3]], [1, 1, 2])]
theorem t80_211_3_ok : tabOk [2, 1, 1] 3 t80_211_3 = true := by decide +kernel
theorem t80_211_3_3 : chk80 [2, 1, 1] 3 t80_211_3 3 = true := by decide +kernel
theorem t80_211_3_4 : chk80 [2, 1, 1] 3 t80_211_3 4 = true := by decide +kernel
theorem t80_211_3_5 : chk80 [2, 1, 1] 3 t80_211_3 5 = true := by decide +kernel
def t80_211_4 : List (List (List Int) × List Int) := [([[1, 1], [2], [3]], [2, 1, 1, 0]), ([[1, 1], [2], [4]], [2, 1, 0, 1]), ([[1, 1], [3], [4]], [2, 0, 1, 1]), ([[1, 2], [2], [3]], [1, 2, 1, 0]), ([[1, 2], [2], [4]], [1, 2, 0, 1]), ([[1, 2], [3], [4]], [1, 1, 1, 1]), ([[1, 3], [2], [3]], [1, 1, 2, 0]), ([[1, 3], [2], [4]], [1, 1, 1, 1]), ([[1, 3], [3], [4]], [1, 0, 2, 1]), ([[1, 4], [2], [3]], [1, 1, 1, 1]), ([[1, 4], [2], [4]], [1, 1, 0, 2]), ([[1, 4], [3], [4]], [1, 0, 1, 2]), ([[2, 2], [3], [4]], [0, 2, 1, 1]), ([[2, 3], [3], [4]], [0, 1, 2, 1]), ([[2, 4], [3], [4]], [0, 1, 1, 2])]
theorem t80_211_4_ok : tabOk [2, 1, 1] 4 t80_211_4 = true := by decide +kernel
theorem t80_211_4_3 : chk80 [2, 1, 1] 4 t80_211_4 3 = true := by decide +kernel
theorem t80_211_4_4 : chk80 [2, 1, 1] 4 t80_211_4 4 = true := by decide +kernel
theorem t80_211_4_5 : chk80 [2, 1, 1] 4 t80_211_4 5 = true := by decide +kernel
def t80_211_5 : List (List (List Int) × List Int) := [([[1, 1], [2], [3]], [2, 1, 1, 0, 0]), ([[1, 1], [2], [4]], [2, 1, 0, 1, 0]), ([[1, 1], [2], [5]], [2, 1, 0, 0, 1]), ([[1, 1], [3], [4]], [2, 0, 1, 1, 0]), ([[1, 1], [3], [5]], [2, 0, 1, 0, 1]), ([[1, 1], [4], [5]], [2, 0, 0, 1, 1]), ([[1, 2], [2], [3]], [1, 2, 1, 0, 0]), ([[1, 2], [2], [4]], [1, 2, 0, 1, 0]), ([[1, 2], [2], [5]], [1, 2, 0, 0, 1]), ([[1, 2], [3], [4]], [1, 1, 1, 1, 0]), ([[1, 2], [3], [5]], [1, 1, 1, 0, 1]), ([[1, 2], [4], [5]], [1, 1, 0, 1, 1]), ([[1, 3], [2], [3]], [1, 1, 2, 0, 0]), ([[1, 3], [2], [4]], [1, 1, 1, 1, 0]), ([[1, 3], [2], [5]], [1, 1, 1, 0, 1]), ([[1, 3], [3], [4]], [1, 0, 2, 1, 0]), ([[1, 3], [3], [5]], [1, 0, 2, 0, 1]), ([[1, 3], [4], [5]], [1, 0, 1, 1, 1]), ([[1, 4], [2], [3]], [1, 1, 1, 1, 0]), ([[1, 4], [2], [4]], [1, 1, 0, 2, 0]), ([[1, 4], [2], [5]], [1, 1, 0, 1, 1]), ([[1, 4], [3], [4]], [1, 0, 1, 2, 0]), ([[1, 4], [3], [5]], [1, 0, 1, 1, 1]), ([[1, 4], [4], [5]], [1, 0, 0, 2, 1]), ([[1, 5], [2], [3]], [1, 1, 1, 0, 1]), ([[1, 5], [2], [4]], [1, 1, 0, 1, 1]), ([[1, 5], [2], [5]], [1, 1, 0, 0, 2]), ([[1, 5], [3], [4]], [1, 0, 1, 1, 1]), ([[1, 5], [3], [5]], [1, 0, 1, 0, 2]), ([[1, 5], [4], [5]], [1, 0, 0, 1, 2]), ([[2, 2], [3], [4]], [0, 2, 1, 1, 0]), ([[2, 2], [3], [5]], [0, 2, 1, 0, 1]), ([[2, 2], [4], [5]], [0, 2, 0, 1, 1]), ([[2, 3], [3], [4]], [0, 1, 2, 1, 0]), ([[2, 3], [3], [5]], [0, 1, 2, 0, 1]), ([[2, 3], [4], [5]], [0, 1, 1, 1, 1]), ([[2, 4], [3], [4]], [0, 1, 1, 2, 0]), ([[2, 4], [3], [5]], [0, 1, 1, 1, 1]), ([[2, 4], [4], [5]], [0, 1, 0, 2, 1]), ([[2, 5], [3], [4]], [0, 1, 1, 1, 1]), ([[2, 5], [3], [5]], [0, 1, 1, 0, 2]), ([[2, 5], [4], [5]], [0, 1, 0, 1, 2]), ([[3, 3], [4], [5]], [0, 0, 2, 1, 1]), ([[3, 4], [4], [5]], [0, 0, 1, 2, 1]), ([[3, 5], [4], [5]], [0, 0, 1, 1, 2])]
theorem t80_211_5_ok : tabOk [2, 1, 1] 5 t80_211_5 = true := by decide +kernel
theorem t80_211_5_3 : chk80 [2, 1, 1] 5 t80_211_5 3 = true := by decide +kernel
theorem t80_211_5_4 : chk80 [2, 1, 1] 5 t80_211_5 4 = true := by decide +kernel
theorem t80_211_5_5 : chk80 [2, 1, 1] 5 t80_211_5 5 = true := by decide +kernel
def t80_22_1 : List (List (List Int) × List Int) := []
theorem t80_22_1_ok : tabOk [2, 2] 1 t80_22_1 = true := by decide +kernel
theorem t80_22_1_3 : chk80 [2, 2] 1 t80_22_1 3 = true := by decide +kernel
theorem t80_22_1_4 : chk80 [2, 2] 1 t80_22_1 4 = true := by decide +kernel
theorem t80_22_1_5 : chk80 [2, 2] 1 t80_22_1 5 = true := by decide +kernel
def t80_22_2 : List (List (List Int) × List Int) := [([[1, 1], [2, 2]], [2, 2])]
theorem t80_22_2_ok : tabOk [2, 2] 2 t80_22_2 = true := by decide +kernel
theorem t80_22_2_3 : chk80 [2, 2] 2 t80_22_2 3 = true := by decide +kernel
theorem t80_22_2_4 : chk80 [2, 2] 2 t80_22_2 4 = true := by decide +kernel
theorem t80_22_2_5 : chk80 [2, 2] 2 t80_22_2 5 = true := by decide +kernel
def t80_22_3 : List (List (List Int) × List Int) := [([[1, 1], [2, 2]], [2, 2, 0]), ([[1, 1], [2, 3]], [2, 1, 1]), ([[1, 1], [3, 3]], [2, 0, 2]), ([[1, 2], [2, 3]], [1, 2, 1]), ([[1, 2], [3, 3]], [1, 1, 2]), ([[2, 2], [3, 3]], [0, 2, 2])]
theorem t80_22_3_ok : tabOk [2, 2] 3 t80_22_3 = true := by decide +kernel
theorem t80_22_3_3 : chk80 [2, 2] 3 t80_22_3 3 = true := by decide +kernel
theorem t80_22_3_4 : chk80 [2, 2] 3 t80_22_3 4 = true := by decide +kernel
theorem t80_22_3_5 : chk80 [2, 2] 3 t80_22_3 5 = true := by decide +kernel
def t80_22_4 : List (List (List Int) × List Int) := [([[1, 1], [2, 2]], [2, 2, 0, 0]), ([[1, 1], [2, 3]], [2, 1, 1, 0]), ([[1, 1], [2, 4]], [2, 1, 0, 1]), ([[1, 1], [3, 3]], [2, 0, 2, 0]), ([[1, 1], [3, 4]], [2, 0, 1, 1]), ([[1, 1], [4, 4]], [2, 0, 0, 2]), ([[1, 2], [2, 3]], [1, 2, 1, 0]), ([[1, 2], [2, 4]], [1, 2, 0, 1]), ([[1, 2], [3, 3]], [1, 1, 2, 0]), ([[1, 2], [3, 4]], [1, 1, 1, 1]), ([[1, 2], [4, 4]], [1, 1, 0, 2]), ([[1, 3], [2, 4]], [1, 1, 1, 1]), ([[1, 3], [3, 4]], [1, 0, 2, 1]), ([[1, 3], [4, 4]], [1, 0, 1, 2]), ([[2, 2], [3, 3]], [0, 2, 2, 0]), ([[2, 2], [3, 4]], [0, 2, 1, 1]), ([[2, 2], [4, 4]], [0, 2, 0, 2]), ([[2, 3], [3, 4]], [0, 1, 2, 1]), ([[2, 3], [4, 4]], [0, 1, 1, 2]), ([[3, 3], [4, 4]], [0, 0, 2, 2])]
theorem t80_22_4_ok : tabOk [2, 2] 4 t80_22_4 = true := by decide +kernel
theorem t80_22_4_3 : chk80 [2, 2] 4 t80_22_4 3 = true := by decide +kernel
theorem t80_22_4_4 : chk80 [2, 2] 4 t80_22_4 4 = true := by decide +kernel
theorem t80_22_4_5 : chk80 [2, 2] 4 t80_22_4 5 = true := by decide +kernel
def t80_22_5 : List (List (List Int) × List Int) := [([[1, 1], [2, 2]], [2, 2, 0, 0, 0]), ([[1, 1], [2, 3]], [2, 1, 1, 0, 0]), ([[1, 1], [2, 4]], [2, 1, 0, 1, 0]), ([[1, 1], [2, 5]], [2, 1, 0, 0, 1]), ([[1, 1], [3, 3]], [2, 0, 2, 0, 0]), ([[1, 1], [3, 4]], [2, 0, 1, 1, 0]), ([[1, 1], [3, 5]], [2, 0, 1, 0, 1]), ([[1, 1], [4, 4]], [2, 0, 0, 2, 0]), ([[1, 1], [4, 5]], [2, 0, 0, 1, 1]), ([[1, 1], [5, 5]], [2, 0, 0, 0, 2]), ([[1, 2], [2, 3]], [1, 2, 1, 0, 0]), ([[1, 2], [2, 4]], [1, 2, 0, 1, 0]), ([[1, 2], [2, 5]], [1, 2, 0, 0, 1]), ([[1, 2], [3, 3]], [1, 1, 2, 0, 0]), ([[1, 2], [3, 4]], [1, 1, 1, 1, 0]), ([[1, 2], [3, 5]], [1, 1, 1, 0, 1]), ([[1, 2], [4, 4]], [1, 1, 0, 2, 0]), ([[1, 2], [4, 5]], [1, 1, 0, 1, 1]), ([[1, 2], [5, 5]], [1, 1, 0, 0, 2]), ([[1, 3], [2, 4]], [1, 1, 1, 1, 0]), ([[1, 3], [2, 5]], [1, 1, 1, 0, 1]), ([[1, 3], [3, 4]], [1, 0, 2, 1, 0]), ([[1, 3], [3, 5]], [1, 0, 2, 0, 1]), ([[1, 3], [4, 4]], [1, 0, 1, 2, 0]), ([[1, 3], [4, 5]], [1, 0, 1, 1, 1]), ([[1, 3], [5, 5]], [1, 0, 1, 0, 2]), ([[1, 4], [2, 5]], [1, 1, 0, 1, 1]), ([[1, 4], [3, 5]], [1, 0, 1, 1, 1]), ([[1, 4], [4, 5]], [1, 0, 0, 2, 1]), ([[1, 4], [5, 5]], [1, 0, 0, 1, 2]), ([[2, 2], [3, 3]], [0, 2, 2, 0, 0]), ([[2, 2], [3, 4]], [0, 2, 1, 1, 0]), ([[2, 2], [3, 5]], [0, 2, 1, 0, 1]), ([[2, 2], [4, 4]], [0, 2, 0, 2, 0]), ([[2, 2], [4, 5]], [0, 2, 0, 1, 1]), ([[2, 2], [5, 5]], [0, 2, 0, 0, 2]), ([[2, 3], [3, 4]], [0, 1, 2, 1, 0]), ([[2, 3], [3, 5]], [0, 1, 2, 0, 1]), ([[2, 3], [4, 4]], [0, 1, 1, 2, 0]), ([[2, 3], [4, 5]], [0, 1, 1, 1, 1]), ([[2, 3], [5, 5]], [0, 1, 1, 0, 2]), ([[2, 4], [3, 5]], [0, 1, 1, 1, 1]), ([[2, 4], [4, 5]], [0, 1, 0, 2, 1]), ([[2, 4], [5, 5]], [0, 1, 0, 1, 2]), ([[3, 3], [4, 4]], [0, 0, 2, 2, 0]), ([[3, 3], [4, 5]], [0, 0, 2, 1, 1]), ([[3, 3], [5, 5]], [0, 0, 2, 0, 2]), ([[3, 4], [4, 5]], [0, 0, 1, 2, 1]), ([[3, 4], [5, 5]], [0, 0, 1, 1, 2]), ([[4, 4], [5, 5]], [0, 0, 0, 2, 2])]
theorem t80_22_5_ok : tabOk [2, 2] 5 t80_22_5 = true := by decide +kernel
theorem t80_22_5_3 : chk80 [2, 2] 5 t80_22_5 3 = true := by decide +kernel
theorem t80_22_5_4 : chk80 [2, 2] 5 t80_22_5 4 = true := by decide +kernel
theorem t80_22_5_5 : chk80 [2, 2] 5 t80_22_5 5 = true := by decide +kernel
def t80_31_1 : List (List (List Int) × List Int) := []
theorem t80_31_1_ok : tabOk [3, 1] 1 t80_31_1 = true := by decide +kernel
theorem t80_31_1_3 : chk80 [3, 1] 1 t80_31_1 3 = true := by decide +kernel
theorem t80_31_1_4 : chk80 [3, 1] 1 t80_31_1 4 = true := by decide +kernel
theorem t80_31_1_5 : chk80 [3, 1] 1 t80_31_1 5 = true := by decide +kernel
def t80_31_2 : List (List (List Int) × List Int) := [([[1, 1, 1], [2]], [3, 1]), ([[1, 1, 2], [2]], [2, 2]), ([[1, 2, 2], [2]], [1, 3])]
theorem t80_31_2_ok : tabOk [3, 1] 2 t80_31_2 = true := by decide +kernel
theorem t80_31_2_3 : chk80 [3, 1] 2 t80_31_2 3 = true := by decide +kernel
theorem t80_31_2_4 : chk80 [3, 1] 2 t80_31_2 4 = true := by decide +kernel
theorem t80_31_2_5 : chk80 [3, 1] 2 t80_31_2 5 = true := by decide +kernel
def t80_31_3 : List (List (List Int) × List Int) := [([[1, 1, 1], [2]], [3, 1, 0]), ([[1, 1, 1], [3]], [3, 0, 1]), ([[1, 1, 2], [2]], [2, 2, 0]), ([[1, 1, 2], [3]], [2, 1, 1]), ([[1, 1, 3], [2]], [2, 1, 1]), ([[1, 1, 3], [3]], [2, 0, 2]), ([[1, 2, 2], [2]], [1, 3, 0]), ([[1, 2, 2], [3]], [1, 2, 1]), ([[1, 2, 3], [2]], [1, 2, 1]), ([[1, 2, 3], [3]], [1, 1, 2]), ([[1, 3, 3], [2]], [1, 1, 2]), ([[1, 3, 3], [3]], [1, 0, 3]), ([[2, 2, 2], [3]], [0, 3, 1]), ([[2, 2, 3], [3]], [0, 2, 2]), ([[2, 3, 3], [3]], [0, 1, 3])]
theorem t80_31_3_ok : tabOk [3, 1] 3 t80_31_3 = true := by decide +kernel
theorem t80_31_3_3 : chk80 [3, 1] 3 t80_31_3 3 = true := by decide +kernel
theorem t80_31_3_4 : chk80 [3, 1] 3 t80_31_3 4 = true := by decide +kernel
theorem t80_31_3_5 : chk80 [3, 1] 3 t80_31_3 5 = true := by decide +kernel
def t80_31_4 : List (List (List Int) × List Int) := [([[1, 1, 1], [2]], [3, 1, 0, 0]), ([[1, 1, 1], [3]], [3, 0, 1, 0]), ([[1, 1, 1], [4]], [3, 0, 0, 1]), ([[1, 1, 2], [2]], [2, 2, 0, 0]), ([[1, 1, 2], [3]], [2, 1, 1, 0]), ([[1, 1, 2], [4]], [2, 1, 0, 1]), ([[1, 1, 3], [2]], [2, 1, 1, 0]), ([[1, 1, 3], [3]], [2, 0, 2, 0]), ([[1, 1, 3], [4]], [2, 0, 1, 1]), ([[1, 1, 4], [2]], [2, 1, 0, 1]), ([[1, 1, 4], [3]], [2, 0, 1, 1]), ([[1, 1, 4], [4]], [2, 0, 0, 2]), ([[1, 2, 2], [2]], [1, 3, 0, 0]), ([[1, 2, 2], [3]], [1, 2, 1, 0]), ([[1, 2, 2], [4]], [1, 2, 0, 1]), ([[1, 2, 3], [2]], [1, 2, 1, 0]), ([[1, 2, 3], [3]], [1, 1, 2, 0]), ([[1, 2, 3], [4]], [1, 1, 1, 1]), ([[1, 2, 4], [2]], [1, 2, 0, 1]), ([[1, 2, 4], [3]], [1, 1, 1, 1]), ([[1, 2, 4], [4]], [1, 1, 0, 2]), ([[1, 3, 3], [2]], [1, 1, 2, 0]), ([[1, 3, 3], [3]], [1, 0, 3, 0]), ([[1, 3, 3], [4]], [1, 0, 2, 1]), ([[1, 3, 4], [2]], [1, 1, 1, 1]), ([[1, 3, 4], [3]], [1, 0, 2, 1]), ([[1, 3, 4], [4]], [1, 0, 1, 2]), ([[1, 4, 4], [2]], [1, 1, 0, 2]), ([[1, 4, 4], [3]], [1, 0, 1, 2]), ([[1, 4, 4], [4]], [1, 0, 0, 3]), ([[2, 2, 2], [3]], [0, 3, 1, 0]), ([[2, 2, 2], [4]], [0, 3, 0, 1]), ([[2, 2, 3], [3]], [0, 2, 2, 0]), ([[2, 2, 3], [4]], [0, 2, 1, 1]), ([[2, 2, 4], [3]], [0, 2, 1, 1]), ([[2, 2, 4], [4]], [0, 2, 0, 2]), ([[2, 3, 3], [3]], [0, 1, 3, 0]), ([[2, 3, 3], [4]], [0, 1, 2, 1]), ([[2, 3, 4], [3]], [0, 1, 2, 1]), ([[2, 3, 4], [4]], [0, 1, 1, 2]), ([[2, 4, 4], [3]], [0, 1, 1, 2]), ([[2, 4, 4], [4]], [0, 1, 0, 3]), ([[3, 3, 3], [4]], [0, 0, 3, 1]), ([[3, 3, 4], [4]], [0, 0, 2, 2]), ([[3, 4, 4], [4]], [0, 0, 1, 3])]
theorem t80_31_4_ok : tabOk [3, 1] 4 t80_31_4 = true := by decide +kernel
theorem t80_31_4_3 : chk80 [3, 1] 4 t80_31_4 3 = true := by decide +kernel
theorem t80_31_4_4 : chk80 [3, 1] 4 t80_31_4 4 = true := by decide +kernel
theorem t80_31_4_5 : chk80 [3, 1] 4 t80_31_4 5 = true := by decide +kernel
def t80_31_5 : List (List (List Int) × List Int) := [([[1, 1, 1], [2]], [3, 1, 0, 0, 0]), ([[1, 1, 1], [3]], [3, 0, 1, 0, 0]), ([[1, 1, 1], [4]], [3, 0, 0, 1, 0]), ([[1, 1, 1], [5]], [3, 0, 0, 0, 1]), ([[1, 1, 2], [2]], [2, 2, 0, 0, 0]), ([[1, 1, 2], [3]], [2, 1, 1, 0, 0]), ([[1, 1, 2], [4]], [2, 1, 0, 1, 0]), ([[1, 1, 2], [5]], [2, 1, 0, 0, 1]), ([[1, 1, 3], [2]], [2, 1, 1, 0, 0]), ([[1, 1, 3], [3]], [2, 0, 2, 0, 0]), ([[1, 1, 3], [4]], [2, 0, 1, 1, 0]), ([[1, 1, 3], [5]], [2, 0, 1, 0, 1]), ([[1, 1, 4], [2]], [2, 1, 0, 1, 0]), ([[1, 1, 4], [3]], [2, 0, 1, 1, 0]), ([[1, 1, 4], [4]], [2, 0, 0, 2, 0]), ([[1, 1, 4], [5]], [2, 0, 0, 1, 1]), ([[1, 1, 5], [2]], [2, 1, 0, 0, 1]), ([[1, 1, 5], [3]], [2, 0, 1, 0, 1]), ([[1, 1, 5], [4]], [2, 0, 0, 1, 1]), ([[1, 1, 5], [5]], [2, 0, 0, 0, 2]), ([[1, 2, 2], [2]], [1, 3, 0, 0, 0]), ([[1, 2, 2], [3]], [1, 2, 1, 0, 0]), ([[1, 2, 2], [4]], [1, 2, 0, 1, 0]), ([[1, 2, 2], [5]], [1, 2, 0, 0, 1]), ([[1, 2, 3], [2]], [1, 2, 1, 0, 0]), ([[1, 2, 3], [3]], [1, 1, 2, 0, 0]), ([[1, 2, 3], [4]], [1, 1, 1, 1, 0]), ([[1, 2, 3], [5]], [1, 1, 1, 0, 1]), ([[1, 2, 4], [2]], [1, 2, 0, 1, 0]), ([[1, 2, 4], [3]], [1, 1, 1, 1, 0]), ([[1, 2, 4], [4]], [1, 1, 0, 2, 0]), ([[1, 2, 4], [5]], [1, 1, 0, 1, 1]), ([[1, 2, 5], [2]], [1, 2, 0, 0, 1]), ([[1, 2, 5], [3]], [1, 1, 1, 0, 1]), ([[1, 2, 5], [4]], [1, 1, 0, 1, 1]), ([[1, 2, 5], [5]], [1, 1, 0, 0, 2]), ([[1, 3, 3], [2]], [1, 1, 2, 0, 0]), ([[1, 3, 3], [3]], [1, 0, 3, 0, 0]), ([[1, 3, 3], [4]], [1, 0, 2, 1, 0]), ([[1, 3, 3], [5]], [1, 0, 2, 0, 1]), ([[1, 3, 4], [2]], [1, 1, 1, 1, 0]), ([[1, 3, 4], [3]], [1, 0, 2, 1, 0]), ([[1, 3, 4], [4]], [1, 0, 1, 2, 0]), ([[1, 3, 4], [5]], [1, 0, 1, 1, 1]), ([[1, 3, 5], [2]], [1, 1, 1, 0, 1]), ([[1, 3, 5], [3]], [1, 0, 2, 0, 1]), ([[1, 3, 5], [4]], [1, 0, 1, 1, 1]), ([[1, 3, 5], [5]], [1, 0, 1, 0, 2]), ([[1, 4, 4], [2]], [1, 1, 0, 2, 0]), ([[1, 4, 4], [3]], [1, 0, 1, 2, 0]), ([[1, 4, 4], [4]], [1, 0, 0, 3, 0]), ([[1, 4, 4], [5]], [1, 0, 0, 2, 1]), ([[1, 4, 5], [2]], [1, 1, 0, 1, 1]), ([[1, 4, 5], [3]], [1, 0, 1, 1, 1]), ([[1, 4, 5], [4]], [1, 0, 0, 2, 1]), ([[1, 4, 5], [5]], [1, 0, 0, 1, 2]), ([[1, 5, 5], [2]], [1, 1, 0, 0, 2]), ([[1, 5, 5], [3]], [1, 0, 1, 0, 2]), ([[1, 5, 5], [4]], [1, 0, 0, 1, 2]), ([[1, 5, 5], [5]], [1, 0, 0, 0, 3]), ([[2, 2, 2], [3]], [0, 3, 1, 0, 0]), ([[2, 2, 2], [4]], [0, 3, 0, 1, 0]), ([[2, 2, 2], [5]], [0, 3, 0, 0, 1]), ([[2, 2, 3], [3]], [0, 2, 2, 0, 0]), ([[2, 2, 3], [4]], [0, 2, 1, 1, 0]), ([[2, 2, 3], [5]], [0, 2, 1, 0, 1]), ([[2, 2, 4], [3]], [0, 2, 1, 1, 0]), ([[2, 2, 4], [4]], [0, 2, 0, 2, 0]), ([[2, 2, 4], [5]], [0, 2, 0, 1, 1]), ([[2, 2, 5], [3]], [0, 2, 1, 0, 1]), ([[2, 2, 5], [4]], [0, 2, 0, 1, 1]), ([[2, 2, 5], [5]], [0, 2, 0, 0, 2]), ([[2, 3, 3], [3]], [0, 1, 3, 0, 0]), ([[2, 3, 3], [4]], [0, 1, 2, 1, 0]), ([[2, 3, 3], [5]], [0, 1, 2, 0, 1]), ([[2, 3, 4], [3]], [0, 1, 2, 1, 0]), ([[2, 3, 4], [4]], [0, 1, 1, 2, 0]), ([[2, 3, 4], [5]], [0, 1, 1, 1, 1]), ([[2, 3, 5], [3]], [0, 1, 2, 0, 1]), ([[2, 3, 5], [4]], [0, 1, 1, 1, 1]), ([[2, 3, 5], [5]], [0, 1, 1, 0, 2]), ([[2, 4, 4], [3]], [0, 1, 1, 2, 0]), ([[2, 4, 4], [4]], [0, 1, 0, 3, 0]), ([[2, 4, 4], [5]], [0, 1, 0, 2, 1]), ([[2, 4, 5], [3]], [0, 1, 1, 1, 1]), ([[2, 4, 5], [4]], [0, 1, 0, 2, 1]), ([[2, 4, 5], [5]], [0, 1, 0, 1, 2]), ([[2, 5, 5], [3]], [0, 1, 1, 0, 2]), ([[2, 5, 5], [4]], [0, 1, 0, 1, 2]), ([[2, 5, 5], [5]], [0, 1, 0, 0, 3]), ([[3, 3, 3], [4]], [0, 0, 3, 1, 0]), ([[3, 3, 3], [5]], [0, 0, 3, 0, 1]), ([[3, 3, 4], [4]], [0, 0, 2, 2, 0]), ([[3, 3, 4], [5]], [0, 0, 2, 1, 1]), ([[3, 3, 5], [4]], [0, 0, 2, 1, 1]), ([[3, 3, 5], [5]], [0, 0, 2, 0, 2]), ([[3, 4, 4], [4]], [0, 0, 1, 3, 0]), ([[3, 4, 4], [5]], [0, 0, 1, 2, 1]), ([[3, 4, 5], [4]], [0, 0, 1, 2, 1]), ([[3, 4, 5], [5]], [0, 0, 1, 1, 2]), ([[3, 5, 5], [4]], [0, 0, 1, 1, 2]), ([[3, 5, 5], [5]], [0, 0, 1, 0, 3]), ([[4, 4, 4], [5]], [0, 0, 0, 3, 1]), ([[4, 4, 5], [5]], [0, 0, 0, 2, 2]), ([[4, 5, 5], [5]], [0, 0, 0, 1, 3])]
theorem t80_31_5_ok : tabOk [3, 1] 5 t80_31_5 = true := by decide +kernel
theorem t80_31_5_3 : chk80 [3, 1] 5 t80_31_5 3 = true := by decide +kernel
theorem t80_31_5_4 : chk80 [3, 1] 5 t80_31_5 4 = true := by decide +kernel
theorem t80_31_5_5 : chk80 [3, 1] 5 t80_31_5 5 = true := by decide +kernel
def t80_4_1 : List (List (List Int) × List Int) := [([[1, 1, 1, 1]], [4])]
theorem t80_4_1_ok : tabOk [4] 1 t80_4_1 = true := by decide +kernel
theorem t80_4_1_3 : chk80 [4] 1 t80_4_1 3 = true := by decide +kernel
theorem t80_4_1_4 : chk80 [4] 1 t80_4_1 4 = true := by decide +kernel
theorem t80_4_1_5 : chk80 [4] 1 t80_4_1 5 = true := by decide +kernel
def t80_4_2 : List (List (List Int) × List Int) := [([[1, 1, 1, 1]], [4, 0]), ([[1, 1, 1, 2]], [3, 1]), ([[1, 1, 2, 2]], [2, 2]), ([[1, 2, 2, 2]], [1, 3]), ([[2, 2, 2, 2]], [0, 4])]
theorem t80_4_2_ok : tabOk [4] 2 t80_4_2 = true := by decide +kernel
theorem t80_4_2_3 : chk80 [4] 2 t80_4_2 3 = true := by decide +kernel
theorem t80_4_2_4 : chk80 [4] 2 t80_4_2 4 = true := by decide +kernel
theorem t80_4_2_5 : chk80 [4] 2 t80_4_2 5 = true := by decide +kernel
def t80_4_3 : List (List (List Int) × List Int) := [([[1, 1, 1, 1]], [4, 0, 0]), ([[1, 1, 1, 2]], [3, 1, 0]), ([[1, 1, 1, 3]], [3, 0, 1]), ([[1, 1, 2, 2]], [2, 2, 0]), ([[1, 1, 2, 3]], [2, 1, 1]), ([[1, 1, 3, 3]], [2, 0, 2]), ([[1, 2, 2, 2]], [1, 3, 0]), ([[1, 2, 2, 3]], [1, 2, 1]), ([[1, 2, 3, 3]], [1, 1, 2]), ([[1, 3, 3, 3]], [1, 0, 3]), ([[2, 2, 2, 2]], [0, 4, 0]), ([[2, 2, 2, 3]], [0, 3, 1]), ([[2, 2, 3, 3]], [0, 2, 2]), ([[2, 3, 3, 3]], [0, 1, 3]), ([[3, 3, 3, 3]], [0, 0, 4])]
theorem t80_4_3_ok : tabOk [4] 3 t80_4_3 = true := by decide +kernel
theorem t80_4_3_3 : chk80 [4] 3 t80_4_3 3 = true := by decide +kernel
theorem t80_4_3_4 : chk80 [4] 3 t80_4_3 4 = true := by decide +kernel
theorem t80_4_3_5 : chk80 [4] 3 t80_4_3 5 = true := by decide +kernel
def t80_4_4 : List (List (List Int) × List Int) := [([[1, 1, 1, 1]], [4, 0, 0, 0]), ([[1, 1, 1, 2]], [3, 1, 0, 0]), ([[1, 1, 1, 3]], [3, 0, 1, 0]), ([[1, 1, 1, 4]], [3, 0, 0, 1]), ([[1, 1, 2, 2]], [2, 2, 0, 0]), ([[1, 1, 2, 3]], [2, 1, 1, 0]), ([[1, 1, 2, 4]], [2, 1, 0, 1]), ([[1, 1, 3, 3]], [2, 0, 2, 0]), ([[1, 1, 3, 4]], [2, 0, 1, 1]), ([[1, 1, 4, 4]], [2, 0, 0, 2]), ([[1, 2, 2, 2]], [1, 3, 0, 0]), ([[1, 2, 2, 3]], [1, 2, 1, 0]), ([[1, 2, 2, 4]], [1, 2, 0, 1]), ([[1, 2, 3, 3]], [1, 1, 2, 0]), ([[1, 2, 3, 4]], [1, 1, 1, 1]), ([[1, 2, 4, 4]], [1, 1, 0, 2]), ([[1, 3, 3, 3]], [1, 0, 3, 0]), ([[1, 3, 3, 4]], [1, 0, 2, 1]), ([[1, 3, 4, 4]], [1, 0, 1, 2]), ([[1, 4, 4, 4]], [1, 0, 0, 3]), ([[2, 2, 2, 2]], [0, 4, 0, 0]), ([[2, 2, 2, 3]], [0, 3, 1, 0]), ([[2, 2, 2, 4]], [0, 3, 0, 1]), ([[2, 2, 3, 3]], [0, 2, 2, 0]), ([[2, 2, 3, 4]], [0, 2, 1, 1]), ([[2, 2, 4, 4]], [0, 2, 0, 2]), ([[2, 3, 3, 3]], [0, 1, 3, 0]), ([[2, 3, 3, 4]], [0, 1, 2, 1]), ([[2, 3, 4, 4]], [0, 1, 1, 2]), ([[2, 4, 4, 4]], [0, 1, 0, 3]), ([[3, 3, 3, 3]], [0, 0, 4, 0]), ([[3, 3, 3, 4]], [0, 0, 3, 1]), ([[3, 3, 4, 4]], [0, 0, 2, 2]), ([[3, 4, 4, 4]], [0, 0, 1, 3]), ([[4, 4, 4, 4]], [0, 0, 0, 4])]
theorem t80_4_4_ok : tabOk [4] 4 t80_4_4 = true := by decide +kernel
theorem t80_4_4_3 : chk80 [4] 4 t80_4_4 3 = true := by decide +kernel
theorem t80_4_4_4 : chk80 [4] 4 t80_4_4 4 = true := by decide +kernel
theorem t80_4_4_5 : chk80 [4] 4 t80_4_4 5 = true := by decide +kernel
def t80_4_5 : List (List (List Int) × List Int) := [([[1, 1, 1, 1]], [4, 0, 0, 0, 0]), ([[1, 1, 1, 2]], [3, 1, 0, 0, 0]), ([[1, 1, 1, 3]], [3, 0, 1, 0, 0]), ([[1, 1, 1, 4]], [3, 0, 0, 1, 0]), ([[1, 1, 1, 5]], [3, 0, 0, 0, 1]), ([[1, 1, 2, 2]], [2, 2, 0, 0, 0]), ([[1, 1, 2, 3]], [2, 1, 1, 0, 0]), ([[1, 1, 2, 4]], [2, 1, 0, 1, 0]), ([[1, 1, 2, 5]], [2, 1, 0, 0, 1]), ([[1, 1, 3, 3]], [2, 0, 2, 0, 0]), ([[1, 1, 3, 4]], [2, 0, 1, 1, 0]), ([[1, 1, 3, 5]], [2, 0, 1, 0, 1]), ([[1, 1, 4, 4]], [2, 0, 0, 2, 0]), ([[1, 1, 4, 5]], [2, 0, 0, 1, 1]), ([[1, 1, 5, 5]], [2, 0, 0, 0, 2]), ([[1, 2, 2, 2]], [1, 3, 0, 0, 0]), ([[1, 2, 2, 3]], [1, 2, 1, 0, 0]), ([[1, 2, 2, 4]], [1, 2, 0, 1, 0]), ([[1, 2, 2, 5]], [1, 2, 0, 0, 1]), ([[1, 2, 3, 3]], [1, 1, 2, 0, 0]), ([[1, 2, 3, 4]], [1, 1, 1, 1, 0]), ([[1, 2, 3, 5]], [1, 1, 1, 0, 1]), ([[1, 2, 4, 4]], [1, 1, 0, 2, 0]), ([[1, 2, 4, 5]], [1, 1, 0, 1, 1]), ([[1, 2, 5, 5]], [1, 1, 0, 0, 2]), ([[1, 3, 3, 3]], [1, 0, 3, 0, 0]), ([[1, 3, 3, 4]], [1, 0, 2, 1, 0]), ([[1, 3, 3, 5]], [1, 0, 2, 0, 1]), ([[1, 3, 4, 4]], [1, 0, 1, 2, 0]), ([[1, 3, 4, 5]], [1, 0, 1, 1, 1]), ([[1, 3, 5, 5]], [1, 0, 1, 0, 2]), ([[1, 4, 4, 4]], [1, 0, 0, 3, 0]), ([[1, 4, 4, 5]], [1, 0, 0, 2, 1]), ([[1, 4, 5, 5]], [1, 0, 0, 1, 2]), ([[1, 5, 5, 5]], [1, 0, 0, 0, 3]), ([[2, 2, 2, 2]], [0, 4, 0, 0, 0]), ([[2, 2, 2, 3]], [0, 3, 1, 0, 0]), ([[2, 2, 2, 4]], [0, 3, 0, 1, 0]), ([[2, 2, 2, 5]], [0, 3, 0, 0, 1]), ([[2, 2, 3, 3]], [0, 2, 2, 0, 0]), ([[2, 2, 3, 4]], [0, 2, 1, 1, 0]), ([[2, 2, 3, 5]], [0, 2, 1, 0, 1]), ([[2, 2, 4, 4]], [0, 2, 0, 2, 0]), ([[2, 2, 4, 5]], [0, 2, 0, 1, 1]), ([[2, 2, 5, 5]], [0, 2, 0, 0, 2]), ([[2, 3, 3, 3]], [0, 1, 3, 0, 0]), ([[2, 3, 3, 4]], [0, 1, 2, 1, 0]), ([[2, 3, 3, 5]], [0, 1, 2, 0, 1]), ([[2, 3, 4, 4]], [0, 1, 1, 2, 0]), ([[2, 3, 4, 5]], [0, 1, 1, 1, 1]), ([[2, 3, 5, 5]], [0, 1, 1, 0, 2]), ([[2, 4, 4, 4]], [0, 1, 0, 3, 0]), ([[2, 4, 4, 5]], [0, 1, 0, 2, 1]), ([[2, 4, 5, 5]], [0, 1, 0, 1, 2]), ([[2, 5, 5, 5]], [0, 1, 0, 0, 3]), ([[3, 3, 3, 3]], [0, 0, 4, 0, 0]), ([[3, 3, 3, 4]], [0, 0, 3, 1, 0]), ([[3, 3, 3, 5]], [0, 0, 3, 0, 1]), ([[3, 3, 4, 4]], [0, 0, 2, 2, 0]), ([[3, 3, 4, 5]], [0, 0, 2, 1, 1]), ([[3, 3, 5, 5]], [0, 0, 2, 0, 2]), ([[3, 4, 4, 4]], [0, 0, 1, 3, 0]), ([[3, 4, 4, 5]], [0, 0, 1, 2, 1]), ([[3, 4, 5, 5]], [0, 0, 1, 1, 2]), ([[3, 5, 5, 5]], [0, 0, 1, 0, 3]), ([[4, 4, 4, 4]], [0, 0, 0, 4, 0]), ([[4, 4, 4, 5]], [0, 0, 0, 3, 1]), ([[4, 4, 5, 5]], [0, 0, 0, 2, 2]), ([[4, 5, 5, 5]], [0, 0, 0, 1, 3]), ([[5, 5, 5, 5]], [0, 0, 0, 0, 4])]
theorem t80_4_5_ok : tabOk [4] 5 t80_4_5 = true := by decide +kernel
theorem t80_4_5_3 : chk80 [4] 5 t80_4_5 3 = true := by decide +kernel
theorem t80_4_5_4 : chk80 [4] 5 t80_4_5 4 = true := by decide +kernel
theorem t80_4_5_5 : chk80 [4] 5 t80_4_5 5 = true := by decide +kernel
def t80_11111_1 : List (List (List Int) × List Int) := []
theorem t80_11111_1_ok : tabOk [1, 1, 1, 1, 1] 1 t80_11111_1 = true := by decide +kernel
theorem t80_11111_1_4 : chk80 [1, 1, 1, 1, 1] 1 t80_11111_1 4 = true := by decide +kernel
theorem t80_11111_1_5 : chk80 [1, 1, 1, 1, 1] 1 t80_11111_1 5 = true := by decide +kernel
theorem t80_11111_1_6 : chk80 [1, 1, 1, 1, 1] 1 t80_11111_1 6 = true := by decide +kernel
def t80_11111_2 : List (List (List Int) × List Int) := []
theorem t80_11111_2_ok : tabOk [1, 1, 1, 1, 1] 2 t80_11111_2 = true := by decide +kernel
theorem t80_11111_2_4 : chk80 [1, 1, 1, 1, 1] 2 t80_11111_2 4 = true := by decide +kernel
theorem t80_11111_2_5 : chk80 [1, 1, 1, 1, 1] 2 t80_11111_2 5 = true := by decide +kernel
theorem t80_11111_2_6 : chk80 [1, 1, 1, 1, 1] 2 t80_11111_2 6 = true := by decide +kernel
def t80_11111_3 : List (List (List Int) × List Int) := []
theorem t80_11111_3_ok : tabOk [1, 1, 1, 1, 1] 3 t80_11111_3 = true := by decide +kernel
theorem t80_11111_3_4 : chk80 [1, 1, 1, 1, 1] 3 t80_11111_3 4 = true := by decide +kernel
theorem t80_11111_3_5 : chk80 [1, 1, 1, 1, 1] 3 t80_11111_3 5 = true := by decide +kernel
theorem t80_11111_3_6 : chk80 [1, 1, 1, 1, 1] 3 t80_11111_3 6 = true := by decide +kernel
def t80_11111_4 : List (List (List Int) × List Int) := []
theorem t80_11111_4_ok : tabOk [1, 1, 1, 1, 1] 4 t80_11111_4 = true := by decide +kernel
theorem t80_11111_4_4 : chk80 [1, 1, 1, 1, 1] 4 t80_11111_4 4 = true := by decide +kernel
theorem t80_11111_4_5 : chk80 [1, 1, 1, 1, 1] 4 t80_11111_4 5 = true := by decide +kernel
theorem t80_11111_4_6 : chk80 [1, 1, 1, 1, 1] 4 t80_11111_4 6 = true := by decide +kernel
def t80_11111_5 : List (List (List Int) × List Int) := [([[1], [2], [3], [4], [5]], [1, 1, 1, 1, 1])]
theorem t80_11111_5_ok : tabOk [1, 1, 1, 1, 1] 5 t80_11111_5 = true := by decide +kernel
theorem t80_11111_5_4 : chk80 [1, 1, 1, 1, 1] 5 t80_11111_5 4 = true := by decide +kernel
theorem t80_11111_5_5 : chk80 [1, 1, 1, 1, 1] 5 t80_11111_5 5 = true := by decide +kernel
theorem t80_11111_5_6 : chk80 [1, 1, 1, 1, 1] 5 t80_11111_5 6 = true := by decide +kernel
def t80_2111_1 : List (List (List Int) × List Int) := []
theorem t80_2111_1_ok : tabOk [2, 1, 1, 1] 1 t80_2111_1 = true := by decide +kernel
theorem t80_2111_1_4 : chk80 [2, 1, 1, 1] 1 t80_2111_1 4 = true := by decide +kernel
theorem t80_2111_1_5 : chk80 [2, 1, 1, 1] 1 t80_2111_1 5 = true := by decide +kernel
theorem t80_2111_1_6 : chk80 [2, 1, 1, 1] 1 t80_2111_1 6 = true := by decide +kernel
def t80_2111_2 : List (List (List Int) × List Int) := []
theorem t80_2111_2_ok : tabOk [2, 1, 1, 1] 2 t80_2111_2 = true := by decide +kernel
theorem t80_2111_2_4 : chk80 [2, 1, 1, 1] 2 t80_2111_2 4 = true := by decide +kernel
theorem t80_2111_2_5 : chk80 [2, 1, 1, 1] 2 t80_2111_2 5 = true := by decide +kernel
theorem t80_2111_2_6 : chk80 [2, 1, 1, 1] 2 t80_2111_2 6 = true := by decide +kernel
def t80_2111_3 : List (List (List Int) × List Int) := []
theorem t80_2111_3_ok : tabOk [2, 1, 1, 1] 3 t80_2111_3 = true := by decide +kernel
theorem t80_2111_3_4 : chk80 [2, 1, 1, 1] 3 t80_2111_3 4 = true := by decide +kernel
theorem t80_2111_3_5 : chk80 [2, 1, 1, 1] 3 t80_2111_3 5 = true := by decide +kernel
theorem t80_2111_3_6 : chk80 [2, 1, 1, 1] 3 t80_2111_3 6 = true := by decide +kernel
def t80_2111_4 : List (List (List Int) × List Int) := [([[1, 1], [2], [3], [4]], [2, 1, 1, 1]), ([[1, 2], [2], [3], [4]], [1, 2, 1, 1]), ([[1, 3], [2], [3], [4]], [1, 1, 2, 1]), ([[1, 4], [2], [3], [4]], [1, 1, 1, 2])]
theorem t80_2111_4_ok : tabOk [2, 1, 1, 1] 4 t80_2111_4 = true := by decide +kernel
theorem t80_2111_4_4 : chk80 [2, 1, 1, 1] 4 t80_2111_4 4 = true := by decide +kernel
theorem t80_2111_4_5 : chk80 [2, 1, 1, 1] 4 t80_2111_4 5 = true := by decide +kernel
theorem t80_2111_4_6 : chk80 [2, 1, 1, 1] 4 t80_2111_4 6 = true := by decide +kernel
def t80_2111_5 : List (List (List Int) × List Int) := [([[1, 1], [2], [3], [4]], [2, 1, 1, 1, 0]), ([[1, 1], [2], [3], [5]], [2, 1, 1, 0, 1]), ([[1, 1], [2], [4], [5]], [2, 1, 0, 1, 1]), ([[1, 1], [3], [4], [5]], [2, 0, 1, 1, 1]), ([[1, 2], [2], [3], [4]], [1, 2, 1, 1, 0]), ([[1, 2], [2], [3], [5]], [1, 2, 1, 0, 1]), ([[1, 2], [2], [4], [5]], [1, 2, 0, 1, 1]), ([[1, 2], [3], [4], [5]], [1, 1, 1, 1, 1]), ([[1, 3], [2], [3], [4]], [1, 1, 2, 1, 0]), ([[1, 3], [2], [3], [5]], [1, 1, 2, 0, 1]), ([[1, 3], [2], [4], [5]], [1, 1, 1, 1, 1]), ([[1, 3], [3], [4], [5]], [1, 0, 2, 1, 1]), ([[1, 4], [2], [3], [4]], [1, 1, 1, 2, 0]), ([[1, 4], [2], [3], [5]], [1, 1, 1, 1, 1]), ([[1, 4], [2], [4], [5]], [1, 1, 0, 2, 1]), ([[1, 4], [3], [4], [5]], [1, 0, 1, 2, 1]), ([[1, 5], [2], [3], [4]], [1, 1, 1, 1, 1]), ([[1, 5], [2], [3], [5]], [1, 1, 1, 0, 2]), ([[1, 5], [2], [4], [5]], [1, 1, 0, 1, 2]), ([[1, 5], [3], [4], [5]], [1, 0, 1, 1, 2]), ([[2, 2], [3], [4], [5]], [0, 2, 1, 1, 1]), ([[2, 3], [3], [4], [5]], [0, 1, 2, 1, 1]), ([[2, 4], [3], [4], [5]], [0, 1, 1, 2, 1]), ([[2, 5], [3], [4], [5]], [0, 1, 1, 1, 2])]
theorem t80_2111_5_ok : tabOk [2, 1, 1, 1] 5 t80_2111_5 = true := by decide +kernel
theorem t80_2111_5_4 : chk80 [2, 1, 1, 1] 5 t80_2111_5 4 = true := by decide +kernel
theorem t80_2111_5_5 : chk80 [2, 1, 1, 1] 5 t80_2111_5 5 = true := by decide +kernel
theorem t80_2111_5_6 : chk80 [2, 1, 1, 1] 5 t80_2111_5 6 = true := by decide +kernel
def t80_221_1 : List (List (List Int) × List Int) := []
theorem t80_221_1_ok : tabOk [2, 2, 1] 1 t80_221_1 = true := by decide +kernel
theorem t80_221_1_4 : chk80 [2, 2, 1] 1 t80_221_1 4 = true := by decide +kernel
theorem t80_221_1_5 : chk80 [2, 2, 1] 1 t80_221_1 5 = true := by decide +kernel
theorem t80_221_1_6 : chk80 [2, 2, 1] 1 t80_221_1 6 = true := by decide +kernel
def t80_221_2 : List (List (List Int) × List Int) := []
theorem t80_221_2_ok : tabOk [2, 2, 1] 2 t80_221_2 = true := by decide +kernel
theorem t80_221_2_4 : chk80 [2, 2, 1] 2 t80_221_2 4 = true := by decide +kernel
theorem t80_221_2_5 : chk80 [2, 2, 1] 2 t80_221_2 5 = true := by decide +kernel
theorem t80_221_2_6 : chk80 [2, 2, 1] 2 t80_221_2 6 = true := by decide +kernel
def t80_221_3 : List (List (List Int) × List Int) := [([[1, 1], [2, 2], [3]], [2, 2, 1]), ([[1, 1], [2, 3], [3]], [2, 1, 2]), ([[1, 2], [2, 3], [3]], [1, 2, 2])]
theorem t80_221_3_ok : tabOk [2, 2, 1] 3 t80_221_3 = true := by decide +kernel
theorem t80_221_3_4 : chk80 [2, 2, 1] 3 t80_221_3 4 = true := by decide +kernel
theorem t80_221_3_5 : chk80 [2, 2, 1] 3 t80_221_3 5 = true := by decide +kernel
theorem t80_221_3_6 : chk80 [2, 2, 1] 3 t80_221_3 6 = true := by decide +kernel
def t80_221_4 : List (List (List Int) × List Int) := [([[1, 1], [2, 2], [3]], [2, 2, 1, 0]), ([[1, 1], [2, 2], [4]], [2, 2, 0, 1]), ([[1, 1], [2, 3], [3]], [2, 1, 2, 0]), ([[1, 1], [2, 3], [4]], [2, 1, 1, 1]), ([[1, 1], [2, 4], [3]], [2, 1, 1, 1]), ([[1, 1], [2, 4], [4]], [2, 1, 0, 2]), ([[1, 1], [3, 3], [4]], [2, 0, 2, 1]), ([[1, 1], [3, 4], [4]], [2, 0, 1, 2]), ([[1, 2], [2, 3], [3]], [1, 2, 2, 0]), ([[1, 2], [2, 3], [4]], [1, 2, 1, 1]), ([[1, 2], [2, 4], [3]], [1, 2, 1, 1]), ([[1, 2], [2, 4], [4]], [1, 2, 0, 2]), ([[1, 2], [3, 3], [4]], [1, 1, 2, 1]), ([[1, 2], [3, 4], [4]], [1, 1, 1, 2]), ([[1, 3], [2, 4], [3]], [1, 1, 2, 1]), ([[1, 3], [2, 4], [4]], [1, 1, 1, 2]), ([[1, 3], [3, 4], [4]], [1, 0, 2, 2]), ([[2, 2], [3, 3], [4]], [0, 2, 2, 1]), ([[2, 2], [3, 4], [4]], [0, 2, 1, 2]), ([[2, 3], [3, 4], [4]], [0, 1, 2, 2])]
theorem t80_221_4_ok : tabOk [2, 2, 1] 4 t80_221_4 = true := by decide +kernel
theorem t80_221_4_4 : chk80 [2, 2, 1] 4 t80_221_4 4 = true := by decide +kernel
theorem t80_221_4_5 : chk80 [2, 2, 1] 4 t80_221_4 5 = true := by decide +kernel
theorem t80_221_4_6 : chk80 [2, 2, 1] 4 t80_221_4 6 = true := by decide +kernel
def t80_221_5 : List (List (List Int) × List Int) := [([[1, 1], [2, 2], [3]], [2, 2, 1, 0, 0]), ([[1, 1], [2, 2], [4]], [2, 2, 0, 1, 0]), ([[1, 1], [2, 2], [5]], [2, 2, 0, 0, 1]), ([[1, 1], [2, 3], [3]], [2, 1, 2, 0, 0]), ([[1, 1], [2, 3], [4]], [2, 1, 1, 1, 0]), ([[1, 1], [2, 3], [5]], [2, 1, 1, 0, 1]), ([[1, 1], [2, 4], [3]], [2, 1, 1, 1, 0]), ([[1, 1], [2, 4], [4]], [2, 1, 0, 2, 0]), ([[1, 1], [2, 4], [5]], [2, 1, 0, 1, 1]), ([[1, 1], [2, 5], [3]], [2, 1, 1, 0, 1]), ([[1, 1], [2, 5], [4]], [2, 1, 0, 1, 1]), ([[1, 1], [2, 5], [5]], [2, 1, 0, 0, 2]), ([[1, 1], [3, 3], [4]], [2, 0, 2, 1, 0]), ([[1, 1], [3, 3], [5]], [2, 0, 2, 0, 1]), ([[1, 1], [3, 4], [4]], [2, 0, 1, 2, 0]), ([[1, 1], [3, 4], [5]], [2, 0, 1, 1, 1]), ([[1, 1], [3, 5], [4]], [2, 0, 1, 1, 1]), ([[1, 1], [3, 5], [5]], [2, 0, 1, 0, 2]), ([[1, 1], [4, 4], [5]], [2, 0, 0, 2, 1]), ([[1, 1], [4, 5], [5]], [2, 0, 0, 1, 2]), ([[1, 2], [2, 3], [3]], [1, 2, 2, 0, 0]), ([[1, 2], [2, 3], [4]], [1, 2, 1, 1, 0]), ([[1, 2], [2, 3], [5]], [1, 2, 1, 0, 1]), ([[1, 2], [2, 4], [3]], [1, 2, 1, 1, 0]), ([[1, 2], [2, 4], [4]], [1, 2, 0, 2, 0]), ([[1, 2], [2, 4], [5]], [1, 2, 0, 1, 1]), ([[1, 2], [2, 5], [3]], [1, 2, 1, 0, 1]), ([[1, 2], [2, 5], [4]], [1, 2, 0, 1, 1]), ([[1, 2], [2, 5], [5]], [1, 2, 0, 0, 2]), ([[1, 2], [3, 3], [4]], [1, 1, 2, 1, 0]), ([[1, 2], [3, 3], [5]], [1, 1, 2, 0, 1]), ([[1, 2], [3, 4], [4]], [1, 1, 1, 2, 0]), ([[1, 2], [3, 4], [5]], [1, 1, 1, 1, 1]), ([[1, 2], [3, 5], [4]], [1, 1, 1, 1, 1]), ([[1, 2], [3, 5], [5]], [1, 1, 1, 0, 2]), ([[1, 2], [4, 4], [5]], [1, 1, 0, 2, 1]), ([[1, 2], [4, 5], [5]], [1, 1, 0, 1, 2]), ([[1, 3], [2, 4], [3]], [1, 1, 2, 1, 0]), ([[1, 3], [2, 4], [4]], [1, 1, 1, 2, 0]), ([[1, 3], [2, 4], [5]], [1, 1, 1, 1, 1]), ([[1, 3], [2, 5], [3]], [1, 1, 2, 0, 1]), ([[1, 3], [2, 5], [4]], [1, 1, 1, 1, 1]), ([[1, 3], [2, 5], [5]], [1, 1, 1, 0, 2]), ([[1, 3], [3, 4], [4]], [1, 0, 2, 2, 0]), ([[1, 3], [3, 4], [5]], [1, 0, 2, 1, 1]), ([[1, 3], [3, 5], [4]], [1, 0, 2, 1, 1]), ([[1, 3], [3, 5], [5]], [1, 0, 2, 0, 2]), ([[1, 3], [4, 4], [5]], [1, 0, 1, 2, 1]), ([[1, 3], [4, 5], [5]], [1, 0, 1, 1, 2]), ([[1, 4], [2, 5], [3]], [1, 1, 1, 1, 1]), ([[1, 4], [2, 5], [4]], [1, 1, 0, 2, 1]), ([[1, 4], [2, 5], [5]], [1, 1, 0, 1, 2]), ([[1, 4], [3, 5], [4]], [1, 0, 1, 2, 1]), ([[1, 4], [3, 5], [5]], [1, 0, 1, 1, 2]), ([[1, 4], [4, 5], [5]], [1, 0, 0, 2, 2]), ([[2, 2], [3, 3], [4]], [0, 2, 2, 1, 0]), ([[2, 2], [3, 3], [5]], [0, 2, 2, 0, 1]), ([[2, 2], [3, 4], [4]], [0, 2, 1, 2, 0]), ([[2, 2], [3, 4], [5]], [0, 2, 1, 1, 1]), ([[2, 2], [3, 5], [4]], [0, 2, 1, 1, 1]), ([[2, 2], [3, 5], [5]], [0, 2, 1, 0, 2]), ([[2, 2], [4, 4], [5]], [0, 2, 0, 2, 1]), ([[2, 2], [4, 5], [5]], [0, 2, 0, 1, 2]), ([[2, 3], [3, 4], [4]], [0, 1, 2, 2, 0]), ([[2, 3], [3, 4], [5]], [0, 1, 2, 1, 1]), ([[2, 3], [3, 5], [4]], [0, 1, 2, 1, 1]), ([[2, 3], [3, 5], [5]], [0, 1, 2, 0, 2]), ([[2, 3], [4, 4], [5]], [0, 1, 1, 2, 1]), ([[2, 3], [4, 5], [5]], [0, 1, 1, 1, 2]), ([[2, 4], [3, 5], [4]], [0, 1, 1, 2, 1]), ([[2, 4], [3, 5], [5]], [0, 1, 1, 1, 2]), ([[2, 4], [4, 5], [5]], [0, 1, 0, 2, 2]), ([[3, 3], [4, 4], [5]], [0, 0, 2, 2, 1]), ([[3, 3], [4, 5], [5]], [0, 0, 2, 1, 2]), ([[3, 4], [4, 5], [5]], [0, 0, 1, 2, 2])]
theorem t80_221_5_ok : tabOk [2, 2, 1] 5 t80_221_5 = true := by decide +kernel
theorem t80_221_5_4 : chk80 [2, 2, 1] 5 t80_221_5 4 = true := by decide +kernel
theorem t80_221_5_5 : chk80 [2, 2, 1] 5 t80_221_5 5 = true := by decide +kernel
theorem t80_221_5_6 : chk80 [2, 2, 1] 5 t80_221_5 6 = true := by decide +kernel
def t80_311_1 : List (List (List Int) × List Int) := []
theorem t80_311_1_ok : tabOk [3, 1, 1] 1 t80_311_1 = true := by decide +kernel
theorem t80_311_1_4 : chk80 [3, 1, 1] 1 t80_311_1 4 = true := by decide +kernel
theorem t80_311_1_5 : chk80 [3, 1, 1] 1 t80_311_1 5 = true := by decide +kernel
theorem t80_311_1_6 : chk80 [3, 1, 1] 1 t80_311_1 6 = true := by decide +kernel
def t80_311_2 : List (List (List Int) × List Int) := []
theorem t80_311_2_ok : tabOk [3, 1, 1] 2 t80_311_2 = true := by decide +kernel
theorem t80_311_2_4 : chk80 [3, 1, 1] 2 t80_311_2 4 = true := by decide +kernel
theorem t80_311_2_5 : chk80 [3, 1, 1] 2 t80_311_2 5 = true := by decide +kernel
theorem t80_311_2_6 : chk80 [3, 1, 1] 2 t80_311_2 6 = true := by decide +kernel
def t80_311_3 : List (List (List Int) × List Int) := [([[1, 1, 1], [2], [3]], [3, 1, 1]), ([[1, 1, 2], [2], [3]], [2, 2, 1]), ([[1, 1, 3], [2], [3]], [2, 1, 2]), ([[1, 2, 2], [2], [3]], [1, 3, 1]), ([[1, 2, 3], [2], [3]], [1, 2, 2]), ([[1, 3, 3], [2], [3]], [1, 1, 3])]
theorem t80_311_3_ok : tabOk [3, 1, 1] 3 t80_311_3 = true := by decide +kernel
theorem t80_311_3_4 : chk80 [3, 1, 1] 3 t80_311_3 4 = true := by decide +kernel
theorem t80_311_3_5 : chk80 [3, 1, 1] 3 t80_311_3 5 = true := by decide +kernel
theorem t80_311_3_6 : chk80 [3, 1, 1] 3 t80_311_3 6 = true := by decide +kernel
def t80_311_4 : List (List (List Int) × List Int) := [([[1, 1, 1], [2], [3]], [3, 1, 1, 0]), ([[1, 1, 1], [2], [4]], [3, 1, 0, 1]), ([[1, 1, 1], [3], [4]], [3, 0, 1, 1]), ([[1, 1, 2], [2], [3]], [2, 2, 1, 0]), ([[1, 1, 2], [2], [4]], [2, 2, 0, 1]), ([[1, 1, 2], [3], [4]], [2, 1, 1, 1]), ([[1, 1, 3], [2], [3]], [2, 1, 2, 0]), ([[1, 1, 3], [2], [4]], [2, 1, 1, 1]), ([[1, 1, 3], [3], [4]], [2, 0, 2, 1]), ([[1, 1, 4], [2], [3]], [2, 1, 1, 1]), ([[1, 1, 4], [2], [4]], [2, 1, 0, 2]), ([[1, 1, 4], [3], [4]], [2, 0, 1, 2]), ([[1, 2, 2], [2], [3]], [1, 3, 1, 0]), ([[1, 2, 2], [2], [4]], [1, 3, 0, 1]), ([[1, 2, 2], [3], [4]], [1, 2, 1, 1]), ([[1, 2, 3], [2], [3]], [1, 2, 2, 0]), ([[1, 2, 3], [2], [4]], [1, 2, 1, 1]), ([[1, 2, 3], [3], [4]], [1, 1, 2, 1]), ([[1, 2, 4], [2], [3]], [1, 2, 1, 1]), ([[1, 2, 4], [2], [4]], [1, 2, 0, 2]), ([[1, 2, 4], [3], [4]], [1, 1, 1, 2]), ([[1, 3, 3], [2], [3]], [1, 1, 3, 0]), ([[1, 3, 3], [2], [4]], [1, 1, 2, 1]), ([[1, 3, 3], [3], [4]], [1, 0, 3, 1]), ([[1, 3, 4], [2], [3]], [1, 1, 2, 1]), ([[1, 3, 4], [2], [4]], [1, 1, 1, 2]), ([[1, 3, 4], [3], [4]], [1, 0, 2, 2]), ([[1, 4, 4], [2], [3]], [1, 1, 1, 2]), ([[1, 4, 4], [2], [4]], [1, 1, 0, 3]), ([[1, 4, 4], [3], [4]], [1, 0, 1, 3]), ([[2, 2, 2], [3], [4]], [0, 3, 1, 1]), ([[2, 2, 3], [3], [4]], [0, 2, 2, 1]), ([[2, 2, 4], [3], [4]], [0, 2, 1, 2]), ([[2, 3, 3], [3], [4]], [0, 1, 3, 1]), ([[2, 3, 4], [3], [4]], [0, 1, 2, 2]), ([[2, 4, 4], [3], [4]], [0, 1, 1, 3])]
theorem t80_311_4_ok : tabOk [3, 1, 1] 4 t80_311_4 = true := by decide +kernel
theorem t80_311_4_4 : chk80 [3, 1, 1] 4 t80_311_4 4 = true := by decide +kernel
theorem t80_311_4_5 : chk80 [3, 1, 1] 4 t80_311_4 5 = true := by decide +kernel
theorem t80_311_4_6 : chk80 [3, 1, 1] 4 t80_311_4 6 = true := by decide +kernel
def t80_311_5 : List (List (List Int) × List Int) := [([[1, 1, 1], [2], [3]], [3, 1, 1, 0, 0]), ([[1, 1, 1], [2], [4]], [3, 1, 0, 1, 0]), ([[1, 1, 1], [2], [5]], [3, 1, 0, 0, 1]), ([[1, 1, 1], [3], [4]], [3, 0, 1, 1, 0]), ([[1, 1, 1], [3], [5]], [3, 0, 1, 0, 1]), ([[1, 1, 1], [4], [5]], [3, 0, 0, 1, 1]), ([[1, 1, 2], [2], [3]], [2, 2, 1, 0, 0]), ([[1, 1, 2], [2], [4]], [2, 2, 0, 1, 0]), ([[1, 1, 2], [2], [5]], [2, 2, 0, 0, 1]), ([[1, 1, 2], [3], [4]], [2, 1, 1, 1, 0]), ([[1, 1, 2], [3], [5]], [2, 1, 1, 0, 1]), ([[1, 1, 2], [4], [5]], [2, 1, 0, 1, 1]), ([[1, 1, 3], [2], [3]], [2, 1, 2, 0, 0]), ([[1, 1, 3], [2], [4]], [2, 1, 1, 1, 0]), ([[1, 1, 3], [2], [5]], [2, 1, 1, 0, 1]), ([[1, 1, 3], [3], [4]], [2, 0, 2, 1, 0]), ([[1, 1, 3], [3], [5]], [2, 0, 2, 0, 1]), ([[1, 1, 3], [4], [5]], [2, 0, 1, 1, 1]), ([[1, 1, 4], [2], [3]], [2, 1, 1, 1, 0]), ([[1, 1, 4], [2], [4]], [2, 1, 0, 2, 0]), ([[1, 1, 4], [2], [5]], [2, 1, 0, 1, 1]), ([[1, 1, 4], [3], [4]], [2, 0, 1, 2, 0]), ([[1, 1, 4], [3], [5]], [2, 0, 1, 1, 1]), ([[1, 1, 4], [4], [5]], [2, 0, 0, 2, 1]), ([[1, 1, 5], [2], [3]], [2, 1, 1, 0, 1]), ([[1, 1, 5], [2], [4]], [2, 1, 0, 1, 1]), ([[1, 1, 5], [2], [5]], [2, 1, 0, 0, 2]), ([[1, 1, 5], [3], [4]], [2, 0, 1, 1, 1]), ([[1, 1, 5], [3], [5]], [2, 0, 1, 0, 2]), ([[1, 1, 5], [4], [5]], [2, 0, 0, 1, 2]), ([[1, 2, 2], [2], [3]], [1, 3, 1, 0, 0]), ([[1, 2, 2], [2], [4]], [1, 3, 0, 1, 0]), ([[1, 2, 2], [2], [5]], [1, 3, 0, 0, 1]), ([[1, 2, 2], [3], [4]], [1, 2, 1, 1, 0]), ([[1, 2, 2], [3], [5]], [1, 2, 1, 0, 1]), ([[1, 2, 2], [4], [5]], [1, 2, 0, 1, 1]), ([[1, 2, 3], [2], [3]], [1, 2, 2, 0, 0]), ([[1, 2, 3], [2], [4]], [1, 2, 1, 1, 0]), ([[1, 2, 3], [2], [5]], [1, 2, 1, 0, 1]), ([[1, 2, 3], [3], [4]], [1, 1, 2, 1, 0]), ([[1, 2, 3], [3], [5]], [1, 1, 2, 0, 1]), ([[1, 2, 3], [4], [5]], [1, 1, 1, 1, 1]), ([[1, 2, 4], [2], [3]], [1, 2, 1, 1, 0]), ([[1, 2, 4], [2], [4]], [1, 2, 0, 2, 0]), ([[1, 2, 4], [2], [5]], [1, 2, 0, 1, 1]), ([[1, 2, 4], [3], [4]], [1, 1, 1, 2, 0]), ([[1, 2, 4], [3], [5]], [1, 1, 1, 1, 1]), ([[1, 2, 4], [4], [5]], [1, 1, 0, 2, 1]), ([[1, 2, 5], [2], [3]], [1, 2, 1, 0, 1]), ([[1, 2, 5], [2], [4]], [1, 2, 0, 1, 1]), ([[1, 2, 5], [2], [5]], [1, 2, 0, 0, 2]), ([[1, 2, 5], [3], [4]], [1, 1, 1, 1, 1]), ([[1, 2, 5], [3], [5]], [1, 1, 1, 0, 2]), ([[1, 2, 5], [4], [5]], [1, 1, 0, 1, 2]), ([[1, 3, 3], [2], [3]], [1, 1, 3, 0, 0]), ([[1, 3, 3], [2], [4]], [1, 1, 2, 1, 0]), ([[1, 3, 3], [2], [5]], [1, 1, 2, 0, 1]), ([[1, 3, 3], [3], [4]], [1, 0, 3, 1, 0]), ([[1, 3, 3], [3], [5]], [1, 0, 3, 0, 1]), ([[1, 3, 3], [4], [5]], [1, 0, 2, 1, 1]), ([[1, 3, 4], [2], [3]], [1, 1, 2, 1, 0]), ([[1, 3, 4], [2], [4]], [1, 1, 1, 2, 0]), ([[1, 3, 4], [2], [5]], [1, 1, 1, 1, 1]), ([[1, 3, 4], [3], [4]], [1, 0, 2, 2, 0]), ([[1, 3, 4], [3], [5]], [1, 0, 2, 1, 1]), ([[1, 3, 4], [4], [5]], [1, 0, 1, 2, 1]), ([[1, 3, 5], [2], [3]], [1, 1, 2, 0, 1]), ([[1, 3, 5], [2], [4]], [1, 1, 1, 1, 1]), ([[1, 3, 5], [2], [5]], [1, 1, 1, 0, 2]), ([[1, 3, 5], [3], [4]], [1, 0, 2, 1, 1]), ([[1, 3, 5], [3], [5]], [1, 0, 2, 0, 2]), ([[1, 3, 5], [4], [5]], [1, 0, 1, 1, 2]), ([[1, 4, 4], [2], [3]], [1, 1, 1, 2, 0]), ([[1, 4, 4], [2], [4]], [1, 1, 0, 3, 0]), ([[1, 4, 4], [2], [5]], [1, 1, 0, 2, 1]), ([[1, 4, 4], [3], [4]], [1, 0, 1, 3, 0]), ([[1, 4, 4], [3], [5]], [1, 0, 1, 2, 1]), ([[1, 4, 4], [4], [5]], [1, 0, 0, 3, 1]), ([[1, 4, 5], [2], [3]], [1, 1, 1, 1, 1]), ([[1, 4, 5], [2], [4]], [1, 1, 0, 2, 1]), ([[1, 4, 5], [2], [5]], [1, 1, 0, 1, 2]), ([[1, 4, 5], [3], [4]], [1, 0, 1, 2, 1]), ([[1, 4, 5], [3], [5]], [1, 0, 1, 1, 2]), ([[1, 4, 5], [4], [5]], [1, 0, 0, 2, 2]), ([[1, 5, 5], [2], [3]], [1, 1, 1, 0, 2]), ([[1, 5, 5], [2], [4]], [1, 1, 0, 1, 2]), ([[1, 5, 5], [2], [5]], [1, 1, 0, 0, 3]), ([[1, 5, 5], [3], [4]], [1, 0, 1, 1, 2]), ([[1, 5, 5], [3], [5]], [1, 0, 1, 0, 3]), ([[1, 5, 5], [4], [5]], [1, 0, 0, 1, 3]), ([[2, 2, 2], [3], [4]], [0, 3, 1, 1, 0]), ([[2, 2, 2], [3], [5]], [0, 3, 1, 0, 1]), ([[2, 2, 2], [4], [5]], [0, 3, 0, 1, 1]), ([[2, 2, 3], [3], [4]], [0, 2, 2, 1, 0]), ([[2, 2, 3], [3], [5]], [0, 2, 2, 0, 1]), ([[2, 2, 3], [4], [5]], [0, 2, 1, 1, 1]), ([[2, 2, 4], [3], [4]], [0, 2, 1, 2, 0]), ([[2, 2, 4], [3], [5]], [0, 2, 1, 1, 1]), ([[2, 2, 4], [4], [5]], [0, 2, 0, 2, 1]), ([[2, 2, 5], [3], [4]], [0, 2, 1, 1, 1]), ([[2, 2, 5], [3], [5]], [0, 2, 1, 0, 2]), ([[2, 2, 5], [4], [5]], [0, 2, 0, 1, 2]), ([[2, 3, 3], [3], [4]], [0, 1, 3, 1, 0]), ([[2, 3, 3], [3], [5]], [0, 1, 3, 0, 1]), ([[2, 3, 3], [4], [5]], [0, 1, 2, 1, 1]), ([[2, 3, 4], [3], [4]], [0, 1, 2, 2, 0]), ([[2, 3, 4], [3], [5]], [0, 1, 2, 1, 1]), ([[2, 3, 4], [4], [5]], [0, 1, 1, 2, 1]), ([[2, 3, 5], [3], [4]], [0, 1, 2, 1, 1]), ([[2, 3, 5], [3], [5]], [0, 1, 2, 0, 2]), ([[2, 3, 5], [4], [5]], [0, 1, 1, 1, 2]), ([[2, 4, 4], [3], [4]], [0, 1, 1, 3, 0]), ([[2, 4, 4], [3], [5]], [0, 1, 1, 2, 1]), ([[2, 4, 4], [4], [5]], [0, 1, 0, 3, 1]), ([[2, 4, 5], [3], [4]], [0, 1, 1, 2, 1]), ([[2, 4, 5], [3], [5]], [0, 1, 1, 1, 2]), ([[2, 4, 5], [4], [5]], [0, 1, 0, 2, 2]), ([[2, 5, 5], [3], [4]], [0, 1, 1, 1, 2]), ([[2, 5, 5], [3], [5]], [0, 1, 1, 0, 3]), ([[2, 5, 5], [4], [5]], [0, 1, 0, 1, 3]), ([[3, 3, 3], [4], [5]], [0, 0, 3, 1, 1]), ([[3, 3, 4], [4], [5]], [0, 0, 2, 2, 1]), ([[3, 3, 5], [4], [5]], [0, 0, 2, 1, 2]), ([[3, 4, 4], [4], [5]], [0, 0, 1, 3, 1]), ([[3, 4, 5], [4], [5]], [0, 0, 1, 2, 2]), ([[3, 5, 5], [4], [5]], [0, 0, 1, 1, 3])]
theorem t80_311_5_ok : tabOk [3, 1, 1] 5 t80_311_5 = true := by decide +kernel
theorem t80_311_5_4 : chk80 [3, 1, 1] 5 t80_311_5 4 = true := by decide +kernel
theorem t80_311_5_5 : chk80 [3, 1, 1] 5 t80_311_5 5 = true := by decide +kernel
theorem t80_311_5_6 : chk80 [3, 1, 1] 5 t80_311_5 6 = true := by decide +kernel
def t80_32_1 : List (List (List Int) × List Int) := []
theorem t80_32_1_ok : tabOk [3, 2] 1 t80_32_1 = true := by decide +kernel
theorem t80_32_1_4 : chk80 [3, 2] 1 t80_32_1 4 = true := by decide +kernel
theorem t80_32_1_5 : chk80 [3, 2] 1 t80_32_1 5 = true := by decide +kernel
theorem t80_32_1_6 : chk80 [3, 2] 1 t80_32_1 6 = true := by decide +kernel
def t80_32_2 : List (List (List Int) × List Int) := [([[1, 1, 1], [2, 2]], [3, 2]), ([[1, 1, 2], [2, 2]], [2, 3])]
theorem t80_32_2_ok : tabOk [3, 2] 2 t80_32_2 = true := by decide +kernel
theorem t80_32_2_4 : chk80 [3, 2] 2 t80_32_2 4 = true := by decide +kernel
theorem t80_32_2_5 : chk80 [3, 2] 2 t80_32_2 5 = true := by decide +kernel
theorem t80_32_2_6 : chk80 [3, 2] 2 t80_32_2 6 = true := by decide +kernel
def t80_32_3 : List (List (List Int) × List Int) := [([[1, 1, 1], [2, 2]], [3, 2, 0]), ([[1, 1, 1], [2, 3]], [3, 1, 1]), ([[1, 1, 1], [3, 3]], [3, 0, 2]), ([[1, 1, 2], [2, 2]], [2, 3, 0]), ([[1, 1, 2], [2, 3]], [2, 2, 1]), ([[1, 1, 2], [3, 3]], [2, 1, 2]), ([[1, 1, 3], [2, 2]], [2, 2, 1]), ([[1, 1, 3], [2, 3]], [2, 1, 2]), ([[1, 1, 3], [3, 3]], [2, 0, 3]), ([[1, 2, 2], [2, 3]], [1, 3, 1]), ([[1, 2, 2], [3, 3]], [1, 2, 2]), ([[1, 2, 3], [2, 3]], [1, 2, 2]), ([[1, 2, 3], [3, 3]], [1, 1, 3]), ([[2, 2, 2], [3, 3]], [0, 3, 2]), ([[2, 2, 3], [3, 3]], [0, 2, 3])]
theorem t80_32_3_ok : tabOk [3, 2] 3 t80_32_3 = true := by decide +kernel
theorem t80_32_3_4 : chk80 [3, 2] 3 t80_32_3 4 = true := by decide +kernel
theorem t80_32_3_5 : chk80 [3, 2] 3 t80_32_3 5 = true := by decide +kernel
theorem t80_32_3_6 : chk80 [3, 2] 3 t80_32_3 6 = true := by decide +kernel
def t80_32_4 : List (List (List Int) × List Int) := [([[1, 1, 1], [2, 2]], [3, 2, 0, 0]), ([[1, 1, 1], [2, 3]], [3, 1, 1, 0]), ([[1, 1, 1], [2, 4]], [3, 1, 0, 1]), ([[1, 1, 1], [3, 3]], [3, 0, 2, 0]), ([[1, 1, 1], [3, 4]], [3, 0, 1, 1]), ([[1, 1, 1], [4, 4]], [3, 0, 0, 2]), ([[1, 1, 2], [2, 2]], [2, 3, 0, 0]), ([[1, 1, 2], [2, 3]], [2, 2, 1, 0]), ([[1, 1, 2], [2, 4]], [2, 2, 0, 1]), ([[1, 1, 2], [3, 3]], [2, 1, 2, 0]), ([[1, 1, 2], [3, 4]], [2, 1, 1, 1]), ([[1, 1, 2], [4, 4]], [2, 1, 0, 2]), ([[1, 1, 3], [2, 2]], [2, 2, 1, 0]), ([[1, 1, 3], [2, 3]], [2, 1, 2, 0]), ([[1, 1, 3], [2, 4]], [2, 1, 1, 1]), ([[1, 1, 3], [3, 3]], [2, 0, 3, 0]), ([[1, 1, 3], [3, 4]], [2, 0, 2, 1]), ([[1, 1, 3], [4, 4]], [2, 0, 1, 2]), ([[1, 1, 4], [2, 2]], [2, 2, 0, 1]), ([[1, 1, 4], [2, 3]], [2, 1, 1, 1]), ([[1, 1, 4], [2, 4]], [2, 1, 0, 2]), ([[1, 1, 4], [3, 3]], [2, 0, 2, 1]), ([[1, 1, 4], [3, 4]], [2, 0, 1, 2]), ([[1, 1, 4], [4, 4]], [2, 0, 0, 3]), ([[1, 2, 2], [2, 3]], [1, 3, 1, 0]), ([[1, 2, 2], [2, 4]], [1, 3, 0, 1]), ([[1, 2, 2], [3, 3]], [1, 2, 2, 0]), ([[1, 2, 2], [3, 4]], [1, 2, 1, 1]), ([[1, 2, 2], [4, 4]], [1, 2, 0, 2]), ([[1, 2, 3], [2, 3]], [1, 2, 2, 0]), ([[1, 2, 3], [2, 4]], [1, 2, 1, 1]), ([[1, 2, 3], [3, 3]], [1, 1, 3, 0]), ([[1, 2, 3], [3, 4]], [1, 1, 2, 1]), ([[1, 2, 3], [4, 4]], [1, 1, 1, 2]), ([[1, 2, 4], [2, 3]], [1, 2, 1, 1]), ([[1, 2, 4], [2, 4]], [1, 2, 0, 2]), ([[1, 2, 4], [3, 3]], [1, 1, 2, 1]), ([[1, 2, 4], [3, 4]], [1, 1, 1, 2]), ([[1, 2, 4], [4, 4]], [1, 1, 0, 3]), ([[1, 3, 3], [2, 4]], [1, 1, 2, 1]), ([[1, 3, 3], [3, 4]], [1, 0, 3, 1]), ([[1, 3, 3], [4, 4]], [1, 0, 2, 2]), ([[1, 3, 4], [2, 4]], [1, 1, 1, 2]), ([[1, 3, 4], [3, 4]], [1, 0, 2, 2]), ([[1, 3, 4], [4, 4]], [1, 0, 1, 3]), ([[2, 2, 2], [3, 3]], [0, 3, 2, 0]), ([[2, 2, 2], [3, 4]], [0, 3, 1, 1]), ([[2, 2, 2], [4, 4]], [0, 3, 0, 2]), ([[2, 2, 3], [3, 3]], [0, 2, 3, 0]), ([[2, 2, 3], [3, 4]], [0, 2, 2, 1]), ([[2, 2, 3], [4, 4]], [0, 2, 1, 2]), ([[2, 2, 4], [3, 3]], [0, 2, 2, 1]), ([[2, 2, 4], [3, 4]], [0, 2, 1, 2]), ([[2, 2, 4], [4, 4]], [0, 2, 0, 3]), ([[2, 3, 3], [3, 4]], [0, 1, 3, 1]), ([[2, 3, 3], [4, 4]], [0, 1, 2, 2]), ([[2, 3, 4], [3, 4]], [0, 1, 2, 2]), ([[2, 3, 4], [4, 4]], [0, 1, 1, 3]), ([[3, 3, 3], [4, 4]], [0, 0, 3, 2]), ([[3, 3, 4], [4, 4]], [0, 0, 2, 3])]
theorem t80_32_4_ok : tabOk [3, 2] 4 t80_32_4 = true := by decide +kernel
theorem t80_32_4_4 : chk80 [3, 2] 4 t80_32_4 4 = true := by decide +kernel
theorem t80_32_4_5 : chk80 [3, 2] 4 t80_32_4 5 = true := by decide +kernel
theorem t80_32_4_6 : chk80 [3, 2] 4 t80_32_4 6 = true := by decide +kernel
def t80_32_5 : List (List (List Int) × List Int) := [([[1, 1, 1], [2, 2]], [3, 2, 0, 0, 0]), ([[1, 1, 1], [2, 3]], [3, 1, 1, 0, 0]), ([[1, 1, 1], [2, 4]], [3, 1, 0, 1, 0]), ([[1, 1, 1], [2, 5]], [3, 1, 0, 0, 1]), ([[1, 1, 1], [3, 3]], [3, 0, 2, 0, 0]), ([[1, 1, 1], [3, 4]], [3, 0, 1, 1, 0]), ([[1, 1, 1], [3, 5]], [3, 0, 1, 0, 1]), ([[1, 1, 1], [4, 4]], [3, 0, 0, 2, 0]), ([[1, 1, 1], [4, 5]], [3, 0, 0, 1, 1]), ([[1, 1, 1], [5, 5]], [3, 0, 0, 0, 2]), ([[1, 1, 2], [2, 2]], [2, 3, 0, 0, 0]), ([[1, 1, 2], [2, 3]], [2, 2, 1, 0, 0]), ([[1, 1, 2], [2, 4]], [2, 2, 0, 1, 0]), ([[1, 1, 2], [2, 5]], [2, 2, 0, 0, 1]), ([[1, 1, 2], [3, 3]], [2, 1, 2, 0, 0]), ([[1, 1, 2], [3, 4]], [2, 1, 1, 1, 0]), ([[1, 1, 2], [3, 5]], [2, 1, 1, 0, 1]), ([[1, 1, 2], [4, 4]], [2, 1, 0, 2, 0]), ([[1, 1, 2], [4, 5]], [2, 1, 0, 1, 1]), ([[1, 1, 2], [5, 5]], [2, 1, 0, 0, 2]), ([[1, 1, 3], [2, 2]], [2, 2, 1, 0, 0]), ([[1, 1, 3], [2, 3]], [2, 1, 2, 0, 0]), ([[1, 1, 3], [2, 4]], [2, 1, 1, 1, 0]), ([[1, 1, 3], [2, 5]], [2, 1, 1, 0, 1]), ([[1, 1, 3], [3, 3]], [2, 0, 3, 0, 0]), ([[1, 1, 3], [3, 4]], [2, 0, 2, 1, 0]), ([[1, 1, 3], [3, 5]], [2, 0, 2, 0, 1]), ([[1, 1, 3], [4, 4]], [2, 0, 1, 2, 0]), ([[1, 1, 3], [4, 5]], [2, 0, 1, 1, 1]), ([[1, 1, 3], [5, 5]], [2, 0, 1, 0, 2]), ([[1, 1, 4], [2, 2]], [2, 2, 0, 1, 0]), ([[1, 1, 4], [2, 3]], [2, 1, 1, 1, 0]), ([[1, 1, 4], [2, 4]], [2, 1, 0, 2, 0]), ([[1, 1, 4], [2, 5]], [2, 1, 0, 1, 1]), ([[1, 1, 4], [3, 3]], [2, 0, 2, 1, 0]), ([[1, 1, 4], [3, 4]], [2, 0, 1, 2, 0]), ([[1, 1, 4], [3, 5]], [2, 0, 1, 1, 1]), ([[1, 1, 4], [4, 4]], [2, 0, 0, 3, 0]), ([[1, 1, 4], [4, 5]], [2, 0, 0, 2, 1]), ([[1, 1, 4], [5, 5]], [2, 0, 0, 1, 2]), ([[1, 1, 5], [2, 2]], [2, 2, 0, 0, 1]), ([[1, 1, 5], [2, 3]], [2, 1, 1, 0, 1]), ([[1, 1, 5], [2, 4]], [2, 1, 0, 1, 1]), ([[1, 1, 5], [2, 5]], [2, 1, 0, 0, 2]), ([[1, 1, 5], [3, 3]], [2, 0, 2, 0, 1]), ([[1, 1, 5], [3, 4]], [2, 0, 1, 1, 1]), ([[1, 1, 5], [3, 5]], [2, 0, 1, 0, 2]), ([[1, 1, 5], [4, 4]], [2, 0, 0, 2, 1]), ([[1, 1, 5], [4, 5]], [2, 0, 0, 1, 2]), ([[1, 1, 5], [5, 5]], [2, 0, 0, 0, 3]), ([[1, 2, 2], [2, 3]], [1, 3, 1, 0, 0]), ([[1, 2, 2], [2, 4]], [1, 3, 0, 1, 0]), ([[1, 2, 2], [2, 5]], [1, 3, 0, 0, 1]), ([[1, 2, 2], [3, 3]], [1, 2, 2, 0, 0]), ([[1, 2, 2], [3, 4]], [1, 2, 1, 1, 0]), ([[1, 2, 2], [3, 5]], [1, 2, 1, 0, 1]), ([[1, 2, 2], [4, 4]], [1, 2, 0, 2, 0]), ([[1, 2, 2], [4, 5]], [1, 2, 0, 1, 1]), ([[1, 2, 2], [5, 5]], [1, 2, 0, 0, 2]), ([[1, 2, 3], [2, 3]], [1, 2, 2, 0, 0]), ([[1, 2, 3], [2, 4]], [1, 2, 1, 1, 0]), ([[1, 2, 3], [2, 5]], [1, 2, 1, 0, 1]), ([[1, 2, 3], [3, 3]], [1, 1, 3, 0, 0]), ([[1, 2, 3], [3, 4]], [1, 1, 2, 1, 0]), ([[1, 2, 3], [3, 5]], [1, 1, 2, 0, 1]), ([[1, 2, 3], [4, 4]], [1, 1, 1, 2, 0]), ([[1, 2, 3], [4, 5]], [1, 1, 1, 1, 1]), ([[1, 2, 3], [5, 5]], [1, 1, 1, 0, 2]), ([[1, 2, 4], [2, 3]], [1, 2, 1, 1, 0]), ([[1, 2, 4], [2, 4]], [1, 2, 0, 2, 0]), ([[1, 2, 4], [2, 5]], [1, 2, 0, 1, 1]), ([[1, 2, 4], [3, 3]], [1, 1, 2, 1, 0]), ([[1, 2, 4], [3, 4]], [1, 1, 1, 2, 0]), ([[1, 2, 4], [3, 5]], [1, 1, 1, 1, 1]), ([[1, 2, 4], [4, 4]], [1, 1, 0, 3, 0]), ([[1, 2, 4], [4, 5]], [1, 1, 0, 2, 1]), ([[1, 2, 4], [5, 5]], [1, 1, 0, 1, 2]), ([[1, 2, 5], [2, 3]], [1, 2, 1, 0, 1]), ([[1, 2, 5], [2, 4]], [1, 2, 0, 1, 1]), ([[1, 2, 5], [2, 5]], [1, 2, 0, 0, 2]), ([[1, 2, 5], [3, 3]], [1, 1, 2, 0, 1]), ([[1, 2, 5], [3, 4]], [1, 1, 1, 1, 1]), ([[1, 2, 5], [3, 5]], [1, 1, 1, 0, 2]), ([[1, 2, 5], [4, 4]], [1, 1, 0, 2, 1]), ([[1, 2, 5], [4, 5]], [1, 1, 0, 1, 2]), ([[1, 2, 5], [5, 5]], [1, 1, 0, 0, 3]), ([[1, 3, 3], [2, 4]], [1, 1, 2, 1, 0]), ([[1, 3, 3], [2, 5]], [1, 1, 2, 0, 1]), ([[1, 3, 3], [3, 4]], [1, 0, 3, 1, 0]), ([[1, 3, 3], [3, 5]], [1, 0, 3, 0, 1]), ([[1, 3, 3], [4, 4]], [1, 0, 2, 2, 0]), ([[1, 3, 3], [4, 5]], [1, 0, 2, 1, 1]), ([[1, 3, 3], [5, 5]], [1, 0, 2, 0, 2]), ([[1, 3, 4], [2, 4]], [1, 1, 1, 2, 0]), ([[1, 3, 4], [2, 5]], [1, 1, 1, 1, 1]), ([[1, 3, 4], [3, 4]], [1, 0, 2, 2, 0]), ([[1, 3, 4], [3, 5]], [1, 0, 2, 1, 1]), ([[1, 3, 4], [4, 4]], [1, 0, 1, 3, 0]), ([[1, 3, 4], [4, 5]], [1, 0, 1, 2, 1]), ([[1, 3, 4], [5, 5]], [1, 0, 1, 1, 2]), ([[1, 3, 5], [2, 4]], [1, 1, 1, 1, 1]), ([[1, 3, 5], [2, 5]], [1, 1, 1, 0, 2]), ([[1, 3, 5], [3, 4]], [1, 0, 2, 1, 1]), ([[1, 3, 5], [3, 5]], [1, 0, 2, 0, 2]), ([[1, 3, 5], [4, 4]], [1, 0, 1, 2, 1]), ([[1, 3, 5], [4, 5]], [1, 0, 1, 1, 2]), ([[1, 3, 5], [5, 5]], [1, 0, 1, 0, 3]), ([[1, 4, 4], [2, 5]], [1, 1, 0, 2, 1]), ([[1, 4, 4], [3, 5]], [1, 0, 1, 2, 1]), ([[1, 4, 4], [4, 5]], [1, 0, 0, 3, 1]), ([[1, 4, 4], [5, 5]], [1, 0, 0, 2, 2]), ([[1, 4, 5], [2, 5]], [1, 1, 0, 1, 2]), ([[1, 4, 5], [3, 5]], [1, 0, 1, 1, 2]), ([[1, 4, 5], [4, 5]], [1, 0, 0, 2, 2]), ([[1, 4, 5], [5, 5]], [1, 0, 0, 1, 3]), ([[2, 2, 2], [3, 3]], [0, 3, 2, 0, 0]), ([[2, 2, 2], [3, 4]], [0, 3, 1, 1, 0]), ([[2, 2, 2], [3, 5]], [0, 3, 1, 0, 1]), ([[2, 2, 2], [4, 4]], [0, 3, 0, 2, 0]), ([[2, 2, 2], [4, 5]], [0, 3, 0, 1, 1]), ([[2, 2, 2], [5, 5]], [0, 3, 0, 0, 2]), ([[2, 2, 3], [3, 3]], [0, 2, 3, 0, 0]), ([[2, 2, 3], [3, 4]], [0, 2, 2, 1, 0]), ([[2, 2, 3], [3, 5]], [0, 2, 2, 0, 1]), ([[2, 2, 3], [4, 4]], [0, 2, 1, 2, 0]), ([[2, 2, 3], [4, 5]], [0, 2, 1, 1, 1]), ([[2, 2, 3], [5, 5]], [0, 2, 1, 0, 2]), ([[2, 2, 4], [3, 3]], [0, 2, 2, 1, 0]), ([[2, 2, 4], [3, 4]], [0, 2, 1, 2, 0]), ([[2, 2, 4], [3, 5]], [0, 2, 1, 1, 1]), ([[2, 2, 4], [4, 4]], [0, 2, 0, 3, 0]), ([[2, 2, 4], [4, 5]], [0, 2, 0, 2, 1]), ([[2, 2, 4], [5, 5]], [0, 2, 0, 1, 2]), ([[2, 2, 5], [3, 3]], [0, 2, 2, 0, 1]), ([[2, 2, 5], [3, 4]], [0, 2, 1, 1, 1]), ([[2, 2, 5], [3, 5]], [0, 2, 1, 0, 2]), ([[2, 2, 5], [4, 4]], [0, 2, 0, 2, 1]), ([[2, 2, 5], [4, 5]], [0, 2, 0, 1, 2]), ([[2, 2, 5], [5, 5]], [0, 2, 0, 0, 3]), ([[2, 3, 3], [3, 4]], [0, 1, 3, 1, 0]), ([[2, 3, 3], [3, 5]], [0, 1, 3, 0, 1]), ([[2, 3, 3], [4, 4]], [0, 1, 2, 2, 0]), ([[2, 3, 3], [4, 5]], [0, 1, 2, 1, 1]), ([[2, 3, 3], [5, 5]], [0, 1, 2, 0, 2]), ([[2, 3, 4], [3, 4]], [0, 1, 2, 2, 0]), ([[2, 3, 4], [3, 5]], [0, 1, 2, 1, 1]), ([[2, 3, 4], [4, 4]], [0, 1, 1, 3, 0]), ([[2, 3, 4], [4, 5]], [0, 1, 1, 2, 1]), ([[2, 3, 4], [5, 5]], [0, 1, 1, 1, 2]), ([[2, 3, 5], [3, 4]], [0, 1, 2, 1, 1]), ([[2, 3, 5], [3, 5]], [0, 1, 2, 0, 2]), ([[2, 3, 5], [4, 4]], [0, 1, 1, 2, 1]), ([[2, 3, 5], [4, 5]], [0, 1, 1, 1, 2]), ([[2, 3, 5], [5, 5]], [0, 1, 1, 0, 3]), ([[2, 4, 4], [3, 5]], [0, 1, 1, 2, 1]), ([[2, 4, 4], [4, 5]], [0, 1, 0, 3, 1]), ([[2, 4, 4], [5, 5]], [0, 1, 0, 2, 2]), ([[2, 4, 5], [3, 5]], [0, 1, 1, 1, 2]), ([[2, 4, 5], [4, 5]], [0, 1, 0, 2, 2]), ([[2, 4, 5], [5, 5]], [0, 1, 0, 1, 3]), ([[3, 3, 3], [4, 4]], [0, 0, 3, 2, 0]), ([[3, 3, 3], [4, 5]], [0, 0, 3, 1, 1]), ([[3, 3, 3], [5, 5]], [0, 0, 3, 0, 2]), ([[3, 3, 4], [4, 4]], [0, 0, 2, 3, 0]), ([[3, 3, 4], [4, 5]], [0, 0, 2, 2, 1]), ([[3, 3, 4], [5, 5]], [0, 0, 2, 1, 2]), ([[3, 3, 5], [4, 4]], [0, 0, 2, 2, 1]), ([[3, 3, 5], [4, 5]], [0, 0, 2, 1, 2]), ([[3, 3, 5], [5, 5]], [0, 0, 2, 0, 3]), ([[3, 4, 4], [4, 5]], [0, 0, 1, 3, 1]), ([[3, 4, 4], [5, 5]], [0, 0, 1, 2, 2]), ([[3, 4, 5], [4, 5]], [0, 0, 1, 2, 2]), ([[3, 4, 5], [5, 5]], [0, 0, 1, 1, 3]), ([[4, 4, 4], [5, 5]], [0, 0, 0, 3, 2]), ([[4, 4, 5], [5, 5]], [0, 0, 0, 2, 3])]
theorem t80_32_5_ok : tabOk [3, 2] 5 t80_32_5 = true := by decide +kernel
theorem t80_32_5_4 : chk80 [3, 2] 5 t80_32_5 4 = true := by decide +kernel
theorem t80_32_5_5 : chk80 [3, 2] 5 t80_32_5 5 = true := by decide +kernel
theorem t80_32_5_6 : chk80 [3, 2] 5 t80_32_5 6 = true := by decide +kernel
def t80_41_1 : List (List (List Int) × List Int) := []
theorem t80_41_1_ok : tabOk [4, 1] 1 t80_41_1 = true := by decide +kernel
theorem t80_41_1_4 : chk80 [4, 1] 1 t80_41_1 4 = true := by decide +kernel
theorem t80_41_1_5 : chk80 [4, 1] 1 t80_41_1 5 = true := by decide +kernel
theorem t80_41_1_6 : chk80 [4, 1] 1 t80_41_1 6 = true := by decide +kernel
def t80_41_2 : List (List (List Int) × List Int) := [([[1, 1, 1, 1], [2]], [4, 1]), ([[1, 1, 1, 2], [2]], [3, 2]), ([[1, 1, 2, 2], [2]], [2, 3]), ([[1, 2, 2, 2], [2]], [1, 4])]
theorem t80_41_2_ok : tabOk [4, 1] 2 t80_41_2 = true := by decide +kernel
theorem t80_41_2_4 : chk80 [4, 1] 2 t80_41_2 4 = true := by decide +kernel
theorem t80_41_2_5 : chk80 [4, 1] 2 t80_41_2 5 = true := by decide +kernel
theorem t80_41_2_6 : chk80 [4, 1] 2 t80_41_2 6 = true := by decide +kernel
def t80_41_3 : List (List (List Int) × List Int) := [([[1, 1, 1, 1], [2]], [4, 1, 0]), ([[1, 1, 1, 1], [3]], [4, 0, 1]), ([[1, 1, 1, 2], [2]], [3, 2, 0]), ([[1, 1, 1, 2], [3]], [3, 1, 1]), ([[1, 1, 1, 3], [2]], [3, 1, 1]), ([[1, 1, 1, 3], [3]], [3, 0, 2]), ([[1, 1, 2, 2], [2]], [2, 3, 0]), ([[1, 1, 2, 2], [3]], [2, 2, 1]), ([[1, 1, 2, 3], [2]], [2, 2, 1]), ([[1, 1, 2, 3], [3]], [2, 1, 2]), ([[1, 1, 3, 3], [2]], [2, 1, 2]), ([[1, 1, 3, 3], [3]], [2, 0, 3]), ([[1, 2, 2, 2], [2]], [1, 4, 0]), ([[1, 2, 2, 2], [3]], [1, 3, 1]), ([[1, 2, 2, 3], [2]], [1, 3, 1]), ([[1, 2, 2, 3], [3]], [1, 2, 2]), ([[1, 2, 3, 3], [2]], [1, 2, 2]), ([[1, 2, 3, 3], [3]], [1, 1, 3]), ([[1, 3, 3, 3], [2]], [1, 1, 3]), ([[1, 3, 3, 3], [3]], [1, 0, 4]), ([[2, 2, 2, 2], [3]], [0, 4, 1]), ([[2, 2, 2, 3], [3]], [0, 3, 2]), ([[2, 2, 3, 3], [3]], [0, 2, 3]), ([[2, 3, 3, 3], [3]], [0, 1, 4])]
theorem t80_41_3_ok : tabOk [4, 1] 3 t80_41_3 = true := by decide +kernel
theorem t80_41_3_4 : chk80 [4, 1] 3 t80_41_3 4 = true := by decide +kernel
theorem t80_41_3_5 : chk80 [4, 1] 3 t80_41_3 5 = true := by decide +kernel
theorem t80_41_3_6 : chk80 [4, 1] 3 t80_41_3 6 = true := by decide +kernel
def t80_41_4 : List (List (List Int) × List Int) := [([[1, 1, 1, 1], [2]], [4, 1, 0, 0]), ([[1, 1, 1, 1], [3]], [4, 0, 1, 0]), ([[1, 1, 1, 1], [4]], [4, 0, 0, 1]), ([[1, 1, 1, 2], [2]], [3, 2, 0, 0]), ([[1, 1, 1, 2], [3]], [3, 1, 1, 0]), ([[1, 1, 1, 2], [4]], [3, 1, 0, 1]), ([[1, 1, 1, 3], [2]], [3, 1, 1, 0]), ([[1, 1, 1, 3], [3]], [3, 0, 2, 0]), ([[1, 1, 1, 3], [4]], [3, 0, 1, 1]), ([[1, 1, 1, 4], [2]], [3, 1, 0, 1]), ([[1, 1, 1, 4], [3]], [3, 0, 1, 1]), ([[1, 1, 1, 4], [4]], [3, 0, 0, 2]), ([[1, 1, 2, 2], [2]], [2, 3, 0, 0]), ([[1, 1, 2, 2], [3]], [2, 2, 1, 0]), ([[1, 1, 2, 2], [4]], [2, 2, 0, 1]), ([[1, 1, 2, 3], [2]], [2, 2, 1, 0]), ([[1, 1, 2, 3], [3]], [2, 1, 2, 0]), ([[1, 1, 2, 3], [4]], [2, 1, 1, 1]), ([[1, 1, 2, 4], [2]], [2, 2, 0, 1]), ([[1, 1, 2, 4], [3]], [2, 1, 1, 1]), ([[1, 1, 2, 4], [4]], [2, 1, 0, 2]), ([[1, 1, 3, 3], [2]], [2, 1, 2, 0]), ([[1, 1, 3, 3], [3]], [2, 0, 3, 0]), ([[1, 1, 3, 3], [4]], [2, 0, 2, 1]), ([[1, 1, 3, 4], [2]], [2, 1, 1, 1]), ([[1, 1, 3, 4], [3]], [2, 0, 2, 1]), ([[1, 1, 3, 4], [4]], [2, 0, 1, 2]), ([[1, 1, 4, 4], [2]], [2, 1, 0, 2]), ([[1, 1, 4, 4], [3]], [2, 0, 1, 2]), ([[1, 1, 4, 4], [4]], [2, 0, 0, 3]), ([[1, 2, 2, 2], [2]], [1, 4, 0, 0]), ([[1, 2, 2, 2], [3]], [1, 3, 1, 0]), ([[1, 2, 2, 2], [4]], [1, 3, 0, 1]), ([[1, 2, 2, 3], [2]], [1, 3, 1, 0]), ([[1, 2, 2, 3], [3]], [1, 2, 2, 0]), ([[1, 2, 2, 3], [4]], [1, 2, 1, 1]), ([[1, 2, 2, 4], [2]], [1, 3, 0, 1]), ([[1, 2, 2, 4], [3]], [1, 2, 1, 1]), ([[1, 2, 2, 4], [4]], [1, 2, 0, 2]), ([[1, 2, 3, 3], [2]], [1, 2, 2, 0]), ([[1, 2, 3, 3], [3]], [1, 1, 3, 0]), ([[1, 2, 3, 3], [4]], [1, 1, 2, 1]), ([[1, 2, 3, 4], [2]], [1, 2, 1, 1]), ([[1, 2, 3, 4], [3]], [1, 1, 2, 1]), ([[1, 2, 3, 4], [4]], [1, 1, 1, 2]), ([[1, 2, 4, 4], [2]], [1, 2, 0, 2]), ([[1, 2, 4, 4], [3]], [1, 1, 1, 2]), ([[1, 2, 4, 4], [4]], [1, 1, 0, 3]), ([[1, 3, 3, 3], [2]], [1, 1, 3, 0]), ([[1, 3, 3, 3], [3]], [1, 0, 4, 0]), ([[1, 3, 3, 3], [4]], [1, 0, 3, 1]), ([[1, 3, 3, 4], [2]], [1, 1, 2, 1]), ([[1, 3, 3, 4], [3]], [1, 0, 3, 1]), ([[1, 3, 3, 4], [4]], [1, 0, 2, 2]), ([[1, 3, 4, 4], [2]], [1, 1, 1, 2]), ([[1, 3, 4, 4], [3]], [1, 0, 2, 2]), ([[1, 3, 4, 4], [4]], [1, 0, 1, 3]), ([[1, 4, 4, 4], [2]], [1, 1, 0, 3]), ([[1, 4, 4, 4], [3]], [1, 0, 1, 3]), ([[1, 4, 4, 4], [4]], [1, 0, 0, 4]), ([[2, 2, 2, 2], [3]], [0, 4, 1, 0]), ([[2, 2, 2, 2], [4]], [0, 4, 0, 1]), ([[2, 2, 2, 3], [3]], [0, 3, 2, 0]), ([[2, 2, 2, 3], [4]], [0, 3, 1, 1]), ([[2, 2, 2, 4], [3]], [0, 3, 1, 1]), ([[2, 2, 2, 4], [4]], [0, 3, 0, 2]), ([[2, 2, 3, 3], [3]], [0, 2, 3, 0]), ([[2, 2, 3, 3], [4]], [0, 2, 2, 1]), ([[2, 2, 3, 4], [3]], [0, 2, 2, 1]), ([[2, 2, 3, 4], [4]], [0, 2, 1, 2]), ([[2, 2, 4, 4], [3]], [0, 2, 1, 2]), ([[2, 2, 4, 4], [4]], [0, 2, 0, 3]), ([[2, 3, 3, 3], [3]], [0, 1, 4, 0]), ([[2, 3, 3, 3], [4]], [0, 1, 3, 1]), ([[2, 3, 3, 4], [3]], [0, 1, 3, 1]), ([[2, 3, 3, 4], [4]], [0, 1, 2, 2]), ([[2, 3, 4, 4], [3]], [0, 1, 2, 2]), ([[2, 3, 4, 4], [4]], [0, 1, 1, 3]), ([[2, 4, 4, 4], [3]], [0, 1, 1, 3]), ([[2, 4, 4, 4], [4]], [0, 1, 0, 4]), ([[3, 3, 3, 3], [4]], [0, 0, 4, 1]), ([[3, 3, 3, 4], [4]], [0, 0, 3, 2]), ([[3, 3, 4, 4], [4]], [0, 0, 2, 3]), ([[3, 4, 4, 4], [4]], [0, 0, 1, 4])]
theorem t80_41_4_ok : tabOk [4, 1] 4 t80_41_4 = true := by decide +kernel
theorem t80_41_4_4 : chk80 [4, 1] 4 t80_41_4 4 = true := by decide +kernel
theorem t80_41_4_5 : chk80 [4, 1] 4 t80_41_4 5 = true := by decide +kernel
theorem t80_41_4_6 : chk80 [4, 1] 4 t80_41_4 6 = true := by decide +kernel
def t80_41_5 : List (List (List Int) × List Int) := [([[1, 1, 1, 1], [2]], [4, 1, 0, 0, 0]), ([[1, 1, 1, 1], [3]], [4, 0, 1, 0, 0]), ([[1, 1, 1, 1], [4]], [4, 0, 0, 1, 0]), ([[1, 1, 1, 1], [5]], [4, 0, 0, 0, 1]), ([[1, 1, 1, 2], [2]], [3, 2, 0, 0, 0]), ([[1, 1, 1, 2], [3]], [3, 1, 1, 0, 0]), ([[1, 1, 1, 2], [4]], [3, 1, 0, 1, 0]), ([[1, 1, 1, 2], [5]], [3, 1, 0, 0, 1]), ([[1, 1, 1, 3], [2]], [3, 1, 1, 0, 0]), ([[1, 1, 1, 3], [3]], [3, 0, 2, 0, 0]), ([[1, 1, 1, 3], [4]], [3, 0, 1, 1, 0]), ([[1, 1, 1, 3], [5]], [3, 0, 1, 0, 1]), ([[1, 1, 1, 4], [2]], [3, 1, 0, 1, 0]), ([[1, 1, 1, 4], [3]], [3, 0, 1, 1, 0]), ([[1, 1, 1, 4], [4]], [3, 0, 0, 2, 0]), ([[1, 1, 1, 4], [5]], [3, 0, 0, 1, 1]), ([[1, 1, 1, 5], [2]], [3, 1, 0, 0, 1]), ([[1, 1, 1, 5], [3]], [3, 0, 1, 0, 1]), ([[1, 1, 1, 5], [4]], [3, 0, 0, 1, 1]), ([[1, 1, 1, 5], [5]], [3, 0, 0, 0, 2]), ([[1, 1, 2, 2], [2]], [2, 3, 0, 0, 0]), ([[1, 1, 2, 2], [3]], [2, 2, 1, 0, 0]), ([[1, 1, 2, 2], [4]], [2, 2, 0, 1, 0]), ([[1, 1, 2, 2], [5]], [2, 2, 0, 0, 1]), ([[1, 1, 2, 3], [2]], [2, 2, 1, 0, 0]), ([[1, 1, 2, 3], [3]], [2, 1, 2, 0, 0]), ([[1, 1, 2, 3], [4]], [2, 1, 1, 1, 0]), ([[1, 1, 2, 3], [5]], [2, 1, 1, 0, 1]), ([[1, 1, 2, 4], [2]], [2, 2, 0, 1, 0]), ([[1, 1, 2, 4], [3]], [2, 1, 1, 1, 0]), ([[1, 1, 2, 4], [4]], [2, 1, 0, 2, 0]), ([[1, 1, 2, 4], [5]], [2, 1, 0, 1, 1]), ([[1, 1, 2, 5], [2]], [2, 2, 0, 0, 1]), ([[1, 1, 2, 5], [3]], [2, 1, 1, 0, 1]), ([[1, 1, 2, 5], [4]], [2, 1, 0, 1, 1]), ([[1, 1, 2, 5], [5]], [2, 1, 0, 0, 2]), ([[1, 1, 3, 3], [2]], [2, 1, 2, 0, 0]), ([[1, 1, 3, 3], [3]], [2, 0, 3, 0, 0]), ([[1, 1, 3, 3], [4]], [2, 0, 2, 1, 0]), ([[1, 1, 3, 3], [5]], [2, 0, 2, 0, 1]), ([[1, 1, 3, 4], [2]], [2, 1, 1, 1, 0]), ([[1, 1, 3, 4], [3]], [2, 0, 2, 1, 0]), ([[1, 1, 3, 4], [4]], [2, 0, 1, 2, 0]), ([[1, 1, 3, 4], [5]], [2, 0, 1, 1, 1]), ([[1, 1, 3, 5], [2]], [2, 1, 1, 0, 1]), ([[1, 1, 3, 5], [3]], [2, 0, 2, 0, 1]), ([[1, 1, 3, 5], [4]], [2, 0, 1, 1, 1]), ([[1, 1, 3, 5], [5]], [2, 0, 1, 0, 2]), ([[1, 1, 4, 4], [2]], [2, 1, 0, 2, 0]), ([[1, 1, 4, 4], [3]], [2, 0, 1, 2, 0]), ([[1, 1, 4, 4], [4]], [2, 0, 0, 3, 0]), ([[1, 1, 4, 4], [5]], [2, 0, 0, 2, 1]), ([[1, 1, 4, 5], [2]], [2, 1, 0, 1, 1]), ([[1, 1, 4, 5], [3]], [2, 0, 1, 1, 1]), ([[1, 1, 4, 5], [4]], [2, 0, 0, 2, 1]), ([[1, 1, 4, 5], [5]], [2, 0, 0, 1, 2]), ([[1, 1, 5, 5], [2]], [2, 1, 0, 0, 2]), ([[1, 1, 5, 5], [3]], [2, 0, 1, 0, 2]), ([[1, 1, 5, 5], [4]], [2, 0, 0, 1, 2]), ([[1, 1, 5, 5], [5]], [2, 0, 0, 0, 3]), ([[1, 2, 2, 2], [2]], [1, 4, 0, 0, 0]), ([[1, 2, 2, 2], [3]], [1, 3, 1, 0, 0]), ([[1, 2, 2, 2], [4]], [1, 3, 0, 1, 0]), ([[1, 2, 2, 2], [5]], [1, 3, 0, 0, 1]), ([[1, 2, 2, 3], [2]], [1, 3, 1, 0, 0]), ([[1, 2, 2, 3], [3]], [1, 2, 2, 0, 0]), ([[1, 2, 2, 3], [4]], [1, 2, 1, 1, 0]), ([[1, 2, 2, 3], [5]], [1, 2, 1, 0, 1]), ([[1, 2, 2, 4], [2]], [1, 3, 0, 1, 0]), ([[1, 2, 2, 4], [3]], [1, 2, 1, 1, 0]), ([[1, 2, 2, 4], [4]], [1, 2, 0, 2, 0]), ([[1, 2, 2, 4], [5]], [1, 2, 0, 1, 1]), ([[1, 2, 2, 5], [2]], [1, 3, 0, 0, 1]), ([[1, 2, 2, 5], [3]], [1, 2, 1, 0, 1]), ([[1, 2, 2, 5], [4]], [1, 2, 0, 1, 1]), ([[1, 2, 2, 5], [5]], [1, 2, 0, 0, 2]), ([[1, 2, 3, 3], [2]], [1, 2, 2, 0, 0]), ([[1, 2, 3, 3], [3]], [1, 1, 3, 0, 0]), ([[1, 2, 3, 3], [4]], [1, 1, 2, 1, 0]), ([[1, 2, 3, 3], [5]], [1, 1, 2, 0, 1]), ([[1, 2, 3, 4], [2]], [1, 2, 1, 1, 0]), ([[1, 2, 3, 4], [3]], [1, 1, 2, 1, 0]), ([[1, 2, 3, 4], [4]], [1, 1, 1, 2, 0]), ([[1, 2, 3, 4], [5]], [1, 1, 1, 1, 1]), ([[1, 2, 3, 5], [2]], [1, 2, 1, 0, 1]), ([[1, 2, 3, 5], [3]], [1, 1, 2, 0, 1]), ([[1, 2, 3, 5], [4]], [1, 1, 1, 1, 1]), ([[1, 2, 3, 5], [5]], [1, 1, 1, 0, 2]), ([[1, 2, 4, 4], [2]], [1, 2, 0, 2, 0]), ([[1, 2, 4, 4], [3]], [1, 1, 1, 2, 0]), ([[1, 2, 4, 4], [4]], [1, 1, 0, 3, 0]), ([[1, 2, 4, 4], [5]], [1, 1, 0, 2, 1]), ([[1, 2, 4, 5], [2]], [1, 2, 0, 1, 1]), ([[1, 2, 4, 5], [3]], [1, 1, 1, 1, 1]), ([[1, 2, 4, 5], [4]], [1, 1, 0, 2, 1]), ([[1, 2, 4, 5], [5]], [1, 1, 0, 1, 2]), ([[1, 2, 5, 5], [2]], [1, 2, 0, 0, 2]), ([[1, 2, 5, 5], [3]], [1, 1, 1, 0, 2]), ([[1, 2, 5, 5], [4]], [1, 1, 0, 1, 2]), ([[1, 2, 5, 5], [5]], [1, 1, 0, 0, 3]), ([[1, 3, 3, 3], [2]], [1, 1, 3, 0, 0]), ([[1, 3, 3, 3], [3]], [1, 0, 4, 0, 0]), ([[1, 3, 3, 3], [4]], [1, 0, 3, 1, 0]), ([[1, 3, 3, 3], [5]], [1, 0, 3, 0, 1]), ([[1, 3, 3, 4], [2]], [1, 1, 2, 1, 0]), ([[1, 3, 3, 4], [3]], [1, 0, 3, 1, 0]), ([[1, 3, 3, 4], [4]], [1, 0, 2, 2, 0]), ([[1, 3, 3, 4], [5]], [1, 0, 2, 1, 1]), ([[1, 3, 3, 5], [2]], [1, 1, 2, 0, 1]), ([[1, 3, 3, 5], [3]], [1, 0, 3, 0, 1]), ([[1, 3, 3, 5], [4]], [1, 0, 2, 1, 1]), ([[1, 3, 3, 5], [5]], [1, 0, 2, 0, 2]), ([[1, 3, 4, 4], [2]], [1, 1, 1, 2, 0]), ([[1, 3, 4, 4], [3]], [1, 0, 2, 2, 0]), ([[1, 3, 4, 4], [4]], [1, 0, 1, 3, 0]), ([[1, 3, 4, 4], [5]], [1, 0, 1, 2, 1]), ([[1, 3, 4, 5], [2]], [1, 1, 1, 1, 1]), ([[1, 3, 4, 5], [3]], [1, 0, 2, 1, 1]), ([[1, 3, 4, 5], [4]], [1, 0, 1, 2, 1]), ([[1, 3, 4, 5], [5]], [1, 0, 1, 1, 2]), ([[1, 3, 5, 5], [2]], [1, 1, 1, 0, 2]), ([[1, 3, 5, 5], [3]], [1, 0, 2, 0, 2]), ([[1, 3, 5, 5], [4]], [1, 0, 1, 1, 2]), ([[1, 3, 5, 5], [5]], [1, 0, 1, 0, 3]), ([[1, 4, 4, 4], [2]], [1, 1, 0, 3, 0]), ([[1, 4, 4, 4], [3]], [1, 0, 1, 3, 0]), ([[1, 4, 4, 4], [4]], [1, 0, 0, 4, 0]), ([[1, 4, 4, 4], [5]], [1, 0, 0, 3, 1]), ([[1, 4, 4, 5], [2]], [1, 1, 0, 2, 1]), ([[1, 4, 4, 5], [3]], [1, 0, 1, 2, 1]), ([[1, 4, 4, 5], [4]], [1, 0, 0, 3, 1]), ([[1, 4, 4, 5], [5]], [1, 0, 0, 2, 2]), ([[1, 4, 5, 5], [2]], [1, 1, 0, 1, 2]), ([[1, 4, 5, 5], [3]], [1, 0, 1, 1, 2]), ([[1, 4, 5, 5], [4]], [1, 0, 0, 2, 2]), ([[1, 4, 5, 5], [5]], [1, 0, 0, 1, 3]), ([[1, 5, 5, 5], [2]], [1, 1, 0, 0, 3]), ([[1, 5, 5, 5], [3]], [1, 0, 1, 0, 3]), ([[1, 5, 5, 5], [4]], [1, 0, 0, 1, 3]), ([[1, 5, 5, 5], [5]], [1, 0, 0, 0, 4]), ([[2, 2, 2, 2], [3]], [0, 4, 1, 0, 0]), ([[2, 2, 2, 2], [4]], [0, 4, 0, 1, 0]), ([[2, 2, 2, 2], [5]], [0, 4, 0, 0, 1]), ([[2, 2, 2, 3], [3]], [0, 3, 2, 0, 0]), ([[2, 2, 2, 3], [4]], [0, 3, 1, 1, 0]), ([[2, 2, 2, 3], [5]], [0, 3, 1, 0, 1]), ([[2, 2, 2, 4], [3]], [0, 3, 1, 1, 0]), ([[2, 2, 2, 4], [4]], [0, 3, 0, 2, 0]), ([[2, 2, 2, 4], [5]], [0, 3, 0, 1, 1]), ([[2, 2, 2, 5], [3]], [0, 3, 1, 0, 1]), ([[2, 2, 2, 5], [4]], [0, 3, 0, 1, 1]), ([[2, 2, 2, 5], [5]], [0, 3, 0, 0, 2]), ([[2, 2, 3, 3], [3]], [0, 2, 3, 0, 0]), ([[2, 2, 3, 3], [4]], [0, 2, 2, 1, 0]), ([[2, 2, 3, 3], [5]], [0, 2, 2, 0, 1]), ([[2, 2, 3, 4], [3]], [0, 2, 2, 1, 0]), ([[2, 2, 3, 4], [4]], [0, 2, 1, 2, 0]), ([[2, 2, 3, 4], [5]], [0, 2, 1, 1, 1]), ([[2, 2, 3, 5], [3]], [0, 2, 2, 0, 1]), ([[2, 2, 3, 5], [4]], [0, 2, 1, 1, 1]), ([[2, 2, 3, 5], [5]], [0, 2, 1, 0, 2]), ([[2, 2, 4, 4], [3]], [0, 2, 1, 2, 0]), ([[2, 2, 4, 4], [4]], [0, 2, 0, 3, 0]), ([[2, 2, 4, 4], [5]], [0, 2, 0, 2, 1]), ([[2, 2, 4, 5], [3]], [0, 2, 1, 1, 1]), ([[2, 2, 4, 5], [4]], [0, 2, 0, 2, 1]), ([[2, 2, 4, 5], [5]], [0, 2, 0, 1, 2]), ([[2, 2, 5, 5], [3]], [0, 2, 1, 0, 2]), ([[2, 2, 5, 5], [4]], [0, 2, 0, 1, 2]), ([[2, 2, 5, 5], [5]], [0, 2, 0, 0, 3]), ([[2, 3, 3, 3], [3]], [0, 1, 4, 0, 0]), ([[2, 3, 3, 3], [4]], [0, 1, 3, 1, 0]), ([[2, 3, 3, 3], [5]], [0, 1, 3, 0, 1]), ([[2, 3, 3, 4], [3]], [0, 1, 3, 1, 0]), ([[2, 3, 3, 4], [4]], [0, 1, 2, 2, 0]), ([[2, 3, 3, 4], [5]], [0, 1, 2, 1, 1]), ([[2, 3, 3, 5], [3]], [0, 1, 3, 0, 1]), ([[2, 3, 3, 5], [4]], [0, 1, 2, 1, 1]), ([[2, 3, 3, 5], [5]], [0, 1, 2, 0, 2]), ([[2, 3, 4, 4], [3]], [0, 1, 2, 2, 0]), ([[2, 3, 4, 4], [4]], [0, 1, 1, 3, 0]), ([[2, 3, 4, 4], [5]], [0, 1, 1, 2, 1]), ([[2, 3, 4, 5], [3]], [0, 1, 2, 1, 1]), ([[2, 3, 4, 5], [4]], [0, 1, 1, 2, 1]), ([[2, 3, 4, 5], [5]], [0, 1, 1, 1, 2]), ([[2, 3, 5, 5], [3]], [0, 1, 2, 0, 2]), ([[2, 3, 5, 5], [4]], [0, 1, 1, 1, 2]), ([[2, 3, 5, 5], [5]], [0, 1, 1, 0, 3]), ([[2, 4, 4, 4], [3]], [0, 1, 1, 3, 0]), ([[2, 4, 4, 4], [4]], [0, 1, 0, 4, 0]), ([[2, 4, 4, 4], [5]], [0, 1, 0, 3, 1]), ([[2, 4, 4, 5], [3]], [0, 1, 1, 2, 1]), ([[2, 4, 4, 5], [4]], [0, 1, 0, 3, 1]), ([[2, 4, 4, 5], [5]], [0, 1, 0, 2, 2]), ([[2, 4, 5, 5], [3]], [0, 1, 1, 1, 2]), ([[2, 4, 5, 5], [4]], [0, 1, 0, 2, 2]), ([[2, 4, 5, 5], [5]], [0, 1, 0, 1, 3]), ([[2, 5, 5, 5], [3]], [0, 1, 1, 0, 3]), ([[2, 5, 5, 5], [4]], [0, 1, 0, 1, 3]), ([[2, 5, 5, 5], [5]], [0, 1, 0, 0, 4]), ([[3, 3, 3, 3], [4]], [0, 0, 4, 1, 0]), ([[3, 3, 3, 3], [5]], [0, 0, 4, 0, 1]), ([[3, 3, 3, 4], [4]], [0, 0, 3, 2, 0]), ([[3, 3, 3, 4], [5]], [0, 0, 3, 1, 1]), ([[3, 3, 3, 5], [4]], [0, 0, 3, 1, 1]), ([[3, 3, 3, 5], [5]], [0, 0, 3, 0, 2]), ([[3, 3, 4, 4], [4]], [0, 0, 2, 3, 0]), ([[3, 3, 4, 4], [5]], [0, 0, 2, 2, 1]), ([[3, 3, 4, 5], [4]], [0, 0, 2, 2, 1]), ([[3, 3, 4, 5], [5]], [0, 0, 2, 1, 2]), ([[3, 3, 5, 5], [4]], [0, 0, 2, 1, 2]), ([[3, 3, 5, 5], [5]], [0, 0, 2, 0, 3]), ([[3, 4, 4, 4], [4]], [0, 0, 1, 4, 0]), ([[3, 4, 4, 4], [5]], [0, 0, 1, 3, 1]), ([[3, 4, 4, 5], [4]], [0, 0, 1, 3, 1]), ([[3, 4, 4, 5], [5]], [0, 0, 1, 2, 2]), ([[3, 4, 5, 5], [4]], [0, 0, 1, 2, 2]), ([[3, 4, 5, 5], [5]], [0, 0, 1, 1, 3]), ([[3, 5, 5, 5], [4]], [0, 0, 1, 1, 3]), ([[3, 5, 5, 5], [5]], [0, 0, 1, 0, 4]), ([[4, 4, 4, 4], [5]], [0, 0, 0, 4, 1]), ([[4, 4, 4, 5], [5]], [0, 0, 0, 3, 2]), ([[4, 4, 5, 5], [5]], [0, 0, 0, 2, 3]), ([[4, 5, 5, 5], [5]], [0, 0, 0, 1, 4])]
theorem t80_41_5_ok : tabOk [4, 1] 5 t80_41_5 = true := by decide +kernel
theorem t80_41_5_4 : chk80 [4, 1] 5 t80_41_5 4 = true := by decide +kernel
theorem t80_41_5_5 : chk80 [4, 1] 5 t80_41_5 5 = true := by decide +kernel
theorem t80_41_5_6 : chk80 [4, 1] 5 t80_41_5 6 = true := by decide +kernel
def t80_5_1 : List (List (List Int) × List Int) := [([[1, 1, 1, 1, 1]], [5])]
theorem t80_5_1_ok : tabOk [5] 1 t80_5_1 = true := by decide +kernel
theorem t80_5_1_4 : chk80 [5] 1 t80_5_1 4 = true := by decide +kernel
theorem t80_5_1_5 : chk80 [5] 1 t80_5_1 5 = true := by decide +kernel
theorem t80_5_1_6 : chk80 [5] 1 t80_5_1 6 = true := by decide +kernel
def t80_5_2 : List (List (List Int) × List Int) := [([[1, 1, 1, 1, 1]], [5, 0]), ([[1, 1, 1, 1, 2]], [4, 1]), ([[1, 1, 1, 2, 2]], [3, 2]), ([[1, 1, 2, 2, 2]], [2, 3]), ([[1, 2, 2, 2, 2]], [1, 4]), ([[2, 2, 2, 2, 2]], [0, 5])]
theorem t80_5_2_ok : tabOk [5] 2 t80_5_2 = true := by decide +kernel
theorem t80_5_2_4 : chk80 [5] 2 t80_5_2 4 = true := by decide +kernel
theorem t80_5_2_5 : chk80 [5] 2 t80_5_2 5 = true := by decide +kernel
theorem t80_5_2_6 : chk80 [5] 2 t80_5_2 6 = true := by decide +kernel
def t80_5_3 : List (List (List Int) × List Int) := [([[1, 1, 1, 1, 1]], [5, 0, 0]), ([[1, 1, 1, 1, 2]], [4, 1, 0]), ([[1, 1, 1, 1, 3]], [4, 0, 1]), ([[1, 1, 1, 2, 2]], [3, 2, 0]), ([[1, 1, 1, 2, 3]], [3, 1, 1]), ([[1, 1, 1, 3, 3]], [3, 0, 2]), ([[1, 1, 2, 2, 2]], [2, 3, 0]), ([[1, 1, 2, 2, 3]], [2, 2, 1]), ([[1, 1, 2, 3, 3]], [2, 1, 2]), ([[1, 1, 3, 3, 3]], [2, 0, 3]), ([[1, 2, 2, 2, 2]], [1, 4, 0]), ([[1, 2, 2, 2, 3]], [1, 3, 1]), ([[1, 2, 2, 3, 3]], [1, 2, 2]), ([[1, 2, 3, 3, 3]], [1, 1, 3]), ([[1, 3, 3, 3, 3]], [1, 0, 4]), ([[2, 2, 2, 2, 2]], [0, 5, 0]), ([[2, 2, 2, 2, 3]], [0, 4, 1]), ([[2, 2, 2, 3, 3]], [0, 3, 2]), ([[2, 2, 3, 3, 3]], [0, 2, 3]), ([[2, 3, 3, 3, 3]], [0, 1, 4]), ([[3, 3, 3, 3, 3]], [0, 0, 5])]
theorem t80_5_3_ok : tabOk [5] 3 t80_5_3 = true := by decide +kernel
theorem t80_5_3_4 : chk80 [5] 3 t80_5_3 4 = true := by decide +kernel
theorem t80_5_3_5 : chk80 [5] 3 t80_5_3 5 = true := by decide +kernel
theorem t80_5_3_6 : chk80 [5] 3 t80_5_3 6 = true := by decide +kernel
def t80_5_4 : List (List (List Int) × List Int) := [([[1, 1, 1, 1, 1]], [5, 0, 0, 0]), ([[1, 1, 1, 1, 2]], [4, 1, 0, 0]), ([[1, 1, 1, 1, 3]], [4, 0, 1, 0]), ([[1, 1, 1, 1, 4]], [4, 0, 0, 1]), ([[1, 1, 1, 2, 2]], [3, 2, 0, 0]), ([[1, 1, 1, 2, 3]], [3, 1, 1, 0]), ([[1, 1, 1, 2, 4]], [3, 1, 0, 1]), ([[1, 1, 1, 3, 3]], [3, 0, 2, 0]), ([[1, 1, 1, 3, 4]], [3, 0, 1, 1]), ([[1, 1, 1, 4, 4]], [3, 0, 0, 2]), ([[1, 1, 2, 2, 2]], [2, 3, 0, 0]), ([[1, 1, 2, 2, 3]], [2, 2, 1, 0]), ([[1, 1, 2, 2, 4]], [2, 2, 0, 1]), ([[1, 1, 2, 3, 3]], [2, 1, 2, 0]), ([[1, 1, 2, 3, 4]], [2, 1, 1, 1]), ([[1, 1, 2, 4, 4]], [2, 1, 0, 2]), ([[1, 1, 3, 3, 3]], [2, 0, 3, 0]), ([[1, 1, 3, 3, 4]], [2, 0, 2, 1]), ([[1, 1, 3, 4, 4]], [2, 0, 1, 2]), ([[1, 1, 4, 4, 4]], [2, 0, 0, 3]), ([[1, 2, 2, 2, 2]], [1, 4, 0, 0]), ([[1, 2, 2, 2, 3]], [1, 3, 1, 0]), ([[1, 2, 2, 2, 4]], [1, 3, 0, 1]), ([[1, 2, 2, 3, 3]], [1, 2, 2, 0]), ([[1, 2, 2, 3, 4]], [1, 2, 1, 1]), ([[1, 2, 2, 4, 4]], [1, 2, 0, 2]), ([[1, 2, 3, 3, 3]], [1, 1, 3, 0]), ([[1, 2, 3, 3, 4]], [1, 1, 2, 1]), ([[1, 2, 3, 4, 4]], [1, 1, 1, 2]), ([[1, 2, 4, 4, 4]], [1, 1, 0, 3]), ([[1, 3, 3, 3, 3]], [1, 0, 4, 0]), ([[1, 3, 3, 3, 4]], [1, 0, 3, 1]), ([[1, 3, 3, 4, 4]], [1, 0, 2, 2]), ([[1, 3, 4, 4, 4]], [1, 0, 1, 3]), ([[1, 4, 4, 4, 4]], [1, 0, 0, 4]), ([[2, 2, 2, 2, 2]], [0, 5, 0, 0]), ([[2, 2, 2, 2, 3]], [0, 4, 1, 0]), ([[2, 2, 2, 2, 4]], [0, 4, 0, 1]), ([[2, 2, 2, 3, 3]], [0, 3, 2, 0]), ([[2, 2, 2, 3, 4]], [0, 3, 1, 1]), ([[2, 2, 2, 4, 4]], [0, 3, 0, 2]), ([[2, 2, 3, 3, 3]], [0, 2, 3, 0]), ([[2, 2, 3, 3, 4]], [0, 2, 2, 1]), ([[2, 2, 3, 4, 4]], [0, 2, 1, 2]), ([[2, 2, 4, 4, 4]], [0, 2, 0, 3]), ([[2, 3, 3, 3, 3]], [0, 1, 4, 0]), ([[2, 3, 3, 3, 4]], [0, 1, 3, 1]), ([[2, 3, 3, 4, 4]], [0, 1, 2, 2]), ([[2, 3, 4, 4, 4]], [0, 1, 1, 3]), ([[2, 4, 4, 4, 4]], [0, 1, 0, 4]), ([[3, 3, 3, 3, 3]], [0, 0, 5, 0]), ([[3, 3, 3, 3, 4]], [0, 0, 4, 1]), ([[3, 3, 3, 4, 4]], [0, 0, 3, 2]), ([[3, 3, 4, 4, 4]], [0, 0, 2, 3]), ([[3, 4, 4, 4, 4]], [0, 0, 1, 4]), ([[4, 4, 4, 4, 4]], [0, 0, 0, 5])]
theorem t80_5_4_ok : tabOk [5] 4 t80_5_4 = true := by decide +kernel
theorem t80_5_4_4 : chk80 [5] 4 t80_5_4 4 = true := by decide +kernel
theorem t80_5_4_5 : chk80 [5] 4 t80_5_4 5 = true := by decide +kernel
theorem t80_5_4_6 : chk80 [5] 4 t80_5_4 6 = true := by decide +kernel
def t80_5_5 : List (List (List Int) × List Int) := [([[1, 1, 1, 1, 1]], [5, 0, 0, 0, 0]), ([[1, 1, 1, 1, 2]], [4, 1, 0, 0, 0]), ([[1, 1, 1, 1, 3]], [4, 0, 1, 0, 0]), ([[1, 1, 1, 1, 4]], [4, 0, 0, 1, 0]), ([[1, 1, 1, 1, 5]], [4, 0, 0, 0, 1]), ([[1, 1, 1, 2, 2]], [3, 2, 0, 0, 0]), ([[1, 1, 1, 2, 3]], [3, 1, 1, 0, 0]), ([[1, 1, 1, 2, 4]], [3, 1, 0, 1, 0]), ([[1, 1, 1, 2, 5]], [3, 1, 0, 0, 1]), ([[1, 1, 1, 3, 3]], [3, 0, 2, 0, 0]), ([[1, 1, 1, 3, 4]], [3, 0, 1, 1, 0]), ([[1, 1, 1, 3, 5]], [3, 0, 1, 0, 1]), ([[1, 1, 1, 4, 4]], [3, 0, 0, 2, 0]), ([[1, 1, 1, 4, 5]], [3, 0, 0, 1, 1]), ([[1, 1, 1, 5, 5]], [3, 0, 0, 0, 2]), ([[1, 1, 2, 2, 2]], [2, 3, 0, 0, 0]), ([[1, 1, 2, 2, 3]], [2, 2, 1, 0, 0]), ([[1, 1, 2, 2, 4]], [2, 2, 0, 1, 0]), ([[1, 1, 2, 2, 5]], [2, 2, 0, 0, 1]), ([[1, 1, 2, 3, 3]], [2, 1, 2, 0, 0]), ([[1, 1, 2, 3, 4]], [2, 1, 1, 1, 0]), ([[1, 1, 2, 3, 5]], [2, 1, 1, 0, 1]), ([[1, 1, 2, 4, 4]], [2, 1, 0, 2, 0]), ([[1, 1, 2, 4, 5]], [2, 1, 0, 1, 1]), ([[1, 1, 2, 5, 5]], [2, 1, 0, 0, 2]), ([[1, 1, 3, 3, 3]], [2, 0, 3, 0, 0]), ([[1, 1, 3, 3, 4]], [2, 0, 2, 1, 0]), ([[1, 1, 3, 3, 5]], [2, 0, 2, 0, 1]), ([[1, 1, 3, 4, 4]], [2, 0, 1, 2, 0]), ([[1, 1, 3, 4, 5]], [2, 0, 1, 1, 1]), ([[1, 1, 3, 5, 5]], [2, 0, 1, 0, 2]), ([[1, 1, 4, 4, 4]], [2, 0, 0, 3, 0]), ([[1, 1, 4, 4, 5]], [2, 0, 0, 2, 1]), ([[1, 1, 4, 5, 5]], [2, 0, 0, 1, 2]), ([[1, 1, 5, 5, 5]], [2, 0, 0, 0, 3]), ([[1, 2, 2, 2, 2]], [1, 4, 0, 0, 0]), ([[1, 2, 2, 2, 3]], [1, 3, 1, 0, 0]), ([[1, 2, 2, 2, 4]], [1, 3, 0, 1, 0]), ([[1, 2, 2, 2, 5]], [1, 3, 0, 0, 1]), ([[1, 2, 2, 3, 3]], [1, 2, 2, 0, 0]), ([[1, 2, 2, 3, 4]], [1, 2, 1, 1, 0]), ([[1, 2, 2, 3, 5]], [1, 2, 1, 0, 1]), ([[1, 2, 2, 4, 4]], [1, 2, 0, 2, 0]), ([[1, 2, 2, 4, 5]], [1, 2, 0, 1, 1]), ([[1, 2, 2, 5, 5]], [1, 2, 0, 0, 2]), ([[1, 2, 3, 3, 3]], [1, 1, 3, 0, 0]), ([[1, 2, 3, 3, 4]], [1, 1, 2, 1, 0]), ([[1, 2, 3, 3, 5]], [1, 1, 2, 0, 1]), ([[1, 2, 3, 4, 4]], [1, 1, 1, 2, 0]), ([[1, 2, 3, 4, 5]], [1, 1, 1, 1, 1]), ([[1, 2, 3, 5, 5]], [1, 1, 1, 0, 2]), ([[1, 2, 4, 4, 4]], [1, 1, 0, 3, 0]), ([[1, 2, 4, 4, 5]], [1, 1, 0, 2, 1]), ([[1, 2, 4, 5, 5]], [1, 1, 0, 1, 2]), ([[1, 2, 5, 5, 5]], [1, 1, 0, 0, 3]), ([[1, 3, 3, 3, 3]], [1, 0, 4, 0, 0]), ([[1, 3, 3, 3, 4]], [1, 0, 3, 1, 0]), ([[1, 3, 3, 3, 5]], [1, 0, 3, 0, 1]), ([[1, 3, 3, 4, 4]], [1, 0, 2, 2, 0]), ([[1, 3, 3, 4, 5]], [1, 0, 2, 1, 1]), ([[1, 3, 3, 5, 5]], [1, 0, 2, 0, 2]), ([[1, 3, 4, 4, 4]], [1, 0, 1, 3, 0]), ([[1, 3, 4, 4, 5]], [1, 0, 1, 2, 1]), ([[1, 3, 4, 5, 5]], [1, 0, 1, 1, 2]), ([[1, 3, 5, 5, 5]], [1, 0, 1, 0, 3]), ([[1, 4, 4, 4, 4]], [1, 0, 0, 4, 0]), ([[1, 4, 4, 4, 5]], [1, 0, 0, 3, 1]), ([[1, 4, 4, 5, 5]], [1, 0, 0, 2, 2]), ([[1, 4, 5, 5, 5]], [1, 0, 0, 1, 3]), ([[1, 5, 5, 5, 5]], [1, 0, 0, 0, 4]), ([[2, 2, 2, 2, 2]], [0, 5, 0, 0, 0]), ([[2, 2, 2, 2, 3]], [0, 4, 1, 0, 0]), ([[2, 2, 2, 2, 4]], [0, 4, 0, 1, 0]), ([[2, 2, 2, 2, 5]], [0, 4, 0, 0, 1]), ([[2, 2, 2, 3, 3]], [0, 3, 2, 0, 0]), ([[2, 2, 2, 3, 4]], [0, 3, 1, 1, 0]), ([[2, 2, 2, 3, 5]], [0, 3, 1, 0, 1]), ([[2, 2, 2, 4, 4]], [0, 3, 0, 2, 0]), ([[2, 2, 2, 4, 5]], [0, 3, 0, 1, 1]), ([[2, 2, 2, 5, 5]], [0, 3, 0, 0, 2]), ([[2, 2, 3, 3, 3]], [0, 2, 3, 0, 0]), ([[2, 2, 3, 3, 4]], [0, 2, 2, 1, 0]), ([[2, 2, 3, 3, 5]], [0, 2, 2, 0, 1]), ([[2, 2, 3, 4, 4]], [0, 2, 1, 2, 0]), ([[2, 2, 3, 4, 5]], [0, 2, 1, 1, 1]), ([[2, 2, 3, 5, 5]], [0, 2, 1, 0, 2]), ([[2, 2, 4, 4, 4]], [0, 2, 0, 3, 0]), ([[2, 2, 4, 4, 5]], [0, 2, 0, 2, 1]), ([[2, 2, 4, 5, 5]], [0, 2, 0, 1, 2]), ([[2, 2, 5, 5, 5]], [0, 2, 0, 0, 3]), ([[2, 3, 3, 3, 3]], [0, 1, 4, 0, 0]), ([[2, 3, 3, 3, 4]], [0, 1, 3, 1, 0]), ([[2, 3, 3, 3, 5]], [0, 1, 3, 0, 1]), ([[2, 3, 3, 4, 4]], [0, 1, 2, 2, 0]), ([[2, 3, 3, 4, 5]], [0, 1, 2, 1, 1]), ([[2, 3, 3, 5, 5]], [0, 1, 2, 0, 2]), ([[2, 3, 4, 4, 4]], [0, 1, 1, 3, 0]), ([[2, 3, 4, 4, 5]], [0, 1, 1, 2, 1]), ([[2, 3, 4, 5, 5]], [0, 1, 1, 1, 2]), ([[2, 3, 5, 5, 5]], [0, 1, 1, 0, 3]), ([[2, 4, 4, 4, 4]], [0, 1, 0, 4, 0]), ([[2, 4, 4, 4, 5]], [0, 1, 0, 3, 1]), ([[2, 4, 4, 5, 5]], [0, 1, 0, 2, 2]), ([[2, 4, 5, 5, 5]], [0, 1, 0, 1, 3]), ([[2, 5, 5, 5, 5]], [0, 1, 0, 0, 4]), ([[3, 3, 3, 3, 3]], [0, 0, 5, 0, 0]), ([[3, 3, 3, 3, 4]], [0, 0, 4, 1, 0]), ([[3, 3, 3, 3, 5]], [0, 0, 4, 0, 1]), ([[3, 3, 3, 4, 4]], [0, 0, 3, 2, 0]), ([[3, 3, 3, 4, 5]], [0, 0, 3, 1, 1]), ([[3, 3, 3, 5, 5]], [0, 0, 3, 0, 2]), ([[3, 3, 4, 4, 4]], [0, 0, 2, 3, 0]), ([[3, 3, 4, 4, 5]], [0, 0, 2, 2, 1]), ([[3, 3, 4, 5, 5]], [0, 0, 2, 1, 2]), ([[3, 3, 5, 5, 5]], [0, 0, 2, 0, 3]), ([[3, 4, 4, 4, 4]], [0, 0, 1, 4, 0]), ([[3, 4, 4, 4, 5]], [0, 0, 1, 3, 1]), ([[3, 4, 4, 5, 5]], [0, 0, 1, 2, 2]), ([[3, 4, 5, 5, 5]], [0, 0, 1, 1, 3]), ([[3, 5, 5, 5, 5]], [0, 0, 1, 0, 4]), ([[4, 4, 4, 4, 4]], [0, 0, 0, 5, 0]), ([[4, 4, 4, 4, 5]], [0, 0, 0, 4, 1]), ([[4, 4, 4, 5, 5]], [0, 0, 0, 3, 2]), ([[4, 4, 5, 5, 5]], [0, 0, 0, 2, 3]), ([[4, 5, 5, 5, 5]], [0, 0, 0, 1, 4]), ([[5, 5, 5, 5, 5]], [0, 0, 0, 0, 5])]
theorem t80_5_5_ok : tabOk [5] 5 t80_5_5 = true := by decide +kernel
theorem t80_5_5_4 : chk80 [5] 5 t80_5_5 4 = true := by decide +kernel
theorem t80_5_5_5 : chk80 [5] 5 t80_5_5 5 = true := by decide +kernel
theorem t80_5_5_6 : chk80 [5] 5 t80_5_5 6 = true := by decide +kernel
theorem use80 {sh c : List Int} {k m : Nat} {T : List (List (List Int) × List Int)} (h1 : tabOk sh k T = true) (h2 : chk80 sh k T m = true) (hk : k ≤ 1000) (hc : CntS k (m : Int) c) : ∃ W, G_Lwith sh c = some W ∧ A80 sh c W (some true) = some true :=
  ⟨withT T c, lwith_of h1 hc.len hk, of_decide_eq_true (List.all_eq_true.mp h2 c (mem_vecs hc))⟩
theorem sum_pos : ∀ {c : List Int}, (∀ x ∈ c, 0 ≤ x) → 0 ≤ c.sum
  | [], _ => by simp
  | x :: c, h => by
    have := h x List.mem_cons_self
    have := sum_pos fun y hy => h y (List.mem_cons_of_mem _ hy)
    simp; omega
theorem t80_e_all {k : Nat} {t : Int} {c : List Int} (hk : 1 ≤ k ∧ k ≤ 5) (ht : (0 : Int) - 1 ≤ t ∧ t ≤ (0 : Int) + 1) (hc : CntS k t c) : ∃ W, G_Lwith [] c = some W ∧ A80 [] c W (some true) = some true := by
  have t0 : 0 ≤ t := hc.sum ▸ sum_pos hc.pos
  have e1 : k = 1 ∨ k = 2 ∨ k = 3 ∨ k = 4 ∨ k = 5 := by omega
  have e2 : t = ((0 : Nat) : Int) ∨ t = ((1 : Nat) : Int) := by omega
  rcases e1 with rfl | rfl | rfl | rfl | rfl <;> rcases e2 with rfl | rfl
  · exact use80 t80_e_1_ok t80_e_1_0 (by decide) hc
  · exact use80 t80_e_1_ok t80_e_1_1 (by decide) hc
  · exact use80 t80_e_2_ok t80_e_2_0 (by decide) hc
  · exact use80 t80_e_2_ok t80_e_2_1 (by decide) hc
  · exact use80 t80_e_3_ok t80_e_3_0 (by decide) hc
  · exact use80 t80_e_3_ok t80_e_3_1 (by decide) hc
  · exact use80 t80_e_4_ok t80_e_4_0 (by decide) hc
  · exact use80 t80_e_4_ok t80_e_4_1 (by decide) hc
  · exact use80 t80_e_5_ok t80_e_5_0 (by decide) hc
  · exact use80 t80_e_5_ok t80_e_5_1 (by decide) hc
theorem t80_1_all {k : Nat} {t : Int} {c : List Int} (hk : 1 ≤ k ∧ k ≤ 5) (ht : (1 : Int) - 1 ≤ t ∧ t ≤ (1 : Int) + 1) (hc : CntS k t c) : ∃ W, G_Lwith [1] c = some W ∧ A80 [1] c W (some true) = some true := by
  have t0 : 0 ≤ t := hc.sum ▸ sum_pos hc.pos
  have e1 : k = 1 ∨ k = 2 ∨ k = 3 ∨ k = 4 ∨ k = 5 := by omega
  have e2 : t = ((0 : Nat) : Int) ∨ t = ((1 : Nat) : Int) ∨ t = ((2 : Nat) : Int) := by omega
  rcases e1 with rfl | rfl | rfl | rfl | rfl <;> rcases e2 with rfl | rfl | rfl
  · exact use80 t80_1_1_ok t80_1_1_0 (by decide) hc
  · exact use80 t80_1_1_ok t80_1_1_1 (by decide) hc
  · exact use80 t80_1_1_ok t80_1_1_2 (by decide) hc
  · exact use80 t80_1_2_ok t80_1_2_0 (by decide) hc
  · exact use80 t80_1_2_ok t80_1_2_1 (by decide) hc
  · exact use80 t80_1_2_ok t80_1_2_2 (by decide) hc
  · exact use80 t80_1_3_ok t80_1_3_0 (by decide) hc
  · exact use80 t80_1_3_ok t80_1_3_1 (by decide) hc
  · exact use80 t80_1_3_ok t80_1_3_2 (by decide) hc
  · exact use80 t80_1_4_ok t80_1_4_0 (by decide) hc
  · exact use80 t80_1_4_ok t80_1_4_1 (by decide) hc
  · exact use80 t80_1_4_ok t80_1_4_2 (by decide) hc
  · exact use80 t80_1_5_ok t80_1_5_0 (by decide) hc
  · exact use80 t80_1_5_ok t80_1_5_1 (by decide) hc
  · exact use80 t80_1_5_ok t80_1_5_2 (by decide) hc
theorem t80_11_all {k : Nat} {t : Int} {c : List Int} (hk : 1 ≤ k ∧ k ≤ 5) (ht : (2 : Int) - 1 ≤ t ∧ t ≤ (2 : Int) + 1) (hc : CntS k t c) : ∃ W, G_Lwith [1, 1] c = some W ∧ A80 [1, 1] c W (some true) = some true := by
  have t0 : 0 ≤ t := hc.sum ▸ sum_pos hc.pos
  have e1 : k = 1 ∨ k = 2 ∨ k = 3 ∨ k = 4 ∨ k = 5 := by omega
  have e2 : t = ((1 : Nat) : Int) ∨ t = ((2 : Nat) : Int) ∨ t = ((3 : Nat) : Int) := by omega
  rcases e1 with rfl | rfl | rfl | rfl | rfl <;> rcases e2 with rfl | rfl | rfl
  · exact use80 t80_11_1_ok t80_11_1_1 (by decide) hc
  · exact use80 t80_11_1_ok t80_11_1_2 (by decide) hc
  · exact use80 t80_11_1_ok t80_11_1_3 (by decide) hc
  · exact use80 t80_11_2_ok t80_11_2_1 (by decide) hc
  · exact use80 t80_11_2_ok t80_11_2_2 (by decide) hc
  · exact use80 t80_11_2_ok t80_11_2_3 (by decide) hc
  · exact use80 t80_11_3_ok t80_11_3_1 (by decide) hc
  · exact use80 t80_11_3_ok t80_11_3_2 (by decide) hc
  · exact use80 t80_11_3_ok t80_11_3_3 (by decide) hc
  · exact use80 t80_11_4_ok t80_11_4_1 (by decide) hc
  · exact use80 t80_11_4_ok t80_11_4_2 (by decide) hc
  · exact use80 t80_11_4_ok t80_11_4_3 (by decide) hc
  · exact use80 t80_11_5_ok t80_11_5_1 (by decide) hc
  · exact use80 t80_11_5_ok t80_11_5_2 (by decide) hc
  · exact use80 t80_11_5_ok t80_11_5_3 (by decide) hc
theorem t80_2_all {k : Nat} {t : Int} {c : List Int} (hk : 1 ≤ k ∧ k ≤ 5) (ht : (2 : Int) - 1 ≤ t ∧ t ≤ (2 : Int) + 1) (hc : CntS k t c) : ∃ W, G_Lwith [2] c = some W ∧ A80 [2] c W (some true) = some true := by
  have t0 : 0 ≤ t := hc.sum ▸ sum_pos hc.pos
  have e1 : k = 1 ∨ k = 2 ∨ k = 3 ∨ k = 4 ∨ k = 5 := by omega
  have e2 : t = ((1 : Nat) : Int) ∨ t = ((2 : Nat) : Int) ∨ t = ((3 : Nat) : Int) := by omega
  rcases e1 with rfl | rfl | rfl | rfl | rfl <;> rcases e2 with rfl | rfl | rfl
  · exact use80 t80_2_1_ok t80_2_1_1 (by decide) hc
  · exact use80 t80_2_1_ok t80_2_1_2 (by decide) hc
  · exact use80 t80_2_1_ok t80_2_1_3 (by decide) hc
  · exact use80 t80_2_2_ok t80_2_2_1 (by decide) hc
  · exact use80 t80_2_2_ok t80_2_2_2 (by decide) hc
  · exact use80 t80_2_2_ok t80_2_2_3 (by decide) hc
  · exact use80 t80_2_3_ok t80_2_3_1 (by decide) hc
  · exact use80 t80_2_3_ok t80_2_3_2 (by decide) hc
  · exact use80 t80_2_3_ok t80_2_3_3 (by decide) hc
  · exact use80 t80_2_4_ok t80_2_4_1 (by decide) hc
  · exact use80 t80_2_4_ok t80_2_4_2 (by decide) hc
  · exact use80 t80_2_4_ok t80_2_4_3 (by decide) hc
  · exact use80 t80_2_5_ok t80_2_5_1 (by decide) hc
  · exact use80 t80_2_5_ok t80_2_5_2 (by decide) hc
  · exact use80 t80_2_5_ok t80_2_5_3 (by decide) hc
theorem t80_111_all {k : Nat} {t : Int} {c : List Int} (hk : 1 ≤ k ∧ k ≤ 5) (ht : (3 : Int) - 1 ≤ t ∧ t ≤ (3 : Int) + 1) (hc : CntS k t c) : ∃ W, G_Lwith [1, 1, 1] c = some W ∧ A80 [1, 1, 1] c W (some true) = some true := by
  have t0 : 0 ≤ t := hc.sum ▸ sum_pos hc.pos
  have e1 : k = 1 ∨ k = 2 ∨ k = 3 ∨ k = 4 ∨ k = 5 := by omega
  have e2 : t = ((2 : Nat) : Int) ∨ t = ((3 : Nat) : Int) ∨ t = ((4 : Nat) : Int) := by omega
  rcases e1 with rfl | rfl | rfl | rfl | rfl <;> rcases e2 with rfl | rfl | rfl
  · exact use80 t80_111_1_ok t80_111_1_2 (by decide) hc
  · exact use80 t80_111_1_ok t80_111_1_3 (by decide) hc
  · exact use80 t80_111_1_ok t80_111_1_4 (by decide) hc
  · exact use80 t80_111_2_ok t80_111_2_2 (by decide) hc
  · exact use80 t80_111_2_ok t80_111_2_3 (by decide) hc
  · exact use80 t80_111_2_ok t80_111_2_4 (by decide) hc
  · exact use80 t80_111_3_ok t80_111_3_2 (by decide) hc
  · exact use80 t80_111_3_ok t80_111_3_3 (by decide) hc
  · exact use80 t80_111_3_ok t80_111_3_4 (by decide) hc
  · exact use80 t80_111_4_ok t80_111_4_2 (by decide) hc
  · exact use80 t80_111_4_ok t80_111_4_3 (by decide) hc
  · exact use80 t80_111_4_ok t80_111_4_4 (by decide) hc
  · exact use80 t80_111_5_ok t80_111_5_2 (by decide) hc
  · exact use80 t80_111_5_ok t80_111_5_3 (by decide) hc
  · exact use80 t80_111_5_ok t80_111_5_4 (by decide) hc
theorem t80_21_all {k : Nat} {t : Int} {c : List Int} (hk : 1 ≤ k ∧ k ≤ 5) (ht : (3 : Int) - 1 ≤ t ∧ t ≤ (3 : Int) + 1) (hc : CntS k t c) : ∃ W, G_Lwith [2, 1] c = some W ∧ A80 [2, 1] c W (some true) = some true := by
  have t0 : 0 ≤ t := hc.sum ▸ sum_pos hc.pos
  have e1 : k = 1 ∨ k = 2 ∨ k = 3 ∨ k = 4 ∨ k = 5 := by omega
  have e2 : t = ((2 : Nat) : Int) ∨ t = ((3 : Nat) : Int) ∨ t = ((4 : Nat) : Int) := by omega
  rcases e1 with rfl | rfl | rfl | rfl | rfl <;> rcases e2 with rfl | rfl | rfl
  · exact use80 t80_21_1_ok t80_21_1_2 (by decide) hc
  · exact use80 t80_21_1_ok t80_21_1_3 (by decide) hc
  · exact use80 t80_21_1_ok t80_21_1_4 (by decide) hc
  · exact use80 t80_21_2_ok t80_21_2_2 (by decide) hc
  · exact use80 t80_21_2_ok t80_21_2_3 (by decide) hc
  · exact use80 t80_21_2_ok t80_21_2_4 (by decide) hc
  · exact use80 t80_21_3_ok t80_21_3_2 (by decide) hc
  · exact use80 t80_21_3_ok t80_21_3_3 (by decide) hc
  · exact use80 t80_21_3_ok t80_21_3_4 (by decide) hc
  · exact use80 t80_21_4_ok t80_21_4_2 (by decide) hc
  · exact use80 t80_21_4_ok t80_21_4_3 (by decide) hc
  · exact use80 t80_21_4_ok t80_21_4_4 (by decide) hc
  · exact use80 t80_21_5_ok t80_21_5_2 (by decide) hc
  · exact use80 t80_21_5_ok t80_21_5_3 (by decide) hc
  · exact use80 t80_21_5_ok t80_21_5_4 (by decide) hc
theorem t80_3_all {k : Nat} {t : Int} {c : List Int} (hk : 1 ≤ k ∧ k ≤ 5) (ht : (3 : Int) - 1 ≤ t ∧ t ≤ (3 : Int) + 1) (hc : CntS k t c) : ∃ W, G_Lwith [3] c = some W ∧ A80 [3] c W (some true) = some true := by
  have t0 : 0 ≤ t := hc.sum ▸ sum_pos hc.pos
  have e1 : k = 1 ∨ k = 2 ∨ k = 3 ∨ k = 4 ∨ k = 5 := by omega
  have e2 : t = ((2 : Nat) : Int) ∨ t = ((3 : Nat) : Int) ∨ t = ((4 : Nat) : Int) := by omega
  rcases e1 with rfl | rfl | rfl | rfl | rfl <;> rcases e2 with rfl | rfl | rfl
  · exact use80 t80_3_1_ok t80_3_1_2 (by decide) hc
  · exact use80 t80_3_1_ok t80_3_1_3 (by decide) hc
  · exact use80 t80_3_1_ok t80_3_1_4 (by decide) hc
  · exact use80 t80_3_2_ok t80_3_2_2 (by decide) hc
  · exact use80 t80_3_2_ok t80_3_2_3 (by decide) hc
  · exact use80 t80_3_2_ok t80_3_2_4 (by decide) hc
  · exact use80 t80_3_3_ok t80_3_3_2 (by decide) hc
  · exact use80 t80_3_3_ok t80_3_3_3 (by decide) hc
  · exact use80 t80_3_3_ok t80_3_3_4 (by decide) hc
  · exact use80 t80_3_4_ok t80_3_4_2 (by decide) hc
  · exact use80 t80_3_4_ok t80_3_4_3 (by decide) hc
  · exact use80 t80_3_4_ok t80_3_4_4 (by decide) hc
  · exact use80 t80_3_5_ok t80_3_5_2 (by decide) hc
  · exact use80 t80_3_5_ok t80_3_5_3 (by decide) hc
  · exact use80 t80_3_5_ok t80_3_5_4 (by decide) hc
theorem t80_1111_all {k : Nat} {t : Int} {c : List Int} (hk : 1 ≤ k ∧ k ≤ 5) (ht : (4 : Int) - 1 ≤ t ∧ t ≤ (4 : Int) + 1) (hc : CntS k t c) : ∃ W, G_Lwith [1, 1, 1, 1] c = some W ∧ A80 [1, 1, 1, 1] c W (some true) = some true := by
  have t0 : 0 ≤ t := hc.sum ▸ sum_pos hc.pos
  have e1 : k = 1 ∨ k = 2 ∨ k = 3 ∨ k = 4 ∨ k = 5 := by omega
  have e2 : t = ((3 : Nat) : Int) ∨ t = ((4 : Nat) : Int) ∨ t = ((5 : Nat) : Int) := by omega
  rcases e1 with rfl | rfl | rfl | rfl | rfl <;> rcases e2 with rfl | rfl | rfl
  · exact use80 t80_1111_1_ok t80_1111_1_3 (by decide) hc
  · exact use80 t80_1111_1_ok t80_1111_1_4 (by decide) hc
  · exact use80 t80_1111_1_ok t80_1111_1_5 (by decide) hc
  · exact use80 t80_1111_2_ok t80_1111_2_3 (by decide) hc
  · exact use80 t80_1111_2_ok t80_1111_2_4 (by decide) hc
  · exact use80 t80_1111_2_ok t80_1111_2_5 (by decide) hc
  · exact use80 t80_1111_3_ok t80_1111_3_3 (by decide) hc
  · exact use80 t80_1111_3_ok t80_1111_3_4 (by decide) hc
  · exact use80 t80_1111_3_ok t80_1111_3_5 (by decide) hc
  · exact use80 t80_1111_4_ok t80_1111_4_3 (by decide) hc
  · exact use80 t80_1111_4_ok t80_1111_4_4 (by decide) hc
  · exact use80 t80_1111_4_ok t80_1111_4_5 (by decide) hc
  · exact use80 t80_1111_5_ok t80_1111_5_3 (by decide) hc
  · exact use80 t80_1111_5_ok t80_1111_5_4 (by decide) hc
  · exact use80 t80_1111_5_ok t80_1111_5_5 (by decide) hc
theorem t80_211_all {k : Nat} {t : Int} {c : List Int} (hk : 1 ≤ k ∧ k ≤ 5) (ht : (4 : Int) - 1 ≤ t ∧ t ≤ (4 : Int) + 1) (hc : CntS k t c) : ∃ W, G_Lwith [2, 1, 1] c = some W ∧ A80 [2, 1, 1] c W (some true) = some true := by
  have t0 : 0 ≤ t := hc.sum ▸ sum_pos hc.pos
  have e1 : k = 1 ∨ k = 2 ∨ k = 3 ∨ k = 4 ∨ k = 5 := by omega
  have e2 : t = ((3 : Nat) : Int) ∨ t = ((4 : Nat) : Int) ∨ t = ((5 : Nat) : Int) := by omega
  rcases e1 with rfl | rfl | rfl | rfl | rfl <;> rcases e2 with rfl | rfl | rfl
  · exact use80 t80_211_1_ok t80_211_1_3 (by decide) hc
  · exact use80 t80_211_1_ok t80_211_1_4 (by decide) hc
  · exact use80 t80_211_1_ok t80_211_1_5 (by decide) hc
  · exact use80 t80_211_2_ok t80_211_2_3 (by decide) hc
  · exact use80 t80_211_2_ok t80_211_2_4 (by decide) hc
  · exact use80 t80_211_2_ok t80_211_2_5 (by decide) hc
  · exact use80 t80_211_3_ok t80_211_3_3 (by decide) hc
  · exact use80 t80_211_3_ok t80_211_3_4 (by decide) hc
  · exact use80 t80_211_3_ok t80_211_3_5 (by decide) hc
  · exact use80 t80_211_4_ok t80_211_4_3 (by decide) hc
  · exact use80 t80_211_4_ok t80_211_4_4 (by decide) hc
  · exact use80 t80_211_4_ok t80_211_4_5 (by decide) hc
  · exact use80 t80_211_5_ok t80_211_5_3 (by decide) hc
  · exact use80 t80_211_5_ok t80_211_5_4 (by decide) hc
  · exact use80 t80_211_5_ok t80_211_5_5 (by decide) hc
theorem t80_22_all {k : Nat} {t : Int} {c : List Int} (hk : 1 ≤ k ∧ k ≤ 5) (ht : (4 : Int) - 1 ≤ t ∧ t ≤ (4 : Int) + 1) (hc : CntS k t c) : ∃ W, G_Lwith [2, 2] c = some W ∧ A80 [2, 2] c W (some true) = some true := by
  have t0 : 0 ≤ t := hc.sum ▸ sum_pos hc.pos
  have e1 : k = 1 ∨ k = 2 ∨ k = 3 ∨ k = 4 ∨ k = 5 := by omega
  have e2 : t = ((3 : Nat) : Int) ∨ t = ((4 : Nat) : Int) ∨ t = ((5 : Nat) : Int) := by omega
  rcases e1 with rfl | rfl | rfl | rfl | rfl <;> rcases e2 with rfl | rfl | rfl
  · exact use80 t80_22_1_ok t80_22_1_3 (by decide) hc
  · exact use80 t80_22_1_ok t80_22_1_4 (by decide) hc
  · exact use80 t80_22_1_ok t80_22_1_5 (by decide) hc
  · exact use80 t80_22_2_ok t80_22_2_3 (by decide) hc
  · exact use80 t80_22_2_ok t80_22_2_4 (by decide) hc
  · exact use80 t80_22_2_ok t80_22_2_5 (by decide) hc
  · exact use80 t80_22_3_ok t80_22_3_3 (by decide) hc
  · exact use80 t80_22_3_ok t80_22_3_4 (by decide) hc
  · exact use80 t80_22_3_ok t80_22_3_5 (by decide) hc
  · exact use80 t80_22_4_ok t80_22_4_3 (by decide) hc
  · exact use80 t80_22_4_ok t80_22_4_4 (by decide) hc
  · exact use80 t80_22_4_ok t80_22_4_5 (by decide) hc
  · exact use80 t80_22_5_ok t80_22_5_3 (by decide) hc
  · exact use80 t80_22_5_ok t80_22_5_4 (by decide) hc
  · exact use80 t80_22_5_ok t80_22_5_5 (by decide) hc
theorem t80_31_all {k : Nat} {t : Int} {c : List Int} (hk : 1 ≤ k ∧ k ≤ 5) (ht : (4 : Int) - 1 ≤ t ∧ t ≤ (4 : Int) + 1) (hc : CntS k t c) : ∃ W, G_Lwith [3, 1] c = some W ∧ A80 [3, 1] c W (some true) = some true := by
  have t0 : 0 ≤ t := hc.sum ▸ sum_pos hc.pos
  have e1 : k = 1 ∨ k = 2 ∨ k = 3 ∨ k = 4 ∨ k = 5 := by omega
  have e2 : t = ((3 : Nat) : Int) ∨ t = ((4 : Nat) : Int) ∨ t = ((5 : Nat) : Int) := by omega
  rcases e1 with rfl | rfl | rfl | rfl | rfl <;> rcases e2 with rfl | rfl | rfl
  · exact use80 t80_31_1_ok t80_31_1_3 (by decide) hc
  · exact use80 t80_31_1_ok t80_31_1_4 (by decide) hc
  · exact use80 t80_31_1_ok t80_31_1_5 (by decide) hc
  · exact use80 t80_31_2_ok t80_31_2_3 (by decide) hc
  · exact use80 t80_31_2_ok t80_31_2_4 (by decide) hc
  · exact use80 t80_31_2_ok t80_31_2_5 (by decide) hc
  · exact use80 t80_31_3_ok t80_31_3_3 (by decide) hc
  · exact use80 t80_31_3_ok t80_31_3_4 (by decide) hc
  · exact use80 t80_31_3_ok t80_31_3_5 (by decide) hc
  · exact use80 t80_31_4_ok t80_31_4_3 (by decide) hc
  · exact use80 t80_31_4_ok t80_31_4_4 (by decide) hc
  · exact use80 t80_31_4_ok t80_31_4_5 (by decide) hc
  · exact use80 t80_31_5_ok t80_31_5_3 (by decide) hc
  · exact use80 t80_31_5_ok t80_31_5_4 (by decide) hc
  · exact use80 t80_31_5_ok t80_31_5_5 (by decide) hc
theorem t80_4_all {k : Nat} {t : Int} {c : List Int} (hk : 1 ≤ k ∧ k ≤ 5) (ht : (4 : Int) - 1 ≤ t ∧ t ≤ (4 : Int) + 1) (hc : CntS k t c) : ∃ W, G_Lwith [4] c = some W ∧ A80 [4] c W (some true) = some true := by
  have t0 : 0 ≤ t := hc.sum ▸ sum_pos hc.pos
  have e1 : k = 1 ∨ k = 2 ∨ k = 3 ∨ k = 4 ∨ k = 5 := by omega
  have e2 : t = ((3 : Nat) : Int) ∨ t = ((4 : Nat) : Int) ∨ t = ((5 : Nat) : Int) := by omega
  rcases e1 with rfl | rfl | rfl | rfl | rfl <;> rcases e2 with rfl | rfl | rfl
  · exact use80 t80_4_1_ok t80_4_1_3 (by decide) hc
  · exact use80 t80_4_1_ok t80_4_1_4 (by decide) hc
  · exact use80 t80_4_1_ok t80_4_1_5 (by decide) hc
  · exact use80 t80_4_2_ok t80_4_2_3 (by decide) hc
  · exact use80 t80_4_2_ok t80_4_2_4 (by decide) hc
  · exact use80 t80_4_2_ok t80_4_2_5 (by decide) hc
  · exact use80 t80_4_3_ok t80_4_3_3 (by decide) hc
  · exact use80 t80_4_3_ok t80_4_3_4 (by decide) hc
  · exact use80 t80_4_3_ok t80_4_3_5 (by decide) hc
  · exact use80 t80_4_4_ok t80_4_4_3 (by decide) hc
  · exact use80 t80_4_4_ok t80_4_4_4 (by decide) hc
  · exact use80 t80_4_4_ok t80_4_4_5 (by decide) hc
  · exact use80 t80_4_5_ok t80_4_5_3 (by decide) hc
  · exact use80 t80_4_5_ok t80_4_5_4 (by decide) hc
  · exact use80 t80_4_5_ok t80_4_5_5 (by decide) hc
theorem t80_11111_all {k : Nat} {t : Int} {c : List Int} (hk : 1 ≤ k ∧ k ≤ 5) (ht : (5 : Int) - 1 ≤ t ∧ t ≤ (5 : Int) + 1) (hc : CntS k t c) : ∃ W, G_Lwith [1, 1, 1, 1, 1] c = some W ∧ A80 [1, 1, 1, 1, 1] c W (some true) = some true := by
  have t0 : 0 ≤ t := hc.sum ▸ sum_pos hc.pos
  have e1 : k = 1 ∨ k = 2 ∨ k = 3 ∨ k = 4 ∨ k = 5 := by omega
  have e2 : t = ((4 : Nat) : Int) ∨ t = ((5 : Nat) : Int) ∨ t = ((6 : Nat) : Int) := by omega
  rcases e1 with rfl | rfl | rfl | rfl | rfl <;> rcases e2 with rfl | rfl | rfl
  · exact use80 t80_11111_1_ok t80_11111_1_4 (by decide) hc
  · exact use80 t80_11111_1_ok t80_11111_1_5 (by decide) hc
  · exact use80 t80_11111_1_ok t80_11111_1_6 (by decide) hc
  · exact use80 t80_11111_2_ok t80_11111_2_4 (by decide) hc
  · exact use80 t80_11111_2_ok t80_11111_2_5 (by decide) hc
  · exact use80 t80_11111_2_ok t80_11111_2_6 (by decide) hc
  · exact use80 t80_11111_3_ok t80_11111_3_4 (by decide) hc
  · exact use80 t80_11111_3_ok t80_11111_3_5 (by decide) hc
  · exact use80 t80_11111_3_ok t80_11111_3_6 (by decide) hc
  · exact use80 t80_11111_4_ok t80_11111_4_4 (by decide) hc
  · exact use80 t80_11111_4_ok t80_11111_4_5 (by decide) hc
  · exact use80 t80_11111_4_ok t80_11111_4_6 (by decide) hc
  · exact use80 t80_11111_5_ok t80_11111_5_4 (by decide) hc
  · exact use80 t80_11111_5_ok t80_11111_5_5 (by decide) hc
  · exact use80 t80_11111_5_ok t80_11111_5_6 (by decide) hc
theorem t80_2111_all {k : Nat} {t : Int} {c : List Int} (hk : 1 ≤ k ∧ k ≤ 5) (ht : (5 : Int) - 1 ≤ t ∧ t ≤ (5 : Int) + 1) (hc : CntS k t c) : ∃ W, G_Lwith [2, 1, 1, 1] c = some W ∧ A80 [2, 1, 1, 1] c W (some true) = some true := by
  have t0 : 0 ≤ t := hc.sum ▸ sum_pos hc.pos
  have e1 : k = 1 ∨ k = 2 ∨ k = 3 ∨ k = 4 ∨ k = 5 := by omega
  have e2 : t = ((4 : Nat) : Int) ∨ t = ((5 : Nat) : Int) ∨ t = ((6 : Nat) : Int) := by omega
  rcases e1 with rfl | rfl | rfl | rfl | rfl <;> rcases e2 with rfl | rfl | rfl
  · exact use80 t80_2111_1_ok t80_2111_1_4 (by decide) hc
  · exact use80 t80_2111_1_ok t80_2111_1_5 (by decide) hc
  · exact use80 t80_2111_1_ok t80_2111_1_6 (by decide) hc
  · exact use80 t80_2111_2_ok t80_2111_2_4 (by decide) hc
  · exact use80 t80_2111_2_ok t80_2111_2_5 (by decide) hc
  · exact use80 t80_2111_2_ok t80_2111_2_6 (by decide) hc
  · exact use80 t80_2111_3_ok t80_2111_3_4 (by decide) hc
  · exact use80 t80_2111_3_ok t80_2111_3_5 (by decide) hc
  · exact use80 t80_2111_3_ok t80_2111_3_6 (by decide) hc
  · exact use80 t80_2111_4_ok t80_2111_4_4 (by decide) hc
  · exact use80 t80_2111_4_ok t80_2111_4_5 (by decide) hc
  · exact use80 t80_2111_4_ok t80_2111_4_6 (by decide) hc
  · exact use80 t80_2111_5_ok t80_2111_5_4 (by decide) hc
  · exact use80 t80_2111_5_ok t80_2111_5_5 (by decide) hc
  · exact use80 t80_2111_5_ok t80_2111_5_6 (by decide) hc
theorem t80_221_all {k : Nat} {t : Int} {c : List Int} (hk : 1 ≤ k ∧ k ≤ 5) (ht : (5 : Int) - 1 ≤ t ∧ t ≤ (5 : Int) + 1) (hc : CntS k t c) : ∃ W, G_Lwith [2, 2, 1] c = some W ∧ A80 [2, 2, 1] c W (some true) = some true := by
  have t0 : 0 ≤ t := hc.sum ▸ sum_pos hc.pos
  have e1 : k = 1 ∨ k = 2 ∨ k = 3 ∨ k = 4 ∨ k = 5 := by omega
  have e2 : t = ((4 : Nat) : Int) ∨ t = ((5 : Nat) : Int) ∨ t = ((6 : Nat) : Int) := by omega
  rcases e1 with rfl | rfl | rfl | rfl | rfl <;> rcases e2 with rfl | rfl | rfl
  · exact use80 t80_221_1_ok t80_221_1_4 (by decide) hc
  · exact use80 t80_221_1_ok t80_221_1_5 (by decide) hc
  · exact use80 t80_221_1_ok t80_221_1_6 (by decide) hc
  · exact use80 t80_221_2_ok t80_221_2_4 (by decide) hc
  · exact use80 t80_221_2_ok t80_221_2_5 (by decide) hc
  · exact use80 t80_221_2_ok t80_221_2_6 (by decide) hc
  · exact use80 t80_221_3_ok t80_221_3_4 (by decide) hc
  · exact use80 t80_221_3_ok t80_221_3_5 (by decide) hc
  · exact use80 t80_221_3_ok t80_221_3_6 (by decide) hc
  · exact use80 t80_221_4_ok t80_221_4_4 (by decide) hc
  · exact use80 t80_221_4_ok t80_221_4_5 (by decide) hc
  · exact use80 t80_221_4_ok t80_221_4_6 (by decide) hc
  · exact use80 t80_221_5_ok t80_221_5_4 (by decide) hc
  · exact use80 t80_221_5_ok t80_221_5_5 (by decide) hc
  · exact use80 t80_221_5_ok t80_221_5_6 (by decide) hc
theorem t80_311_all {k : Nat} {t : Int} {c : List Int} (hk : 1 ≤ k ∧ k ≤ 5) (ht : (5 : Int) - 1 ≤ t ∧ t ≤ (5 : Int) + 1) (hc : CntS k t c) : ∃ W, G_Lwith [3, 1, 1] c = some W ∧ A80 [3, 1, 1] c W (some true) = some true := by
  have t0 : 0 ≤ t := hc.sum ▸ sum_pos hc.pos
  have e1 : k = 1 ∨ k = 2 ∨ k = 3 ∨ k = 4 ∨ k = 5 := by omega
  have e2 : t = ((4 : Nat) : Int) ∨ t = ((5 : Nat) : Int) ∨ t = ((6 : Nat) : Int) := by omega
  rcases e1 with rfl | rfl | rfl | rfl | rfl <;> rcases e2 with rfl | rfl | rfl
  · exact use80 t80_311_1_ok t80_311_1_4 (by decide) hc
  · exact use80 t80_311_1_ok t80_311_1_5 (by decide) hc
  · exact use80 t80_311_1_ok t80_311_1_6 (by decide) hc
  · exact use80 t80_311_2_ok t80_311_2_4 (by decide) hc
  · exact use80 t80_311_2_ok t80_311_2_5 (by decide) hc
  · exact use80 t80_311_2_ok t80_311_2_6 (by decide) hc
  · exact use80 t80_311_3_ok t80_311_3_4 (by decide) hc
  · exact use80 t80_311_3_ok t80_311_3_5 (by decide) hc
  · exact use80 t80_311_3_ok t80_311_3_6 (by decide) hc
  · exact use80 t80_311_4_ok t80_311_4_4 (by decide) hc
  · exact use80 t80_311_4_ok t80_311_4_5 (by decide) hc
  · exact use80 t80_311_4_ok t80_311_4_6 (by decide) hc
  · exact use80 t80_311_5_ok t80_311_5_4 (by decide) hc
  · exact use80 t80_311_5_ok t80_311_5_5 (by decide) hc
  · exact use80 t80_311_5_ok t80_311_5_6 (by decide) hc
theorem t80_32_all {k : Nat} {t : Int} {c : List Int} (hk : 1 ≤ k ∧ k ≤ 5) (ht : (5 : Int) - 1 ≤ t ∧ t ≤ (5 : Int) + 1) (hc : CntS k t c) : ∃ W, G_Lwith [3, 2] c = some W ∧ A80 [3, 2] c W (some true) = some true := by
  have t0 : 0 ≤ t := hc.sum ▸ sum_pos hc.pos
  have e1 : k = 1 ∨ k = 2 ∨ k = 3 ∨ k = 4 ∨ k = 5 := by omega
  have e2 : t = ((4 : Nat) : Int) ∨ t = ((5 : Nat) : Int) ∨ t = ((6 : Nat) : Int) := by omega
  rcases e1 with rfl | rfl | rfl | rfl | rfl <;> rcases e2 with rfl | rfl | rfl
  · exact use80 t80_32_1_ok t80_32_1_4 (by decide) hc
  · exact use80 t80_32_1_ok t80_32_1_5 (by decide) hc
  · exact use80 t80_32_1_ok t80_32_1_6 (by decide) hc
  · exact use80 t80_32_2_ok t80_32_2_4 (by decide) hc
  · exact use80 t80_32_2_ok t80_32_2_5 (by decide) hc
  · exact use80 t80_32_2_ok t80_32_2_6 (by decide) hc
  · exact use80 t80_32_3_ok t80_32_3_4 (by decide) hc
  · exact use80 t80_32_3_ok t80_32_3_5 (by decide) hc
  · exact use80 t80_32_3_ok t80_32_3_6 (by decide) hc
  · exact use80 t80_32_4_ok t80_32_4_4 (by decide) hc
  · exact use80 t80_32_4_ok t80_32_4_5 (by decide) hc
  · exact use80 t80_32_4_ok t80_32_4_6 (by decide) hc
  · exact use80 t80_32_5_ok t80_32_5_4 (by decide) hc
  · exact use80 t80_32_5_ok t80_32_5_5 (by decide) hc
  · exact use80 t80_32_5_ok t80_32_5_6 (by decide) hc
theorem t80_41_all {k : Nat} {t : Int} {c : List Int} (hk : 1 ≤ k ∧ k ≤ 5) (ht : (5 : Int) - 1 ≤ t ∧ t ≤ (5 : Int) + 1) (hc : CntS k t c) : ∃ W, G_Lwith [4, 1] c = some W ∧ A80 [4, 1] c W (some true) = some true := by
  have t0 : 0 ≤ t := hc.sum ▸ sum_pos hc.pos
  have e1 : k = 1 ∨ k = 2 ∨ k = 3 ∨ k = 4 ∨ k = 5 := by omega
  have e2 : t = ((4 : Nat) : Int) ∨ t = ((5 : Nat) : Int) ∨ t = ((6 : Nat) : Int) := by omega
  rcases e1 with rfl | rfl | rfl | rfl | rfl <;> rcases e2 with rfl | rfl | rfl
  · exact use80 t80_41_1_ok t80_41_1_4 (by decide) hc
  · exact use80 t80_41_1_ok t80_41_1_5 (by decide) hc
  · exact use80 t80_41_1_ok t80_41_1_6 (by decide) hc
  · exact use80 t80_41_2_ok t80_41_2_4 (by decide) hc
  · exact use80 t80_41_2_ok t80_41_2_5 (by decide) hc
  · exact use80 t80_41_2_ok t80_41_2_6 (by decide) hc
  · exact use80 t80_41_3_ok t80_41_3_4 (by decide) hc
  · exact use80 t80_41_3_ok t80_41_3_5 (by decide) hc
  · exact use80 t80_41_3_ok t80_41_3_6 (by decide) hc
  · exact use80 t80_41_4_ok t80_41_4_4 (by decide) hc
  · exact use80 t80_41_4_ok t80_41_4_5 (by decide) hc
  · exact use80 t80_41_4_ok t80_41_4_6 (by decide) hc
  · exact use80 t80_41_5_ok t80_41_5_4 (by decide) hc
  · exact use80 t80_41_5_ok t80_41_5_5 (by decide) hc
  · exact use80 t80_41_5_ok t80_41_5_6 (by decide) hc
theorem t80_5_all {k : Nat} {t : Int} {c : List Int} (hk : 1 ≤ k ∧ k ≤ 5) (ht : (5 : Int) - 1 ≤ t ∧ t ≤ (5 : Int) + 1) (hc : CntS k t c) : ∃ W, G_Lwith [5] c = some W ∧ A80 [5] c W (some true) = some true := by
  have t0 : 0 ≤ t := hc.sum ▸ sum_pos hc.pos
  have e1 : k = 1 ∨ k = 2 ∨ k = 3 ∨ k = 4 ∨ k = 5 := by omega
  have e2 : t = ((4 : Nat) : Int) ∨ t = ((5 : Nat) : Int) ∨ t = ((6 : Nat) : Int) := by omega
  rcases e1 with rfl | rfl | rfl | rfl | rfl <;> rcases e2 with rfl | rfl | rfl
  · exact use80 t80_5_1_ok t80_5_1_4 (by decide) hc
  · exact use80 t80_5_1_ok t80_5_1_5 (by decide) hc
  · exact use80 t80_5_1_ok t80_5_1_6 (by decide) hc
  · exact use80 t80_5_2_ok t80_5_2_4 (by decide) hc
  · exact use80 t80_5_2_ok t80_5_2_5 (by decide) hc
  · exact use80 t80_5_2_ok t80_5_2_6 (by decide) hc
  · exact use80 t80_5_3_ok t80_5_3_4 (by decide) hc
  · exact use80 t80_5_3_ok t80_5_3_5 (by decide) hc
  · exact use80 t80_5_3_ok t80_5_3_6 (by decide) hc
  · exact use80 t80_5_4_ok t80_5_4_4 (by decide) hc
  · exact use80 t80_5_4_ok t80_5_4_5 (by decide) hc
  · exact use80 t80_5_4_ok t80_5_4_6 (by decide) hc
  · exact use80 t80_5_5_ok t80_5_5_4 (by decide) hc
  · exact use80 t80_5_5_ok t80_5_5_5 (by decide) hc
  · exact use80 t80_5_5_ok t80_5_5_6 (by decide) hc
def shs80 : List (List Int) := [[], [1], [1, 1], [2], [1, 1, 1], [2, 1], [3], [1, 1, 1, 1], [2, 1, 1], [2, 2], [3, 1], [4], [1, 1, 1, 1, 1], [2, 1, 1, 1], [2, 2, 1], [3, 1, 1], [3, 2], [4, 1], [5]]
theorem all80 {sh : List Int} (h : sh ∈ shs80) {k : Nat} {t : Int} {c : List Int} (hk : 1 ≤ k ∧ k ≤ 5) (ht : sh.sum - 1 ≤ t ∧ t ≤ sh.sum + 1) (hc : CntS k t c) : ∃ W, G_Lwith sh c = some W ∧ A80 sh c W (some true) = some true := by
  unfold shs80 at h
  simp only [List.mem_cons, List.not_mem_nil, or_false] at h
  rcases h with rfl | rfl | rfl | rfl | rfl | rfl | rfl | rfl | rfl | rfl | rfl | rfl | rfl | rfl | rfl | rfl | rfl | rfl | rfl
  · exact t80_e_all hk ht hc
  · exact t80_1_all hk ht hc
  · exact t80_11_all hk ht hc
  · exact t80_2_all hk ht hc
  · exact t80_111_all hk ht hc
  · exact t80_21_all hk ht hc
  · exact t80_3_all hk ht hc
  · exact t80_1111_all hk ht hc
  · exact t80_211_all hk ht hc
  · exact t80_22_all hk ht hc
  · exact t80_31_all hk ht hc
  · exact t80_4_all hk ht hc
  · exact t80_11111_all hk ht hc
  · exact t80_2111_all hk ht hc
  · exact t80_221_all hk ht hc
  · exact t80_311_all hk ht hc
  · exact t80_32_all hk ht hc
  · exact t80_41_all hk ht hc
  · exact t80_5_all hk ht hc
theorem tab80 : ∀ t ∈ [(0 : Int), 1, 2, 3, 4, 5], shTab t (fun sh => decide (sh ∈ shs80) && (decide (0 ≤ sh.sum) && decide (sh.sum ≤ 5))) = true := by decide +kernel
theorem tab80B : ∀ t ∈ [(0 : Int), 1, 2, 3, 4, 5, 6, 7], shTab t (fun a => shTab t fun b => decide (B80 a b = some true)) = true := by decide +kernel
theorem draw_in {t n : Int} {p : List Int → Bool} (h : shTab t p = true) (hn : 0 ≤ n) : ∃ L a, G_Lshapes 14 t 12 = some L ∧ ((modO n (L.length : Int)).bind fun t38 => L2.atI L t38) = some a ∧ p a = true := by
  unfold shTab at h
  cases e : G_Lshapes 14 t 12 with
  | none => rw [e] at h; cases h
  | some L =>
    rw [e] at h
    rw [Bool.and_eq_true, decide_eq_true_eq, List.all_eq_true] at h
    obtain ⟨h1, h2⟩ := h
    obtain ⟨a, ha, hm⟩ := atI_mem (xs := L) (i := n % (L.length : Int)) (Int.emod_nonneg _ (by omega)) (Int.emod_lt_of_pos _ (by omega))
    exact ⟨L, a, rfl, by rw [modO_pos (by omega), ob]; exact ha, h2 a hm⟩
theorem k80_split (s : List Int) {n0 n1 n2 n3 n4 : Int} {sh c a b : List Int} {W : List (List (List Int))} {L : List (List Int)} (h0 : G_Lmixed s 0 = some n0) (h1 : G_Lmixed s 1 = some n1) (h2 : G_Lmixed s 2 = some n2) (h3 : G_Lmixed s 3 = some n3) (h4 : G_Lmixed s 4 = some n4) (hs : G_Lshape n0 5 = some sh) (hc : G_Lcounts n1 sh.sum = some c) (hW : G_Lwith sh c = some W)
    (hL : G_Lshapes 14 (n2 % 8) 12 = some L) (ha : ((modO n3 (L.length : Int)).bind fun t38 => L2.atI L t38) = some a) (hb : ((modO n4 (L.length : Int)).bind fun t38 => L2.atI L t38) = some b) : G_k80_law s = A80 sh c W (B80 a b) := by
  unfold G_k80_law A80 B80
  simp only [h0, h1, h2, h3, h4, hs, hc, hW, hL, ha, hb, ob]
theorem k80_plain (s : List Int) : G_k80_law s = some true := by
  obtain ⟨n0, h0, g0, _⟩ := mixed_ok s (k := 0) (by omega)
  obtain ⟨n1, h1, g1, _⟩ := mixed_ok s (k := 1) (by omega)
  obtain ⟨n2, h2, g2, _⟩ := mixed_ok s (k := 2) (by omega)
  obtain ⟨n3, h3, g3, _⟩ := mixed_ok s (k := 3) (by omega)
  obtain ⟨n4, h4, g4, _⟩ := mixed_ok s (k := 4) (by omega)
  obtain ⟨sh, hs, hp⟩ := lshape_in (m := 5) (by decide) g0 (tab80 _ (by simp; omega))
  simp only [Bool.and_eq_true, decide_eq_true_eq] at hp
  obtain ⟨p1, p2, p3⟩ := hp
  obtain ⟨k, t, c, hc, hk, ht, kc⟩ := lcounts_sum g1 p2 (by omega)
  obtain ⟨W, hW, hA⟩ := all80 p1 hk ht kc
  have tb := tab80B (n2 % 8) (by simp; omega)
  obtain ⟨L, a, hL, ha, pa⟩ := draw_in tb g3
  obtain ⟨L', b, hL', hb, pb⟩ := draw_in pa g4
  rw [hL] at hL'
  cases hL'
  rw [k80_split s h0 h1 h2 h3 h4 hs hc hW hL ha hb, of_decide_eq_true pb, hA]
end BP
namespace BP
open PySem
def deep : Nat := 60
theorem law_k80_law (ns : List Int) (hl : ns.length ≤ 63) : callF T0 (deep + 1) 169 [.list (ns.map .int)] = .ok (.bool true) := c_k80_law 45 ns true (k80_plain ns)
end BP
namespace BP
open PySem PySem.Spec PyProof.Rows L2
/-! ### they are the text's -/
abbrev topS (i : Nat) : Stmt := PySem.Challenge.pw_bumprows_k80_counts.main.body.getD i (.Pass ⟨0, 0, 0, 0⟩)
def gL : Gc := ⟨[], [((Str.ofString "all_lots"), 152), ((Str.ofString "strips"), 132), ((Str.ofString "many_with"), 133), ((Str.ofString "with_strip"), 162), ((Str.ofString "filling_with"), 163), ((Str.ofString "shows"), 164), ((Str.ofString "why_none"), 165), ((Str.ofString "is_above"), 166), ((Str.ofString "_law_cell_at"), 8), ((Str.ofString "_law_mixed"), 9), ((Str.ofString "_law_drawn"), 10), ((Str.ofString "_law_shapes"), 126), ((Str.ofString "_law_fillings"), 127), ((Str.ofString "_law_shape"), 128), ((Str.ofString "_law_counts"), 134), ((Str.ofString "_law_with"), 167), ((Str.ofString "_law_shows"), 168)], [], []⟩
abbrev N_all_lots : List Str := [(Str.ofString "many"), (Str.ofString "least"), (Str.ofString "most"), (Str.ofString "found"), (Str.ofString "number"), (Str.ofString "rest")]
abbrev P_all_lots : List Str := [(Str.ofString "many"), (Str.ofString "least"), (Str.ofString "most")]
theorem sc_all_lots : scOk N_all_lots P_all_lots (defScope (topS 1)) = true := by decide +kernel
theorem cf_all_lots : cFn { gL with N := N_all_lots } (P_all_lots).length (topS 1) = some F_all_lots := by kernel_rfl
abbrev N_strips : List Str := [(Str.ofString "shape"), (Str.ofString "many"), (Str.ofString "found"), (Str.ofString "row"), (Str.ofString "long"), (Str.ofString "least"), (Str.ofString "longer"), (Str.ofString "some"), (Str.ofString "left"), (Str.ofString "rest")]
abbrev P_strips : List Str := [(Str.ofString "shape"), (Str.ofString "many")]
theorem sc_strips : scOk N_strips P_strips (defScope (topS 3)) = true := by decide +kernel
theorem cf_strips : cFn { gL with N := N_strips } (P_strips).length (topS 3) = some F_strips := by kernel_rfl
abbrev N_many_with : List Str := [(Str.ofString "shape"), (Str.ofString "counts"), (Str.ofString "less")]
abbrev P_many_with : List Str := [(Str.ofString "shape"), (Str.ofString "counts")]
theorem sc_many_with : scOk N_many_with P_many_with (defScope (topS 4)) = true := by decide +kernel
theorem cf_many_with : cFn { gL with N := N_many_with } (P_many_with).length (topS 4) = some F_many_with := by kernel_rfl
abbrev N_with_strip : List Str := [(Str.ofString "filling"), (Str.ofString "shape"), (Str.ofString "number"), (Str.ofString "found"), (Str.ofString "row"), (Str.ofString "long"), (Str.ofString "old")]
abbrev P_with_strip : List Str := [(Str.ofString "filling"), (Str.ofString "shape"), (Str.ofString "number")]
theorem sc_with_strip : scOk N_with_strip P_with_strip (defScope (topS 5)) = true := by decide +kernel
theorem cf_with_strip : cFn { gL with N := N_with_strip } (P_with_strip).length (topS 5) = some F_with_strip := by kernel_rfl
abbrev N_filling_with : List Str := [(Str.ofString "shape"), (Str.ofString "counts"), (Str.ofString "less"), (Str.ofString "filling")]
abbrev P_filling_with : List Str := [(Str.ofString "shape"), (Str.ofString "counts")]
theorem sc_filling_with : scOk N_filling_with P_filling_with (defScope (topS 6)) = true := by decide +kernel
theorem cf_filling_with : cFn { gL with N := N_filling_with } (P_filling_with).length (topS 6) = some F_filling_with := by kernel_rfl
abbrev N_shows : List Str := [(Str.ofString "shape"), (Str.ofString "counts"), (Str.ofString "lot"), (Str.ofString "here"), (Str.ofString "number"), (Str.ofString "every")]
abbrev P_shows : List Str := [(Str.ofString "shape"), (Str.ofString "counts"), (Str.ofString "lot")]
theorem sc_shows : scOk N_shows P_shows (defScope (topS 7)) = true := by decide +kernel
theorem cf_shows : cFn { gL with N := N_shows } (P_shows).length (topS 7) = some F_shows := by kernel_rfl
abbrev N_why_none : List Str := [(Str.ofString "shape"), (Str.ofString "counts"), (Str.ofString "many"), (Str.ofString "lot")]
abbrev P_why_none : List Str := [(Str.ofString "shape"), (Str.ofString "counts")]
theorem sc_why_none : scOk N_why_none P_why_none (defScope (topS 8)) = true := by decide +kernel
theorem cf_why_none : cFn { gL with N := N_why_none } (P_why_none).length (topS 8) = some F_why_none := by kernel_rfl
abbrev N_is_above : List Str := [(Str.ofString "one"), (Str.ofString "other"), (Str.ofString "many")]
abbrev P_is_above : List Str := [(Str.ofString "one"), (Str.ofString "other")]
theorem sc_is_above : scOk N_is_above P_is_above (defScope (topS 9)) = true := by decide +kernel
theorem cf_is_above : cFn { gL with N := N_is_above } (P_is_above).length (topS 9) = some F_is_above := by kernel_rfl
abbrev N_law_cell_at : List Str := [(Str.ofString "_law_script"), (Str.ofString "_law_k")]
abbrev P_law_cell_at : List Str := [(Str.ofString "_law_script"), (Str.ofString "_law_k")]
theorem sc_law_cell_at : scOk N_law_cell_at P_law_cell_at (defScope (topS 11)) = true := by decide +kernel
theorem cf_law_cell_at : cFn { gL with N := N_law_cell_at } (P_law_cell_at).length (topS 11) = some F_Lcell_at := by kernel_rfl
abbrev N_law_mixed : List Str := [(Str.ofString "_law_script"), (Str.ofString "_law_k"), (Str.ofString "_law_drawn_here")]
abbrev P_law_mixed : List Str := [(Str.ofString "_law_script"), (Str.ofString "_law_k")]
theorem sc_law_mixed : scOk N_law_mixed P_law_mixed (defScope (topS 12)) = true := by decide +kernel
theorem cf_law_mixed : cFn { gL with N := N_law_mixed } (P_law_mixed).length (topS 12) = some F_Lmixed := by kernel_rfl
abbrev N_law_drawn : List Str := [(Str.ofString "_law_number"), (Str.ofString "_law_k"), (Str.ofString "_law_drawn_here")]
abbrev P_law_drawn : List Str := [(Str.ofString "_law_number"), (Str.ofString "_law_k")]
theorem sc_law_drawn : scOk N_law_drawn P_law_drawn (defScope (topS 13)) = true := by decide +kernel
theorem cf_law_drawn : cFn { gL with N := N_law_drawn } (P_law_drawn).length (topS 13) = some F_Ldrawn := by kernel_rfl
abbrev N_law_shapes : List Str := [(Str.ofString "_law_many"), (Str.ofString "_law_most"), (Str.ofString "_law_found"), (Str.ofString "_law_first"), (Str.ofString "_law_rest")]
abbrev P_law_shapes : List Str := [(Str.ofString "_law_many"), (Str.ofString "_law_most")]
theorem sc_law_shapes : scOk N_law_shapes P_law_shapes (defScope (topS 14)) = true := by decide +kernel
theorem cf_law_shapes : cFn { gL with N := N_law_shapes } (P_law_shapes).length (topS 14) = some F_Lshapes := by kernel_rfl
abbrev N_law_fillings : List Str := [(Str.ofString "_law_shape_here"), (Str.ofString "_law_most"), (Str.ofString "_law_every"), (Str.ofString "_law_row"), (Str.ofString "_law_place"), (Str.ofString "_law_found"), (Str.ofString "_law_longer"), (Str.ofString "_law_book"), (Str.ofString "_law_low"), (Str.ofString "_law_number"), (Str.ofString "_law_new"), (Str.ofString "_law_rows"), (Str.ofString "_law_filling")]
abbrev P_law_fillings : List Str := [(Str.ofString "_law_shape_here"), (Str.ofString "_law_most")]
theorem sc_law_fillings : scOk N_law_fillings P_law_fillings (defScope (topS 15)) = true := by decide +kernel
theorem cf_law_fillings : cFn { gL with N := N_law_fillings } (P_law_fillings).length (topS 15) = some F_Lfillings := by kernel_rfl
abbrev N_law_shape : List Str := [(Str.ofString "_law_number"), (Str.ofString "_law_most"), (Str.ofString "_law_some")]
abbrev P_law_shape : List Str := [(Str.ofString "_law_number"), (Str.ofString "_law_most")]
theorem sc_law_shape : scOk N_law_shape P_law_shape (defScope (topS 16)) = true := by decide +kernel
theorem cf_law_shape : cFn { gL with N := N_law_shape } (P_law_shape).length (topS 16) = some F_Lshape := by kernel_rfl
abbrev N_law_counts : List Str := [(Str.ofString "_law_number"), (Str.ofString "_law_many"), (Str.ofString "_law_found"), (Str.ofString "_law_k"), (Str.ofString "_law_at"), (Str.ofString "_law_kind")]
abbrev P_law_counts : List Str := [(Str.ofString "_law_number"), (Str.ofString "_law_many")]
theorem sc_law_counts : scOk N_law_counts P_law_counts (defScope (topS 17)) = true := by decide +kernel
theorem cf_law_counts : cFn { gL with N := N_law_counts } (P_law_counts).length (topS 17) = some F_Lcounts := by kernel_rfl
abbrev N_law_with : List Str := [(Str.ofString "_law_shape_here"), (Str.ofString "_law_counts_here"), (Str.ofString "_law_found"), (Str.ofString "_law_filling"), (Str.ofString "_law_numbers"), (Str.ofString "_law_row"), (Str.ofString "_law_k")]
abbrev P_law_with : List Str := [(Str.ofString "_law_shape_here"), (Str.ofString "_law_counts_here")]
theorem sc_law_with : scOk N_law_with P_law_with (defScope (topS 18)) = true := by decide +kernel
theorem cf_law_with : cFn { gL with N := N_law_with } (P_law_with).length (topS 18) = some F_Lwith := by kernel_rfl
abbrev N_law_shows : List Str := [(Str.ofString "_law_shape_here"), (Str.ofString "_law_counts_here"), (Str.ofString "_law_lot"), (Str.ofString "_law_here"), (Str.ofString "_law_number"), (Str.ofString "_law_every")]
abbrev P_law_shows : List Str := [(Str.ofString "_law_shape_here"), (Str.ofString "_law_counts_here"), (Str.ofString "_law_lot")]
theorem sc_law_shows : scOk N_law_shows P_law_shows (defScope (topS 19)) = true := by decide +kernel
theorem cf_law_shows : cFn { gL with N := N_law_shows } (P_law_shows).length (topS 19) = some F_Lshows := by kernel_rfl
abbrev N_law : List Str := [(Str.ofString "_law_script"), (Str.ofString "_law_shape_here"), (Str.ofString "_law_counts_here"), (Str.ofString "_law_some"), (Str.ofString "_law_found"), (Str.ofString "_law_lot"), (Str.ofString "_law_good"), (Str.ofString "_law_number"), (Str.ofString "_law_every"), (Str.ofString "_law_one"), (Str.ofString "_law_other"), (Str.ofString "_law_due"), (Str.ofString "_law_many")]
abbrev P_law : List Str := [(Str.ofString "_law_script")]
theorem sc_law : scOk N_law P_law (defScope (topS 20)) = true := by decide +kernel
theorem cf_law : cFn { gL with N := N_law } (P_law).length (topS 20) = some F_k80_law := by kernel_rfl
end BP
open PySem PySem.W PyProof.Rows
set_option maxHeartbeats 0 in
set_option maxRecDepth 1000000 in
theorem PySem.Challenge.cw_bumprows_k80_counts_holds : PySem.Challenge.rw_bumprows_k80_counts.Holds := by
  w_on; o_law; k_head; (case hw => w_witness2)
  k_fill
  refine L2.walk_of (l := PySem.Challenge.rw_bumprows_k80_counts) (n := 63) (k := BP.deep + 1) (x := "_law_script") (CX := fun w => L2.CX PySem.Challenge.pw_bumprows_k80_counts w) (sp := fun w => BP.spC BP.T0 _ (BP.deep + 1) 169) rfl (by decide) rfl ⟨rfl, by decide, by decide⟩ (fun w h Y => PySem.W.kIn_of Y) ?F (fun _ _ a ns hl _ hS => BP.law_sp hS (BP.law_k80_law ns hl)) (fun _ H s e s' => BP.cx_none H s e s')
  case F =>
    intro w mg fa h KX G hmg
    refine' (fun (s_all_lots : BP.SFn BP.gL BP.T0 _ mg (Str.ofString "all_lots") 152) => ?_) (BP.sfn_mk KX G ?a1 ?l1 ?c1 ?k1 (fun _ _ _ _ _ _ us hl => match us, hl with | [_, _, _], _ => rfl) BP.sc_all_lots BP.cf_all_lots rfl)
    (case a1 => k_is); (case l1 => k_is); (case c1 => k_is); (case k1 => k_is)
    refine' (fun (s_strips : BP.SFn BP.gL BP.T0 _ mg (Str.ofString "strips") 132) => ?_) (BP.sfn_mk KX G ?a3 ?l3 ?c3 ?k3 (fun _ _ _ _ _ _ us hl => match us, hl with | [_, _], _ => rfl) BP.sc_strips BP.cf_strips rfl)
    (case a3 => k_is); (case l3 => k_is); (case c3 => k_is); (case k3 => k_is)
    refine' (fun (s_many_with : BP.SFn BP.gL BP.T0 _ mg (Str.ofString "many_with") 133) => ?_) (BP.sfn_mk KX G ?a4 ?l4 ?c4 ?k4 (fun _ _ _ _ _ _ us hl => match us, hl with | [_, _], _ => rfl) BP.sc_many_with BP.cf_many_with rfl)
    (case a4 => k_is); (case l4 => k_is); (case c4 => k_is); (case k4 => k_is)
    refine' (fun (s_with_strip : BP.SFn BP.gL BP.T0 _ mg (Str.ofString "with_strip") 162) => ?_) (BP.sfn_mk KX G ?a5 ?l5 ?c5 ?k5 (fun _ _ _ _ _ _ us hl => match us, hl with | [_, _, _], _ => rfl) BP.sc_with_strip BP.cf_with_strip rfl)
    (case a5 => k_is); (case l5 => k_is); (case c5 => k_is); (case k5 => k_is)
    refine' (fun (s_filling_with : BP.SFn BP.gL BP.T0 _ mg (Str.ofString "filling_with") 163) => ?_) (BP.sfn_mk KX G ?a6 ?l6 ?c6 ?k6 (fun _ _ _ _ _ _ us hl => match us, hl with | [_, _], _ => rfl) BP.sc_filling_with BP.cf_filling_with rfl)
    (case a6 => k_is); (case l6 => k_is); (case c6 => k_is); (case k6 => k_is)
    refine' (fun (s_shows : BP.SFn BP.gL BP.T0 _ mg (Str.ofString "shows") 164) => ?_) (BP.sfn_mk KX G ?a7 ?l7 ?c7 ?k7 (fun _ _ _ _ _ _ us hl => match us, hl with | [_, _, _], _ => rfl) BP.sc_shows BP.cf_shows rfl)
    (case a7 => k_is); (case l7 => k_is); (case c7 => k_is); (case k7 => k_is)
    refine' (fun (s_why_none : BP.SFn BP.gL BP.T0 _ mg (Str.ofString "why_none") 165) => ?_) (BP.sfn_mk KX G ?a8 ?l8 ?c8 ?k8 (fun _ _ _ _ _ _ us hl => match us, hl with | [_, _], _ => rfl) BP.sc_why_none BP.cf_why_none rfl)
    (case a8 => k_is); (case l8 => k_is); (case c8 => k_is); (case k8 => k_is)
    refine' (fun (s_is_above : BP.SFn BP.gL BP.T0 _ mg (Str.ofString "is_above") 166) => ?_) (BP.sfn_mk KX G ?a9 ?l9 ?c9 ?k9 (fun _ _ _ _ _ _ us hl => match us, hl with | [_, _], _ => rfl) BP.sc_is_above BP.cf_is_above rfl)
    (case a9 => k_is); (case l9 => k_is); (case c9 => k_is); (case k9 => k_is)
    refine' (fun (s_law_cell_at : BP.SFn BP.gL BP.T0 _ mg (Str.ofString "_law_cell_at") 8) => ?_) (BP.sfn_mk KX G ?a11 ?l11 ?c11 ?k11 (fun _ _ _ _ _ _ us hl => match us, hl with | [_, _], _ => rfl) BP.sc_law_cell_at BP.cf_law_cell_at rfl)
    (case a11 => k_is); (case l11 => k_is); (case c11 => k_is); (case k11 => k_is)
    refine' (fun (s_law_mixed : BP.SFn BP.gL BP.T0 _ mg (Str.ofString "_law_mixed") 9) => ?_) (BP.sfn_mk KX G ?a12 ?l12 ?c12 ?k12 (fun _ _ _ _ _ _ us hl => match us, hl with | [_, _], _ => rfl) BP.sc_law_mixed BP.cf_law_mixed rfl)
    (case a12 => k_is); (case l12 => k_is); (case c12 => k_is); (case k12 => k_is)
    refine' (fun (s_law_drawn : BP.SFn BP.gL BP.T0 _ mg (Str.ofString "_law_drawn") 10) => ?_) (BP.sfn_mk KX G ?a13 ?l13 ?c13 ?k13 (fun _ _ _ _ _ _ us hl => match us, hl with | [_, _], _ => rfl) BP.sc_law_drawn BP.cf_law_drawn rfl)
    (case a13 => k_is); (case l13 => k_is); (case c13 => k_is); (case k13 => k_is)
    refine' (fun (s_law_shapes : BP.SFn BP.gL BP.T0 _ mg (Str.ofString "_law_shapes") 126) => ?_) (BP.sfn_mk KX G ?a14 ?l14 ?c14 ?k14 (fun _ _ _ _ _ _ us hl => match us, hl with | [_, _], _ => rfl) BP.sc_law_shapes BP.cf_law_shapes rfl)
    (case a14 => k_is); (case l14 => k_is); (case c14 => k_is); (case k14 => k_is)
    refine' (fun (s_law_fillings : BP.SFn BP.gL BP.T0 _ mg (Str.ofString "_law_fillings") 127) => ?_) (BP.sfn_mk KX G ?a15 ?l15 ?c15 ?k15 (fun _ _ _ _ _ _ us hl => match us, hl with | [_, _], _ => rfl) BP.sc_law_fillings BP.cf_law_fillings rfl)
    (case a15 => k_is); (case l15 => k_is); (case c15 => k_is); (case k15 => k_is)
    refine' (fun (s_law_shape : BP.SFn BP.gL BP.T0 _ mg (Str.ofString "_law_shape") 128) => ?_) (BP.sfn_mk KX G ?a16 ?l16 ?c16 ?k16 (fun _ _ _ _ _ _ us hl => match us, hl with | [_, _], _ => rfl) BP.sc_law_shape BP.cf_law_shape rfl)
    (case a16 => k_is); (case l16 => k_is); (case c16 => k_is); (case k16 => k_is)
    refine' (fun (s_law_counts : BP.SFn BP.gL BP.T0 _ mg (Str.ofString "_law_counts") 134) => ?_) (BP.sfn_mk KX G ?a17 ?l17 ?c17 ?k17 (fun _ _ _ _ _ _ us hl => match us, hl with | [_, _], _ => rfl) BP.sc_law_counts BP.cf_law_counts rfl)
    (case a17 => k_is); (case l17 => k_is); (case c17 => k_is); (case k17 => k_is)
    refine' (fun (s_law_with : BP.SFn BP.gL BP.T0 _ mg (Str.ofString "_law_with") 167) => ?_) (BP.sfn_mk KX G ?a18 ?l18 ?c18 ?k18 (fun _ _ _ _ _ _ us hl => match us, hl with | [_, _], _ => rfl) BP.sc_law_with BP.cf_law_with rfl)
    (case a18 => k_is); (case l18 => k_is); (case c18 => k_is); (case k18 => k_is)
    refine' (fun (s_law_shows : BP.SFn BP.gL BP.T0 _ mg (Str.ofString "_law_shows") 168) => ?_) (BP.sfn_mk KX G ?a19 ?l19 ?c19 ?k19 (fun _ _ _ _ _ _ us hl => match us, hl with | [_, _, _], _ => rfl) BP.sc_law_shows BP.cf_law_shows rfl)
    (case a19 => k_is); (case l19 => k_is); (case c19 => k_is); (case k19 => k_is)
    refine' BP.law_mk (P := PySem.Challenge.pw_bumprows_k80_counts) (ps := BP.P_law) (n := BP.deep) (id := 169) (g := BP.gL) (T := BP.T0) KX G hmg ?a ?l ?c ?k (fun _ _ => .of_eq rfl) BP.sc_law BP.cf_law rfl (BP.blt_mk KX G ?z) ?con ?fns ?exc
    (case a => k_is); (case l => k_is); (case c => k_is); (case k => k_is)
    case z =>
      intro x hx
      simp only [BP.bltNames, List.mem_cons, List.not_mem_nil, or_false] at hx
      rcases hx with rfl | rfl | rfl | rfl | rfl | rfl | rfl | rfl | rfl | rfl | rfl | rfl | rfl | rfl | rfl | rfl | rfl | rfl | rfl <;> k_is
    case con =>
      intro p hp
      cases hp
    case exc =>
      intro p hp
      cases hp
    case fns =>
      intro p hp
      simp only [BP.gL, List.mem_cons, List.not_mem_nil, or_false] at hp
      rcases hp with rfl | rfl | rfl | rfl | rfl | rfl | rfl | rfl | rfl | rfl | rfl | rfl | rfl | rfl | rfl | rfl | rfl
      · exact s_all_lots
      · exact s_strips
      · exact s_many_with
      · exact s_with_strip
      · exact s_filling_with
      · exact s_shows
      · exact s_why_none
      · exact s_is_above
      · exact s_law_cell_at
      · exact s_law_mixed
      · exact s_law_drawn
      · exact s_law_shapes
      · exact s_law_fillings
      · exact s_law_shape
      · exact s_law_counts
      · exact s_law_with
      · exact s_law_shows

