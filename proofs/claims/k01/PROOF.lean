import PyProof.Rows.All
import Wide.All
import OpenK.AllK
import Wide.FinOn
import PySem.Challenge.RW_bumprows_k01_things
import HandS.ForMost
import HandS.ForExc
import HandS.TupAny
import HandS.TupLe
import HandS.TupMul
import HandS.Deep
import HandS.IsInst
import HandS.Conv
import HandS.DictTup
import HandS.TupLen
import PyProof.WalksMore
import PyProof.SumWalkG
import HandS.WordsExc
import KE.GoesNew
import KE.GoesMore
import KE.GoesEnum
import HandS.TryOnly
import HandS.Style
import PyProof.TupleOfSeq
import HandS.SortInts
import HandS.Ends
set_option Elab.async false
set_option linter.all false
set_option pp.maxSteps 200
set_option maxRecDepth 100000
set_option maxHeartbeats 4000000
/-! A small pure language: data, terms, their values. -/
namespace BP
open PySem

abbrev D := PyData
abbrev tupD (xs : List D) : D := PyData.tuple xs
abbrev lstD (xs : List D) : D := PyData.list xs

/-- a value, an exception (its class by number), or no word about it -/
inductive Res (α : Type) where
  | ok (a : α)
  | exc (c : Nat)
  | bad
  deriving DecidableEq

def Res.bind {α β : Type} (r : Res α) (f : α → Res β) : Res β := match r with
  | .ok a => f a
  | .exc c => .exc c
  | .bad => .bad
theorem Res.bind_ok {α β : Type} (a : α) (f : α → Res β) : (Res.ok a).bind f = f a := rfl
theorem Res.bind_exc {α β : Type} (c : Nat) (f : α → Res β) : (Res.exc c : Res α).bind f = .exc c := rfl
theorem Res.bind_bad {α β : Type} (f : α → Res β) : (Res.bad : Res α).bind f = .bad := rfl

inductive Bop where | add | sub | mul | fdiv | mod
  deriving DecidableEq
inductive Cop where | eq | ne | lt | le | gt | ge | isN | notN | isB | notB | inn | nin
  deriving DecidableEq
/-- built-ins, by what they are handed -/
inductive Bt where
  | len | tuple | list | sum | max1 | min1 | max2 | min2 | all | any | sorted | toInt | toStr | sortedSet | lenSet
  | listRange1 | listRange2 | tupRange2 | dict | count | index | get | join | split | isTuple | isInt | isBool | isStr
  deriving DecidableEq
/-- what is walked -/
inductive Sk where | seq | range1 | range2 | range3 | enum | zip2 | zip3
  deriving DecidableEq
inductive Tg where | n (i : Nat) | t (is : List Nat)
  deriving DecidableEq

inductive Ex where
  | k (d : D)
  | v (i : Nat)
  | b (i : Nat)
  | tup (es : List Ex)
  | lst (es : List Ex)
  | bin (o : Bop) (x y : Ex)
  | cmp (o : Cop) (x y : Ex)
  | chain (o o' : Cop) (x y z : Ex)
  | neg (x : Ex)
  | not (x : Ex)
  | and (x y : Ex)
  | or (x y : Ex)
  | ife (c x y : Ex)
  | call (f : Nat) (es : List Ex)
  | bt (f : Bt) (es : List Ex)
  | ix (x i : Ex)
  | sl (x : Ex) (lo hi : List Ex)
  | rev (x : Ex)
  | comp (e : Ex) (own : List Nat) (t : Tg) (sk : Sk) (src : List Ex) (conds : List Ex)
  | dict0
  | dict1 (x y : Ex)

inductive Stm where
  | fz (is : List Nat)
  | set (t : Tg) (e : Ex)
  | own (i : Nat) (e : Ex)
  | app (i : Nat) (e : Ex)
  | ext (i : Nat) (e : Ex)
  | put (i : Nat) (x e : Ex)
  | dpop (i : Nat) (x : Ex)
  | ite (c : Ex) (a b : List Stm)
  | loop (t : Tg) (sk : Sk) (src : List Ex) (body : List Stm)
  | loopPop (t : Tg) (f : Nat) (i : Nat) (body : List Stm)
  | while (c : Ex) (body : List Stm)
  | ret (e : Ex)
  | raise (c : Nat)

/-- a slot: nothing, a value that may be shared, a list or dict that stands nowhere else -/
inductive Slot where
  | non
  | val (d : D)
  | own (d : D)
abbrev Env := List Slot

/-! ### values -/
def smallI (i : Int) : Bool := decide (-(2 ^ 64) < i) && decide (i < 2 ^ 64)
def repL {α : Type} (k : Int) (xs : List α) : List α := (List.replicate k.toNat xs).flatten
def evalBin : Bop → D → D → Res D
  | .add, .int i, .int j => .ok (.int (i + j))
  | .add, .tuple xs, .tuple ys => if xs.length + ys.length ≤ sizeLine then .ok (.tuple (xs ++ ys)) else .bad
  | .add, .list xs, .list ys => if xs.length + ys.length ≤ sizeLine then .ok (.list (xs ++ ys)) else .bad
  | .add, .str x, .str y => if x.length + y.length ≤ sizeLine then .ok (.str (x ++ y)) else .bad
  | .sub, .int i, .int j => .ok (.int (i - j))
  | .mul, .int i, .int j => if smallI i || smallI j then .ok (.int (i * j)) else .bad
  | .mul, .tuple xs, .int k => if -(2 ^ 63) ≤ k ∧ k ≤ 1000 ∧ xs.length ≤ 1000 then .ok (.tuple (repL k xs)) else .bad
  | .mul, .list xs, .int k => if -(2 ^ 63) ≤ k ∧ k ≤ 1000 ∧ xs.length ≤ 1000 then .ok (.list (repL k xs)) else .bad
  | .fdiv, .int i, .int j => if 0 < j ∧ j < 1073741824 then .ok (.int (i / j)) else .bad
  | .mod, .int i, .int j => if 0 < j then .ok (.int (i % j)) else .bad
  | _, _, _ => .bad
def isNoneD : D → Bool
  | .none => true
  | _ => false
/-- the places where y stands in x -/
def subStr (y x : Str) : Bool := !(Builtin.Str.occurrences x y 0 x.length 1).isEmpty
def intsOf : List D → Option (List Int)
  | [] => some []
  | .int i :: r => (intsOf r).map (i :: ·)
  | _ :: _ => none
/-- a key: a tuple of ints -/
def keyOf : D → Option (List Int)
  | .tuple xs => intsOf xs
  | _ => none
def keyOk (d : D) : Bool := (keyOf d).isSome
def hasKey (kvs : List (D × D)) (x : D) : Bool := kvs.any fun p => PyData.eqv p.1 x
def isDict : D → Bool
  | .dict _ => true
  | _ => false
def evalCmp : Cop → D → D → Res D
  | .eq, x, y => if SeqAt.shaped x = true ∧ SeqAt.shaped y = true then .ok (.bool (PyData.eqv x y)) else .bad
  | .ne, x, y => if SeqAt.shaped x = true ∧ SeqAt.shaped y = true then .ok (.bool (!PyData.eqv x y)) else .bad
  | .lt, .int i, .int j => .ok (.bool (decide (i < j)))
  | .le, .int i, .int j => .ok (.bool (decide (i ≤ j)))
  | .gt, .int i, .int j => .ok (.bool (decide (j < i)))
  | .ge, .int i, .int j => .ok (.bool (decide (j ≤ i)))
  | .isN, x, .none => .ok (.bool (isNoneD x))
  | .notN, x, .none => .ok (.bool (!isNoneD x))
  | .isB, .bool a, .bool b => .ok (.bool (decide (a = b)))
  | .notB, .bool a, .bool b => .ok (.bool (!decide (a = b)))
  | .inn, x, .tuple ys => if SeqAt.shaped x = true ∧ SeqAt.shaped (.tuple ys) = true then .ok (.bool (ys.any fun z => PyData.eqv z x)) else .bad
  | .inn, x, .list ys => if SeqAt.shaped x = true ∧ SeqAt.shaped (.list ys) = true then .ok (.bool (ys.any fun z => PyData.eqv z x)) else .bad
  | .inn, .str x, .str y => .ok (.bool (subStr x y))
  | .inn, x, .dict kvs => if keyOk x = true then .ok (.bool (hasKey kvs x)) else .bad
  | .nin, x, .tuple ys => if SeqAt.shaped x = true ∧ SeqAt.shaped (.tuple ys) = true then .ok (.bool (!ys.any fun z => PyData.eqv z x)) else .bad
  | .nin, x, .list ys => if SeqAt.shaped x = true ∧ SeqAt.shaped (.list ys) = true then .ok (.bool (!ys.any fun z => PyData.eqv z x)) else .bad
  | .nin, .str x, .str y => .ok (.bool (!subStr x y))
  | .nin, x, .dict kvs => if keyOk x = true then .ok (.bool (!hasKey kvs x)) else .bad
  | _, _, _ => .bad

def boolsOf : List D → Option (List Bool)
  | [] => some []
  | .bool i :: r => (boolsOf r).map (i :: ·)
  | _ :: _ => none
def strsOf : List D → Option (List Str)
  | [] => some []
  | .str i :: r => (strsOf r).map (i :: ·)
  | _ :: _ => none
def okO {α : Type} (o : Option α) (f : α → D) : Res D := match o with
  | some a => .ok (f a)
  | none => .bad

/-! the order of ints and of tuples, item by item: less, or not; none where it isn't told -/
mutual
def ltD : D → D → Option Bool
  | .int i, .int j => some (decide (i < j))
  | .tuple xs, .tuple ys => ltL xs ys
  | _, _ => none
def ltL : List D → List D → Option Bool
  | [], [] => some false
  | [], _ :: _ => some true
  | _ :: _, [] => some false
  | x :: xs, y :: ys => if PyData.eqv x y = true then ltL xs ys else ltD x y
end
/-! ints, and tuples of what is so -/
mutual
def ordD : D → Bool
  | .int _ => true
  | .tuple xs => ordL xs
  | _ => false
def ordL : List D → Bool
  | [] => true
  | x :: xs => ordD x && ordL xs
end
def ltB (x y : D) : Bool := (ltD x y).getD false
def insD (x : D) : List D → List D
  | [] => [x]
  | y :: r => if ltB x y = true then x :: y :: r else y :: insD x r
/-- sorted, one after the other put in behind those that are no greater -/
def sortD (xs : List D) : List D := xs.foldl (fun acc x => insD x acc) []
/-- all pairs can be set in order -/
def ordered (xs : List D) : Bool := ordL xs && xs.all fun x => xs.all fun y => (ltD x y).isSome && decide (SeqAt.shaped x = true)
def dedup : List D → List D
  | [] => []
  | x :: r => if (r.any fun y => PyData.eqv y x) = true then dedup r else x :: dedup r
def maxD : List D → Option D
  | [] => none
  | x :: r => some (r.foldl (fun m y => if ltB m y = true then y else m) x)
def minD : List D → Option D
  | [] => none
  | x :: r => some (r.foldl (fun m y => if ltB y m = true then y else m) x)
def rangeL (lo hi : Int) : List D := (List.range (hi - lo).toNat).map fun i => .int (lo + (i : Nat))
def rangeDown (lo hi : Int) : List D := (List.range (lo - hi).toNat).map fun i => .int (lo + (i : Nat) * (-1))
def bnd (i : Int) : Bool := decide (-(2 ^ 62) ≤ i) && decide (i < 2 ^ 62)
def rgOk (a b : Int) : Bool := bnd a && bnd b && decide ((b - a).toNat ≤ 16777216)
def cntD (x : D) (ys : List D) : Int := ((ys.countP fun z => PyData.eqv z x : Nat) : Int)
def idxD (x : D) (ys : List D) : Option D := (ys.findIdx? fun z => PyData.eqv z x).map fun n => .int ((n : Nat) : Int)
def getD' (kvs : List (D × D)) (x : D) : Option D := (kvs.find? fun p => PyData.eqv p.1 x).map (·.2)
def bt1 (f : D → Res D) : List D → Res D
  | [d] => f d
  | _ => .bad
def bt2 (f : D → D → Res D) : List D → Res D
  | [d, e] => f d e
  | _ => .bad
def bt3 (f : D → D → D → Res D) : List D → Res D
  | [d, e, g] => f d e g
  | _ => .bad
def lenD : D → Res D
  | .tuple xs => .ok (.int xs.length)
  | .list xs => .ok (.int xs.length)
  | .str x => if x.length ≤ sizeLine then .ok (.int x.length) else .bad
  | .dict kvs => .ok (.int kvs.length)
  | _ => .bad
def tupleD : D → Res D
  | .tuple xs => .ok (.tuple xs)
  | .list xs => .ok (.tuple xs)
  | _ => .bad
def listD : D → Res D
  | .tuple xs => .ok (.list xs)
  | .list xs => .ok (.list xs)
  | _ => .bad
def itemsOf : D → Option (List D)
  | .tuple xs => some xs
  | .list xs => some xs
  | _ => none
def sumD (d : D) : Res D := okO ((itemsOf d).bind intsOf) fun ns => .int ns.sum
def listOf : D → Option (List D)
  | .list xs => some xs
  | _ => none
def maxLD (d : D) : Res D := okO ((listOf d).bind fun xs => if ordered xs = true then maxD xs else none) id
def minLD (d : D) : Res D := okO ((listOf d).bind fun xs => if ordered xs = true then minD xs else none) id
def max2D : D → D → Res D
  | .int i, .int j => .ok (.int (if j > i then j else i))
  | _, _ => .bad
def min2D : D → D → Res D
  | .int i, .int j => .ok (.int (if j < i then j else i))
  | _, _ => .bad
def allD (d : D) : Res D := okO ((listOf d).bind boolsOf) fun bs => .bool (bs.all id)
def anyD (d : D) : Res D := okO ((listOf d).bind boolsOf) fun bs => .bool (bs.any id)
def insI (x : Int) : List Int → List Int
  | [] => [x]
  | y :: r => if x ≤ y then x :: y :: r else y :: insI x r
def sortI : List Int → List Int
  | [] => []
  | x :: r => insI x (sortI r)
def sortedD (d : D) : Res D := okO ((itemsOf d).bind intsOf) fun ns => .list ((sortI ns).map .int)
def sortedSetD (_ : D) : Res D := .bad
def lenSetD (_ : D) : Res D := .bad
def toIntD : D → Res D
  | .int i => .ok (.int i)
  | .bool b => .ok (.int (if b then 1 else 0))
  | .str x => match PySem.intText? x with
    | some n => if x.length ≤ 640 then .ok (.int n) else .bad
    | none => .bad
  | _ => .bad
def toStrD : D → Res D
  | .int i => if i.natAbs.log2 < 1920 then .ok (.str (toString i)) else .bad
  | _ => .bad
def listRange1D : D → Res D
  | .int j => if rgOk 0 j = true then .ok (.list (rangeL 0 j)) else .bad
  | _ => .bad
def listRange2D : D → D → Res D
  | .int i, .int j => if rgOk i j = true then .ok (.list (rangeL i j)) else .bad
  | _, _ => .bad
def tupRange2D : D → D → Res D
  | .int i, .int j => if rgOk i j = true then .ok (.tuple (rangeL i j)) else .bad
  | _, _ => .bad
def dictD : D → Res D
  | .dict kvs => .ok (.dict kvs)
  | _ => .bad
def countD (d x : D) : Res D := okO ((itemsOf d).bind fun ys => if SeqAt.shaped x = true ∧ SeqAt.shaped d = true then some ys else none) fun ys => .int (cntD x ys)
def indexD (d x : D) : Res D := okO ((itemsOf d).bind fun ys => if SeqAt.shaped x = true ∧ SeqAt.shaped d = true then idxD x ys else none) id
def dgetD : D → D → D → Res D
  | .dict kvs, x, y => if keyOk x = true then .ok ((getD' kvs x).getD y) else .bad
  | _, _, _ => .bad
def isTupleD : D → Bool
  | .tuple _ => true
  | _ => false
def isIntD : D → Bool
  | .int _ => true
  | .bool _ => true
  | _ => false
def isBoolD : D → Bool
  | .bool _ => true
  | _ => false
def isStrD : D → Bool
  | .str _ => true
  | _ => false
def evalBt : Bt → List D → Res D
  | .len => bt1 lenD
  | .tuple => bt1 tupleD
  | .list => bt1 listD
  | .sum => bt1 sumD
  | .max1 => bt1 maxLD
  | .min1 => bt1 minLD
  | .max2 => bt2 max2D
  | .min2 => bt2 min2D
  | .all => bt1 allD
  | .any => bt1 anyD
  | .sorted => bt1 sortedD
  | .sortedSet => bt1 sortedSetD
  | .lenSet => bt1 lenSetD
  | .toInt => bt1 toIntD
  | .toStr => bt1 toStrD
  | .listRange1 => bt1 listRange1D
  | .listRange2 => bt2 listRange2D
  | .tupRange2 => bt2 tupRange2D
  | .dict => bt1 dictD
  | .count => bt2 countD
  | .index => bt2 indexD
  | .get => bt3 dgetD
  | .isTuple => bt1 fun d => .ok (.bool (isTupleD d))
  | .isInt => bt1 fun d => .ok (.bool (isIntD d))
  | .isBool => bt1 fun d => .ok (.bool (isBoolD d))
  | .isStr => bt1 fun d => .ok (.bool (isStrD d))
  | .join => fun _ => .bad
  | .split => fun _ => .bad

def evalIx : D → D → Res D
  | .tuple xs, .int i => match L2.atI xs i with
    | some d => .ok d
    | none => .bad
  | .list xs, .int i => match L2.atI xs i with
    | some d => .ok d
    | none => .bad
  | .str x, .int i => if x.length ≤ sizeLine then match L2.atI x.cps.toList i with
    | some c => .ok (.str ⟨#[c]⟩)
    | none => .bad else .bad
  | .dict kvs, x => if keyOk x = true then match getD' kvs x with
    | some d => .ok d
    | none => .bad else .bad
  | _, _ => .bad
def partL : List D → Res (Option Int)
  | [] => .ok none
  | [.int i] => .ok (some i)
  | _ => .bad
def cutD {α : Type} (xs : List α) (lo hi : Option Int) : List α := (xs.drop (HT.sIx xs.length 0 lo)).take (HT.sIx xs.length xs.length hi - HT.sIx xs.length 0 lo)
def evalSl : D → Option Int → Option Int → Res D
  | .tuple xs, l, h => .ok (.tuple (cutD xs l h))
  | .list xs, l, h => .ok (.list (cutD xs l h))
  | .str z, l, h => if z.length ≤ sizeLine then .ok (.str (L2.cutS z l h)) else .bad
  | _, _, _ => .bad
def evalRev : D → Res D
  | .tuple xs => .ok (.tuple xs.reverse)
  | .list xs => .ok (.list xs.reverse)
  | _ => .bad
def zip2D : List D → List D → List D
  | x :: xs, y :: ys => .tuple [x, y] :: zip2D xs ys
  | _, _ => []
def zip3D : List D → List D → List D → List D
  | x :: xs, y :: ys, z :: zs => .tuple [x, y, z] :: zip3D xs ys zs
  | _, _, _ => []
def enumD : Nat → List D → List D
  | _, [] => []
  | i, x :: xs => .tuple [.int i, x] :: enumD (i + 1) xs
def sr1 (f : D → Res (List D)) : List D → Res (List D)
  | [d] => f d
  | _ => .bad
def sr2 (f : D → D → Res (List D)) : List D → Res (List D)
  | [d, e] => f d e
  | _ => .bad
def sr3 (f : D → D → D → Res (List D)) : List D → Res (List D)
  | [d, e, g] => f d e g
  | _ => .bad
def okL {α : Type} (o : Option α) (f : α → List D) : Res (List D) := match o with
  | some a => .ok (f a)
  | none => .bad
def seqS : D → Res (List D)
  | .tuple xs => .ok xs
  | .list xs => .ok xs
  | .str x => .ok (x.cps.toList.map fun c => .str ⟨#[c]⟩)
  | _ => .bad
def rg1S : D → Res (List D)
  | .int j => if bnd j = true then .ok (rangeL 0 j) else .bad
  | _ => .bad
def rg2S : D → D → Res (List D)
  | .int i, .int j => if bnd i = true ∧ bnd j = true then .ok (rangeL i j) else .bad
  | _, _ => .bad
def rg3S : D → D → D → Res (List D)
  | .int i, .int j, .int c => if c = -1 ∧ bnd i = true ∧ bnd j = true then .ok (rangeDown i j) else .bad
  | _, _, _ => .bad
def enumS (d : D) : Res (List D) := okL (itemsOf d) (enumD 0)
def zip2S (d e : D) : Res (List D) := okL ((itemsOf d).bind fun xs => (itemsOf e).map fun ys => (xs, ys)) fun p => zip2D p.1 p.2
def zip3S (d e g : D) : Res (List D) := okL ((itemsOf d).bind fun xs => (itemsOf e).bind fun ys => (itemsOf g).map fun zs => (xs, ys, zs)) fun p => zip3D p.1 p.2.1 p.2.2
/-- the items of what is walked -/
def evalSrc : Sk → List D → Res (List D)
  | .seq => sr1 seqS
  | .range1 => sr1 rg1S
  | .range2 => sr2 rg2S
  | .range3 => sr3 rg3S
  | .enum => sr1 enumS
  | .zip2 => sr2 zip2S
  | .zip3 => sr3 zip3S

/-! ### slots -/
def getV (ρ : Env) (i : Nat) : Res D := match ρ[i]? with
  | some (.val d) => .ok d
  | _ => .bad
def getB (ρ : Env) (i : Nat) : Res D := match ρ[i]? with
  | some (.val d) => .ok d
  | some (.own d) => .ok d
  | _ => .bad
def putsV (ρ : Env) : List Nat → List D → Option Env
  | [], [] => some ρ
  | i :: is, d :: ds => putsV (ρ.set i (.val d)) is ds
  | _, _ => none
def bindT (ρ : Env) : Tg → D → Option Env
  | .n i, d => some (ρ.set i (.val d))
  | .t is, .tuple ds => if is.length = ds.length then putsV ρ is ds else none
  | .t is, .list ds => if is.length = ds.length then putsV ρ is ds else none
  | .t _, _ => none
def wipeR (ρ : Env) : List Nat → Env
  | [] => ρ
  | v :: vs => (wipeR ρ vs).set v .non
def freeze (ρ : Env) (i : Nat) : Env := match ρ[i]? with
  | some (.own d) => ρ.set i (.val d)
  | _ => ρ
def freezes (ρ : Env) (is : List Nat) : Env := is.foldl freeze ρ

/-! ### terms -/
/-- an exception within a comprehension is not told -/
def noExc {α : Type} : Res α → Res α
  | .exc _ => .bad
  | r => r
def asBool : D → Res Bool
  | .bool b => .ok b
  | _ => .bad
/-- the items that the tests keep, and what is made of them -/
def compL (turn : D → Res (Option D)) : List D → Res (List D)
  | [] => .ok []
  | x :: xs => (turn x).bind fun o => (compL turn xs).bind fun r => match o with
    | some y => .ok (y :: r)
    | none => .ok r
mutual
def evalE (C : Nat → List D → Res D) : Ex → Env → Res D
  | .k d, _ => .ok d
  | .v i, ρ => getV ρ i
  | .b i, ρ => getB ρ i
  | .tup es, ρ => (evalEs C es ρ).bind fun ds => if ds.length ≤ sizeLine then .ok (.tuple ds) else .bad
  | .lst es, ρ => (evalEs C es ρ).bind fun ds => if ds.length ≤ sizeLine then .ok (.list ds) else .bad
  | .bin o x y, ρ => (evalE C x ρ).bind fun a => (evalE C y ρ).bind fun b => evalBin o a b
  | .cmp o x y, ρ => (evalE C x ρ).bind fun a => (evalE C y ρ).bind fun b => evalCmp o a b
  | .chain o o' x y z, ρ => (evalE C x ρ).bind fun a => (evalE C y ρ).bind fun b => (evalCmp o a b).bind fun r => (asBool r).bind fun t =>
      if t = true then (evalE C z ρ).bind fun c => evalCmp o' b c else .ok (.bool false)
  | .neg x, ρ => (evalE C x ρ).bind fun a => match a with
    | .int i => .ok (.int (-i))
    | _ => .bad
  | .not x, ρ => (evalE C x ρ).bind fun a => (asBool a).bind fun t => .ok (.bool (!t))
  | .and x y, ρ => (evalE C x ρ).bind fun a => (asBool a).bind fun t => if t = true then evalE C y ρ else .ok (.bool false)
  | .or x y, ρ => (evalE C x ρ).bind fun a => (asBool a).bind fun t => if t = true then .ok (.bool true) else evalE C y ρ
  | .ife c x y, ρ => (evalE C c ρ).bind fun a => (asBool a).bind fun t => if t = true then evalE C x ρ else evalE C y ρ
  | .call f es, ρ => (evalEs C es ρ).bind fun ds => C f ds
  | .bt f es, ρ => (evalEs C es ρ).bind fun ds => evalBt f ds
  | .ix x i, ρ => (evalE C x ρ).bind fun a => (evalE C i ρ).bind fun b => evalIx a b
  | .sl x lo hi, ρ => (evalE C x ρ).bind fun a => ((evalEs C lo ρ).bind partL).bind fun l => ((evalEs C hi ρ).bind partL).bind fun h => evalSl a l h
  | .rev x, ρ => (evalE C x ρ).bind evalRev
  | .comp e own t sk src conds, ρ => (evalEs C src ρ).bind fun ds => (evalSrc sk ds).bind fun items =>
      (noExc (compL (fun d => match bindT (wipeR ρ own) t d with
        | some ρ' => (evalAll C conds ρ').bind fun ok => if ok = true then (evalE C e ρ').bind fun y => .ok (some y) else .ok none
        | none => .bad) items)).bind fun r => if items.length ≤ sizeLine then .ok (.list r) else .bad
  | .dict0, _ => .ok (.dict [])
  | .dict1 x y, ρ => (evalE C x ρ).bind fun a => (evalE C y ρ).bind fun b => if keyOk a = true then .ok (.dict [(a, b)]) else .bad
def evalEs (C : Nat → List D → Res D) : List Ex → Env → Res (List D)
  | [], _ => .ok []
  | e :: es, ρ => (evalE C e ρ).bind fun d => (evalEs C es ρ).bind fun ds => .ok (d :: ds)
/-- the tests of a comprehension, one after the other -/
def evalAll (C : Nat → List D → Res D) : List Ex → Env → Res Bool
  | [], _ => .ok true
  | e :: es, ρ => (evalE C e ρ).bind fun d => (asBool d).bind fun t => if t = true then evalAll C es ρ else .ok false
end

/-! ### statements -/
inductive Fl where
  | nx (ρ : Env)
  | rt (d : D)
  | ex (c : Nat)
  | bad
def Res.fl {α : Type} (r : Res α) (f : α → Fl) : Fl := match r with
  | .ok a => f a
  | .exc c => .ex c
  | .bad => .bad
def Fl.next (r : Fl) (f : Env → Fl) : Fl := match r with
  | .nx ρ => f ρ
  | r => r
def optFl {α : Type} (o : Option α) (f : α → Fl) : Fl := match o with
  | some a => f a
  | none => .bad
def putKV (kvs : List (D × D)) (x y : D) : List (D × D) :=
  if hasKey kvs x = true then kvs.map fun p => if PyData.eqv p.1 x = true then (p.1, y) else p else kvs ++ [(x, y)]
/-- the own list or dict at a place, changed -/
def chg (ρ : Env) (i : Nat) (f : D → Option D) : Fl := match ρ[i]? with
  | some (.own d) => match f d with
    | some d' => .nx (ρ.set i (.own d'))
    | none => .bad
  | _ => .bad
def ownL (ρ : Env) (i : Nat) : Bool := match ρ[i]? with
  | some (.own (.list _)) => true
  | _ => false
def ownA (ρ : Env) (i : Nat) : Bool := match ρ[i]? with
  | some (.own _) => true
  | _ => false
def appD (y : D) : D → Option D
  | .list xs => if xs.length < sizeLine then some (.list (xs ++ [y])) else none
  | _ => none
def extD (y : D) : D → Option D
  | .list xs => match itemsOf y with
    | some ys => if xs.length + ys.length ≤ sizeLine then some (.list (xs ++ ys)) else none
    | none => none
  | _ => none
def putD (x y : D) : D → Option D
  | .list xs => match x with
    | .int i => (L2.ixN xs.length i).map fun j => .list (xs.set j y)
    | _ => none
  | .dict kvs => if kvs.length < sizeLine ∧ keyOk x = true then some (.dict (putKV kvs x y)) else none
  | _ => none
def dpopD (x : D) : D → Option D
  | .dict kvs => if keyOk x = true ∧ hasKey kvs x = true then some (.dict (kvs.filter fun p => !PyData.eqv p.1 x)) else none
  | _ => none
def ownD : D → Bool
  | .list _ => true
  | .dict _ => true
  | _ => false
def loopL (turn : Env → D → Fl) : List D → Env → Fl
  | [], ρ => .nx ρ
  | x :: xs, ρ => (turn ρ x).next fun ρ' => loopL turn xs ρ'
def whileL (test : Env → Res D) (body : Env → Fl) : Nat → Env → Fl
  | 0, _ => .bad
  | n + 1, ρ => ((test ρ).bind asBool).fl fun t => if t = true then (body ρ).next fun ρ' => whileL test body n ρ' else .nx ρ
/-- turns that a while is given -/
def whileTurns : Nat := 4096
mutual
def evalS (C : Nat → List D → Res D) : Stm → Env → Fl
  | .fz is, ρ => .nx (freezes ρ is)
  | .set t e, ρ => (evalE C e ρ).fl fun d => optFl (bindT ρ t d) .nx
  | .own i e, ρ => (evalE C e ρ).fl fun d => if ownD d = true then .nx (ρ.set i (.own d)) else .nx (ρ.set i (.val d))
  | .app i e, ρ => if ownL ρ i = true then (evalE C e ρ).fl fun y => chg ρ i (appD y) else .bad
  | .ext i e, ρ => if ownL ρ i = true then (evalE C e ρ).fl fun y => chg ρ i (extD y) else .bad
  | .put i x e, ρ => if ownA ρ i = true then (evalE C e ρ).fl fun y => (evalE C x ρ).fl fun k => chg ρ i (putD k y) else .bad
  | .dpop i x, ρ => if ownA ρ i = true then (evalE C x ρ).fl fun k => chg ρ i (dpopD k) else .bad
  | .ite c a b, ρ => ((evalE C c ρ).bind asBool).fl fun t => if t = true then evalSs C a ρ else evalSs C b ρ
  | .loop t sk src body, ρ => ((evalEs C src ρ).bind (evalSrc sk)).fl fun items => loopL (fun ρ d => optFl (bindT ρ t d) fun ρ' => evalSs C body ρ') items ρ
  | .loopPop _ _ _ _, _ => .bad
  | .while c body, ρ => whileL (evalE C c) (evalSs C body) whileTurns ρ
  | .ret e, ρ => (evalE C e ρ).fl .rt
  | .raise c, _ => .ex c
def evalSs (C : Nat → List D → Res D) : List Stm → Env → Fl
  | [], ρ => .nx ρ
  | s :: ss, ρ => (evalS C s ρ).next fun ρ' => evalSs C ss ρ'
end

/-- a def: how many parameters, how many slots, its body -/
structure Fn where
  np : Nat
  ns : Nat
  body : List Stm
def startR (f : Fn) (ds : List D) : Env := ds.map .val ++ List.replicate (f.ns - ds.length) .non
def runFn (C : Nat → List D → Res D) (f : Fn) (ds : List D) : Res D :=
  if ds.length = f.np then match evalSs C f.body (startR f ds) with
    | .rt d => .ok d
    | .nx _ => .ok .none
    | .ex c => .exc c
    | .bad => .bad
  else .bad
/-- the call of a def of the table, n calls deep at most -/
def callF (T : Nat → Option Fn) : Nat → Nat → List D → Res D
  | 0, _, _ => .bad
  | n + 1, f, ds => match T f with
    | some fn => runFn (callF T n) fn ds
    | none => .bad
end BP

/-! How data lie in the heap; slots; what is wanted behind a term. -/
namespace BP
open PySem PySem.Spec PyProof.Rows L2

/-- a list that stays: tracked (none of O), or an object of the written part -/
def LsO (K : PySem.W.Frag) (O : Addr → Prop) (H : Hp) (a : Addr) (xs : List V) : Prop :=
  (¬ O a ∧ Rd H a (.lst xs)) ∨
    ∃ (o : Obj) (its : Array Value) (n : Nat), K.lookup a = some o ∧ o.cls = .type "list" ∧ o.dict = none ∧ o.data = .seq its n ∧ its.size ≤ sizeLine ∧ Vals xs its.toList
def TsO (_ : PySem.W.Frag) (O : Addr → Prop) (H : Hp) (a : Addr) (xs : List V) : Prop := ¬ O a ∧ H a = some (.tup xs)
theorem LsO.sq {K : PySem.W.Frag} {O : Addr → Prop} {H : Hp} {a : Addr} {xs : List V} (h : LsO K O H a xs) : SqL K H a xs := h.elim (fun z => .inl z.2) .inr
theorem TsO.sq {K : PySem.W.Frag} {O : Addr → Prop} {H : Hp} {a : Addr} {xs : List V} (h : TsO K O H a xs) : SqT K H a xs := .inl (.inl h.2)

/-! d stands at v, in objects that are none of O -/
mutual
inductive Rep (K : PySem.W.Frag) (O : Addr → Prop) (H : Hp) : V → D → Prop
  | non : Rep K O H .non .none
  | bl (b : Bool) : Rep K O H (.bl b) (.bool b)
  | int (i : Int) : Rep K O H (.int i) (.int i)
  | str (x : Str) : Rep K O H (.str x) (.str x)
  | lst {a : Addr} {xs : List V} {ds : List D} (h : LsO K O H a xs) (hs : Reps K O H xs ds) : Rep K O H (.ref a) (.list ds)
  | tup {a : Addr} {xs : List V} {ds : List D} (h : TsO K O H a xs) (hs : Reps K O H xs ds) : Rep K O H (.ref a) (.tuple ds)
  | dct {a : Addr} {kvs : List (List Key × V)} {ps : List (D × D)} (ho : ¬ O a) (h : H a = some (.dT kvs)) (hs : RepK K O H kvs ps) : Rep K O H (.ref a) (.dict ps)
inductive Reps (K : PySem.W.Frag) (O : Addr → Prop) (H : Hp) : List V → List D → Prop
  | nil : Reps K O H [] []
  | cons {v : V} {vs : List V} {d : D} {ds : List D} (h : Rep K O H v d) (hs : Reps K O H vs ds) : Reps K O H (v :: vs) (d :: ds)
inductive RepK (K : PySem.W.Frag) (O : Addr → Prop) (H : Hp) : List (List Key × V) → List (D × D) → Prop
  | nil : RepK K O H [] []
  | cons {ns : List Int} {v : V} {kvs : List (List Key × V)} {d : D} {ps : List (D × D)} (h : Rep K O H v d) (hs : RepK K O H kvs ps) :
      RepK K O H ((ns.map Sum.inl, v) :: kvs) ((.tuple (ns.map PyData.int), d) :: ps)
end
/-- a list or dict that stands nowhere else -/
inductive Own (K : PySem.W.Frag) (O : Addr → Prop) (H : Hp) : Addr → D → Prop
  | lst {a : Addr} {xs : List V} {ds : List D} (h : H a = some (.lst xs)) (hs : Reps K O H xs ds) : Own K O H a (.list ds)
  | dct {a : Addr} {kvs : List (List Key × V)} {ps : List (D × D)} (h : H a = some (.dT kvs)) (hs : RepK K O H kvs ps) : Own K O H a (.dict ps)

/-! what is none of O stays -/
def Keep (O : Addr → Prop) (H H' : Hp) : Prop := ∀ b o, ¬ O b → H b = some o → H' b = some o
theorem Keep.of {O : Addr → Prop} {H H' : Hp} (s : Same H H') : Keep O H H' := fun b o _ h => s b o h
theorem Keep.rd {O : Addr → Prop} {H H' : Hp} {a : Addr} {u : HO} (e : Keep O H H') (ho : ¬ O a) (h : Rd H a u) : Rd H' a u := by
  rcases h with h | ⟨o, h⟩
  · exact .inl (e _ _ ho h)
  · exact .inr ⟨o, e _ _ ho h⟩
theorem LsO.keep {O : Addr → Prop} {K : PySem.W.Frag} {H H' : Hp} {a : Addr} {xs : List V} (e : Keep O H H') (h : LsO K O H a xs) : LsO K O H' a xs :=
  h.elim (fun z => .inl ⟨z.1, e.rd z.1 z.2⟩) .inr
theorem TsO.keep {O : Addr → Prop} {K : PySem.W.Frag} {H H' : Hp} {a : Addr} {xs : List V} (e : Keep O H H') (h : TsO K O H a xs) : TsO K O H' a xs := ⟨h.1, e _ _ h.1 h.2⟩
theorem rd_none {H : Hp} {a : Addr} {u : HO} (h : Rd H a u) (z : H a = none) : False := by
  rcases h with h | ⟨o, h⟩ <;> (rw [z] at h; cases h)
section
variable {K : PySem.W.Frag} {O O' : Addr → Prop} {H H' : Hp}
theorem LsO.weak (w : ∀ b, O' b → O b ∨ H b = none) {a : Addr} {xs : List V} (h : LsO K O H a xs) : LsO K O' H a xs :=
  h.elim (fun z => .inl ⟨fun q => (w _ q).elim z.1 (rd_none z.2), z.2⟩) .inr
theorem TsO.weak (w : ∀ b, O' b → O b ∨ H b = none) {a : Addr} {xs : List V} (h : TsO K O H a xs) : TsO K O' H a xs := ⟨fun q => (w _ q).elim h.1 (rd_none (.inl h.2)), h.2⟩
mutual
theorem Rep.keep (e : Keep O H H') : ∀ {v : V} {d : D}, Rep K O H v d → Rep K O H' v d
  | _, _, .non => .non
  | _, _, .bl b => .bl b
  | _, _, .int i => .int i
  | _, _, .str x => .str x
  | _, _, .lst h hs => .lst (h.keep e) (Reps.keep e hs)
  | _, _, .tup h hs => .tup (h.keep e) (Reps.keep e hs)
  | _, _, .dct ho h hs => .dct ho (e _ _ ho h) (RepK.keep e hs)
theorem Reps.keep (e : Keep O H H') : ∀ {vs : List V} {ds : List D}, Reps K O H vs ds → Reps K O H' vs ds
  | _, _, .nil => .nil
  | _, _, .cons h hs => .cons (Rep.keep e h) (Reps.keep e hs)
theorem RepK.keep (e : Keep O H H') : ∀ {vs : List (List Key × V)} {ds : List (D × D)}, RepK K O H vs ds → RepK K O H' vs ds
  | _, _, .nil => .nil
  | _, _, .cons h hs => .cons (Rep.keep e h) (RepK.keep e hs)
end
mutual
/-- fewer are shut out; and those shut out anew aren't there -/
theorem Rep.weak (w : ∀ b, O' b → O b ∨ H b = none) : ∀ {v : V} {d : D}, Rep K O H v d → Rep K O' H v d
  | _, _, .non => .non
  | _, _, .bl b => .bl b
  | _, _, .int i => .int i
  | _, _, .str x => .str x
  | _, _, .lst h hs => .lst (h.weak w) (Reps.weak w hs)
  | _, _, .tup h hs => .tup (h.weak w) (Reps.weak w hs)
  | _, _, .dct ho h hs => .dct (fun q => by
      rcases w _ q with z | z
      · exact ho z
      · rw [z] at h; cases h) h (RepK.weak w hs)
theorem Reps.weak (w : ∀ b, O' b → O b ∨ H b = none) : ∀ {vs : List V} {ds : List D}, Reps K O H vs ds → Reps K O' H vs ds
  | _, _, .nil => .nil
  | _, _, .cons h hs => .cons (Rep.weak w h) (Reps.weak w hs)
theorem RepK.weak (w : ∀ b, O' b → O b ∨ H b = none) : ∀ {vs : List (List Key × V)} {ds : List (D × D)}, RepK K O H vs ds → RepK K O' H vs ds
  | _, _, .nil => .nil
  | _, _, .cons h hs => .cons (Rep.weak w h) (RepK.weak w hs)
end
theorem Own.keep (e : Keep O H H') {a : Addr} (ha : ∀ o, H a = some o → H' a = some o) {d : D} (h : Own K O H a d) : Own K O H' a d := by
  cases h with
  | lst h hs => exact .lst (ha _ h) (hs.keep e)
  | dct h hs => exact .dct (ha _ h) (hs.keep e)
theorem Own.same (e : Same H H') {a : Addr} {d : D} (h : Own K O H a d) : Own K O H' a d := h.keep (.of e) fun o q => e a o q
theorem Own.weak (w : ∀ b, O' b → O b ∨ H b = none) {a : Addr} {d : D} (h : Own K O H a d) : Own K O' H a d := by
  cases h with
  | lst h hs => exact .lst h (hs.weak w)
  | dct h hs => exact .dct h (hs.weak w)
theorem Own.rep {a : Addr} {d : D} (h : Own K O H a d) (ho : ¬ O a) : Rep K O H (.ref a) d := by
  cases h with
  | lst h hs => exact .lst (.inl ⟨ho, .inl h⟩) hs
  | dct h hs => exact .dct ho h hs
theorem Own.there {a : Addr} {d : D} (h : Own K O H a d) : H a ≠ none := by
  cases h with
  | lst h _ => rw [h]; intro z; cases z
  | dct h _ => rw [h]; intro z; cases z
theorem Own.ownD {a : Addr} {d : D} (h : Own K O H a d) : BP.ownD d = true := by cases h <;> rfl

theorem Rep.same (e : Same H H') {v : V} {d : D} (h : Rep K O H v d) : Rep K O H' v d := h.keep (.of e)
theorem Reps.same (e : Same H H') {v : List V} {d : List D} (h : Reps K O H v d) : Reps K O H' v d := h.keep (.of e)
theorem RepK.same (e : Same H H') {v : List (List Key × V)} {d : List (D × D)} (h : RepK K O H v d) : RepK K O H' v d := h.keep (.of e)

/-! lists of them -/
theorem Reps.length : ∀ {vs : List V} {ds : List D}, Reps K O H vs ds → vs.length = ds.length
  | _, _, .nil => rfl
  | _, _, .cons _ hs => by rw [List.length_cons, List.length_cons, Reps.length hs]
theorem RepK.length : ∀ {vs : List (List Key × V)} {ds : List (D × D)}, RepK K O H vs ds → vs.length = ds.length
  | _, _, .nil => rfl
  | _, _, .cons _ hs => by rw [List.length_cons, List.length_cons, RepK.length hs]
theorem Reps.append : ∀ {vs ws : List V} {ds es : List D}, Reps K O H vs ds → Reps K O H ws es → Reps K O H (vs ++ ws) (ds ++ es)
  | _, _, _, _, .nil, s => s
  | _, _, _, _, .cons h hs, s => .cons h (Reps.append hs s)
theorem Reps.take : ∀ {vs : List V} {ds : List D} (n : Nat), Reps K O H vs ds → Reps K O H (vs.take n) (ds.take n)
  | _, _, 0, _ => .nil
  | _, _, _ + 1, .nil => .nil
  | _, _, n + 1, .cons h hs => .cons h (Reps.take n hs)
theorem Reps.drop : ∀ {vs : List V} {ds : List D} (n : Nat), Reps K O H vs ds → Reps K O H (vs.drop n) (ds.drop n)
  | _, _, 0, r => r
  | _, _, _ + 1, .nil => .nil
  | _, _, n + 1, .cons h hs => Reps.drop n hs
theorem Reps.get : ∀ {vs : List V} {ds : List D} {i : Nat} {d : D}, Reps K O H vs ds → ds[i]? = some d → ∃ v, vs[i]? = some v ∧ Rep K O H v d
  | _, _, _, _, .nil, e => by simp at e
  | _, _, 0, _, .cons h _, e => by simp at e; subst e; exact ⟨_, rfl, h⟩
  | _, _, i + 1, _, .cons _ hs, e => by
    obtain ⟨v, h1, h2⟩ := Reps.get (i := i) hs (by simpa using e)
    exact ⟨v, by simpa using h1, h2⟩
theorem Reps.get' : ∀ {vs : List V} {ds : List D} {i : Nat} {v : V}, Reps K O H vs ds → vs[i]? = some v → ∃ d, ds[i]? = some d ∧ Rep K O H v d
  | _, _, _, _, .nil, e => by simp at e
  | _, _, 0, _, .cons h _, e => by simp at e; subst e; exact ⟨_, rfl, h⟩
  | _, _, i + 1, _, .cons _ hs, e => by
    obtain ⟨v, h1, h2⟩ := Reps.get' (i := i) hs (by simpa using e)
    exact ⟨v, by simpa using h1, h2⟩
theorem Reps.set {v : V} {d : D} (r : Rep K O H v d) : ∀ {vs : List V} {ds : List D} (i : Nat), Reps K O H vs ds → Reps K O H (vs.set i v) (ds.set i d)
  | _, _, _, .nil => .nil
  | _, _, 0, .cons _ t => .cons r t
  | _, _, i + 1, .cons q t => .cons q (Reps.set r i t)
theorem Reps.snoc {v : V} {d : D} (r : Rep K O H v d) {vs : List V} {ds : List D} (h : Reps K O H vs ds) : Reps K O H (vs ++ [v]) (ds ++ [d]) := h.append (.cons r .nil)
theorem Reps.reverse : ∀ {vs : List V} {ds : List D}, Reps K O H vs ds → Reps K O H vs.reverse ds.reverse
  | _, _, .nil => .nil
  | _, _, .cons h hs => by
    rw [List.reverse_cons, List.reverse_cons]
    exact (Reps.reverse hs).append (.cons h .nil)
theorem Reps.rep : ∀ {vs : List V} {ds : List D} (n : Nat), Reps K O H vs ds → Reps K O H (List.replicate n vs).flatten (List.replicate n ds).flatten
  | _, _, 0, _ => .nil
  | _, _, n + 1, h => by
    rw [List.replicate_succ, List.replicate_succ, List.flatten_cons, List.flatten_cons]
    exact h.append (Reps.rep n h)
theorem Reps.cut {vs : List V} {ds : List D} (lo hi : Option Int) (h : Reps K O H vs ds) : Reps K O H (cutV vs lo hi) (cutD ds lo hi) := by
  unfold cutV cutD
  rw [h.length]
  exact (h.drop _).take _
theorem Reps.ints : ∀ {vs : List V} {ns : List Int}, Reps K O H vs (ns.map PyData.int) → vs = ns.map V.int
  | _, [], .nil => rfl
  | _, n :: ns, .cons h hs => by
    cases h
    rw [Reps.ints hs]
    rfl
theorem Reps.of_ints : ∀ ns : List Int, Reps K O H (ns.map V.int) (ns.map PyData.int)
  | [] => .nil
  | n :: ns => .cons (.int n) (Reps.of_ints ns)
theorem intsOf_eq : ∀ {ds : List D} {ns : List Int}, intsOf ds = some ns → ds = ns.map PyData.int
  | [], ns, h => by simp [intsOf] at h; subst h; rfl
  | d :: ds, ns, h => by
    cases d with
    | int i =>
      simp only [intsOf, Option.map_eq_some_iff] at h
      obtain ⟨m, h1, h2⟩ := h
      subst h2
      rw [intsOf_eq h1]
      rfl
    | _ => simp [intsOf] at h
theorem boolsOf_eq : ∀ {ds : List D} {ns : List Bool}, boolsOf ds = some ns → ds = ns.map PyData.bool
  | [], ns, h => by simp [boolsOf] at h; subst h; rfl
  | d :: ds, ns, h => by
    cases d with
    | bool i =>
      simp only [boolsOf, Option.map_eq_some_iff] at h
      obtain ⟨m, h1, h2⟩ := h
      subst h2
      rw [boolsOf_eq h1]
      rfl
    | _ => simp [boolsOf] at h
theorem Reps.bools : ∀ {vs : List V} {ns : List Bool}, Reps K O H vs (ns.map PyData.bool) → vs = ns.map V.bl
  | _, [], .nil => rfl
  | _, n :: ns, .cons h hs => by
    cases h
    rw [Reps.bools hs]
    rfl

/-! d stands at v, or v is an own list or dict -/
inductive RB (K : PySem.W.Frag) (O : Addr → Prop) (H : Hp) : V → D → Prop
  | r {v : V} {d : D} (h : Rep K O H v d) : RB K O H v d
  | o {a : Addr} {d : D} (ho : O a) (h : Own K O H a d) : RB K O H (.ref a) d
inductive RBs (K : PySem.W.Frag) (O : Addr → Prop) (H : Hp) : List V → List D → Prop
  | nil : RBs K O H [] []
  | cons {v : V} {vs : List V} {d : D} {ds : List D} (h : RB K O H v d) (hs : RBs K O H vs ds) : RBs K O H (v :: vs) (d :: ds)
theorem RB.same (e : Same H H') {v : V} {d : D} (h : RB K O H v d) : RB K O H' v d := by
  cases h with
  | r h => exact .r (h.same e)
  | o ho h => exact .o ho (h.same e)
theorem RB.list {v : V} {ds : List D} (h : RB K O H v (.list ds)) : ∃ a xs, v = .ref a ∧ SqL K H a xs ∧ Reps K O H xs ds := by
  cases h with
  | r h => cases h with
    | lst h hs => exact ⟨_, _, rfl, h.sq, hs⟩
  | o ho h => cases h with
    | lst h hs => exact ⟨_, _, rfl, .inl (.inl h), hs⟩
theorem RB.tuple {v : V} {ds : List D} (h : RB K O H v (.tuple ds)) : ∃ a xs, v = .ref a ∧ H a = some (.tup xs) ∧ Reps K O H xs ds := by
  cases h with
  | r h => cases h with
    | tup h hs => exact ⟨_, _, rfl, h.2, hs⟩
  | o ho h => cases h
theorem RB.tupleR {v : V} {ds : List D} (h : RB K O H v (.tuple ds)) : Rep K O H v (.tuple ds) := by
  cases h with
  | r h => exact h
  | o ho h => cases h
theorem RB.dict {v : V} {ps : List (D × D)} (h : RB K O H v (.dict ps)) : ∃ a kvs, v = .ref a ∧ H a = some (.dT kvs) ∧ RepK K O H kvs ps := by
  cases h with
  | r h => cases h with
    | dct ho h hs => exact ⟨_, _, rfl, h, hs⟩
  | o ho h => cases h with
    | dct h hs => exact ⟨_, _, rfl, h, hs⟩
theorem RB.int {v : V} {i : Int} (h : RB K O H v (.int i)) : v = .int i := by
  cases h with
  | r h => cases h; rfl
  | o ho h => cases h
theorem RB.bool {v : V} {i : Bool} (h : RB K O H v (.bool i)) : v = .bl i := by
  cases h with
  | r h => cases h; rfl
  | o ho h => cases h
theorem RB.str {v : V} {i : Str} (h : RB K O H v (.str i)) : v = .str i := by
  cases h with
  | r h => cases h; rfl
  | o ho h => cases h
theorem RB.none {v : V} (h : RB K O H v .none) : v = .non := by
  cases h with
  | r h => cases h; rfl
  | o ho h => cases h
/-! data as the library's equality reads them -/
mutual
theorem Rep.dp : ∀ {v : V} {d : D}, Rep K O H v d → d.canLay0 = true → Dp K H v d
  | _, _, .non, _ => .non
  | _, _, .bl b, _ => .bl b
  | _, _, .int i, _ => .int i
  | _, _, .str x, _ => .str x
  | _, _, .lst h hs, c => .lst h.sq (Reps.dp hs (by simpa [PyData.canLay0] using c))
  | _, _, .tup h hs, c => .tup h.sq (Reps.dp hs (by simpa [PyData.canLay0] using c))
  | _, _, .dct _ _ _, c => by simp [PyData.canLay0] at c
theorem Reps.dp : ∀ {vs : List V} {ds : List D}, Reps K O H vs ds → PyData.canLayAll0 ds = true → DpAll K H vs ds
  | _, _, .nil, _ => .nil
  | _, _, .cons (d := d) (ds := ds) h hs, c => by
    have c' : PyData.canLay0 d = true ∧ PyData.canLayAll0 ds = true := by simpa [PyData.canLayAll0] using c
    exact .cons (Rep.dp h c'.1) (Reps.dp hs c'.2)
end
theorem RB.dp {v : V} {d : D} (h : RB K O H v d) (c : d.canLay0 = true) : Dp K H v d := by
  cases h with
  | r h => exact h.dp c
  | o ho h => cases h with
    | lst h hs => exact .lst (.inl (.inl h)) (hs.dp (by simpa [PyData.canLay0] using c))
    | dct h hs => simp [PyData.canLay0] at c
end
/-! ### slots -/
structure Sok (K : PySem.W.Frag) (O : Addr → Prop) (σ : L2.St) (ρ : Env) (H : Hp) : Prop where
  len : σ.length = ρ.length
  val : ∀ (i : Nat) (d : D), ρ[i]? = some (Slot.val d) → ∃ v, σ[i]? = some (some v) ∧ Rep K O H v d
  own : ∀ (i : Nat) (d : D), ρ[i]? = some (Slot.own d) → ∃ a, σ[i]? = some (some (.ref a)) ∧ O a ∧ Own K O H a d
  inj : ∀ (i j : Nat) (d e : D) (a : Addr), ρ[i]? = some (Slot.own d) → ρ[j]? = some (Slot.own e) → σ[i]? = some (some (.ref a)) → σ[j]? = some (some (.ref a)) → i = j
  dom : ∀ a, O a → H a ≠ none
section
variable {K : PySem.W.Frag} {O O' : Addr → Prop} {H H' : Hp} {σ : L2.St} {ρ : Env}
theorem Sok.same (e : Same H H') (h : Sok K O σ ρ H) : Sok K O σ ρ H' :=
  ⟨h.len, fun i d q => let ⟨v, a, b⟩ := h.val i d q; ⟨v, a, b.same e⟩, fun i d q => let ⟨a, x, y, z⟩ := h.own i d q; ⟨a, x, y, z.same e⟩, h.inj,
    fun a oa z => h.dom a oa (by
      cases q : H a with
      | none => rfl
      | some u => rw [e a u q] at z; cases z)⟩
/-- what is wanted behind a term, in two strengths -/
def EB (K : PySem.W.Frag) (O : Addr → Prop) (E : Nat → Hp → Prop) (r : Res D) (Q : VK) (H : Hp) : Prop := match r with
  | .ok d => ∀ v H', Same H H' → RB K O H' v d → Q v H'
  | .exc c => ∀ H', Same H H' → E c H'
  | .bad => False
def Fresh (K : PySem.W.Frag) (O : Addr → Prop) (H H' : Hp) (v : V) (d : D) : Prop := ∃ a, v = .ref a ∧ H a = none ∧ Own K (fun b => O b ∨ b = a) H' a d
def ES (K : PySem.W.Frag) (O : Addr → Prop) (fr : Bool) (E : Nat → Hp → Prop) (r : Res D) (Q : VK) (H : Hp) : Prop := match r with
  | .ok d => ∀ v H', Same H H' → Rep K O H' v d → (fr = true → ownD d = true → Fresh K O H H' v d) → Q v H'
  | .exc c => ∀ H', Same H H' → E c H'
  | .bad => False
def EBs (K : PySem.W.Frag) (O : Addr → Prop) (E : Nat → Hp → Prop) (r : Res (List D)) (Q : List V → Hp → Prop) (H : Hp) : Prop := match r with
  | .ok d => ∀ v H', Same H H' → RBs K O H' v d → Q v H'
  | .exc c => ∀ H', Same H H' → E c H'
  | .bad => False
def ESs (K : PySem.W.Frag) (O : Addr → Prop) (E : Nat → Hp → Prop) (r : Res (List D)) (Q : List V → Hp → Prop) (H : Hp) : Prop := match r with
  | .ok d => ∀ v H', Same H H' → Reps K O H' v d → Q v H'
  | .exc c => ∀ H', Same H H' → E c H'
  | .bad => False
def ET (E : Nat → Hp → Prop) (r : Res Bool) (Q : Bool → Hp → Prop) (H : Hp) : Prop := match r with
  | .ok t => ∀ H', Same H H' → Q t H'
  | .exc c => ∀ H', Same H H' → E c H'
  | .bad => False
variable {E : Nat → Hp → Prop}
theorem Fresh.weak {v : V} {d : D} {H1 : Hp} (e : Same H H1) (h : Fresh K O H1 H' v d) : Fresh K O H H' v d := by
  obtain ⟨a, h1, h2, h3⟩ := h
  exact ⟨a, h1, e.free h2, h3⟩
theorem ES.same {fr : Bool} {r : Res D} {Q : VK} (e : Same H H') (h : ES K O fr E r Q H) : ES K O fr E r Q H' := by
  cases r with
  | ok d => exact fun v H2 s r f => h v H2 (e.trans s) r fun q q2 => (f q q2).weak e
  | exc c => exact fun H2 s => h H2 (e.trans s)
  | bad => exact h
theorem EB.same {r : Res D} {Q : VK} (e : Same H H') (h : EB K O E r Q H) : EB K O E r Q H' := by
  cases r with
  | ok d => exact fun v H2 s r => h v H2 (e.trans s) r
  | exc c => exact fun H2 s => h H2 (e.trans s)
  | bad => exact h
theorem ESs.same {r : Res (List D)} {Q : List V → Hp → Prop} (e : Same H H') (h : ESs K O E r Q H) : ESs K O E r Q H' := by
  cases r with
  | ok d => exact fun v H2 s r => h v H2 (e.trans s) r
  | exc c => exact fun H2 s => h H2 (e.trans s)
  | bad => exact h
theorem EBs.same {r : Res (List D)} {Q : List V → Hp → Prop} (e : Same H H') (h : EBs K O E r Q H) : EBs K O E r Q H' := by
  cases r with
  | ok d => exact fun v H2 s r => h v H2 (e.trans s) r
  | exc c => exact fun H2 s => h H2 (e.trans s)
  | bad => exact h
theorem ET.same {r : Res Bool} {Q : Bool → Hp → Prop} (e : Same H H') (h : ET E r Q H) : ET E r Q H' := by
  cases r with
  | ok d => exact fun H2 s => h H2 (e.trans s)
  | exc c => exact fun H2 s => h H2 (e.trans s)
  | bad => exact h
theorem Same.refl' (H : Hp) : Same H H := fun _ _ h => h
/-- first a part, borrowed; then the rest -/
theorem EB.bindS {fr : Bool} {r : Res D} {f : D → Res D} {Q : VK} (h : ES K O fr E (r.bind f) Q H) : EB K O E r (fun v H1 => ∃ d, RB K O H1 v d ∧ Same H H1 ∧ ES K O fr E (f d) Q H1) H := by
  cases r with
  | ok d => exact fun v H1 s rb => ⟨d, rb, s, h.same s⟩
  | exc c => exact h
  | bad => exact h
theorem EBs.bindS {fr : Bool} {r : Res (List D)} {f : List D → Res D} {Q : VK} (h : ES K O fr E (r.bind f) Q H) : EBs K O E r (fun v H1 => ∃ d, RBs K O H1 v d ∧ Same H H1 ∧ ES K O fr E (f d) Q H1) H := by
  cases r with
  | ok d => exact fun v H1 s rb => ⟨d, rb, s, h.same s⟩
  | exc c => exact h
  | bad => exact h
theorem ESs.bindS {fr : Bool} {r : Res (List D)} {f : List D → Res D} {Q : VK} (h : ES K O fr E (r.bind f) Q H) : ESs K O E r (fun v H1 => ∃ d, Reps K O H1 v d ∧ Same H H1 ∧ ES K O fr E (f d) Q H1) H := by
  cases r with
  | ok d => exact fun v H1 s rb => ⟨d, rb, s, h.same s⟩
  | exc c => exact h
  | bad => exact h
theorem ET.bindS {fr : Bool} {r : Res Bool} {f : Bool → Res D} {Q : VK} (h : ES K O fr E (r.bind f) Q H) : ET E r (fun v H1 => Same H H1 ∧ ES K O fr E (f v) Q H1) H := by
  cases r with
  | ok d => exact fun H1 s => ⟨s, h.same s⟩
  | exc c => exact h
  | bad => exact h
theorem ET.bindT {r : Res Bool} {f : Bool → Res Bool} {Q : Bool → Hp → Prop} (h : ET E (r.bind f) Q H) : ET E r (fun v H1 => Same H H1 ∧ ET E (f v) Q H1) H := by
  cases r with
  | ok d => exact fun H1 s => ⟨s, h.same s⟩
  | exc c => exact h
  | bad => exact h
theorem ES.toEB {fr : Bool} {r : Res D} {Q : VK} (h : EB K O E r Q H) : ES K O fr E r Q H := by
  cases r with
  | ok d => exact fun v H1 s rb _ => h v H1 s (.r rb)
  | exc c => exact h
  | bad => exact h
theorem ES.mono {fr : Bool} {r : Res D} {Q Q' : VK} (h : ES K O fr E r Q H) (w : ∀ v H', Same H H' → Q v H' → Q' v H') : ES K O fr E r Q' H := by
  cases r with
  | ok d => exact fun v H1 s rb f => w v H1 s (h v H1 s rb f)
  | exc c => exact h
  | bad => exact h
theorem EB.mono {r : Res D} {Q Q' : VK} (h : EB K O E r Q H) (w : ∀ v H', Same H H' → Q v H' → Q' v H') : EB K O E r Q' H := by
  cases r with
  | ok d => exact fun v H1 s rb => w v H1 s (h v H1 s rb)
  | exc c => exact h
  | bad => exact h
theorem EBs.mono {r : Res (List D)} {Q Q' : List V → Hp → Prop} (h : EBs K O E r Q H) (w : ∀ v H', Same H H' → Q v H' → Q' v H') : EBs K O E r Q' H := by
  cases r with
  | ok d => exact fun v H1 s rb => w v H1 s (h v H1 s rb)
  | exc c => exact h
  | bad => exact h
theorem ESs.mono {r : Res (List D)} {Q Q' : List V → Hp → Prop} (h : ESs K O E r Q H) (w : ∀ v H', Same H H' → Q v H' → Q' v H') : ESs K O E r Q' H := by
  cases r with
  | ok d => exact fun v H1 s rb => w v H1 s (h v H1 s rb)
  | exc c => exact h
  | bad => exact h
end
end BP

/-! The rules by values: operators, comparisons, items, slices, calls of built-ins. -/
namespace BP
open PySem PySem.Spec PyProof.Rows L2

theorem same_upd {H : Hp} {p : Addr} {o : HO} (h : H p = none) : Same H (upd H p o) := fun b x e => by
  rw [upd_ne (ne_of_none e h)]
  exact e
def Dom (O : Addr → Prop) (H : Hp) : Prop := ∀ a, O a → H a ≠ none
theorem Dom.not {O : Addr → Prop} {H : Hp} (d : Dom O H) {p : Addr} (h : H p = none) : ¬ O p := fun z => d p z h
theorem Dom.same {O : Addr → Prop} {H H' : Hp} (d : Dom O H) (s : Same H H') : Dom O H' := fun a oa z => d a oa (s.free z)
section
variable {K : PySem.W.Frag} {O : Addr → Prop} {H : Hp} {E : Nat → Hp → Prop} {Q : VK} {xs : List V} {ds : List D}
theorem new_tup (dm : Dom O H) {p : Addr} (h : H p = none) (r : Reps K O H xs ds) : Rep K O (upd H p (.tup xs)) (.ref p) (.tuple ds) :=
  .tup ⟨dm.not h, upd_same⟩ (r.same (same_upd h))
theorem new_lst (dm : Dom O H) {p : Addr} (h : H p = none) (r : Reps K O H xs ds) : Rep K O (upd H p (.lst xs)) (.ref p) (.list ds) :=
  .lst (.inl ⟨dm.not h, .inl upd_same⟩) (r.same (same_upd h))
theorem new_own {p : Addr} (h : H p = none) (r : Reps K O H xs ds) : Own K (fun b => O b ∨ b = p) (upd H p (.lst xs)) p (.list ds) :=
  .lst upd_same ((r.weak fun b z => z.elim .inl fun e => .inr (by rw [e]; exact h)).same (same_upd h))
theorem ES.newTup {fr : Bool} (dm : Dom O H) (h : ES K O fr E (.ok (.tuple ds)) Q H) (r : Reps K O H xs ds) : ∀ p, H p = none → Q (.ref p) (upd H p (.tup xs)) :=
  fun p hp => h _ _ (same_upd hp) (new_tup dm hp r) fun _ z => nomatch z
theorem ES.newLst {fr : Bool} (dm : Dom O H) (h : ES K O fr E (.ok (.list ds)) Q H) (r : Reps K O H xs ds) : ∀ p, H p = none → Q (.ref p) (upd H p (.lst xs)) :=
  fun p hp => h _ _ (same_upd hp) (new_lst dm hp r) fun _ _ => ⟨p, rfl, hp, new_own hp r⟩
theorem ES.int {fr : Bool} {i : Int} (h : ES K O fr E (.ok (.int i)) Q H) : Q (.int i) H := h _ _ (Same.refl H) (.int i) fun _ z => nomatch z
theorem ES.bool {fr : Bool} {i : Bool} (h : ES K O fr E (.ok (.bool i)) Q H) : Q (.bl i) H := h _ _ (Same.refl H) (.bl i) fun _ z => nomatch z
theorem ES.str {fr : Bool} {i : Str} (h : ES K O fr E (.ok (.str i)) Q H) : Q (.str i) H := h _ _ (Same.refl H) (.str i) fun _ z => nomatch z
theorem ES.none {fr : Bool} (h : ES K O fr E (.ok .none) Q H) : Q .non H := h _ _ (Same.refl H) .non fun _ z => nomatch z
theorem ES.rep {fr : Bool} {d : D} {v : V} (h : ES K O fr E (.ok d) Q H) (r : Rep K O H v d) (n : fr = true → ownD d = false) : Q v H := h _ _ (Same.refl H) r fun z z2 => by rw [n z] at z2; cases z2
end

/-- what an operator asks: the data at its sides -/
def rOp (K : PySem.W.Frag) (fr : Bool) (E : Nat → Hp → Prop) (g : D → D → Res D) : R2 := fun x y H Q =>
  ∃ O a b, Dom O H ∧ RB K O H x a ∧ RB K O H y b ∧ ES K O fr E (g a b) Q H
section
variable {X : Cx} {E : Nat → Hp → Prop}
/-- lists, wherever they stand -/
theorem op_catL : OpR X (binaryOp .Add) (fun x y H Q => ∃ l b xs zs, x = .ref l ∧ y = .ref b ∧ SqL X.K H l xs ∧ SqL X.K H b zs ∧ xs.length + zs.length ≤ sizeLine ∧ ∀ p, H p = none → Q (.ref p) (upd H p (.lst (xs ++ zs)))) := by
  intro pins s σ H x y v u Q I rx ry h
  obtain ⟨l, b, xs, zs, rfl, rfl, hH, hB, hz, q⟩ := h
  cases rx
  cases ry
  obtain ⟨its, r, ⟨⟨cls, dd, data, sl⟩, n, ho, hc, _, hd⟩, _⟩ := I.list hH
  obtain ⟨its2, r2, ⟨⟨cls2, dd2, data2, sl2⟩, n2, ho2, hc2, _, hd2⟩, _⟩ := I.list hB
  simp only at hc hd hc2 hd2
  subst hc hd hc2 hd2
  have l1 := r.length
  have l2 := r2.length
  have e : its.toArray ++ its2.toArray = (its ++ its2).toArray := by simp
  refine concat_meets ⟨_, ho, rfl⟩ ⟨_, ho2, rfl⟩ noFill_list_add seq_list_add PySem.F.slot_list_add PySem.F.entry_list_add (PySem.F.args_list_add_2 _ _) (list_addW l b its.toArray its2.toArray n n2 dd dd2 sl sl2 (by simp; omega)) ⟨ho, ho2, ?_⟩
  rw [e]
  exact ⟨.ref _, _, I.lnew (t' := s.toks) (r.append r2) (by rw [List.length_append]; exact hz), rfl, q _ I.fresh⟩
theorem op_addD {fr : Bool} : OpR X (binaryOp .Add) (rOp X.K fr E (evalBin .add)) := by
  intro pins s σ H x y v u Q I rx ry h
  obtain ⟨O, a, b, dm, ra, rb, q⟩ := h
  cases a with
  | int i => cases b with
    | int j => exact op_add pins s σ H x y v u Q I rx ry ⟨i, j, ra.int, rb.int, q.int⟩
    | _ => exact q.elim
  | tuple xs => cases b with
    | tuple ys =>
      simp only [evalBin] at q
      split at q
      · rename_i hz
        obtain ⟨p1, vs, e1, h1, r1⟩ := ra.tuple
        obtain ⟨p2, ws, e2, h2, r2⟩ := rb.tuple
        refine op_catA pins s σ H x y v u Q I rx ry ⟨p1, p2, vs, ws, e1, e2, .of h1, .of h2, by rw [r1.length, r2.length]; exact hz, fun z => ?_, fun _ z => ?_, fun _ _ => q.newTup dm (r1.append r2)⟩
        · subst z
          cases r1
          exact q.rep (by rw [← e2]; exact rb.tupleR) fun _ => rfl
        · subst z
          cases r2
          rw [List.append_nil] at q
          exact q.rep (by rw [← e1]; exact ra.tupleR) fun _ => rfl
      · exact q.elim
    | _ => exact q.elim
  | list xs => cases b with
    | list ys =>
      simp only [evalBin] at q
      split at q
      · rename_i hz
        obtain ⟨p1, vs, e1, h1, r1⟩ := ra.list
        obtain ⟨p2, ws, e2, h2, r2⟩ := rb.list
        exact op_catL pins s σ H x y v u Q I rx ry ⟨p1, p2, vs, ws, e1, e2, h1, h2, by rw [r1.length, r2.length]; exact hz, q.newLst dm (r1.append r2)⟩
      · exact q.elim
    | _ => exact q.elim
  | str z => cases b with
    | str z' =>
      simp only [evalBin] at q
      split at q
      · rename_i hz
        exact op_add_str pins s σ H x y v u Q I rx ry ⟨z, z', ra.str, rb.str, hz, q.str⟩
      · exact q.elim
    | _ => exact q.elim
  | _ => exact q.elim
theorem op_subD {fr : Bool} : OpR X (binaryOp .Sub) (rOp X.K fr E (evalBin .sub)) := by
  intro pins s σ H x y v u Q I rx ry h
  obtain ⟨O, a, b, dm, ra, rb, q⟩ := h
  cases a with
  | int i => cases b with
    | int j => exact op_sub pins s σ H x y v u Q I rx ry ⟨i, j, ra.int, rb.int, q.int⟩
    | _ => exact q.elim
  | _ => exact q.elim
theorem smallI_iff {i : Int} : smallI i = true ↔ (-(2 ^ 64) < i ∧ i < 2 ^ 64) := by
  unfold smallI
  rw [Bool.and_eq_true, decide_eq_true_eq, decide_eq_true_eq]
theorem op_fdivD {fr : Bool} : OpR X (binaryOp .FloorDiv) (rOp X.K fr E (evalBin .fdiv)) := by
  intro pins s σ H x y v u Q I rx ry h
  obtain ⟨O, a, b, dm, ra, rb, q⟩ := h
  cases a with
  | int i => cases b with
    | int j =>
      simp only [evalBin] at q
      split at q
      · rename_i hz
        exact op_fdiv pins s σ H x y v u Q I rx ry ⟨i, j, ra.int, rb.int, hz, q.int⟩
      · exact q.elim
    | _ => exact q.elim
  | _ => exact q.elim
theorem op_modD {fr : Bool} : OpR X (binaryOp .Mod) (rOp X.K fr E (evalBin .mod)) := by
  intro pins s σ H x y v u Q I rx ry h
  obtain ⟨O, a, b, dm, ra, rb, q⟩ := h
  cases a with
  | int i => cases b with
    | int j =>
      simp only [evalBin] at q
      split at q
      · rename_i hz
        exact op_mod pins s σ H x y v u Q I rx ry ⟨i, j, ra.int, rb.int, hz, q.int⟩
      · exact q.elim
    | _ => exact q.elim
  | _ => exact q.elim

/-! ### comparisons -/
theorem op_eqDD (hu : X.A.units + 64 < cLine) : OpR X (compareOp .Eq) (rOp X.K false E (evalCmp .eq)) := by
  intro pins s σ H x y v u Q I rx ry h
  obtain ⟨O, a, b, dm, ra, rb, q⟩ := h
  simp only [evalCmp] at q
  split at q
  · rename_i hz
    exact op_eqD hu pins s σ H x y v u Q I rx ry ⟨a, b, ra.dp (SeqAt.canLay_of_shaped hz.1), rb.dp (SeqAt.canLay_of_shaped hz.2), hz.1, hz.2, q.bool⟩
  · exact q.elim
theorem op_neDD (hu : X.A.units + 64 < cLine) : OpR X (compareOp .NotEq) (rOp X.K false E (evalCmp .ne)) := by
  intro pins s σ H x y v u Q I rx ry h
  obtain ⟨O, a, b, dm, ra, rb, q⟩ := h
  simp only [evalCmp] at q
  split at q
  · rename_i hz
    exact op_neD hu pins s σ H x y v u Q I rx ry ⟨a, b, ra.dp (SeqAt.canLay_of_shaped hz.1), rb.dp (SeqAt.canLay_of_shaped hz.2), hz.1, hz.2, q.bool⟩
  · exact q.elim
theorem op_ltD : OpR X (compareOp .Lt) (rOp X.K false E (evalCmp .lt)) := by
  intro pins s σ H x y v u Q I rx ry h
  obtain ⟨O, a, b, dm, ra, rb, q⟩ := h
  cases a with
  | int i => cases b with
    | int j => exact op_lt pins s σ H x y v u Q I rx ry ⟨i, j, ra.int, rb.int, q.bool⟩
    | _ => exact q.elim
  | _ => exact q.elim
theorem op_leD : OpR X (compareOp .LtE) (rOp X.K false E (evalCmp .le)) := by
  intro pins s σ H x y v u Q I rx ry h
  obtain ⟨O, a, b, dm, ra, rb, q⟩ := h
  cases a with
  | int i => cases b with
    | int j => exact op_le pins s σ H x y v u Q I rx ry ⟨i, j, ra.int, rb.int, q.bool⟩
    | _ => exact q.elim
  | _ => exact q.elim
theorem op_gtD : OpR X (compareOp .Gt) (rOp X.K false E (evalCmp .gt)) := by
  intro pins s σ H x y v u Q I rx ry h
  obtain ⟨O, a, b, dm, ra, rb, q⟩ := h
  cases a with
  | int i => cases b with
    | int j => exact op_gt pins s σ H x y v u Q I rx ry ⟨i, j, ra.int, rb.int, q.bool⟩
    | _ => exact q.elim
  | _ => exact q.elim
theorem op_geD : OpR X (compareOp .GtE) (rOp X.K false E (evalCmp .ge)) := by
  intro pins s σ H x y v u Q I rx ry h
  obtain ⟨O, a, b, dm, ra, rb, q⟩ := h
  cases a with
  | int i => cases b with
    | int j => exact op_ge pins s σ H x y v u Q I rx ry ⟨i, j, ra.int, rb.int, q.bool⟩
    | _ => exact q.elim
  | _ => exact q.elim
theorem RB.isNone {K : PySem.W.Frag} {O : Addr → Prop} {H : Hp} {v : V} {d : D} (h : RB K O H v d) : decide (v = .non) = isNoneD d := by
  cases h with
  | r h => cases h <;> rfl
  | o ho h => cases h <;> rfl
theorem op_isND : OpR X (compareOp .Is) (rOp X.K false E (evalCmp .isN)) := by
  intro pins s σ H x y v u Q I rx ry h
  obtain ⟨O, a, b, dm, ra, rb, q⟩ := h
  cases b with
  | none =>
    have q' := ES.bool q
    rw [← ra.isNone] at q'
    exact op_isN pins s σ H x y v u Q I rx ry ⟨rb.none, q'⟩
  | _ => cases a <;> exact q.elim
theorem op_notND : OpR X (compareOp .IsNot) (rOp X.K false E (evalCmp .notN)) := by
  intro pins s σ H x y v u Q I rx ry h
  obtain ⟨O, a, b, dm, ra, rb, q⟩ := h
  cases b with
  | none =>
    have q' := ES.bool q
    rw [← ra.isNone] at q'
    exact op_notN pins s σ H x y v u Q I rx ry ⟨rb.none, q'⟩
  | _ => cases a <;> exact q.elim
theorem op_isBD : OpR X (compareOp .Is) (rOp X.K false E (evalCmp .isB)) := by
  intro pins s σ H x y v u Q I rx ry h
  obtain ⟨O, a, b, dm, ra, rb, q⟩ := h
  cases a with
  | bool i => cases b with
    | bool j => exact op_is_bl pins s σ H x y v u Q I rx ry ⟨i, j, ra.bool, rb.bool, q.bool⟩
    | _ => exact q.elim
  | _ => exact q.elim
theorem op_notBD : OpR X (compareOp .IsNot) (rOp X.K false E (evalCmp .notB)) := by
  intro pins s σ H x y v u Q I rx ry h
  obtain ⟨O, a, b, dm, ra, rb, q⟩ := h
  cases a with
  | bool i => cases b with
    | bool j => exact op_isnot_bl pins s σ H x y v u Q I rx ry ⟨i, j, ra.bool, rb.bool, q.bool⟩
    | _ => exact q.elim
  | _ => exact q.elim
/-- x in a tuple of data -/
theorem op_inTD (hu : X.A.units + 65 < cLine) : OpR X (compareOp .In) (fun x y H Q => ∃ d ds, Dp X.K H x d ∧ Dp X.K H y (.tuple ds) ∧ SeqAt.shaped d = true ∧ SeqAt.shaped (.tuple ds) = true ∧ Q (.bl (ds.any fun z => PyData.eqv z d)) H) := by
  intro pins s σ H x y v u Q I rx ry h
  obtain ⟨d, ds, hd, he, sd, se, q⟩ := h
  obtain ⟨as, r1⟩ := Dp.reads I d x v hd rx
  obtain ⟨bs, r2⟩ := Dp.reads I (.tuple ds) y u he ry
  exact SeqAt.in_tuple_reads r2 r1 (SeqAt.canLay_of_shaped se) (SeqAt.canLay_of_shaped sd) (room_in_shaped sd hu) ⟨.bl _, H, I, rfl, q⟩
theorem op_notInTD (hu : X.A.units + 65 < cLine) : OpR X (compareOp .NotIn) (fun x y H Q => ∃ d ds, Dp X.K H x d ∧ Dp X.K H y (.tuple ds) ∧ SeqAt.shaped d = true ∧ SeqAt.shaped (.tuple ds) = true ∧ Q (.bl (!ds.any fun z => PyData.eqv z d)) H) := by
  intro pins s σ H x y v u Q I rx ry h
  obtain ⟨d, ds, hd, he, sd, se, q⟩ := h
  obtain ⟨as, r1⟩ := Dp.reads I d x v hd rx
  obtain ⟨bs, r2⟩ := Dp.reads I (.tuple ds) y u he ry
  exact SeqAt.notIn_tuple_reads r2 r1 (SeqAt.canLay_of_shaped se) (SeqAt.canLay_of_shaped sd) (room_in_shaped sd hu) ⟨.bl _, H, I, rfl, q⟩
end
end BP

/-! The rules by values, further: in, items, slices, built-ins. -/
namespace BP
open PySem PySem.Spec PyProof.Rows L2

/-! ### dicts by their keys -/
theorem keyOf_eq {d : D} (h : keyOk d = true) : ∃ ns : List Int, d = .tuple (ns.map PyData.int) := by
  unfold keyOk at h
  cases d with
  | tuple xs =>
    cases q : intsOf xs with
    | none => simp [keyOf, q] at h
    | some ns => exact ⟨ns, by rw [intsOf_eq q]⟩
  | _ => simp [keyOf] at h
theorem eqvAll_ints : ∀ ns ms : List Int, PyData.eqvAll (ns.map PyData.int) (ms.map PyData.int) = decide (ns = ms)
  | [], [] => rfl
  | [], m :: ms => rfl
  | n :: ns, [] => rfl
  | n :: ns, m :: ms => by
    have e := eqvAll_ints ns ms
    simp only [List.map_cons, PyData.eqvAll, PyData.eqv, e]
    by_cases h1 : n = m
    · subst h1; simp
    · have : (n == m) = false := beq_eq_false_iff_ne.mpr h1
      simp [this, h1]
theorem eqv_key (ns ms : List Int) : PyData.eqv (.tuple (ns.map PyData.int)) (.tuple (ms.map PyData.int)) = decide (ns = ms) := by
  simp only [PyData.eqv]
  exact eqvAll_ints ns ms
theorem inl_inj {ns ms : List Int} : (ns.map (Sum.inl : Int → Key)) = ms.map Sum.inl ↔ ns = ms := by
  constructor
  · intro h
    induction ns generalizing ms with
    | nil => cases ms with
      | nil => rfl
      | cons m ms => simp at h
    | cons n ns ih => cases ms with
      | nil => simp at h
      | cons m ms =>
        simp only [List.map_cons, List.cons.injEq] at h
        rw [Sum.inl.inj h.1, ih h.2]
  · intro h; rw [h]
section
variable {K : PySem.W.Frag} {O : Addr → Prop} {H : Hp}
theorem RepK.find {ns : List Int} : ∀ {kvs : List (List Key × V)} {ps : List (D × D)}, RepK K O H kvs ps →
    (∃ v d, valV kvs (ns.map Sum.inl) = some v ∧ getD' ps (.tuple (ns.map PyData.int)) = some d ∧ Rep K O H v d ∧ hasKey ps (.tuple (ns.map PyData.int)) = true) ∨
      (valV kvs (ns.map Sum.inl) = none ∧ getD' ps (.tuple (ns.map PyData.int)) = none ∧ hasKey ps (.tuple (ns.map PyData.int)) = false)
  | _, _, .nil => .inr ⟨rfl, rfl, rfl⟩
  | _, _, .cons (ns := ms) (v := v) (kvs := kvs) (d := d) (ps := ps) h hs => by
    by_cases e : ms = ns
    · subst e
      refine .inl ⟨v, d, valV_pos rfl, ?_, h, ?_⟩
      · simp [getD', List.find?_cons, eqv_key]
      · simp [hasKey, eqv_key]
    · have e' : ¬ (ms.map (Sum.inl : Int → Key)) = ns.map Sum.inl := fun z => e (inl_inj.mp z)
      have q : PyData.eqv (.tuple (ms.map PyData.int)) (.tuple (ns.map PyData.int)) = false := by rw [eqv_key]; exact decide_eq_false e
      rcases RepK.find (ns := ns) hs with ⟨v', d', a, b, c, c2⟩ | ⟨a, b, c⟩
      · refine .inl ⟨v', d', by rw [valV_neg e']; exact a, ?_, c, ?_⟩
        · simp only [getD', List.find?_cons, q]; exact b
        · simp only [hasKey, List.any_cons, q, Bool.false_or]; exact c2
      · refine .inr ⟨by rw [valV_neg e']; exact a, ?_, ?_⟩
        · simp only [getD', List.find?_cons, q]; exact b
        · simp only [hasKey, List.any_cons, q, Bool.false_or]; exact c
theorem key_at {v : V} {ns : List Int} (h : RB K O H v (.tuple (ns.map PyData.int))) : ∃ b, v = .ref b ∧ H b = some (.tup ((ns.map (Sum.inl : Int → Key)).map kV)) := by
  obtain ⟨a, xs, e, h, hs⟩ := h.tuple
  refine ⟨a, e, ?_⟩
  rw [h, hs.ints, List.map_map]
  rfl
/-- what the dict holds at the key -/
theorem dget_of {v : V} {a : Addr} {d : D} {kvs : List (List Key × V)} {ps : List (D × D)} (h : H a = some (.dT kvs)) (r : RepK K O H kvs ps) (hk : keyOk d = true) (rk : RB K O H v d) :
    (∃ w e, DGet H a v (some w) ∧ getD' ps d = some e ∧ Rep K O H w e ∧ hasKey ps d = true) ∨ (DGet H a v none ∧ getD' ps d = none ∧ hasKey ps d = false) := by
  obtain ⟨ns, rfl⟩ := keyOf_eq hk
  obtain ⟨b, rfl, hb⟩ := key_at rk
  have g := DGet.t h hb
  rcases r.find (ns := ns) with ⟨w, e, q1, q2, q3, q4⟩ | ⟨q1, q2, q3⟩
  · rw [q1] at g; exact .inl ⟨w, e, g, q2, q3, q4⟩
  · rw [q1] at g; exact .inr ⟨g, q2, q3⟩
end
section
variable {X : Cx} {E : Nat → Hp → Prop}
theorem op_inDict (hu : X.A.units + 1 < cLine) : OpR X (compareOp .In) (fun y x H Q => ∃ a o, x = .ref a ∧ DGet H a y o ∧ Q (.bl o.isSome) H) := by
  intro pins s σ H x y v u Q I rx ry h
  obtain ⟨a, o, rfl, g, q⟩ := h
  cases ry
  exact d_in hu I g rx fun s' I' => ⟨.bl _, H, I', rfl, q⟩
theorem op_notInDict (hu : X.A.units + 1 < cLine) : OpR X (compareOp .NotIn) (fun y x H Q => ∃ a o, x = .ref a ∧ DGet H a y o ∧ Q (.bl (!o.isSome)) H) := by
  intro pins s σ H x y v u Q I rx ry h
  obtain ⟨a, o, rfl, g, q⟩ := h
  cases ry
  exact d_notIn hu I g rx fun s' I' => ⟨.bl _, H, I', rfl, q⟩
theorem op_innD (hu : X.A.units + 65 < cLine) : OpR X (compareOp .In) (rOp X.K false E (evalCmp .inn)) := by
  intro pins s σ H x y v u Q I rx ry h
  obtain ⟨O, a, b, dm, ra, rb, q⟩ := h
  cases b with
  | tuple ys =>
    simp only [evalCmp] at q
    split at q
    · rename_i hz
      exact op_inTD hu pins s σ H x y v u Q I rx ry ⟨a, ys, ra.dp (SeqAt.canLay_of_shaped hz.1), rb.dp (SeqAt.canLay_of_shaped hz.2), hz.1, hz.2, q.bool⟩
    · exact q.elim
  | list ys =>
    simp only [evalCmp] at q
    split at q
    · rename_i hz
      exact op_inD hu pins s σ H x y v u Q I rx ry ⟨a, ys, ra.dp (SeqAt.canLay_of_shaped hz.1), rb.dp (SeqAt.canLay_of_shaped hz.2), hz.1, hz.2, q.bool⟩
    · exact q.elim
  | str z => cases a with
    | str z' => exact op_in_str pins s σ H x y v u Q I rx ry ⟨z', z, ra.str, rb.str, q.bool⟩
    | _ => exact q.elim
  | dict kvs =>
    have q : ES X.K O false E (if keyOk a = true then .ok (.bool (hasKey kvs a)) else .bad) Q H := by cases a <;> exact q
    split at q
    · rename_i hk
      obtain ⟨p, ks, rfl, hp, rk⟩ := rb.dict
      rcases dget_of hp rk hk ra with ⟨w, e, g, _, _, hh⟩ | ⟨g, _, hh⟩
      · rw [hh] at q
        exact op_inDict (by omega) pins s σ H x _ v u Q I rx ry ⟨p, _, rfl, g, q.bool⟩
      · rw [hh] at q
        exact op_inDict (by omega) pins s σ H x _ v u Q I rx ry ⟨p, _, rfl, g, q.bool⟩
    · exact q.elim
  | _ => cases a <;> exact q.elim
theorem op_ninD (hu : X.A.units + 65 < cLine) : OpR X (compareOp .NotIn) (rOp X.K false E (evalCmp .nin)) := by
  intro pins s σ H x y v u Q I rx ry h
  obtain ⟨O, a, b, dm, ra, rb, q⟩ := h
  cases b with
  | tuple ys =>
    simp only [evalCmp] at q
    split at q
    · rename_i hz
      exact op_notInTD hu pins s σ H x y v u Q I rx ry ⟨a, ys, ra.dp (SeqAt.canLay_of_shaped hz.1), rb.dp (SeqAt.canLay_of_shaped hz.2), hz.1, hz.2, q.bool⟩
    · exact q.elim
  | list ys =>
    simp only [evalCmp] at q
    split at q
    · rename_i hz
      exact op_notInD hu pins s σ H x y v u Q I rx ry ⟨a, ys, ra.dp (SeqAt.canLay_of_shaped hz.1), rb.dp (SeqAt.canLay_of_shaped hz.2), hz.1, hz.2, q.bool⟩
    · exact q.elim
  | str z => cases a with
    | str z' => exact op_notIn_str pins s σ H x y v u Q I rx ry ⟨z', z, ra.str, rb.str, q.bool⟩
    | _ => exact q.elim
  | dict kvs =>
    have q : ES X.K O false E (if keyOk a = true then .ok (.bool (!hasKey kvs a)) else .bad) Q H := by cases a <;> exact q
    split at q
    · rename_i hk
      obtain ⟨p, ks, rfl, hp, rk⟩ := rb.dict
      rcases dget_of hp rk hk ra with ⟨w, e, g, _, _, hh⟩ | ⟨g, _, hh⟩
      · rw [hh] at q
        exact op_notInDict (by omega) pins s σ H x _ v u Q I rx ry ⟨p, _, rfl, g, q.bool⟩
      · rw [hh] at q
        exact op_notInDict (by omega) pins s σ H x _ v u Q I rx ry ⟨p, _, rfl, g, q.bool⟩
    · exact q.elim
  | _ => cases a <;> exact q.elim

/-! ### items, slices -/
theorem atI_rep {K : PySem.W.Frag} {O : Addr → Prop} {H : Hp} {xs : List V} {ds : List D} {i : Int} {d : D} (r : Reps K O H xs ds) (h : atI ds i = some d) : ∃ v, atI xs i = some v ∧ Rep K O H v d := by
  unfold atI at h ⊢
  rw [r.length]
  cases q : ixN ds.length i with
  | none => rw [q] at h; cases h
  | some j =>
    rw [q] at h
    exact r.get h
theorem ix_D (hu : X.A.units + 1 < cLine) : IxR X (rOp X.K false E evalIx) := by
  intro value slice pins s σ H x y v u Q I rx ry h hs
  obtain ⟨O, a, b, dm, ra, rb, q⟩ := h
  cases a with
  | tuple xs => cases b with
    | int i =>
      simp only [evalIx] at q
      split at q
      · rename_i d e
        obtain ⟨p, vs, e1, h1, r1⟩ := ra.tuple
        obtain ⟨w, ew, rw'⟩ := atI_rep r1 e
        exact ix_tup value slice pins s σ H x y v u Q I rx ry ⟨p, vs, i, w, e1, rb.int, .of h1, ew, q.rep rw' fun z => nomatch z⟩ hs
      · exact q.elim
    | _ => exact q.elim
  | list xs => cases b with
    | int i =>
      simp only [evalIx] at q
      split at q
      · rename_i d e
        obtain ⟨p, vs, e1, h1, r1⟩ := ra.list
        obtain ⟨w, ew, rw'⟩ := atI_rep r1 e
        exact ix_list value slice pins s σ H x y v u Q I rx ry ⟨p, vs, i, w, e1, rb.int, h1, ew, q.rep rw' fun z => nomatch z⟩ hs
      · exact q.elim
    | _ => exact q.elim
  | str z => cases b with
    | int i =>
      simp only [evalIx] at q
      split at q
      · rename_i hz
        split at q
        · rename_i c e
          exact ix_str value slice pins s σ H x y v u Q I rx ry ⟨z, i, c, ra.str, rb.int, hz, e, q.str⟩ hs
        · exact q.elim
      · exact q.elim
    | _ => exact q.elim
  | dict kvs =>
    have q : ES X.K O false E (if keyOk b = true then (match getD' kvs b with
      | some d => .ok d
      | none => .bad) else .bad) Q H := by cases b <;> exact q
    split at q
    · rename_i hk
      obtain ⟨p, ks, rfl, hp, rk⟩ := ra.dict
      rcases dget_of hp rk hk rb with ⟨w, e, g, hg, rw', _⟩ | ⟨g, hg, _⟩
      · rw [hg] at q
        cases rx
        exact tail_any (dict_typeIs I g) PySem.F.slot_dict_getitem.lookup (d_getItem hu I g ry fun w' s' I' r' => ⟨w, H, I', r', q.rep rw' fun z => nomatch z⟩) hs
      · rw [hg] at q
        exact q.elim
    · exact q.elim
  | _ => cases b <;> exact q.elim
def rSlD (K : PySem.W.Frag) (E : Nat → Hp → Prop) : V → Option Int → Option Int → Hp → VK → Prop := fun x lo hi H Q => ∃ O a, Dom O H ∧ RB K O H x a ∧ ES K O true E (evalSl a lo hi) Q H
theorem cutD_whole {α : Type} (xs : List α) (lo hi : Option Int) (h : HT.sIx xs.length 0 lo = 0 ∧ HT.sIx xs.length xs.length hi = xs.length) : cutD xs lo hi = xs := by
  unfold cutD
  rw [h.1, h.2]
  simp
theorem sl_D : SlR X (rSlD X.K E) := by
  intro pins s σ H x v vl vu lo hi sl Q I rx hs pl pu h
  obtain ⟨O, a, dm, ra, q⟩ := h
  cases a with
  | tuple xs =>
    simp only [evalSl] at q
    obtain ⟨p, vs, e1, h1, r1⟩ := ra.tuple
    refine sl_tupA pins s σ H x v vl vu lo hi sl Q I rx hs pl pu ⟨p, vs, e1, .of h1, fun hw => ?_, fun _ => q.newTup dm (r1.cut lo hi)⟩
    rw [r1.length] at hw
    rw [cutD_whole xs lo hi hw] at q
    exact q.rep (by rw [← e1]; exact ra.tupleR) fun _ => rfl
  | list xs =>
    simp only [evalSl] at q
    obtain ⟨p, vs, e1, h1, r1⟩ := ra.list
    exact sl_list pins s σ H x v vl vu lo hi sl Q I rx hs pl pu ⟨p, vs, e1, h1, q.newLst dm (r1.cut lo hi)⟩
  | str z =>
    simp only [evalSl] at q
    split at q
    · rename_i hz
      exact sl_str pins s σ H x v vl vu lo hi sl Q I rx hs pl pu ⟨z, ra.str, hz, q.str⟩
    · exact q.elim
  | _ => exact q.elim

/-! ### calls of built-ins -/
def rBt (K : PySem.W.Frag) (fr : Bool) (E : Nat → Hp → Prop) (f : Bt) : List V → Hp → VK → Prop := fun xs H Q =>
  ∃ O ds, Dom O H ∧ RBs K O H xs ds ∧ ES K O fr E (evalBt f ds) Q H
theorem RBs.one {K : PySem.W.Frag} {O : Addr → Prop} {H : Hp} {xs : List V} {d : D} (h : RBs K O H xs [d]) : ∃ v, xs = [v] ∧ RB K O H v d := by
  cases h with
  | cons h hs => cases hs; exact ⟨_, rfl, h⟩
theorem RBs.two {K : PySem.W.Frag} {O : Addr → Prop} {H : Hp} {xs : List V} {d e : D} (h : RBs K O H xs [d, e]) : ∃ v w, xs = [v, w] ∧ RB K O H v d ∧ RB K O H w e := by
  cases h with
  | cons h hs => cases hs with
    | cons h' hs => cases hs; exact ⟨_, _, rfl, h, h'⟩
theorem RBs.three {K : PySem.W.Frag} {O : Addr → Prop} {H : Hp} {xs : List V} {d e f : D} (h : RBs K O H xs [d, e, f]) : ∃ v w z, xs = [v, w, z] ∧ RB K O H v d ∧ RB K O H w e ∧ RB K O H z f := by
  cases h with
  | cons h hs => cases hs with
    | cons h' hs => cases hs with
      | cons h'' hs => cases hs; exact ⟨_, _, _, rfl, h, h', h''⟩
/-- one argument -/
theorem rBt.one {K : PySem.W.Frag} {fr : Bool} {E : Nat → Hp → Prop} {f : D → Res D} {O : Addr → Prop} {ds : List D} {xs : List V} {H : Hp} {Q : VK} (rs : RBs K O H xs ds) (q : ES K O fr E (bt1 f ds) Q H) :
    ∃ v d, xs = [v] ∧ RB K O H v d ∧ ES K O fr E (f d) Q H := by
  match ds, rs, q with
  | [d], rs, q =>
    obtain ⟨v, e, rb⟩ := rs.one
    exact ⟨v, d, e, rb, q⟩
  | [], _, q => exact False.elim q
  | _ :: _ :: _, _, q => exact False.elim q
theorem rBt.two {K : PySem.W.Frag} {fr : Bool} {E : Nat → Hp → Prop} {f : D → D → Res D} {O : Addr → Prop} {ds : List D} {xs : List V} {H : Hp} {Q : VK} (rs : RBs K O H xs ds) (q : ES K O fr E (bt2 f ds) Q H) :
    ∃ v w d e, xs = [v, w] ∧ RB K O H v d ∧ RB K O H w e ∧ ES K O fr E (f d e) Q H := by
  match ds, rs, q with
  | [d, e], rs, q =>
    obtain ⟨v, w, z, rb, rc⟩ := rs.two
    exact ⟨v, w, d, e, z, rb, rc, q⟩
  | [], _, q => exact False.elim q
  | [_], _, q => exact False.elim q
  | _ :: _ :: _ :: _, _, q => exact False.elim q
theorem rBt.three {K : PySem.W.Frag} {fr : Bool} {E : Nat → Hp → Prop} {f : D → D → D → Res D} {O : Addr → Prop} {ds : List D} {xs : List V} {H : Hp} {Q : VK} (rs : RBs K O H xs ds) (q : ES K O fr E (bt3 f ds) Q H) :
    ∃ v w z d e g, xs = [v, w, z] ∧ RB K O H v d ∧ RB K O H w e ∧ RB K O H z g ∧ ES K O fr E (f d e g) Q H := by
  match ds, rs, q with
  | [d, e, g], rs, q =>
    obtain ⟨v, w, z, h, rb, rc, rd⟩ := rs.three
    exact ⟨v, w, z, d, e, g, h, rb, rc, rd, q⟩
  | [], _, q => exact False.elim q
  | [_], _, q => exact False.elim q
  | [_, _], _, q => exact False.elim q
  | _ :: _ :: _ :: _ :: _, _, q => exact False.elim q
theorem ES.okO {K : PySem.W.Frag} {fr : Bool} {E : Nat → Hp → Prop} {O : Addr → Prop} {H : Hp} {Q : VK} {α : Type} {o : Option α} {f : α → D} (q : ES K O fr E (okO o f) Q H) : ∃ a, o = some a ∧ ES K O fr E (.ok (f a)) Q H := by
  cases o with
  | none => exact False.elim q
  | some a => exact ⟨a, rfl, q⟩
/-- the items, wherever they stand -/
theorem RB.items {K : PySem.W.Frag} {O : Addr → Prop} {H : Hp} {v : V} {d : D} {ds : List D} (h : RB K O H v d) (e : itemsOf d = some ds) :
    ∃ a xs, v = .ref a ∧ (SqL K H a xs ∨ SqT K H a xs) ∧ Reps K O H xs ds := by
  cases d with
  | list ys =>
    cases e
    obtain ⟨a, xs, q1, q2, q3⟩ := h.list
    exact ⟨a, xs, q1, .inl q2, q3⟩
  | tuple ys =>
    cases e
    obtain ⟨a, xs, q1, q2, q3⟩ := h.tuple
    exact ⟨a, xs, q1, .inr (.of q2), q3⟩
  | _ => cases e
theorem RB.listOf {K : PySem.W.Frag} {O : Addr → Prop} {H : Hp} {v : V} {d : D} {ds : List D} (h : RB K O H v d) (e : listOf d = some ds) :
    ∃ a xs, v = .ref a ∧ SqL K H a xs ∧ Reps K O H xs ds := by
  cases d with
  | list ys =>
    cases e
    exact h.list
  | _ => cases e
theorem cr_len : CallR X (.builtin "len") (rBt X.K false E .len) := by
  intro pins s σ H xs us Q I r h
  obtain ⟨O, ds, dm, rs, q⟩ := h
  obtain ⟨v, d, rfl, rb, q⟩ := rBt.one rs q
  cases d with
  | tuple ys =>
    obtain ⟨p, vs, rfl, h1, r1⟩ := rb.tuple
    exact call_len_seq pins s σ H _ us Q I r ⟨p, vs, rfl, .inr (.of h1), by rw [r1.length]; exact q.int⟩
  | list ys =>
    obtain ⟨p, vs, rfl, h1, r1⟩ := rb.list
    exact call_len_seq pins s σ H _ us Q I r ⟨p, vs, rfl, .inl h1, by rw [r1.length]; exact q.int⟩
  | str z =>
    simp only [lenD] at q
    split at q
    · rename_i hz
      obtain rfl := rb.str
      exact call_len_str pins s σ H _ us Q I r ⟨z, rfl, hz, q.int⟩
    · exact False.elim q
  | dict kvs =>
    obtain ⟨p, vs, rfl, h1, r1⟩ := rb.dict
    exact call_len_dT pins s σ H _ us Q I r ⟨p, vs, rfl, h1, by rw [r1.length]; exact q.int⟩
  | _ => exact False.elim q
theorem cr_tuple : CallR X (.type "tuple") (rBt X.K false E .tuple) := by
  intro pins s σ H xs us Q I r h
  obtain ⟨O, ds, dm, rs, q⟩ := h
  obtain ⟨v, d, rfl, rb, q⟩ := rBt.one rs q
  cases d with
  | tuple ys =>
    obtain ⟨p, vs, rfl, h1, r1⟩ := rb.tuple
    exact call_tuple_of pins s σ H _ us Q I r ⟨p, vs, rfl, .inr ⟨.of h1, q.rep rb.tupleR fun _ => rfl⟩⟩
  | list ys =>
    obtain ⟨p, vs, rfl, h1, r1⟩ := rb.list
    exact call_tuple_of pins s σ H _ us Q I r ⟨p, vs, rfl, .inl ⟨h1, q.newTup dm r1⟩⟩
  | _ => exact False.elim q
theorem cr_list : CallR X (.type "list") (rBt X.K true E .list) := by
  intro pins s σ H xs us Q I r h
  obtain ⟨O, ds, dm, rs, q⟩ := h
  obtain ⟨v, d, rfl, rb, q⟩ := rBt.one rs q
  cases d with
  | tuple ys =>
    obtain ⟨p, vs, rfl, h1, r1⟩ := rb.tuple
    exact call_list_of pins s σ H _ us Q I r ⟨p, vs, rfl, .inr (.of h1), q.newLst dm r1⟩
  | list ys =>
    obtain ⟨p, vs, rfl, h1, r1⟩ := rb.list
    exact call_list_of pins s σ H _ us Q I r ⟨p, vs, rfl, .inl h1, q.newLst dm r1⟩
  | _ => exact False.elim q
/-- sum of a tuple of ints -/
theorem cr_sumT (hc : X.calm = true) : CallR X (.builtin "sum") (fun vs H Q => ∃ (a : Addr) (ns : List Int), vs = [V.ref a] ∧ SqT X.K H a (ns.map V.int) ∧ Q (.int ns.sum) H) := by
  intro pins s σ H vs us Q I r h
  obtain ⟨a, ns, rfl, hs, q⟩ := h
  obtain ⟨its, rv, ht, _⟩ := I.tuple hs
  rw [Vals.ref1 r]
  have hi := rv.ints
  obtain ⟨xs, e⟩ := hi.allInts.items
  have hn : numsOf (intItems xs).toList = ns := by rw [← e]; exact hi.numsOf
  rw [nums_intItems] at hn
  rw [e] at ht
  have hlt : a < s.heap.objs.size := ht.lt
  refine call_sum_walkG (iter_tuple ht ?_)
  refine ⟨_, _, _, _, _, _, numAt xs, rfl, Walks.tuple (A := X.A.in1) (I.ok.hd hc) _ a (Nat.ne_of_lt hlt) (intItems xs), ⟨⟨_, Heap.get?_push_size _ rfl, rfl, rfl⟩, ?_⟩, fun b hb => ?_, (fun _ _ => intItems_at), fun h' tk t' hk => ?_⟩
  · obtain ⟨o, h1, h2, n, h3⟩ := ht
    exact ⟨o, Heap.get?_push_of_some _ h1, h2, n, h3⟩
  · show b < (s.heap.push _).objs.size
    rw [Heap.size_push]
    have e' : b = s.heap.objs.size ∨ b = a := by simpa using hb
    rcases e' with e' | e'
    · rw [e']; exact Nat.lt_succ_self _
    · rw [e']; exact Nat.lt_succ_of_lt hlt
  · have hn' : preSum (numAt xs) (intItems xs).size = ns.sum := by
      rw [preSum_eq, List.take_of_length_le (by simp [intItems]), hn]
    rw [hn']
    refine ⟨.int ns.sum, H, I.kept fun b o eo => hk b o (fun hm => ?_) (Heap.get?_push_of_some _ eo), ⟨_, rfl⟩, q⟩
    have e1 : b = s.heap.objs.size := by simpa using hm
    exact absurd (e1 ▸ Heap.lt_size eo) (Nat.lt_irrefl _)
theorem cr_sumD (hc : X.calm = true) : CallR X (.builtin "sum") (rBt X.K false E .sum) := by
  intro pins s σ H xs us Q I r h
  obtain ⟨O, ds, dm, rs, q⟩ := h
  obtain ⟨v, d, rfl, rb, q⟩ := rBt.one rs q
  obtain ⟨ns, e, q⟩ := q.okO
  obtain ⟨ys, e1, e2⟩ := Option.bind_eq_some_iff.mp e
  obtain ⟨p, vs, rfl, h1, r1⟩ := rb.items e1
  have e3 := intsOf_eq e2
  subst e3
  rw [r1.ints] at h1
  rcases h1 with h1 | h1
  · exact L2.cr_sum hc pins s σ H _ us Q I r ⟨p, ns, rfl, h1, q.int⟩
  · exact cr_sumT hc pins s σ H _ us Q I r ⟨p, ns, rfl, h1, q.int⟩
theorem cr_allD (hc : X.calm = true) : CallR X (.builtin "all") (rBt X.K false E .all) := by
  intro pins s σ H xs us Q I r h
  obtain ⟨O, ds, dm, rs, q⟩ := h
  obtain ⟨v, d, rfl, rb, q⟩ := rBt.one rs q
  obtain ⟨ns, e, q⟩ := q.okO
  obtain ⟨ys, e1, e2⟩ := Option.bind_eq_some_iff.mp e
  obtain ⟨p, vs, rfl, h1, r1⟩ := rb.listOf e1
  have e3 := boolsOf_eq e2
  subst e3
  rw [r1.bools] at h1
  exact L2.cr_all hc pins s σ H _ us Q I r ⟨p, ns, rfl, h1, q.bool⟩
theorem cr_anyD (hc : X.calm = true) : CallR X (.builtin "any") (rBt X.K false E .any) := by
  intro pins s σ H xs us Q I r h
  obtain ⟨O, ds, dm, rs, q⟩ := h
  obtain ⟨v, d, rfl, rb, q⟩ := rBt.one rs q
  obtain ⟨ns, e, q⟩ := q.okO
  obtain ⟨ys, e1, e2⟩ := Option.bind_eq_some_iff.mp e
  obtain ⟨p, vs, rfl, h1, r1⟩ := rb.listOf e1
  have e3 := boolsOf_eq e2
  subst e3
  rw [r1.bools] at h1
  exact L2.cr_any hc pins s σ H _ us Q I r ⟨p, ns, rfl, h1, q.bool⟩
theorem cr_max2D (hc : X.calm = true) : CallR X (.builtin "max") (rBt X.K false E .max2) := by
  intro pins s σ H xs us Q I r h
  obtain ⟨O, ds, dm, rs, q⟩ := h
  obtain ⟨v, w, d, e, rfl, r1, r2, q⟩ := rBt.two rs q
  cases d with
  | int i => cases e with
    | int j =>
      obtain rfl := r1.int
      obtain rfl := r2.int
      exact call_max2 hc pins s σ H _ us Q I r ⟨i, j, rfl, q.int⟩
    | _ => exact False.elim q
  | _ => exact False.elim q
theorem cr_min2D (hc : X.calm = true) : CallR X (.builtin "min") (rBt X.K false E .min2) := by
  intro pins s σ H xs us Q I r h
  obtain ⟨O, ds, dm, rs, q⟩ := h
  obtain ⟨v, w, d, e, rfl, r1, r2, q⟩ := rBt.two rs q
  cases d with
  | int i => cases e with
    | int j =>
      obtain rfl := r1.int
      obtain rfl := r2.int
      exact call_min2 hc pins s σ H _ us Q I r ⟨i, j, rfl, q.int⟩
    | _ => exact False.elim q
  | _ => exact False.elim q
theorem cr_intD : CallR X (.type "int") (rBt X.K false E .toInt) := by
  intro pins s σ H xs us Q I r h
  obtain ⟨O, ds, dm, rs, q⟩ := h
  obtain ⟨v, d, rfl, rb, q⟩ := rBt.one rs q
  cases d with
  | int i =>
    obtain rfl := rb.int
    exact call_int1 pins s σ H _ us Q I r (.inl ⟨i, rfl, q.int⟩)
  | bool b =>
    obtain rfl := rb.bool
    exact call_int1 pins s σ H _ us Q I r (.inr ⟨b, rfl, q.int⟩)
  | str z =>
    obtain rfl := rb.str
    simp only [toIntD] at q
    split at q
    · rename_i n e
      split at q
      · rename_i hz
        exact call_int_str pins s σ H _ us Q I r ⟨z, n, rfl, e, hz, q.int⟩
      · exact False.elim q
    · exact False.elim q
  | _ => exact False.elim q
theorem cr_strD : CallR X (.type "str") (rBt X.K false E .toStr) := by
  intro pins s σ H xs us Q I r h
  obtain ⟨O, ds, dm, rs, q⟩ := h
  obtain ⟨v, d, rfl, rb, q⟩ := rBt.one rs q
  cases d with
  | int i =>
    obtain rfl := rb.int
    simp only [toStrD] at q
    split at q
    · rename_i hz
      exact call_str_int pins s σ H _ us Q I r ⟨i, rfl, hz, q.str⟩
    · exact False.elim q
  | _ => exact False.elim q

/-! ### isinstance of built-in types -/
def tyD : D → String
  | .none => "NoneType"
  | .bool _ => "bool"
  | .int _ => "int"
  | .str _ => "str"
  | .list _ => "list"
  | .tuple _ => "tuple"
  | .dict _ => "dict"
theorem RB.ty {K : PySem.W.Frag} {O : Addr → Prop} {H : Hp} {v : V} {d : D} (h : RB K O H v d) : TyX K H v (.type (tyD d)) := by
  cases h with
  | r h =>
    cases h with
    | non => exact .base .non
    | bl b => exact .base (.bl b)
    | int i => exact .base (.int i)
    | str x => exact .base (.str x)
    | lst h hs =>
      rcases h with ⟨_, h | ⟨o, h⟩⟩ | ⟨o, its, n, h, hc, _⟩
      · exact .base (.lst h)
      · exact .base (.frz h)
      · exact .kList h hc
    | tup h hs => exact .base (.tup h.2)
    | dct ho h hs => exact .base (.dT h)
  | o ho h =>
    cases h with
    | lst h hs => exact .base (.lst h)
    | dct h hs => exact .base (.dT h)
theorem cr_isi {T : String} {g : D → Bool} (hg : ∀ d, kitB (tyD d) T = some (g d)) : CallR X (.builtin "isinstance") (fun xs H Q => ∃ O v d, Dom O H ∧ xs = [v, .ty T] ∧ RB X.K O H v d ∧ ES X.K O false E (.ok (.bool (g d))) Q H) := by
  intro pins s σ H xs us Q I r h
  obtain ⟨O, v, d, dm, rfl, rb, q⟩ := h
  exact call_isi pins s σ H _ us Q I r ⟨v, .ty T, _, _, g d, rfl, .ty T, rb.ty, kit_ty (hg d), q.bool⟩
theorem kit_tuple : ∀ d, kitB (tyD d) "tuple" = some (isTupleD d) := fun d => by cases d <;> simp only [tyD, isTupleD] <;> decide +kernel
theorem kit_int : ∀ d, kitB (tyD d) "int" = some (isIntD d) := fun d => by cases d <;> simp only [tyD, isIntD] <;> decide +kernel
theorem kit_bool : ∀ d, kitB (tyD d) "bool" = some (isBoolD d) := fun d => by cases d <;> simp only [tyD, isBoolD] <;> decide +kernel
theorem kit_str : ∀ d, kitB (tyD d) "str" = some (isStrD d) := fun d => by cases d <;> simp only [tyD, isStrD] <;> decide +kernel
end
end BP

/-! Terms over the layer's judgements. -/
namespace BP
open PySem PySem.Spec PyProof.Rows L2

/-- what is known of the module: its defs, constants, exception classes, by name -/
structure Gc where
  N : List Str
  fns : List (Str × Nat)
  consts : List (Str × D)
  excs : List (Str × Nat)
/-- a block's names -/
structure Sc where
  sc : Scope
  fn : Str → Bool
abbrev Ecl (cls : Nat → Value) (E : XK) : Nat → Hp → Prop := fun c H => E (cls c) none H
/-- what the call of a def is worth, n calls deep -/
def spF (T : Nat → Option Fn) (K : PySem.W.Frag) (cls : Nat → Value) (n f : Nat) : Sp := fun vs H Q E =>
  ∃ O ds, Dom O H ∧ Reps K O H vs ds ∧ ES K O false (Ecl cls E) (callF T n f ds) Q H
def bltNames : List Str := ["len", "tuple", "list", "sum", "max", "min", "all", "any", "sorted", "int", "str", "set", "range", "dict", "isinstance", "enumerate", "zip", "bool", "ValueError"]
structure Wok (g : Gc) (T : Nat → Option Fn) (n : Nat) (cls : Nat → Value) (P : Program) (w : World) (K : PySem.W.Frag) (mg : Str → Option Value) (base : Heap) : Prop where
  blt : ∀ x ∈ bltNames, mg x = none
  con : ∀ p ∈ g.consts, ∃ v u, mg p.1 = some u ∧ RelV v u ∧ ∀ O H, Rep K O H v p.2
  fns : ∀ p ∈ g.fns, ∃ a fd ps, mg p.1 = some (.ref a) ∧ PySem.W.keepIn K (.ref a) = true ∧ L2.Binds K fd ps [] ∧ FnOk P w K mg base (L2.CX P w) n a fd ps (spF T K cls n p.2)
structure Cok (g : Gc) (S : Sc) (T : Nat → Option Fn) (n : Nat) (cls : Nat → Value) (E : XK) (X : Cx) : Prop where
  w : Wok g T n cls X.prog X.w X.K X.mg X.base
  calm : X.calm = true
  hN : X.N = g.N
  nd : X.N.Nodup
  sc : X.env.scope = S.sc
  fn : X.fn = S.fn
  room : Room n X.A
  takes : Takes X fun c d _ H => E c d H

theorem pe_imp {X : Cx} {e : Expr} {t t' : TE} (h : PE X e t) (w : ∀ σ H Q, t' σ H Q → t σ H Q) : PE X e t' := ⟨fun pins s σ H Q I q => h.run pins s σ H Q I (w σ H Q q)⟩
theorem pt_imp {X : Cx} {e : Expr} {t t' : TT} (h : PT X e t) (w : ∀ σ H Q, t' σ H Q → t σ H Q) : PT X e t' := ⟨fun pins s σ H Q I q => h.run pins s σ H Q I (w σ H Q q)⟩
theorem pw_imp {X : Cx} {e : Expr} {t t' : TT} (h : PW X e t) (w : ∀ σ H Q, t' σ H Q → t σ H Q) : PW X e t' := ⟨fun wh pins s σ H Q I q => h.run wh pins s σ H Q I (w σ H Q q)⟩
theorem pa_imp {X : Cx} {e : List Expr} {t t' : TA} (h : PA X e t) (w : ∀ σ H Q, t' σ H Q → t σ H Q) : PA X e t' := ⟨fun pos pins s σ H Q I q => h.run pos pins s σ H Q I (w σ H Q q)⟩

/-! which terms give a list or dict that stands nowhere else -/
def freshE : Ex → Bool
  | .lst _ => true
  | .comp .. => true
  | .bin .. => true
  | .sl .. => true
  | .rev _ => true
  | .dict0 => true
  | .dict1 .. => true
  | .bt .list _ => true
  | .bt .sorted _ => true
  | .bt .sortedSet _ => true
  | .bt .listRange1 _ => true
  | .bt .listRange2 _ => true
  | .bt .dict _ => true
  | _ => false

section
variable {X : Cx} {E : Nat → Hp → Prop} {C : Nat → List D → Res D}
def tS (K : PySem.W.Frag) (C : Nat → List D → Res D) (E : Nat → Hp → Prop) (ir : Ex) : TE := fun σ H Q => ∃ O ρ, Sok K O σ ρ H ∧ ES K O (freshE ir) E (evalE C ir ρ) Q H
def tBo (K : PySem.W.Frag) (C : Nat → List D → Res D) (E : Nat → Hp → Prop) (ir : Ex) : TE := fun σ H Q => ∃ O ρ, Sok K O σ ρ H ∧ EB K O E (evalE C ir ρ) Q H
def tTs (K : PySem.W.Frag) (C : Nat → List D → Res D) (E : Nat → Hp → Prop) (ir : Ex) : TT := fun σ H Q => ∃ O ρ, Sok K O σ ρ H ∧ ET E ((evalE C ir ρ).bind asBool) Q H
def tSs (K : PySem.W.Frag) (C : Nat → List D → Res D) (E : Nat → Hp → Prop) (irs : List Ex) : TA := fun σ H Q => ∃ O ρ, Sok K O σ ρ H ∧ ESs K O E (evalEs C irs ρ) Q H
def tBs (K : PySem.W.Frag) (C : Nat → List D → Res D) (E : Nat → Hp → Prop) (irs : List Ex) : TA := fun σ H Q => ∃ O ρ, Sok K O σ ρ H ∧ EBs K O E (evalEs C irs ρ) Q H
abbrev PEs (X : Cx) (C : Nat → List D → Res D) (E : Nat → Hp → Prop) (e : Expr) (ir : Ex) : Prop := PE X e (tS X.K C E ir)
abbrev PEb (X : Cx) (C : Nat → List D → Res D) (E : Nat → Hp → Prop) (e : Expr) (ir : Ex) : Prop := PE X e (tBo X.K C E ir)
abbrev PTs' (X : Cx) (C : Nat → List D → Res D) (E : Nat → Hp → Prop) (e : Expr) (ir : Ex) : Prop := PT X e (tTs X.K C E ir)
abbrev PAs (X : Cx) (C : Nat → List D → Res D) (E : Nat → Hp → Prop) (es : List Expr) (irs : List Ex) : Prop := PA X es (tSs X.K C E irs)
abbrev PAb (X : Cx) (C : Nat → List D → Res D) (E : Nat → Hp → Prop) (es : List Expr) (irs : List Ex) : Prop := PA X es (tBs X.K C E irs)
theorem PEs.b {e : Expr} {ir : Ex} (h : PEs X C E e ir) : PEb X C E e ir := pe_imp h fun σ H Q ⟨O, ρ, so, q⟩ => ⟨O, ρ, so, ES.toEB q⟩

/-! ### names, constants -/
theorem pd_const {e : Expr} {v : V} {d : D} (h : PE X e (tC v)) (r : ∀ O H, Rep X.K O H v d) : PEs X C E e (.k d) := pe_imp h fun σ H Q ⟨O, ρ, so, q⟩ =>
  q v H (Same.refl H) (r O H) fun z => nomatch z
theorem pd_var {i : Nat} {e : Expr} (h : PE X e (tVar i)) : PEs X C E e (.v i) := pe_imp h fun σ H Q ⟨O, ρ, so, q⟩ => by
  simp only [evalE, getV] at q
  split at q
  · rename_i d hd
    obtain ⟨v, h1, h2⟩ := so.val i d hd
    exact ⟨v, h1, q v H (Same.refl H) h2 fun z => nomatch z⟩
  · exact False.elim q
theorem pd_varB {i : Nat} {e : Expr} (h : PE X e (tVar i)) : PEb X C E e (.b i) := pe_imp h fun σ H Q ⟨O, ρ, so, q⟩ => by
  simp only [evalE, getB] at q
  split at q
  · rename_i d hd
    obtain ⟨v, h1, h2⟩ := so.val i d hd
    exact ⟨v, h1, q v H (Same.refl H) (.r h2)⟩
  · rename_i d hd
    obtain ⟨a, h1, h2, h3⟩ := so.own i d hd
    exact ⟨.ref a, h1, q (.ref a) H (Same.refl H) (.o h2 h3)⟩
  · exact False.elim q

/-! ### several -/
theorem pd_nilS : PAs X C E [] [] := pa_imp pa_nil fun σ H Q ⟨O, ρ, so, q⟩ => q [] H (Same.refl H) .nil
theorem pd_nilB : PAb X C E [] [] := pa_imp pa_nil fun σ H Q ⟨O, ρ, so, q⟩ => q [] H (Same.refl H) .nil
def notStar : Expr → Bool
  | .Starred .. => false
  | _ => true
theorem star_of {e : Expr} (h : notStar e = true) (es : List Expr) (env : PySem.Env) : starEach (e :: es) env = (false, eval e env) :: starEach es env := by
  cases e <;> first | rfl | cases h
theorem pd_consS {e : Expr} {es : List Expr} {ir : Ex} {irs : List Ex} (h : PEs X C E e ir) (hs : PAs X C E es irs) (ns : notStar e = true) : PAs X C E (e :: es) (ir :: irs) := by
  refine pa_imp (pa_cons h hs (star_of ns es _)) fun σ H Q ⟨O, ρ, so, q⟩ => ⟨O, ρ, so, ?_⟩
  simp only [evalEs] at q
  cases e1 : evalE C ir ρ with
  | bad => rw [e1] at q; exact False.elim q
  | exc c => rw [e1] at q; exact q
  | ok d =>
    rw [e1, Res.bind_ok] at q
    refine fun v H1 s1 r1 _ => ⟨O, ρ, so.same s1, ?_⟩
    cases e2 : evalEs C irs ρ with
    | bad => rw [e2] at q; exact False.elim q
    | exc c => rw [e2] at q; exact fun H2 s2 => q H2 (s1.trans s2)
    | ok ds =>
      rw [e2, Res.bind_ok] at q
      exact fun vs H2 s2 r2 => q (v :: vs) H2 (s1.trans s2) (.cons (r1.same s2) r2)
theorem pd_consB {e : Expr} {es : List Expr} {ir : Ex} {irs : List Ex} (h : PEb X C E e ir) (hs : PAb X C E es irs) (ns : notStar e = true) : PAb X C E (e :: es) (ir :: irs) := by
  refine pa_imp (pa_cons h hs (star_of ns es _)) fun σ H Q ⟨O, ρ, so, q⟩ => ⟨O, ρ, so, ?_⟩
  simp only [evalEs] at q
  cases e1 : evalE C ir ρ with
  | bad => rw [e1] at q; exact False.elim q
  | exc c => rw [e1] at q; exact q
  | ok d =>
    rw [e1, Res.bind_ok] at q
    refine fun v H1 s1 r1 => ⟨O, ρ, so.same s1, ?_⟩
    cases e2 : evalEs C irs ρ with
    | bad => rw [e2] at q; exact False.elim q
    | exc c => rw [e2] at q; exact fun H2 s2 => q H2 (s1.trans s2)
    | ok ds =>
      rw [e2, Res.bind_ok] at q
      exact fun vs H2 s2 r2 => q (v :: vs) H2 (s1.trans s2) (.cons (r1.same s2) r2)
theorem pd_tup {es : List Expr} {irs : List Ex} {k : Nat} {pos : Pos} (h : PAs X C E es irs) : PEs X C E (.Tuple es k pos) (.tup irs) := by
  refine pe_imp (pe_tup h) fun σ H Q ⟨O, ρ, so, q⟩ => ⟨O, ρ, so, ?_⟩
  simp only [evalE] at q
  refine (ESs.bindS q).mono fun vs H1 s1 ⟨ds, r, s, q⟩ => ?_
  split at q
  · rename_i hz
    exact ⟨by rw [r.length]; exact hz, q.newTup (Dom.same so.dom s) r⟩
  · exact False.elim q
theorem pd_lst {es : List Expr} {irs : List Ex} {pos : Pos} (h : PAs X C E es irs) : PEs X C E (.List es pos) (.lst irs) := by
  refine pe_imp (pe_lst h) fun σ H Q ⟨O, ρ, so, q⟩ => ⟨O, ρ, so, ?_⟩
  simp only [evalE] at q
  refine (ESs.bindS q).mono fun vs H1 s1 ⟨ds, r, s, q⟩ => ?_
  split at q
  · rename_i hz
    exact ⟨by rw [r.length]; exact hz, q.newLst (Dom.same so.dom s) r⟩
  · exact False.elim q

/-! ### two sides -/
theorem two {a b : Ex} {fr : Bool} {f : D → D → Res D} {σ : L2.St} {H : Hp} {Q : VK} {O : Addr → Prop} {ρ : Env} (so : Sok X.K O σ ρ H)
    (q : ES X.K O fr E ((evalE C a ρ).bind fun x => (evalE C b ρ).bind fun y => f x y) Q H) :
    tBo X.K C E a σ H fun x H1 => tBo X.K C E b σ H1 fun y H2 => rOp X.K fr E f x y H2 Q := by
  refine ⟨O, ρ, so, (EB.bindS q).mono fun x H1 _ ⟨d, r, s1, q⟩ => ⟨O, ρ, so.same s1, (EB.bindS q).mono fun y H2 _ ⟨d2, r2, s2, q⟩ => ⟨O, d, d2, (Dom.same so.dom s1).same s2, r.same s2, r2, q⟩⟩⟩
theorem pd_bin {a b : Expr} {op : Operator} {o : Bop} {ia ib : Ex} {pos : Pos} (ho : OpR X (binaryOp op) (rOp X.K true E (evalBin o))) (ha : PEb X C E a ia) (hb : PEb X C E b ib) : PEs X C E (.BinOp a op b pos) (.bin o ia ib) := by
  refine pe_imp (pe_op ho ha hb) fun σ H Q ⟨O, ρ, so, q⟩ => ?_
  simp only [evalE] at q
  exact two so q
theorem pd_ix {a b : Expr} {ia ib : Ex} {pos : Pos} (hu : X.A.units + 1 < cLine) (ha : PEb X C E a ia) (hb : PEb X C E b ib) (hs : PlainIx b) : PEs X C E (.Subscript a b pos) (.ix ia ib) := by
  refine pe_imp (pe_ix (ix_D (E := E) hu) ha hb hs) fun σ H Q ⟨O, ρ, so, q⟩ => ?_
  simp only [evalE] at q
  exact two so q
theorem pd_cmp {a b : Expr} {op : CmpOp} {o : Cop} {ia ib : Ex} {pos : Pos} (ho : OpR X (compareOp op) (rOp X.K false E (evalCmp o))) (ha : PEb X C E a ia) (hb : PEb X C E b ib) (hm : behindInMarks op b = false) :
    PEs X C E (.Compare a [op] [b] pos) (.cmp o ia ib) := by
  refine pe_imp (pe_cmpR ho ha hb hm) fun σ H Q ⟨O, ρ, so, q⟩ => ?_
  simp only [evalE] at q
  exact two so q
theorem bind_assoc {α β γ : Type} (r : Res α) (f : α → Res β) (g : β → Res γ) : (r.bind f).bind g = r.bind fun a => (f a).bind g := by cases r <;> rfl
/-- a test's wish as a term's -/
theorem ET.es {K : PySem.W.Frag} {O : Addr → Prop} {r : Res D} {Q : Bool → Hp → Prop} {H : Hp} (h : ET E (r.bind asBool) Q H) : ES K O false E r (fun x H' => ∃ k, x = .bl k ∧ Q k H') H := by
  cases r with
  | ok d =>
    cases d with
    | bool b =>
      intro v H' s r _
      cases r
      exact ⟨b, rfl, h H' s⟩
    | _ => exact False.elim h
  | exc c => exact h
  | bad => exact h
theorem pd_cmpT {a b : Expr} {op : CmpOp} {o : Cop} {ia ib : Ex} {pos : Pos} (ho : OpR X (compareOp op) (rOp X.K false E (evalCmp o))) (ha : PEb X C E a ia) (hb : PEb X C E b ib) (hm : behindInMarks op b = false) :
    PTs' X C E (.Compare a [op] [b] pos) (.cmp o ia ib) := by
  refine pt_imp (pt_cmpR ho ha hb hm) fun σ H Q ⟨O, ρ, so, q⟩ => ?_
  have q := ET.es (K := X.K) (O := O) q
  simp only [evalE] at q
  exact two so q
theorem chain_of {a b c : Ex} {fr : Bool} {f f' : D → D → Res D} {σ : L2.St} {H : Hp} {Q : VK} {O : Addr → Prop} {ρ : Env} (so : Sok X.K O σ ρ H)
    (q : ES X.K O false E ((evalE C a ρ).bind fun x => (evalE C b ρ).bind fun y => (f x y).bind fun r => (asBool r).bind fun t => if t = true then (evalE C c ρ).bind fun z => f' y z else .ok (.bool false)) Q H) :
    tChain (rOp X.K false E f) (rOp X.K false E f') (tBo X.K C E a) (tBo X.K C E b) (tBo X.K C E c) σ H Q := by
  refine ⟨O, ρ, so, (EB.bindS q).mono fun x H1 _ ⟨d, r, s1, q⟩ => ⟨O, ρ, so.same s1, (EB.bindS q).mono fun y H2 _ ⟨d2, r2, s2, q⟩ => ⟨O, d, d2, (Dom.same so.dom s1).same s2, r.same s2, r2, ?_⟩⟩⟩
  cases e : f d d2 with
  | bad => rw [e] at q; exact False.elim q
  | exc c => rw [e] at q; exact q
  | ok t =>
    rw [e, Res.bind_ok] at q
    cases t with
    | bool k =>
      intro v H3 s3 r3 _
      cases r3
      refine ⟨k, rfl, ?_⟩
      cases k with
      | false =>
        have q' : ES X.K O false E (.ok (.bool false)) Q H2 := q
        exact iteF (q'.same s3).bool
      | true =>
        refine iteT ⟨O, ρ, (so.same s1).same (s2.trans s3), ?_⟩
        have q' : ES X.K O false E ((evalE C c ρ).bind fun z => f' d2 z) Q H2 := q
        exact (EB.bindS (q'.same s3)).mono fun z H4 _ ⟨d3, r4, s4, q⟩ => ⟨O, d2, d3, ((Dom.same so.dom s1).same s2).same (s3.trans s4), (r2.same s3).same s4, r4, q⟩
    | _ => exact False.elim q
theorem pd_chain {a b c : Expr} {op op' : CmpOp} {o o' : Cop} {ia ib ic : Ex} {pos : Pos} (ho : OpR X (compareOp op) (rOp X.K false E (evalCmp o))) (ho' : OpR X (compareOp op') (rOp X.K false E (evalCmp o')))
    (ha : PEb X C E a ia) (hb : PEb X C E b ib) (hc : PEb X C E c ic) (hm : lastMarks [op, op'] [b, c] = false) : PEs X C E (.Compare a [op, op'] [b, c] pos) (.chain o o' ia ib ic) := by
  refine pe_imp (pe_chain ho ho' ha hb hc hm) fun σ H Q ⟨O, ρ, so, q⟩ => ?_
  simp only [evalE] at q
  exact chain_of (fr := false) so q
theorem pd_chainT {a b c : Expr} {op op' : CmpOp} {o o' : Cop} {ia ib ic : Ex} {pos : Pos} (ho : OpR X (compareOp op) (rOp X.K false E (evalCmp o))) (ho' : OpR X (compareOp op') (rOp X.K false E (evalCmp o')))
    (ha : PEb X C E a ia) (hb : PEb X C E b ib) (hc : PEb X C E c ic) (hm : lastMarks [op, op'] [b, c] = false) : PTs' X C E (.Compare a [op, op'] [b, c] pos) (.chain o o' ia ib ic) := by
  refine pt_imp (pt_chain ho ho' ha hb hc hm) fun σ H Q ⟨O, ρ, so, q⟩ => ?_
  have q := ET.es (K := X.K) (O := O) q
  simp only [evalE] at q
  exact chain_of (fr := false) so q

/-! ### not, and, or -/
theorem pd_neg {a : Expr} {ia : Ex} {pos : Pos} (ha : PEb X C E a ia) : PEs X C E (.UnaryOp .USub a pos) (.neg ia) := by
  refine pe_imp (pe_un un_neg ha) fun σ H Q ⟨O, ρ, so, q⟩ => ⟨O, ρ, so, ?_⟩
  simp only [evalE] at q
  refine (EB.bindS q).mono fun x H1 _ ⟨d, r, s1, q⟩ => ?_
  cases d with
  | int i => exact ⟨i, r.int, q.int⟩
  | _ => exact False.elim q
theorem asBool_bind {K : PySem.W.Frag} {O : Addr → Prop} {fr : Bool} {d : D} {f : Bool → Res D} {Q : VK} {H : Hp} {v : V} (r : RB K O H v d) (q : ES K O fr E ((asBool d).bind f) Q H) : ∃ t, v = .bl t ∧ ES K O fr E (f t) Q H := by
  cases d with
  | bool t => exact ⟨t, r.bool, q⟩
  | _ => exact False.elim q
theorem pd_not {a : Expr} {ia : Ex} {pos : Pos} (ha : PEb X C E a ia) : PEs X C E (.UnaryOp .Not a pos) (.not ia) := by
  refine pe_imp (pe_not ha) fun σ H Q ⟨O, ρ, so, q⟩ => ⟨O, ρ, so, ?_⟩
  simp only [evalE] at q
  refine (EB.bindS q).mono fun x H1 _ ⟨d, r, s1, q⟩ => ?_
  obtain ⟨t, e, q⟩ := asBool_bind r q
  exact ⟨t, e, q.bool⟩
theorem pd_notT {a : Expr} {ia : Ex} {pos : Pos} (ha : PTs' X C E a ia) : PTs' X C E (.UnaryOp .Not a pos) (.not ia) := by
  refine pt_imp (pt_not ha) fun σ H Q ⟨O, ρ, so, q⟩ => ⟨O, ρ, so, ?_⟩
  simp only [evalE, bind_assoc] at q
  rw [← bind_assoc] at q
  cases e : (evalE C ia ρ).bind asBool with
  | ok t => rw [e] at q; exact q
  | exc c => rw [e] at q; exact q
  | bad => rw [e] at q; exact q
/-- a value that is no test's own form, as a test -/
theorem pd_val {e : Expr} {ir : Ex} (h : PEs X C E e ir) (hf : freshE ir = false) (he : ∀ whole, isTrue e X.env whole = (do let v ← whole; standAt e.pos; holding [v] (truthy v))) : PTs' X C E e ir := by
  refine pt_imp (pt_val h he) fun σ H Q ⟨O, ρ, so, q⟩ => ⟨O, ρ, so, ?_⟩
  rw [hf]
  exact ET.es q
theorem ES.any {K : PySem.W.Frag} {O : Addr → Prop} {fr fr' : Bool} {r : Res D} {Q : VK} {H : Hp} (h : ES K O fr E r Q H) (z : fr = false) : ES K O fr' E r Q H := by
  subst z
  cases r with
  | ok d => exact fun v H1 s rb _ => h v H1 s rb fun q => nomatch q
  | exc c => exact h
  | bad => exact h
def andAll : List Ex → Ex
  | [] => .k .none
  | [x] => x
  | x :: y :: r => .and x (andAll (y :: r))
def orAll : List Ex → Ex
  | [] => .k .none
  | [x] => x
  | x :: y :: r => .or x (orAll (y :: r))
theorem pd_and {a b : Expr} {rest : List Expr} {ia ib : Ex} {pos : Pos} (ha : PEb X C E a ia) (hb : PEs X C E (.BoolOp .And (b :: rest) pos) ib) : PEs X C E (.BoolOp .And (a :: b :: rest) pos) (.and ia ib) := by
  refine pe_imp (pe_and ha hb) fun σ H Q ⟨O, ρ, so, q⟩ => ⟨O, ρ, so, ?_⟩
  simp only [evalE] at q
  refine (EB.bindS q).mono fun x H1 _ ⟨d, r, s1, q⟩ => ?_
  obtain ⟨t, e, q⟩ := asBool_bind r q
  refine ⟨t, e, ?_⟩
  cases t with
  | true => exact iteT ⟨O, ρ, so.same s1, ES.any q rfl⟩
  | false => exact iteF (ES.bool q)
theorem pd_or {a b : Expr} {rest : List Expr} {ia ib : Ex} {pos : Pos} (ha : PEb X C E a ia) (hb : PEs X C E (.BoolOp .Or (b :: rest) pos) ib) : PEs X C E (.BoolOp .Or (a :: b :: rest) pos) (.or ia ib) := by
  refine pe_imp (pe_or ha hb) fun σ H Q ⟨O, ρ, so, q⟩ => ⟨O, ρ, so, ?_⟩
  simp only [evalE] at q
  refine (EB.bindS q).mono fun x H1 _ ⟨d, r, s1, q⟩ => ?_
  obtain ⟨t, e, q⟩ := asBool_bind r q
  refine ⟨t, e, ?_⟩
  cases t with
  | true => exact iteT (ES.bool q)
  | false => exact iteF ⟨O, ρ, so.same s1, ES.any q rfl⟩
theorem ET.split {r : Res D} {f : Bool → Res D} {Q : Bool → Hp → Prop} {H : Hp} (h : ET E ((r.bind fun a => (asBool a).bind f).bind asBool) Q H) : ET E (r.bind asBool) (fun t H1 => Same H H1 ∧ ET E ((f t).bind asBool) Q H1) H := by
  have e : ((r.bind fun a => (asBool a).bind f).bind asBool) = (r.bind asBool).bind fun t => (f t).bind asBool := by
    rw [bind_assoc, bind_assoc]
    congr
    funext a
    rw [bind_assoc]
  rw [e] at h
  exact ET.bindT h
theorem ET.mono {r : Res Bool} {Q Q' : Bool → Hp → Prop} {H : Hp} (h : ET E r Q H) (w : ∀ v H', Same H H' → Q v H' → Q' v H') : ET E r Q' H := by
  cases r with
  | ok d => exact fun H1 s => w d H1 s (h H1 s)
  | exc c => exact h
  | bad => exact h
theorem ET.of {t : Bool} {Q : Bool → Hp → Prop} {H : Hp} (h : ET E ((Res.ok (PyData.bool t)).bind asBool) Q H) : Q t H := h H (Same.refl H)
abbrev PWs (X : Cx) (C : Nat → List D → Res D) (E : Nat → Hp → Prop) (e : Expr) (ir : Ex) : Prop := PW X e (tTs X.K C E ir)
theorem pd_andT {a b : Expr} {rest : List Expr} {ia ib : Ex} {pos : Pos} (ha : PTs' X C E a ia) (hb : PWs X C E (.BoolOp .And (b :: rest) pos) ib) : PWs X C E (.BoolOp .And (a :: b :: rest) pos) (.and ia ib) := by
  refine pw_imp (pw_and ha hb) fun σ H Q ⟨O, ρ, so, q⟩ => ⟨O, ρ, so, ?_⟩
  simp only [evalE] at q
  refine (ET.split q).mono fun t H1 s1 ⟨_, q⟩ => ?_
  cases t with
  | true => exact iteT ⟨O, ρ, so.same s1, q⟩
  | false => exact iteF (ET.of q)
theorem pd_orT {a b : Expr} {rest : List Expr} {ia ib : Ex} {pos : Pos} (ha : PTs' X C E a ia) (hb : PWs X C E (.BoolOp .Or (b :: rest) pos) ib) : PWs X C E (.BoolOp .Or (a :: b :: rest) pos) (.or ia ib) := by
  refine pw_imp (pw_or ha hb) fun σ H Q ⟨O, ρ, so, q⟩ => ⟨O, ρ, so, ?_⟩
  simp only [evalE] at q
  refine (ET.split q).mono fun t H1 s1 ⟨_, q⟩ => ?_
  cases t with
  | true => exact iteT (ET.of q)
  | false => exact iteF ⟨O, ρ, so.same s1, q⟩
theorem pd_andL {pos : Pos} : ∀ {es : List Expr} {irs : List Ex}, es ≠ [] → Paired (fun e ir => PEs X C E e ir) es irs → PEs X C E (.BoolOp .And es pos) (andAll irs)
  | [], _, h, _ => absurd rfl h
  | [a], _, _, .cons ha .nil => pe_one ha
  | a :: b :: r, _, _, .cons ha (.cons hb hr) => pd_and ha.b (pd_andL (List.cons_ne_nil b r) (.cons hb hr))
theorem pd_orL {pos : Pos} : ∀ {es : List Expr} {irs : List Ex}, es ≠ [] → Paired (fun e ir => PEs X C E e ir) es irs → PEs X C E (.BoolOp .Or es pos) (orAll irs)
  | [], _, h, _ => absurd rfl h
  | [a], _, _, .cons ha .nil => pe_one ha
  | a :: b :: r, _, _, .cons ha (.cons hb hr) => pd_or ha.b (pd_orL (List.cons_ne_nil b r) (.cons hb hr))
theorem pd_andLT {pos : Pos} : ∀ {es : List Expr} {irs : List Ex}, es ≠ [] → Paired (fun e ir => PTs' X C E e ir) es irs → PWs X C E (.BoolOp .And es pos) (andAll irs)
  | [], _, h, _ => absurd rfl h
  | [a], _, _, .cons ha .nil => pw_and1 ha
  | a :: b :: r, _, _, .cons ha (.cons hb hr) => pd_andT ha (pd_andLT (List.cons_ne_nil b r) (.cons hb hr))
theorem pd_orLT {pos : Pos} : ∀ {es : List Expr} {irs : List Ex}, es ≠ [] → Paired (fun e ir => PTs' X C E e ir) es irs → PWs X C E (.BoolOp .Or es pos) (orAll irs)
  | [], _, h, _ => absurd rfl h
  | [a], _, _, .cons ha .nil => pw_or1 ha
  | a :: b :: r, _, _, .cons ha (.cons hb hr) => pd_orT ha (pd_orLT (List.cons_ne_nil b r) (.cons hb hr))
theorem ET.cond {K : PySem.W.Frag} {O : Addr → Prop} {fr : Bool} {r : Res D} {f : Bool → Res D} {Q : VK} {H : Hp} (h : ES K O fr E (r.bind fun a => (asBool a).bind f) Q H) : ET E (r.bind asBool) (fun t H1 => Same H H1 ∧ ES K O fr E (f t) Q H1) H := by
  rw [← bind_assoc] at h
  exact ET.bindS h
theorem pd_ife {c a b : Expr} {ic ia ib : Ex} {pos : Pos} (hc : PTs' X C E c ic) (ha : PEs X C E a ia) (hb : PEs X C E b ib) : PEs X C E (.IfExp c a b pos) (.ife ic ia ib) := by
  refine pe_imp (pe_ifExp hc ha hb) fun σ H Q ⟨O, ρ, so, q⟩ => ⟨O, ρ, so, ?_⟩
  simp only [evalE] at q
  refine (ET.cond q).mono fun t H1 s1 ⟨_, q⟩ => ?_
  cases t with
  | true => exact iteT ⟨O, ρ, so.same s1, ES.any q rfl⟩
  | false => exact iteF ⟨O, ρ, so.same s1, ES.any q rfl⟩

/-! ### calls -/
theorem pl_of {es : List Expr} {pos : Pos} (h : es.all notStar = true) (env : PySem.Env) : (backTo pos (starEach es env)).any (·.1) = false := by
  induction es with
  | nil => rfl
  | cons e es ih =>
    rw [List.all_cons, Bool.and_eq_true] at h
    rw [star_of h.1]
    have := ih h.2
    simp only [backTo, List.map_cons, List.any_cons, Bool.false_or] at this ⊢
    exact this
end
section
variable {g : Gc} {S : Sc} {T : Nat → Option Fn} {n : Nat} {cls : Nat → Value} {EX : XK} {X : Cx}
theorem kind_of (ok : Cok g S T n cls EX X) {x : Str} {k : NameKind} (h : S.sc.names.lookup x = some k) : X.env.kindOf x = some k := by
  show X.env.scope.names.lookup x = some k
  rw [ok.sc]
  exact h
theorem pd_call (ok : Cok g S T n cls EX X) {x : Str} {f : Nat} {e : Expr} {es : List Expr} {irs : List Ex} {p pos : Pos} (hf : (x, f) ∈ g.fns) (hg : S.sc.names.lookup x = some .globalImplicit) (hd : (x == ("__debug__" : Str)) = false)
    (ns : (e :: es).all notStar = true) (ha : PAs X (callF T n) (Ecl cls EX) (e :: es) irs) : PEs X (callF T n) (Ecl cls EX) (.Call (.Name x p) (e :: es) [] pos) (.call f irs) := by
  obtain ⟨a, fd, ps, hm, hk, hb, F⟩ := ok.w.fns _ hf
  rw [List.all_cons, Bool.and_eq_true] at ns
  refine pe_imp (pe_callS F ok.room (kind_of ok hg) hm hk hb (passAt ok.takes) ha hd (star_of ns.1 _ _) (pl_of ns.2 _)) fun σ H Q ⟨O, ρ, so, q⟩ => ⟨O, ρ, so, ?_⟩
  simp only [evalE] at q
  exact (ESs.bindS q).mono fun vs H1 _ ⟨ds, r, s1, q⟩ => ⟨O, ds, Dom.same so.dom s1, r, q⟩
theorem pd_blt (ok : Cok g S T n cls EX X) {x : Str} {id : String} {f : Bt} {e : Expr} {es : List Expr} {irs : List Ex} {p pos : Pos} {C : Nat → List D → Res D} {E : Nat → Hp → Prop} (hc : CallR X (.builtin id) (rBt X.K (freshE (.bt f irs)) E f))
    (hx : x ∈ bltNames) (hg : S.sc.names.lookup x = some .globalImplicit) (hv : bootBuiltins x = some (.builtin id)) (hn : x ≠ "__name__") (hd : (x == ("__debug__" : Str)) = false)
    (ns : (e :: es).all notStar = true) (ha : PAb X C E (e :: es) irs) : PEs X C E (.Call (.Name x p) (e :: es) [] pos) (.bt f irs) := by
  rw [List.all_cons, Bool.and_eq_true] at ns
  refine pe_imp (pe_callB hc (kind_of ok hg) (ok.w.blt x hx) hv ha hn hd (star_of ns.1 _ _) (pl_of ns.2 _)) fun σ H Q ⟨O, ρ, so, q⟩ => ⟨O, ρ, so, ?_⟩
  simp only [evalE] at q
  exact (EBs.bindS q).mono fun vs H1 _ ⟨ds, r, s1, q⟩ => ⟨O, ds, Dom.same so.dom s1, r, q⟩
theorem pd_bltTy (ok : Cok g S T n cls EX X) {x : Str} {id : String} {f : Bt} {e : Expr} {es : List Expr} {irs : List Ex} {p pos : Pos} {C : Nat → List D → Res D} {E : Nat → Hp → Prop} (hc : CallR X (.type id) (rBt X.K (freshE (.bt f irs)) E f))
    (hx : x ∈ bltNames) (hg : S.sc.names.lookup x = some .globalImplicit) (hv : bootBuiltins x = some (.type id)) (hn : x ≠ "__name__") (hd : (x == ("__debug__" : Str)) = false)
    (ns : (e :: es).all notStar = true) (ha : PAb X C E (e :: es) irs) : PEs X C E (.Call (.Name x p) (e :: es) [] pos) (.bt f irs) := by
  rw [List.all_cons, Bool.and_eq_true] at ns
  refine pe_imp (pe_callTy hc (kind_of ok hg) (ok.w.blt x hx) hv ha hn hd (star_of ns.1 _ _) (pl_of ns.2 _)) fun σ H Q ⟨O, ρ, so, q⟩ => ⟨O, ρ, so, ?_⟩
  simp only [evalE] at q
  exact (EBs.bindS q).mono fun vs H1 _ ⟨ds, r, s1, q⟩ => ⟨O, ds, Dom.same so.dom s1, r, q⟩
/-- isinstance(e, T) -/
theorem pd_isi (ok : Cok g S T n cls EX X) {tn : Str} {ty : String} {f : Bt} {gf : D → Bool} {e : Expr} {ir : Ex} {p p2 pos : Pos} {C : Nat → List D → Res D} {E : Nat → Hp → Prop} (hk : ∀ d, kitB (tyD d) ty = some (gf d)) (hf : evalBt f = bt1 fun d => .ok (.bool (gf d)))
    (hfr : freshE (.bt f [ir]) = false) (hx : ("isinstance" : Str) ∈ bltNames) (ht : tn ∈ bltNames) (hg : S.sc.names.lookup ("isinstance" : Str) = some .globalImplicit) (hgt : S.sc.names.lookup tn = some .globalImplicit)
    (hv : bootBuiltins tn = some (.type ty)) (hn : tn ≠ "__name__") (hd : (tn == ("__debug__" : Str)) = false) (ns : notStar e = true) (ha : PEb X C E e ir) :
    PEs X C E (.Call (.Name "isinstance" p) [e, .Name tn p2] [] pos) (.bt f [ir]) := by
  refine pe_imp (pe_callB (cr_isi (E := E) hk) (kind_of ok hg) (ok.w.blt _ hx) (by decide +kernel) (pa_cons ha (pa_cons (pe_bltn (v := .ty ty) (kind_of ok hgt) (ok.w.blt _ ht) hv rfl hn hd) pa_nil (star_of rfl _ _)) (star_of ns _ _)) (by decide) (by decide) (star_of ns _ _)
    (pl_of (by rfl) _)) fun σ H Q ⟨O, ρ, so, q⟩ => ⟨O, ρ, so, ?_⟩
  simp only [evalE, evalEs] at q
  rw [bind_assoc] at q
  refine (EB.bindS q).mono fun v H1 _ ⟨d, r, s1, q⟩ => ⟨O, v, d, Dom.same so.dom s1, rfl, r, ?_⟩
  rw [Res.bind_ok, Res.bind_ok, hf] at q
  exact ES.any q hfr
/-! ### slices -/
theorem po_of {X : Cx} {C : Nat → List D → Res D} {E : Nat → Hp → Prop} {e : Expr} {ir : Ex} (h : PEb X C E e ir) : PO X (some e) (fun σ H Q => ∃ O ρ, Sok X.K O σ ρ H ∧
    (match (evalEs C [ir] ρ).bind partL with | .ok l => ∀ H', Same H H' → Q l H' | .exc c => ∀ H', Same H H' → E c H' | .bad => False)) := by
  refine ⟨fun pins s σ H Q I q => (po_some h).run pins s σ H Q I ?_⟩
  obtain ⟨O, ρ, so, q⟩ := q
  refine ⟨O, ρ, so, ?_⟩
  simp only [evalEs] at q
  cases e1 : evalE C ir ρ with
  | bad => rw [e1] at q; exact False.elim q
  | exc c => rw [e1] at q; exact q
  | ok d =>
    rw [e1] at q
    intro v H1 s1 r1
    cases d with
    | int i =>
      obtain rfl := r1.int
      exact ⟨i, rfl, q H1 s1⟩
    | _ => exact False.elim q
def tPo (K : PySem.W.Frag) (C : Nat → List D → Res D) (E : Nat → Hp → Prop) (irs : List Ex) : TO := fun σ H Q => ∃ O ρ, Sok K O σ ρ H ∧
    (match (evalEs C irs ρ).bind partL with | .ok l => ∀ H', Same H H' → Q l H' | .exc c => ∀ H', Same H H' → E c H' | .bad => False)
theorem po_nil {X : Cx} {C : Nat → List D → Res D} {E : Nat → Hp → Prop} : PO X none (tPo X.K C E []) :=
  ⟨fun pins s σ H Q I q => po_none.run pins s σ H Q I (by
    obtain ⟨O, ρ, so, q⟩ := q
    exact q H (Same.refl H))⟩
theorem pd_sl {X : Cx} {C : Nat → List D → Res D} {E : Nat → Hp → Prop} {a : Expr} {lo hi : Option Expr} {ia : Ex} {il ih : List Ex} {p2 pos : Pos} (ha : PEb X C E a ia) (hl : PO X lo (tPo X.K C E il)) (hh : PO X hi (tPo X.K C E ih)) :
    PEs X C E (.Subscript a (.Slice lo hi none p2) pos) (.sl ia il ih) := by
  refine pe_imp (pe_slice (sl_D (E := E)) ha hl hh) fun σ H Q ⟨O, ρ, so, q⟩ => ⟨O, ρ, so, ?_⟩
  simp only [evalE] at q
  refine (EB.bindS q).mono fun x H1 _ ⟨d, r, s1, q⟩ => ⟨O, ρ, so.same s1, ?_⟩
  cases e1 : (evalEs C il ρ).bind partL with
  | bad => rw [e1] at q; exact False.elim q
  | exc c => rw [e1] at q; exact q
  | ok l =>
    rw [e1, Res.bind_ok] at q
    refine fun H2 s2 => ⟨O, ρ, (so.same s1).same s2, ?_⟩
    cases e2 : (evalEs C ih ρ).bind partL with
    | bad => rw [e2] at q; exact False.elim q
    | exc c => rw [e2] at q; exact fun H3 s3 => q H3 (s2.trans s3)
    | ok h =>
      rw [e2, Res.bind_ok] at q
      exact fun H3 s3 => ⟨O, d, ((Dom.same so.dom s1).same s2).same s3, (r.same s2).same s3, ES.same (s2.trans s3) q⟩
end
end BP

/-! What a loop or a comprehension walks. -/
namespace BP
open PySem PySem.Spec PyProof.Rows L2

/-! ### a list or a tuple, by its kind -/
def SqK (k : Bool) (K : PySem.W.Frag) (H : Hp) (a : Addr) (xs : List V) : Prop := if k = true then SqL K H a xs else SqT K H a xs
def IterK (k : Bool) (h : Heap) (it a : Addr) (i : Nat) : Prop := if k = true then h.IsListIter it a i else h.IsTupleIter it a i
def IsK (k : Bool) (h : Heap) (a : Addr) (its : Array Value) : Prop := if k = true then h.IsList a its else h.IsTuple a its
def itObj (k : Bool) (a : Addr) : Obj := { cls := .type (if k = true then "list_iterator" else "tuple_iterator"), data := .fields #[.ref a, .int 0 0] }
theorem IterK.keep {k : Bool} {h h' : Heap} {it a : Addr} {i : Nat} (st : IterK k h it a i) (e : ∀ o, h.get? it = some o → h'.get? it = some o) : IterK k h' it a i := by
  cases k with
  | true => exact Heap.IsListIter.at st e
  | false => exact Heap.IsTupleIter.at st e
theorem IterK.obj {k : Bool} {h : Heap} {it a : Addr} {i : Nat} (st : IterK k h it a i) : ∃ o, h.get? it = some o ∧ (∀ v, o.data ≠ .cell v) ∧ o.cls = .type (if k = true then "list_iterator" else "tuple_iterator") := by
  cases k with
  | true => obtain ⟨o, h1, h2, h3⟩ := st; exact ⟨o, h1, (fun v z => by rw [h3] at z; cases z), h2⟩
  | false => obtain ⟨o, h1, h2, h3⟩ := st; exact ⟨o, h1, (fun v z => by rw [h3] at z; cases z), h2⟩
theorem IsK.obj {k : Bool} {h : Heap} {a : Addr} {its : Array Value} (st : IsK k h a its) : ∃ o, h.get? a = some o ∧ o.cls = .type (if k = true then "list" else "tuple") := by
  cases k with
  | true => obtain ⟨o, h1, h2, _⟩ := st; exact ⟨o, h1, h2⟩
  | false => obtain ⟨o, h1, h2, _⟩ := st; exact ⟨o, h1, h2⟩
theorem IsK.push {k : Bool} {h h' : Heap} {a : Addr} {its : Array Value} (st : IsK k h a its) (e : ∀ o, h.get? a = some o → h'.get? a = some o) : IsK k h' a its := by
  cases k with
  | true => exact Heap.IsList.at st e
  | false => exact Heap.IsTuple.at st e
theorem drawsK {prog : Program} {w : World} {A : Around} (hh : A.handled = none) (k : Bool) (it a : Addr) (hne : a ≠ it) (its : Array Value) :
    Draws prog w A it [it, a] its.size (fun i v => its[i]? = some v) (fun i h => IterK k h it a i ∧ IsK k h a its) := by
  cases k with
  | true => exact Draws.list hh it a hne its
  | false => exact Draws.tuple hh it a hne its
theorem beginsK (k : Bool) (a : Addr) (its : Array Value) : Begins (.ref a) (itObj k a) fun h => IsK k h a its := by
  cases k with
  | true => exact begins_list a its
  | false => exact begins_tuple a its
theorem IterK.new {k : Bool} {h : Heap} {it a : Addr} (e : h.get? it = some (itObj k a)) : IterK k h it a 0 := by
  cases k with
  | true => exact ⟨_, e, rfl, rfl⟩
  | false => exact ⟨_, e, rfl, rfl⟩
section
variable {X : Cx} {pins : List (Addr × Obj)} {σ : L2.St} {H : Hp} {s : Shared} {a : Addr} {xs ys : List V}
theorem seqK (k : Bool) (I : Inv X pins σ H s) (h : SqK k X.K H a xs) : ∃ its : List Value, Vals xs its ∧ IsK k s.heap a its.toArray := by
  cases k with
  | true => obtain ⟨its, r, p, _⟩ := I.list h; exact ⟨its, r, p.isList⟩
  | false => obtain ⟨its, r, p, _⟩ := I.tuple h; exact ⟨its, r, p⟩
theorem seqK_inj (k : Bool) (I : Inv X pins σ H s) (h : SqK k X.K H a xs) (h' : SqK k X.K H a ys) : xs = ys := by
  cases k with
  | true => exact I.list_inj h h'
  | false => exact I.tuple_inj h h'
theorem IterK.apart {k k' : Bool} {h : Heap} {it a b : Addr} {i : Nat} {its : Array Value} (st : IterK k h it a i) (q : IsK k' h b its) : b ≠ it := by
  obtain ⟨o, h1, _, h2⟩ := st.obj
  obtain ⟨o', h1', h2'⟩ := q.obj
  intro e
  rw [e, h1] at h1'
  cases h1'
  rw [h2] at h2'
  cases k <;> cases k' <;> simp at h2'
end

/-! ### enumerate -/
def IteK (k : Bool) (K : PySem.W.Frag) (a : Addr) : It :=
  ⟨fun i H => ∃ xs x, SqK k K H a xs ∧ xs[i]? = some x,
    fun i H v H' => ∃ T x, v = .ref T ∧ H T = none ∧ H' = upd H T (.tup [.int (i : Nat), x]) ∧ ∀ xs, SqK k K H a xs → xs[i]? = some x,
    fun i H => ∃ xs, SqK k K H a xs ∧ xs.length = i⟩
theorem turn_enumK {P : Program} {w : World} {K : PySem.W.Frag} {elts : List Expr} {kk : Nat} {tpos : Pos} (k : Bool) (a e it : Addr) :
    Turn P w K (.Tuple elts kk tpos) (IteK k K a) [e, it] e (fun i h => (∃ old, IsEnum h e it ((0 : Int) + (i : Nat)) old) ∧ IterK k h it a i ∧ e ≠ it ∧ e ≠ a) where
  mem := by simp
  obj := fun i h st b hb => by
    obtain ⟨⟨old, he⟩, hi, _⟩ := st
    have e' : b = e ∨ b = it := by simpa using hb
    rcases e' with z | z
    · rw [z]; exact ⟨_, he, fun v q => nomatch q⟩
    · rw [z]; obtain ⟨o, h1, h2, _⟩ := hi.obj; exact ⟨o, h1, h2⟩
  keep := fun i h h' st k => let ⟨⟨old, he⟩, hi, hne⟩ := st; ⟨⟨old, k e (by simp) _ he⟩, hi.keep fun o q => k it (by simp) o q, hne⟩
  item := by
    intro X hP hw hK hc i pins s σ H E I hf st hg
    subst hP hw hK
    obtain ⟨he, hit, hne, hna⟩ := st
    obtain ⟨xs, x, hq, hx⟩ := hg
    obtain ⟨its, rv, p⟩ := seqK k I hq
    obtain ⟨u, hu, ru⟩ := rv.get hx
    have hel : e < s.heap.objs.size := by obtain ⟨_, q⟩ := he; exact Heap.lt_size q
    have hil : it < s.heap.objs.size := by obtain ⟨_, q, _⟩ := hit.obj; exact Heap.lt_size q
    have hlt : i < its.toArray.size := by
      have := (List.getElem?_eq_some_iff.mp hu).1
      simpa using this
    have G := GoesN.enumFrom (elts := elts) (x1 := kk) (pos := tpos) (0 : Int) (drawsK (prog := X.prog) (w := X.w) (A := X.A.in1) (I.ok.hd hc) k it a (hit.apart p) its.toArray) e hne (by simp [hne, hna]) (by simp)
    refine G.goes i s _ E hlt ⟨he, hit, p⟩ fun v h' tk hY st' hk _ => ?_
    obtain ⟨T, t, x', rfl, hT, hx', hTT⟩ := hY
    have ex : x' = u := by
      have : its[i]? = some x' := by simpa using hx'
      rw [hu] at this
      exact (Option.some.inj this).symm
    subst ex
    have i0 : (0 : Int) + (i : Nat) = (i : Nat) := Int.zero_add _
    rw [i0] at hTT
    have new : ObjOk X.prog X.w (upd H T (.tup [.int (i : Nat), x])) h' T (.tup [.int (i : Nat), x]) :=
      ⟨by show 2 ≤ sizeLine; decide, [.int i t, x'], .cons ⟨_, rfl⟩ (.cons ru .nil), hTT⟩
    have I1 : Inv X pins σ (upd H T (.tup [.int (i : Nat), x])) { s with heap := h', toks := tk } :=
      I.turnedNew (ch := [e, it]) (fun b ob hb q => hk b ob (by simpa using hb) q) hf hT new
    refine ⟨.ref T, _, I1, rfl, ⟨T, x, rfl, I.hok.fresh hT, rfl, fun ys hy => by rw [seqK_inj k I hy hq]; exact hx⟩, ⟨st'.1, st'.2.1, hne, hna⟩, fun b hb => ?_⟩
    have hb' : b < s.heap.objs.size := by
      have e' : b = e ∨ b = it := by simpa using hb
      rcases e' with z | z
      · rw [z]; exact hel
      · rw [z]; exact hil
    rw [upd_ne (Nat.ne_of_lt (Nat.lt_of_lt_of_le hb' hT))]
    exact (hf b hb).1
  done := by
    intro X hP hw hK hc i pins s σ H E I hf st hg
    subst hP hw hK
    obtain ⟨he, hit, hne, hna⟩ := st
    obtain ⟨xs, hq, hx⟩ := hg
    obtain ⟨its, rv, p⟩ := seqK k I hq
    have hl := rv.length
    have en : i = its.toArray.size := by simp; omega
    subst en
    have G := GoesN.enumFrom (elts := elts) (x1 := kk) (pos := tpos) (0 : Int) (drawsK (prog := X.prog) (w := X.w) (A := X.A.in1) (I.ok.hd hc) k it a (hit.apart p) its.toArray) e hne (by simp [hne, hna]) (by simp)
    exact G.stops s _ E ⟨he, hit, p⟩ fun h' tk hk _ => I.turnedL (ch := [e, it]) (fun b o hb q => hk b o (by simpa using hb) q) hf
  self := fun A i s Q E st h => let ⟨⟨_, he⟩, _⟩ := st; wpAny_pyIter_enum he h

/-! ### zip of two -/
def Itz2K (k1 k2 : Bool) (K : PySem.W.Frag) (a b : Addr) : It :=
  ⟨fun i H => ∃ (xs ys : List V) (x y : V), SqK k1 K H a xs ∧ SqK k2 K H b ys ∧ xs[i]? = some x ∧ ys[i]? = some y,
    fun i H v H' => ∃ T x y, v = .ref T ∧ H T = none ∧ H' = upd H T (.tup [x, y]) ∧ (∀ xs, SqK k1 K H a xs → xs[i]? = some x) ∧ ∀ ys, SqK k2 K H b ys → ys[i]? = some y,
    fun i H => ∃ xs ys : List V, SqK k1 K H a xs ∧ SqK k2 K H b ys ∧ min xs.length ys.length = i⟩
/-- the cells of a zip of two -/
structure Z2 (z TI TO i1 i2 a b : Addr) : Prop where
  sep : ZipSep2 z TI TO i1 i2 [i1, a] [i2, b]
theorem turn_zip2K {P : Program} {w : World} {K : PySem.W.Frag} {elts : List Expr} {kk : Nat} {tpos : Pos} (k1 k2 : Bool) {a b z TI TO i1 i2 : Addr} (S : ZipSep2 z TI TO i1 i2 [i1, a] [i2, b]) :
    Turn P w K (.Tuple elts kk tpos) (Itz2K k1 k2 K a b) [z, TI, TO, i1, i2] z (fun i h => IsZip h z TI TO .none ∧ IsTupOf2 h TI (.ref i1) (.ref i2) ∧ (∃ x y, IsTupOf2 h TO x y) ∧ IterK k1 h i1 a i ∧ IterK k2 h i2 b i) where
  mem := by simp
  obj := fun i h st c hc => by
    obtain ⟨hz, eT, ⟨x, y, eO⟩, h1, h2⟩ := st
    have e' : c = z ∨ c = TI ∨ c = TO ∨ c = i1 ∨ c = i2 := by simpa using hc
    rcases e' with q | q | q | q | q
    · rw [q]; exact ⟨_, hz, fun v q => nomatch q⟩
    · rw [q]; exact ⟨_, eT, fun v q => nomatch q⟩
    · rw [q]; exact ⟨_, eO, fun v q => nomatch q⟩
    · rw [q]; obtain ⟨o, e1, e2, _⟩ := h1.obj; exact ⟨o, e1, e2⟩
    · rw [q]; obtain ⟨o, e1, e2, _⟩ := h2.obj; exact ⟨o, e1, e2⟩
  keep := fun i h h' st k => by
    obtain ⟨hz, eT, ⟨x, y, eO⟩, h1, h2⟩ := st
    exact ⟨k z (by simp) _ hz, k TI (by simp) _ eT, ⟨x, y, k TO (by simp) _ eO⟩, h1.keep fun o q => k i1 (by simp) o q, h2.keep fun o q => k i2 (by simp) o q⟩
  item := by
    intro X hP hw hK hc i pins s σ H E I hf st hg
    subst hP hw hK
    have st0 := st
    obtain ⟨hz, hTI, hTO, h1, h2⟩ := st
    obtain ⟨xs, ys, x, y, hqx, hqy, hx, hy⟩ := hg
    obtain ⟨its, rv, p⟩ := seqK k1 I hqx
    obtain ⟨its2, rv2, p2⟩ := seqK k2 I hqy
    obtain ⟨u, hu, ru⟩ := rv.get hx
    obtain ⟨u2, hu2, ru2⟩ := rv2.get hy
    have l1 := (List.getElem?_eq_some_iff.mp hu).1
    have l2 := (List.getElem?_eq_some_iff.mp hu2).1
    have hhd := I.ok.hd hc
    have G := GoesN.zip2 (elts := elts) (x1 := kk) (pos := tpos) S (drawsK (prog := X.prog) (w := X.w) (A := X.A.in1) hhd k1 i1 a (h1.apart p) its.toArray) (drawsK (prog := X.prog) (w := X.w) (A := X.A.in1) hhd k2 i2 b (h2.apart p2) its2.toArray)
    have hlt : i < min its.toArray.size its2.toArray.size := by simp; omega
    have live : ∀ c ∈ [z, TI, TO, i1, i2], c < s.heap.objs.size := fun c hcm => by
      have e' : c = z ∨ c = TI ∨ c = TO ∨ c = i1 ∨ c = i2 := by simpa using hcm
      have eT := hTI
      obtain ⟨_, _, eO⟩ := hTO
      obtain ⟨_, e1, _⟩ := h1.obj
      obtain ⟨_, e2, _⟩ := h2.obj
      rcases e' with q | q | q | q | q
      · rw [q]; exact Heap.lt_size hz
      · rw [q]; exact Heap.lt_size eT
      · rw [q]; exact Heap.lt_size eO
      · rw [q]; exact Heap.lt_size e1
      · rw [q]; exact Heap.lt_size e2
    refine G.goes i s _ E hlt ⟨hz, hTI, hTO, ⟨h1, p⟩, h2, p2⟩ fun v h' tk hY st' hk _ => ?_
    obtain ⟨T, x', y', rfl, hT, hx', hy', hTT⟩ := hY
    have ex : x' = u := by
      have : its[i]? = some x' := by simpa using hx'
      rw [hu] at this
      exact (Option.some.inj this).symm
    have ey : y' = u2 := by
      have : its2[i]? = some y' := by simpa using hy'
      rw [hu2] at this
      exact (Option.some.inj this).symm
    subst ex ey
    have new : ObjOk X.prog X.w (upd H T (.tup [x, y])) h' T (.tup [x, y]) :=
      ⟨by show 2 ≤ sizeLine; decide, [x', y'], .cons ru (.cons ru2 .nil), hTT⟩
    have I1 : Inv X pins σ (upd H T (.tup [x, y])) { s with heap := h', toks := tk } :=
      I.turnedNew (ch := [z, TI, TO, i1, i2]) (fun c ob hb q => hk c ob (fun hm => hb (by
        have e' : c = z ∨ c = TO ∨ c = i1 ∨ c = i2 := by simpa using hm
        rcases e' with q | q | q | q <;> simp [q])) q) hf hT new
    refine ⟨.ref T, _, I1, rfl, ⟨T, x, y, rfl, I.hok.fresh hT, rfl, fun l hl => by rw [seqK_inj k1 I hl hqx]; exact hx, fun l hl => by rw [seqK_inj k2 I hl hqy]; exact hy⟩, ⟨st'.1, st'.2.1, st'.2.2.1, st'.2.2.2.1.1, st'.2.2.2.2.1⟩, fun c hcm => ?_⟩
    rw [upd_ne (Nat.ne_of_lt (Nat.lt_of_lt_of_le (live c hcm) hT))]
    exact (hf c hcm).1
  done := by
    intro X hP hw hK hc i pins s σ H E I hf st hg
    subst hP hw hK
    obtain ⟨hz, hTI, hTO, h1, h2⟩ := st
    obtain ⟨xs, ys, hqx, hqy, hend⟩ := hg
    obtain ⟨its, rv, p⟩ := seqK k1 I hqx
    obtain ⟨its2, rv2, p2⟩ := seqK k2 I hqy
    have l1 := rv.length
    have l2 := rv2.length
    have hhd := I.ok.hd hc
    have en : i = min its.toArray.size its2.toArray.size := by simp; omega
    subst en
    have G := GoesN.zip2 (elts := elts) (x1 := kk) (pos := tpos) S (drawsK (prog := X.prog) (w := X.w) (A := X.A.in1) hhd k1 i1 a (h1.apart p) its.toArray) (drawsK (prog := X.prog) (w := X.w) (A := X.A.in1) hhd k2 i2 b (h2.apart p2) its2.toArray)
    exact G.stops s _ E ⟨hz, hTI, hTO, ⟨h1, p⟩, h2, p2⟩ fun h' tk hk _ => I.turnedL (ch := [z, TI, TO, i1, i2]) (fun c o hb q => hk c o (fun hm => hb (by
        have e' : c = z ∨ c = TO ∨ c = i1 ∨ c = i2 := by simpa using hm
        rcases e' with q | q | q | q <;> simp [q])) q) hf
  self := fun A i s Q E st h => wpAny_pyIter_zip st.1 h

/-! ### zip of three -/
def Itz3K (k1 k2 k3 : Bool) (K : PySem.W.Frag) (a b c : Addr) : It :=
  ⟨fun i H => ∃ (xs ys zs : List V) (x y z : V), SqK k1 K H a xs ∧ SqK k2 K H b ys ∧ SqK k3 K H c zs ∧ xs[i]? = some x ∧ ys[i]? = some y ∧ zs[i]? = some z,
    fun i H v H' => ∃ T x y z, v = .ref T ∧ H T = none ∧ H' = upd H T (.tup [x, y, z]) ∧ (∀ xs, SqK k1 K H a xs → xs[i]? = some x) ∧ (∀ ys, SqK k2 K H b ys → ys[i]? = some y) ∧ ∀ zs, SqK k3 K H c zs → zs[i]? = some z,
    fun i H => ∃ xs ys zs : List V, SqK k1 K H a xs ∧ SqK k2 K H b ys ∧ SqK k3 K H c zs ∧ min (min xs.length ys.length) zs.length = i⟩
theorem turn_zip3K {P : Program} {w : World} {K : PySem.W.Frag} {elts : List Expr} {kk : Nat} {tpos : Pos} (k1 k2 k3 : Bool) {a b c z TI TO i1 i2 i3 : Addr} (S : ZipSep3 z TI TO i1 i2 i3 [i1, a] [i2, b] [i3, c]) :
    Turn P w K (.Tuple elts kk tpos) (Itz3K k1 k2 k3 K a b c) [z, TI, TO, i1, i2, i3] z
      (fun i h => IsZip h z TI TO .none ∧ IsTupOf3 h TI (.ref i1) (.ref i2) (.ref i3) ∧ (∃ x y z, IsTupOf3 h TO x y z) ∧ IterK k1 h i1 a i ∧ IterK k2 h i2 b i ∧ IterK k3 h i3 c i) where
  mem := by simp
  obj := fun i h st d hc => by
    obtain ⟨hz, eT, ⟨x, y, _, eO⟩, h1, h2, h3⟩ := st
    have e' : d = z ∨ d = TI ∨ d = TO ∨ d = i1 ∨ d = i2 ∨ d = i3 := by simpa using hc
    rcases e' with q | q | q | q | q | q
    · rw [q]; exact ⟨_, hz, fun v q => nomatch q⟩
    · rw [q]; exact ⟨_, eT, fun v q => nomatch q⟩
    · rw [q]; exact ⟨_, eO, fun v q => nomatch q⟩
    · rw [q]; obtain ⟨o, e1, e2, _⟩ := h1.obj; exact ⟨o, e1, e2⟩
    · rw [q]; obtain ⟨o, e1, e2, _⟩ := h2.obj; exact ⟨o, e1, e2⟩
    · rw [q]; obtain ⟨o, e1, e2, _⟩ := h3.obj; exact ⟨o, e1, e2⟩
  keep := fun i h h' st k => by
    obtain ⟨hz, eT, ⟨x, y, u, eO⟩, h1, h2, h3⟩ := st
    exact ⟨k z (by simp) _ hz, k TI (by simp) _ eT, ⟨x, y, u, k TO (by simp) _ eO⟩, h1.keep fun o q => k i1 (by simp) o q, h2.keep fun o q => k i2 (by simp) o q, h3.keep fun o q => k i3 (by simp) o q⟩
  item := by
    intro X hP hw hK hc i pins s σ H E I hf st hg
    subst hP hw hK
    obtain ⟨hz, hTI, hTO, h1, h2, h3⟩ := st
    obtain ⟨xs, ys, zs, x, y, u, hqx, hqy, hqz, hx, hy, hu⟩ := hg
    obtain ⟨its, rv, p⟩ := seqK k1 I hqx
    obtain ⟨its2, rv2, p2⟩ := seqK k2 I hqy
    obtain ⟨its3, rv3, p3⟩ := seqK k3 I hqz
    obtain ⟨u1, hu1, ru⟩ := rv.get hx
    obtain ⟨u2, hu2, ru2⟩ := rv2.get hy
    obtain ⟨u3, hu3, ru3⟩ := rv3.get hu
    have l1 := (List.getElem?_eq_some_iff.mp hu1).1
    have l2 := (List.getElem?_eq_some_iff.mp hu2).1
    have l3 := (List.getElem?_eq_some_iff.mp hu3).1
    have hhd := I.ok.hd hc
    have G := GoesN.zip3 (elts := elts) (x1 := kk) (pos := tpos) S (drawsK (prog := X.prog) (w := X.w) (A := X.A.in1) hhd k1 i1 a (h1.apart p) its.toArray) (drawsK (prog := X.prog) (w := X.w) (A := X.A.in1) hhd k2 i2 b (h2.apart p2) its2.toArray)
      (drawsK (prog := X.prog) (w := X.w) (A := X.A.in1) hhd k3 i3 c (h3.apart p3) its3.toArray)
    have hlt : i < min (min its.toArray.size its2.toArray.size) its3.toArray.size := by simp; omega
    have live : ∀ d ∈ [z, TI, TO, i1, i2, i3], d < s.heap.objs.size := fun d hcm => by
      have e' : d = z ∨ d = TI ∨ d = TO ∨ d = i1 ∨ d = i2 ∨ d = i3 := by simpa using hcm
      have eT := hTI
      obtain ⟨_, _, _, eO⟩ := hTO
      obtain ⟨_, e1, _⟩ := h1.obj
      obtain ⟨_, e2, _⟩ := h2.obj
      obtain ⟨_, e3, _⟩ := h3.obj
      rcases e' with q | q | q | q | q | q
      · rw [q]; exact Heap.lt_size hz
      · rw [q]; exact Heap.lt_size eT
      · rw [q]; exact Heap.lt_size eO
      · rw [q]; exact Heap.lt_size e1
      · rw [q]; exact Heap.lt_size e2
      · rw [q]; exact Heap.lt_size e3
    refine G.goes i s _ E hlt ⟨hz, hTI, hTO, ⟨h1, p⟩, ⟨h2, p2⟩, h3, p3⟩ fun v h' tk hY st' hk _ => ?_
    obtain ⟨T, x', y', z', rfl, hT, hx', hy', hz', hTT⟩ := hY
    have ex : x' = u1 := by
      have : its[i]? = some x' := by simpa using hx'
      rw [hu1] at this
      exact (Option.some.inj this).symm
    have ey : y' = u2 := by
      have : its2[i]? = some y' := by simpa using hy'
      rw [hu2] at this
      exact (Option.some.inj this).symm
    have ez : z' = u3 := by
      have : its3[i]? = some z' := by simpa using hz'
      rw [hu3] at this
      exact (Option.some.inj this).symm
    subst ex ey ez
    have new : ObjOk X.prog X.w (upd H T (.tup [x, y, u])) h' T (.tup [x, y, u]) :=
      ⟨by show 3 ≤ sizeLine; decide, [x', y', z'], .cons ru (.cons ru2 (.cons ru3 .nil)), hTT⟩
    have I1 : Inv X pins σ (upd H T (.tup [x, y, u])) { s with heap := h', toks := tk } :=
      I.turnedNew (ch := [z, TI, TO, i1, i2, i3]) (fun c ob hb q => hk c ob (fun hm => hb (by
        have e' : c = z ∨ c = TO ∨ c = i1 ∨ c = i2 ∨ c = i3 := by simpa using hm
        rcases e' with q | q | q | q | q <;> simp [q])) q) hf hT new
    refine ⟨.ref T, _, I1, rfl, ⟨T, x, y, u, rfl, I.hok.fresh hT, rfl, fun l hl => by rw [seqK_inj k1 I hl hqx]; exact hx, fun l hl => by rw [seqK_inj k2 I hl hqy]; exact hy, fun l hl => by rw [seqK_inj k3 I hl hqz]; exact hu⟩,
      ⟨st'.1, st'.2.1, st'.2.2.1, st'.2.2.2.1.1, st'.2.2.2.2.1.1, st'.2.2.2.2.2.1⟩, fun d hcm => ?_⟩
    rw [upd_ne (Nat.ne_of_lt (Nat.lt_of_lt_of_le (live d hcm) hT))]
    exact (hf d hcm).1
  done := by
    intro X hP hw hK hc i pins s σ H E I hf st hg
    subst hP hw hK
    obtain ⟨hz, hTI, hTO, h1, h2, h3⟩ := st
    obtain ⟨xs, ys, zs, hqx, hqy, hqz, hend⟩ := hg
    obtain ⟨its, rv, p⟩ := seqK k1 I hqx
    obtain ⟨its2, rv2, p2⟩ := seqK k2 I hqy
    obtain ⟨its3, rv3, p3⟩ := seqK k3 I hqz
    have l1 := rv.length
    have l2 := rv2.length
    have l3 := rv3.length
    have hhd := I.ok.hd hc
    have en : i = min (min its.toArray.size its2.toArray.size) its3.toArray.size := by simp; omega
    subst en
    have G := GoesN.zip3 (elts := elts) (x1 := kk) (pos := tpos) S (drawsK (prog := X.prog) (w := X.w) (A := X.A.in1) hhd k1 i1 a (h1.apart p) its.toArray) (drawsK (prog := X.prog) (w := X.w) (A := X.A.in1) hhd k2 i2 b (h2.apart p2) its2.toArray)
      (drawsK (prog := X.prog) (w := X.w) (A := X.A.in1) hhd k3 i3 c (h3.apart p3) its3.toArray)
    exact G.stops s _ E ⟨hz, hTI, hTO, ⟨h1, p⟩, ⟨h2, p2⟩, h3, p3⟩ fun h' tk hk _ => I.turnedL (ch := [z, TI, TO, i1, i2, i3]) (fun d o hb q => hk d o (fun hm => hb (by
        have e' : d = z ∨ d = TO ∨ d = i1 ∨ d = i2 ∨ d = i3 := by simpa using hm
        rcases e' with q | q | q | q | q <;> simp [q])) q) hf
  self := fun A i s Q E st h => wpAny_pyIter_zip st.1 h
end BP

/-! Walked things as the layer's PI. -/
namespace PySem
set_option maxHeartbeats 1000000 in
theorem bp_meets_enum1 {v : Value} {o : Obj} {H : Heap → Prop} (B : Begins v o H) :
    Meets (Builtin.«enumerate.__new__» ⟨[.type "enumerate", v], []⟩) (fun _ R s => H s.heap ∧
      R (.ok (.ret (.ref (s.heap.push o).objs.size))) { s with heap := (s.heap.push o).push { cls := .type "enumerate", data := .fields #[.none, .bool false, .ref s.heap.objs.size, rawInt 0, .none, .none] } }) :=
  .of_wp fun prog w A R s h => by
    obtain ⟨hp, g, d, tk, os⟩ := s; obtain ⟨h1, h⟩ := h
    have hsub := sub_enumerate
    have q1 : ∀ {A' : Around} {E : Value → Shared → Prop} {Q : Value → Shared → Prop}, Q (.ref hp.objs.size) ⟨hp.push o, g, d, tk, os⟩ → wpAny (model prog w) A' (pyIter v) Q E ⟨hp, g, d, tk, os⟩ :=
      fun q => B.iter prog w _ _ ⟨hp, g, d, tk, os⟩ _ h1 q
    wp_walk using q1
    refine wpAny_stack_any fun st => wpAny_pure ?_
    split
    · rename_i c _ _ _ _ _
      cases (c == Value.type "enumerate")
      · wp_walk using q1
        exact ⟨_, rfl, h⟩
      · wp_walk using q1
        exact ⟨_, rfl, h⟩
    · wp_walk using q1
      exact ⟨_, rfl, h⟩
end PySem
namespace PySem
section
variable {prog : Program} {w : World} {A : Around} {E : Value → Shared → Prop} {s : Shared}
theorem bp_enum_begins1 {v : Value} {o : Obj} {H : Heap → Prop} {Q : Value → Shared → Prop} (B : Begins v o H) (h1 : H s.heap)
    (h : ∀ h', IsEnum h' (s.heap.objs.size + 1) s.heap.objs.size 0 .none → h'.get? s.heap.objs.size = some o → h'.objs.size = s.heap.objs.size + 2 →
      (∀ b o, s.heap.get? b = some o → h'.get? b = some o) → Q (.ref (s.heap.objs.size + 1)) { s with heap := h' }) :
    wpAny (model prog w) A (call (.type "enumerate") [v]) Q E s := by
  refine callType_new F.called_enumerate (by decide) (F.typeCall_enumerate_1 _) (F.newCall_enumerate_1 _) (fun obj => F.args_object_init_2 obj _) F.entry_enumerate_new
    (bp_meets_enum1 B) ⟨h1, ?_⟩
  have hz : (s.heap.push o).objs.size = s.heap.objs.size + 1 := Heap.size_push ..
  show _ ∧ _
  rw [hz]
  have he : IsEnum ((s.heap.push o).push { cls := .type "enumerate", data := .fields #[.none, .bool false, .ref s.heap.objs.size, rawInt 0, .none, .none] }) (s.heap.objs.size + 1) s.heap.objs.size 0 .none := by
    have := Heap.get?_push_size (s.heap.push o) (o := { cls := .type "enumerate", data := .fields #[.none, .bool false, .ref s.heap.objs.size, rawInt 0, .none, .none] }) rfl
    rw [hz] at this; exact this
  refine ⟨⟨_, he, rfl⟩, h _ he (Heap.get?_push_of_some _ (Heap.get?_push_size _ B.free)) (by rw [Heap.size_push, hz]) fun b o x => Heap.get?_push_of_some _ (Heap.get?_push_of_some _ x)⟩
end
end PySem
namespace BP
open PySem PySem.Spec PyProof.Rows L2

/-! ### what stays while it is walked; what it yields -/
def Gm (st : Bool) (O : Addr → Prop) (H1 H : Hp) : Prop := if st = true then Keep O H1 H else Same H1 H
theorem Gm.keep {st : Bool} {O : Addr → Prop} {H1 H : Hp} (h : Gm st O H1 H) : Keep O H1 H := by
  cases st with
  | true => exact h
  | false => exact .of h
def RM (st : Bool) (K : PySem.W.Frag) (O : Addr → Prop) (H : Hp) (v : V) (d : D) : Prop := if st = true then Rep K O H v d else RB K O H v d
theorem RM.rb {st : Bool} {K : PySem.W.Frag} {O : Addr → Prop} {H : Hp} {v : V} {d : D} (h : RM st K O H v d) : RB K O H v d := by
  cases st with
  | true => exact .r h
  | false => exact h
inductive RMs (st : Bool) (K : PySem.W.Frag) (O : Addr → Prop) (H : Hp) : List V → List D → Prop
  | nil : RMs st K O H [] []
  | cons {v : V} {vs : List V} {d : D} {ds : List D} (h : RM st K O H v d) (hs : RMs st K O H vs ds) : RMs st K O H (v :: vs) (d :: ds)
theorem Reps.toM {K : PySem.W.Frag} {O : Addr → Prop} {H : Hp} : ∀ {vs : List V} {ds : List D}, Reps K O H vs ds → RMs true K O H vs ds
  | _, _, .nil => .nil
  | _, _, .cons h hs => .cons h (Reps.toM hs)
theorem RBs.toM {K : PySem.W.Frag} {O : Addr → Prop} {H : Hp} : ∀ {vs : List V} {ds : List D}, RBs K O H vs ds → RMs false K O H vs ds
  | _, _, .nil => .nil
  | _, _, .cons h hs => .cons h (RBs.toM hs)
/-- J walks the items -/
def Wk (st : Bool) (K : PySem.W.Frag) (O : Addr → Prop) (H1 : Hp) (J : It) (items : List D) : Prop := ∀ (O' : Addr → Prop) (i : Nat) (H : Hp), (∀ b, O' b → O b ∨ H1 b = none) → Dom O' H → Gm st O H1 H →
  (i < items.length → J.go i H) ∧ (i = items.length → J.stop i H) ∧ ∀ x H' d, items[i]? = some d → J.yld i H x H' → Same H H' ∧ Rep K O' H' x d
/-- an item of what was there at the start -/
theorem rep_later {K : PySem.W.Frag} {O O' : Addr → Prop} {H1 H : Hp} {x : V} {d : D} (w : ∀ b, O' b → O b ∨ H1 b = none) (k : Keep O H1 H) (r : Rep K O H1 x d) : Rep K O' H x d := by
  have r1 : Rep K (fun b => O b ∨ O' b) H1 x d := r.weak fun b z => z.elim .inl (w b)
  have r2 : Rep K (fun b => O b ∨ O' b) H x d := r1.keep fun b o n e => k b o (fun z => n (.inl z)) e
  exact r2.weak fun b z => .inl (.inr z)
/-- a list or tuple that may be walked -/
def View (st : Bool) (K : PySem.W.Frag) (O : Addr → Prop) (H1 : Hp) (v : V) (ds : List D) : Prop := ∃ k a xs, v = .ref a ∧ (∀ H, Gm st O H1 H → SqK k K H a xs) ∧ Reps K O H1 xs ds
theorem RM.view {st : Bool} {K : PySem.W.Frag} {O : Addr → Prop} {H1 : Hp} {v : V} {d : D} {ds : List D} (h : RM st K O H1 v d) (e : itemsOf d = some ds) : View st K O H1 v ds := by
  cases st with
  | false =>
    have h : RB K O H1 v d := h
    cases d with
    | list ys =>
      cases e
      obtain ⟨a, xs, q1, q2, q3⟩ := h.list
      exact ⟨true, a, xs, q1, fun H g => Same.seq (show Same H1 H from g) q2, q3⟩
    | tuple ys =>
      cases e
      obtain ⟨a, xs, q1, q2, q3⟩ := h.tuple
      exact ⟨false, a, xs, q1, fun H g => SqT.of ((show Same H1 H from g) _ _ q2), q3⟩
    | _ => cases e
  | true =>
    have h : Rep K O H1 v d := h
    cases h with
    | lst hl hs => cases e; exact ⟨true, _, _, rfl, fun H g => (LsO.keep (show Keep O H1 H from g) hl).sq, hs⟩
    | tup hl hs => cases e; exact ⟨false, _, _, rfl, fun H g => (TsO.keep (show Keep O H1 H from g) hl).sq, hs⟩
    | _ => cases e
theorem Gm.refl (st : Bool) (O : Addr → Prop) (H : Hp) : Gm st O H H := by
  cases st with
  | true => exact .of (Same.refl H)
  | false => exact Same.refl H
section
variable {st : Bool} {K : PySem.W.Frag} {O : Addr → Prop} {H1 : Hp} {a : Addr} {xs : List V} {ds : List D}
theorem wk_list (hq : ∀ H, Gm st O H1 H → SqL K H a xs) (r : Reps K O H1 xs ds) : Wk st K O H1 (Itl K a) ds := by
  intro O' i H w dm g
  refine ⟨fun hi => ?_, fun hi => ⟨xs, hq H g, by rw [r.length]; omega⟩, fun x H' d hd y => ?_⟩
  · obtain ⟨v, hv, _⟩ := r.get (List.getElem?_eq_getElem hi)
    exact ⟨xs, v, hq H g, hv⟩
  · obtain ⟨e, y⟩ := y
    subst e
    obtain ⟨v, hv, rv⟩ := r.get hd
    have ex := y xs (hq _ g)
    rw [hv] at ex
    cases ex
    exact ⟨Same.refl _, rep_later w g.keep rv⟩
theorem wk_tup (hq : ∀ H, Gm st O H1 H → SqT K H a xs) (r : Reps K O H1 xs ds) : Wk st K O H1 (Itt K a) ds := by
  intro O' i H w dm g
  refine ⟨fun hi => ?_, fun hi => ⟨xs, hq H g, by rw [r.length]; omega⟩, fun x H' d hd y => ?_⟩
  · obtain ⟨v, hv, _⟩ := r.get (List.getElem?_eq_getElem hi)
    exact ⟨xs, v, hq H g, hv⟩
  · obtain ⟨e, y⟩ := y
    subst e
    obtain ⟨v, hv, rv⟩ := r.get hd
    have ex := y xs (hq _ g)
    rw [hv] at ex
    cases ex
    exact ⟨Same.refl _, rep_later w g.keep rv⟩
theorem wk_range {lo : Int} {n : Nat} : Wk st K O H1 (Itr lo n) ((List.range n).map fun i => .int (lo + (i : Nat))) := by
  intro O' i H w dm g
  refine ⟨fun hi => show i < n by simpa using hi, fun hi => by simp at hi; exact Nat.le_of_eq hi.symm, fun x H' d hd y => ?_⟩
  obtain ⟨e1, e2⟩ := y
  subst e1 e2
  rw [List.getElem?_map, Option.map_eq_some_iff] at hd
  obtain ⟨j, hj, rfl⟩ := hd
  have e : j = i := by
    obtain ⟨_, q⟩ := List.getElem?_eq_some_iff.mp hj
    rw [List.getElem_range] at q
    exact q.symm
  subst e
  exact ⟨Same.refl _, .int _⟩
theorem wk_rangeC {lo c : Int} {n : Nat} : Wk st K O H1 (Itc lo c n) ((List.range n).map fun i => .int (lo + (i : Nat) * c)) := by
  intro O' i H w dm g
  refine ⟨fun hi => show i < n by simpa using hi, fun hi => by simp at hi; exact Nat.le_of_eq hi.symm, fun x H' d hd y => ?_⟩
  obtain ⟨e1, e2⟩ := y
  subst e1 e2
  rw [List.getElem?_map, Option.map_eq_some_iff] at hd
  obtain ⟨j, hj, rfl⟩ := hd
  have e : j = i := by
    obtain ⟨_, q⟩ := List.getElem?_eq_some_iff.mp hj
    rw [List.getElem_range] at q
    exact q.symm
  subst e
  exact ⟨Same.refl _, .int _⟩
theorem wk_str {z : Str} : Wk st K O H1 (Its z) (z.cps.toList.map fun c => .str ⟨#[c]⟩) := by
  intro O' i H w dm g
  refine ⟨fun hi => show i < z.cps.size by simpa using hi, fun hi => by simp at hi; exact Nat.le_of_eq hi.symm, fun x H' d hd y => ?_⟩
  obtain ⟨e1, c, hc, e2⟩ := y
  subst e1 e2
  rw [List.getElem?_map, Option.map_eq_some_iff] at hd
  obtain ⟨j, hj, rfl⟩ := hd
  have e : z.cps.toList[i]? = some c := by simpa using hc
  rw [e] at hj
  cases hj
  exact ⟨Same.refl _, .str _⟩
theorem enumD_get : ∀ (ds : List D) (k i : Nat), (enumD k ds)[i]? = (ds[i]?).map fun d => PyData.tuple [.int ((k + i : Nat) : Int), d]
  | [], _, _ => by simp [enumD]
  | d :: ds, k, 0 => by simp [enumD]
  | d :: ds, k, i + 1 => by
    simp only [enumD, List.getElem?_cons_succ]
    rw [enumD_get ds (k + 1) i]
    have : k + 1 + i = k + (i + 1) := by omega
    rw [this]
theorem enumD_length : ∀ (ds : List D) (k : Nat), (enumD k ds).length = ds.length
  | [], _ => rfl
  | d :: ds, k => by simp [enumD, enumD_length ds (k + 1)]
theorem new_tup' {O' : Addr → Prop} {H : Hp} (dm : Dom O' H) {p : Addr} (h : H p = none) {vs : List V} {es : List D} (r : Reps K O' H vs es) : Same H (upd H p (.tup vs)) ∧ Rep K O' (upd H p (.tup vs)) (.ref p) (.tuple es) := ⟨same_upd h, new_tup dm h r⟩
theorem wk_enum {k : Bool} (hq : ∀ H, Gm st O H1 H → SqK k K H a xs) (r : Reps K O H1 xs ds) : Wk st K O H1 (IteK k K a) (enumD 0 ds) := by
  intro O' i H w dm g
  refine ⟨fun hi => ?_, fun hi => ⟨xs, hq H g, by rw [enumD_length] at hi; rw [r.length]; omega⟩, fun x H' d hd y => ?_⟩
  · rw [enumD_length] at hi
    obtain ⟨v, hv, _⟩ := r.get (List.getElem?_eq_getElem hi)
    exact ⟨xs, v, hq H g, hv⟩
  · obtain ⟨T, x', rfl, hT, rfl, hy⟩ := y
    rw [enumD_get, Option.map_eq_some_iff] at hd
    obtain ⟨d', hd', rfl⟩ := hd
    obtain ⟨v, hv, rv⟩ := r.get hd'
    have ex := hy xs (hq _ g)
    rw [hv] at ex
    cases ex
    rw [Nat.zero_add]
    exact new_tup' dm hT (.cons (.int _) (.cons (rep_later w g.keep rv) .nil))
theorem zip2D_get : ∀ (ds es : List D) (i : Nat), (zip2D ds es)[i]? = (match ds[i]?, es[i]? with | some d, some e => some (PyData.tuple [d, e]) | _, _ => none)
  | [], es, i => by cases es <;> simp [zip2D]
  | d :: ds, [], i => by
    simp only [zip2D]
    cases i <;> simp
  | d :: ds, e :: es, 0 => by simp [zip2D]
  | d :: ds, e :: es, i + 1 => by
    simp only [zip2D, List.getElem?_cons_succ]
    exact zip2D_get ds es i
theorem zip2D_length : ∀ (ds es : List D), (zip2D ds es).length = min ds.length es.length
  | [], es => by cases es <;> simp [zip2D]
  | d :: ds, [] => by simp [zip2D]
  | d :: ds, e :: es => by simp only [zip2D, List.length_cons, zip2D_length ds es]; omega
theorem wk_zip2 {k k2 : Bool} {b : Addr} {ys : List V} {es : List D} (hq : ∀ H, Gm st O H1 H → SqK k K H a xs) (r : Reps K O H1 xs ds) (hq2 : ∀ H, Gm st O H1 H → SqK k2 K H b ys) (r2 : Reps K O H1 ys es) :
    Wk st K O H1 (Itz2K k k2 K a b) (zip2D ds es) := by
  intro O' i H w dm g
  refine ⟨fun hi => ?_, fun hi => ⟨xs, ys, hq H g, hq2 H g, by rw [zip2D_length] at hi; rw [r.length, r2.length]; omega⟩, fun x H' d hd y => ?_⟩
  · rw [zip2D_length] at hi
    obtain ⟨v, hv, _⟩ := r.get (List.getElem?_eq_getElem (show i < ds.length by omega))
    obtain ⟨v2, hv2, _⟩ := r2.get (List.getElem?_eq_getElem (show i < es.length by omega))
    exact ⟨xs, ys, v, v2, hq H g, hq2 H g, hv, hv2⟩
  · obtain ⟨T, x', y', rfl, hT, rfl, hy, hy2⟩ := y
    rw [zip2D_get] at hd
    split at hd
    · rename_i d1 d2 e1 e2
      cases hd
      obtain ⟨v, hv, rv⟩ := r.get e1
      obtain ⟨v2, hv2, rv2⟩ := r2.get e2
      have ex := hy xs (hq _ g)
      rw [hv] at ex
      cases ex
      have ex2 := hy2 ys (hq2 _ g)
      rw [hv2] at ex2
      cases ex2
      exact new_tup' dm hT (.cons (rep_later w g.keep rv) (.cons (rep_later w g.keep rv2) .nil))
    · cases hd
theorem zip3D_get : ∀ (ds es fs : List D) (i : Nat), (zip3D ds es fs)[i]? = (match ds[i]?, es[i]?, fs[i]? with | some d, some e, some f => some (PyData.tuple [d, e, f]) | _, _, _ => none)
  | [], es, fs, i => by simp [zip3D]
  | d :: ds, [], fs, i => by
    simp only [zip3D]
    cases i <;> simp
  | d :: ds, e :: es, [], i => by
    simp only [zip3D]
    cases i <;> simp
  | d :: ds, e :: es, f :: fs, 0 => by simp [zip3D]
  | d :: ds, e :: es, f :: fs, i + 1 => by
    simp only [zip3D, List.getElem?_cons_succ]
    exact zip3D_get ds es fs i
theorem zip3D_length : ∀ (ds es fs : List D), (zip3D ds es fs).length = min (min ds.length es.length) fs.length
  | [], es, fs => by simp [zip3D]
  | d :: ds, [], fs => by simp [zip3D]
  | d :: ds, e :: es, [] => by simp [zip3D]
  | d :: ds, e :: es, f :: fs => by simp only [zip3D, List.length_cons, zip3D_length ds es fs]; omega
theorem wk_zip3 {k k2 k3 : Bool} {b c : Addr} {ys zs : List V} {es fs : List D} (hq : ∀ H, Gm st O H1 H → SqK k K H a xs) (r : Reps K O H1 xs ds) (hq2 : ∀ H, Gm st O H1 H → SqK k2 K H b ys) (r2 : Reps K O H1 ys es)
    (hq3 : ∀ H, Gm st O H1 H → SqK k3 K H c zs) (r3 : Reps K O H1 zs fs) : Wk st K O H1 (Itz3K k k2 k3 K a b c) (zip3D ds es fs) := by
  intro O' i H w dm g
  refine ⟨fun hi => ?_, fun hi => ⟨xs, ys, zs, hq H g, hq2 H g, hq3 H g, by rw [zip3D_length] at hi; rw [r.length, r2.length, r3.length]; omega⟩, fun x H' d hd y => ?_⟩
  · rw [zip3D_length] at hi
    obtain ⟨v, hv, _⟩ := r.get (List.getElem?_eq_getElem (show i < ds.length by omega))
    obtain ⟨v2, hv2, _⟩ := r2.get (List.getElem?_eq_getElem (show i < es.length by omega))
    obtain ⟨v3, hv3, _⟩ := r3.get (List.getElem?_eq_getElem (show i < fs.length by omega))
    exact ⟨xs, ys, zs, v, v2, v3, hq H g, hq2 H g, hq3 H g, hv, hv2, hv3⟩
  · obtain ⟨T, x', y', z', rfl, hT, rfl, hy, hy2, hy3⟩ := y
    rw [zip3D_get] at hd
    split at hd
    · rename_i d1 d2 d3 e1 e2 e3
      cases hd
      obtain ⟨v, hv, rv⟩ := r.get e1
      obtain ⟨v2, hv2, rv2⟩ := r2.get e2
      obtain ⟨v3, hv3, rv3⟩ := r3.get e3
      have ex := hy xs (hq _ g)
      rw [hv] at ex
      cases ex
      have ex2 := hy2 ys (hq2 _ g)
      rw [hv2] at ex2
      cases ex2
      have ex3 := hy3 zs (hq3 _ g)
      rw [hv3] at ex3
      cases ex3
      exact new_tup' dm hT (.cons (rep_later w g.keep rv) (.cons (rep_later w g.keep rv2) (.cons (rep_later w g.keep rv3) .nil)))
    · cases hd
end

/-! ### iterators begin -/
theorem pi_imp {X : Cx} {tg it : Expr} {t t' : TI} (h : PI X tg it t) (w : ∀ σ H Q, t' σ H Q → t σ H Q) : PI X tg it t' := ⟨fun pins s σ H Q I q => h.run pins s σ H Q I (w σ H Q q)⟩
section
variable {X : Cx} {pins : List (Addr × Obj)} {σ : L2.St} {H : Hp} {s : Shared} {R : It → Hp → Prop} {tg : Expr}
theorem pie_list {a : Addr} {xs : List V} (I : Inv X pins σ H s) (hq : SqL X.K H a xs) (q : R (Itl X.K a) H) : wpAny (model X.prog X.w) X.A (pyIter (.ref a)) (PIE X pins σ tg R) X.xe s := by
  obtain ⟨its, rv, p, hz⟩ := I.list hq
  refine wpAny_pyIter_list p.isList ?_
  refine ⟨s.heap.objs.size, [s.heap.objs.size], _, _, H, rfl, I.kept (t' := s.toks) fun b o e => Heap.get?_push_of_some _ e, turn_list a _, ⟨_, Heap.get?_push_size _ rfl, rfl, rfl⟩, fun b hb => ?_, q⟩
  have e : b = s.heap.objs.size := by simpa using hb
  subst e
  exact I.fpOk (Nat.le_refl _) (I.hok.fresh (Nat.le_refl _))
theorem pie_tup {a : Addr} {xs : List V} (I : Inv X pins σ H s) (hq : SqT X.K H a xs) (q : R (Itt X.K a) H) : wpAny (model X.prog X.w) X.A (pyIter (.ref a)) (PIE X pins σ tg R) X.xe s := by
  obtain ⟨its, rv, p, hz⟩ := I.tuple hq
  refine wpAny_pyIter_tuple (show s.heap.IsTuple a its.toArray from p) ?_
  refine ⟨s.heap.objs.size, [s.heap.objs.size], _, _, H, rfl, I.kept (t' := s.toks) fun b o e => Heap.get?_push_of_some _ e, turn_tuple a _, ⟨_, Heap.get?_push_size _ rfl, rfl, rfl⟩, fun b hb => ?_, q⟩
  have e : b = s.heap.objs.size := by simpa using hb
  subst e
  exact I.fpOk (Nat.le_refl _) (I.hok.fresh (Nat.le_refl _))
end
end BP

/-! Walked terms; comprehensions. -/
namespace BP
open PySem PySem.Spec PyProof.Rows L2

def EM (st : Bool) (K : PySem.W.Frag) (O : Addr → Prop) (E : Nat → Hp → Prop) (r : Res D) (Q : VK) (H : Hp) : Prop := match r with
  | .ok d => ∀ v H', Same H H' → RM st K O H' v d → Q v H'
  | .exc c => ∀ H', Same H H' → E c H'
  | .bad => False
def EMs (st : Bool) (K : PySem.W.Frag) (O : Addr → Prop) (E : Nat → Hp → Prop) (r : Res (List D)) (Q : List V → Hp → Prop) (H : Hp) : Prop := match r with
  | .ok d => ∀ v H', Same H H' → RMs st K O H' v d → Q v H'
  | .exc c => ∀ H', Same H H' → E c H'
  | .bad => False
def EI (st : Bool) (K : PySem.W.Frag) (O : Addr → Prop) (E : Nat → Hp → Prop) (r : Res (List D)) (R : It → Hp → Prop) (H : Hp) : Prop := match r with
  | .ok items => ∀ J H1, Same H H1 → Wk st K O H1 J items → R J H1
  | .exc c => ∀ H', Same H H' → E c H'
  | .bad => False
def tM (st : Bool) (K : PySem.W.Frag) (C : Nat → List D → Res D) (E : Nat → Hp → Prop) (ir : Ex) : TE := fun σ H Q => ∃ O ρ, Sok K O σ ρ H ∧ EM st K O E (evalE C ir ρ) Q H
def tMs (st : Bool) (K : PySem.W.Frag) (C : Nat → List D → Res D) (E : Nat → Hp → Prop) (irs : List Ex) : TA := fun σ H Q => ∃ O ρ, Sok K O σ ρ H ∧ EMs st K O E (evalEs C irs ρ) Q H
def tI (st : Bool) (K : PySem.W.Frag) (C : Nat → List D → Res D) (E : Nat → Hp → Prop) (sk : Sk) (irs : List Ex) : TI := fun σ H R => ∃ O ρ, Sok K O σ ρ H ∧ EI st K O E ((evalEs C irs ρ).bind (evalSrc sk)) R H
section
variable {X : Cx} {E : Nat → Hp → Prop} {C : Nat → List D → Res D} {st : Bool}
abbrev PEm (st : Bool) (X : Cx) (C : Nat → List D → Res D) (E : Nat → Hp → Prop) (e : Expr) (ir : Ex) : Prop := PE X e (tM st X.K C E ir)
abbrev PAm (st : Bool) (X : Cx) (C : Nat → List D → Res D) (E : Nat → Hp → Prop) (es : List Expr) (irs : List Ex) : Prop := PA X es (tMs st X.K C E irs)
abbrev PIs (st : Bool) (X : Cx) (C : Nat → List D → Res D) (E : Nat → Hp → Prop) (tg it : Expr) (sk : Sk) (irs : List Ex) : Prop := PI X tg it (tI st X.K C E sk irs)
theorem PEs.m {e : Expr} {ir : Ex} (h : PEs X C E e ir) : PEm true X C E e ir := pe_imp h fun σ H Q ⟨O, ρ, so, q⟩ => ⟨O, ρ, so, by
  cases e1 : evalE C ir ρ with
  | ok d => rw [e1] at q; exact fun v H1 s r _ => q v H1 s r
  | exc c => rw [e1] at q; exact q
  | bad => rw [e1] at q; exact q⟩
theorem PEb.m {e : Expr} {ir : Ex} (h : PEb X C E e ir) : PEm false X C E e ir := h
theorem PAs.m {e : List Expr} {ir : List Ex} (h : PAs X C E e ir) : PAm true X C E e ir := pa_imp h fun σ H Q ⟨O, ρ, so, q⟩ => ⟨O, ρ, so, by
  cases e1 : evalEs C ir ρ with
  | ok d => rw [e1] at q; exact fun v H1 s r => q v H1 s r.toM
  | exc c => rw [e1] at q; exact q
  | bad => rw [e1] at q; exact q⟩
theorem PAb.m {e : List Expr} {ir : List Ex} (h : PAb X C E e ir) : PAm false X C E e ir := pa_imp h fun σ H Q ⟨O, ρ, so, q⟩ => ⟨O, ρ, so, by
  cases e1 : evalEs C ir ρ with
  | ok d => rw [e1] at q; exact fun v H1 s r => q v H1 s r.toM
  | exc c => rw [e1] at q; exact q
  | bad => rw [e1] at q; exact q⟩
theorem PAm.nil : PAm st X C E [] [] := pa_imp pa_nil fun σ H Q ⟨O, ρ, so, q⟩ => q [] H (Same.refl H) .nil
theorem RM.same {K : PySem.W.Frag} {O : Addr → Prop} {H H' : Hp} {v : V} {d : D} (s : Same H H') (h : RM st K O H v d) : RM st K O H' v d := by
  cases st with
  | true => exact Rep.same s h
  | false => exact RB.same s h
theorem PAm.cons {e : Expr} {es : List Expr} {ir : Ex} {irs : List Ex} (h : PEm st X C E e ir) (hs : PAm st X C E es irs) (ns : notStar e = true) : PAm st X C E (e :: es) (ir :: irs) := by
  refine pa_imp (pa_cons h hs (star_of ns es _)) fun σ H Q ⟨O, ρ, so, q⟩ => ⟨O, ρ, so, ?_⟩
  simp only [evalEs] at q
  cases e1 : evalE C ir ρ with
  | bad => rw [e1] at q; exact False.elim q
  | exc c => rw [e1] at q; exact q
  | ok d =>
    rw [e1, Res.bind_ok] at q
    refine fun v H1 s1 r1 => ⟨O, ρ, so.same s1, ?_⟩
    cases e2 : evalEs C irs ρ with
    | bad => rw [e2] at q; exact False.elim q
    | exc c => rw [e2] at q; exact fun H2 s2 => q H2 (s1.trans s2)
    | ok ds =>
      rw [e2, Res.bind_ok] at q
      exact fun vs H2 s2 r2 => q (v :: vs) H2 (s1.trans s2) (.cons (r1.same s2) r2)
theorem RMs.one {K : PySem.W.Frag} {O : Addr → Prop} {H : Hp} {xs : List V} {d : D} (h : RMs st K O H xs [d]) : ∃ v, xs = [v] ∧ RM st K O H v d := by
  cases h with
  | cons h hs => cases hs; exact ⟨_, rfl, h⟩
theorem RMs.two {K : PySem.W.Frag} {O : Addr → Prop} {H : Hp} {xs : List V} {d e : D} (h : RMs st K O H xs [d, e]) : ∃ v w, xs = [v, w] ∧ RM st K O H v d ∧ RM st K O H w e := by
  cases h with
  | cons h hs => cases hs with
    | cons h' hs => cases hs; exact ⟨_, _, rfl, h, h'⟩
theorem RMs.three {K : PySem.W.Frag} {O : Addr → Prop} {H : Hp} {xs : List V} {d e f : D} (h : RMs st K O H xs [d, e, f]) : ∃ v w z, xs = [v, w, z] ∧ RM st K O H v d ∧ RM st K O H w e ∧ RM st K O H z f := by
  cases h with
  | cons h hs => cases hs with
    | cons h' hs => cases hs with
      | cons h'' hs => cases hs; exact ⟨_, _, _, rfl, h, h', h''⟩
/-- the arguments first -/
theorem EI.args {K : PySem.W.Frag} {O : Addr → Prop} {r : Res (List D)} {f : List D → Res (List D)} {R : It → Hp → Prop} {H : Hp} (q : EI st K O E (r.bind f) R H) :
    EMs st K O E r (fun vs H1 => ∃ ds, RMs st K O H1 vs ds ∧ EI st K O E (f ds) R H1) H := by
  cases r with
  | ok ds =>
    refine fun vs H1 s1 rm => ⟨ds, rm, ?_⟩
    have q : EI st K O E (f ds) R H := q
    cases e : f ds with
    | ok items => rw [e] at q; exact fun J H2 s2 wk => q J H2 (s1.trans s2) wk
    | exc c => rw [e] at q; exact fun H2 s2 => q H2 (s1.trans s2)
    | bad => rw [e] at q; exact q
  | exc c => exact q
  | bad => exact q
theorem EI.ok {K : PySem.W.Frag} {O : Addr → Prop} {items : List D} {R : It → Hp → Prop} {H : Hp} (q : EI st K O E (.ok items) R H) {J : It} (w : Wk st K O H J items) : R J H := q J H (Same.refl H) w

/-! ### a value itself is walked -/
theorem pd_seq {tg e : Expr} {ir : Ex} (he : PEm st X C E e ir) : PIs st X C E tg e .seq [ir] := by
  refine ⟨fun pins s σ H R I h => ?_⟩
  obtain ⟨O, ρ, so, q⟩ := h
  have hq : tM st X.K C E ir σ H (fun v H1 => ∃ d, RM st X.K O H1 v d ∧ EI st X.K O E (evalSrc .seq [d]) R H1) := by
    refine ⟨O, ρ, so, ?_⟩
    have q := EI.args q
    simp only [evalEs] at q
    cases e1 : evalE C ir ρ with
    | bad => rw [e1] at q; exact q
    | exc c => rw [e1] at q; exact q
    | ok d =>
      rw [e1] at q
      intro v H1 s1 rm
      obtain ⟨ds, r2, q⟩ := q [v] H1 s1 (.cons rm .nil)
      match ds, r2, q with
      | [d'], r2, q =>
        obtain ⟨v', e', r3⟩ := r2.one
        cases e'
        exact ⟨d', r3, q⟩
      | [], r2, _ => cases r2
      | _ :: _ :: _, r2, _ => cases r2 with
        | cons _ t => cases t
  refine thn (he.run pins s σ H _ I hq) fun v s1 ⟨x, H1, I1, r1, d, rm, q⟩ => ?_
  cases d with
  | list ys =>
    have q : EI st X.K O E (.ok ys) R H1 := q
    obtain ⟨k, a, xs, e1, hs, rs⟩ := rm.view (ds := ys) rfl
    subst e1
    cases r1
    have hk := hs H1 (Gm.refl st O H1)
    cases k with
    | true => exact pie_list I1 hk (q.ok (wk_list hs rs))
    | false => exact pie_tup I1 hk (q.ok (wk_tup hs rs))
  | tuple ys =>
    have q : EI st X.K O E (.ok ys) R H1 := q
    obtain ⟨k, a, xs, e1, hs, rs⟩ := rm.view (ds := ys) rfl
    subst e1
    cases r1
    have hk := hs H1 (Gm.refl st O H1)
    cases k with
    | true => exact pie_list I1 hk (q.ok (wk_list hs rs))
    | false => exact pie_tup I1 hk (q.ok (wk_tup hs rs))
  | str z =>
    obtain rfl := rm.rb.str
    obtain ⟨t, rfl⟩ := r1
    have q : R (Its z) H1 := EI.ok (items := z.cps.toList.map fun c => .str ⟨#[c]⟩) q wk_str
    cases ha : z.cps.all (· < 128)
    · exact wpAny_pyIter_wide ha (pi_one (tk := s1.toks) I1 _ (turn_str _ z t "str_iterator" (.inr rfl)) ⟨_, Heap.get?_push_size _ rfl, rfl, rfl⟩ q)
    · exact wpAny_pyIter_ascii ha (pi_one (tk := s1.toks) I1 _ (turn_str _ z t "str_ascii_iterator" (.inl rfl)) ⟨_, Heap.get?_push_size _ rfl, rfl, rfl⟩ q)
  | _ => exact False.elim q
end

/-! ### range, enumerate, zip -/
section
variable {st : Bool} {K : PySem.W.Frag} {O : Addr → Prop} {E : Nat → Hp → Prop} {H1 : Hp} {vs : List V} {ds : List D} {R : It → Hp → Prop}
theorem sr1_of {f : D → Res (List D)} (rm : RMs st K O H1 vs ds) (q : EI st K O E (sr1 f ds) R H1) : ∃ v d, vs = [v] ∧ RM st K O H1 v d ∧ EI st K O E (f d) R H1 := by
  match ds, rm, q with
  | [d], rm, q =>
    obtain ⟨v, e, r⟩ := rm.one
    exact ⟨v, d, e, r, q⟩
  | [], _, q => exact False.elim q
  | _ :: _ :: _, _, q => exact False.elim q
theorem sr2_of {f : D → D → Res (List D)} (rm : RMs st K O H1 vs ds) (q : EI st K O E (sr2 f ds) R H1) : ∃ v w d e, vs = [v, w] ∧ RM st K O H1 v d ∧ RM st K O H1 w e ∧ EI st K O E (f d e) R H1 := by
  match ds, rm, q with
  | [d, e], rm, q =>
    obtain ⟨v, w, z, r, r2⟩ := rm.two
    exact ⟨v, w, d, e, z, r, r2, q⟩
  | [], _, q => exact False.elim q
  | [_], _, q => exact False.elim q
  | _ :: _ :: _ :: _, _, q => exact False.elim q
theorem sr3_of {f : D → D → D → Res (List D)} (rm : RMs st K O H1 vs ds) (q : EI st K O E (sr3 f ds) R H1) :
    ∃ v w z d e g, vs = [v, w, z] ∧ RM st K O H1 v d ∧ RM st K O H1 w e ∧ RM st K O H1 z g ∧ EI st K O E (f d e g) R H1 := by
  match ds, rm, q with
  | [d, e, g], rm, q =>
    obtain ⟨v, w, z, h, r, r2, r3⟩ := rm.three
    exact ⟨v, w, z, d, e, g, h, r, r2, r3, q⟩
  | [], _, q => exact False.elim q
  | [_], _, q => exact False.elim q
  | [_, _], _, q => exact False.elim q
  | _ :: _ :: _ :: _ :: _, _, q => exact False.elim q
theorem okL_of {α : Type} {o : Option α} {f : α → List D} (q : EI st K O E (okL o f) R H1) : ∃ a, o = some a ∧ EI st K O E (.ok (f a)) R H1 := by
  cases o with
  | none => exact False.elim q
  | some a => exact ⟨a, rfl, q⟩
theorem EMs.mono {r : Res (List D)} {Q Q' : List V → Hp → Prop} {H : Hp} (h : EMs st K O E r Q H) (w : ∀ v H', Same H H' → Q v H' → Q' v H') : EMs st K O E r Q' H := by
  cases r with
  | ok d => exact fun v H1 s rb => w v H1 s (h v H1 s rb)
  | exc c => exact h
  | bad => exact h
end
section
variable {g : Gc} {S : Sc} {T : Nat → Option Fn} {n : Nat} {cls : Nat → Value} {EX : XK} {X : Cx} {C : Nat → List D → Res D} {E : Nat → Hp → Prop} {st : Bool}
theorem bnd_iff {i : Int} : bnd i = true ↔ (-(2 ^ 62) ≤ i ∧ i < 2 ^ 62) := by
  unfold bnd
  rw [Bool.and_eq_true, decide_eq_true_eq, decide_eq_true_eq]
theorem star1 {a : Expr} (ns : [a].all notStar = true) (env : PySem.Env) : starEach [a] env = [(false, eval a env)] := star_of (by simpa using ns) [] env
theorem pd_range1 (ok : Cok g S T n cls EX X) {tg a : Expr} {irs : List Ex} {p pos : Pos} (hg : S.sc.names.lookup ("range" : Str) = some .globalImplicit) (ns : [a].all notStar = true) (ha : PAm st X C E [a] irs) :
    PIs st X C E tg (.Call (.Name "range" p) [a] [] pos) .range1 irs := by
  refine pi_imp (pi_range1 (kind_of ok hg) (ok.w.blt _ (by decide)) ha (star1 ns _)) fun σ H R ⟨O, ρ, so, q⟩ => ⟨O, ρ, so, ?_⟩
  refine (EI.args q).mono fun vs H1 s1 ⟨ds, rm, q⟩ => ?_
  obtain ⟨v, d, rfl, rv, q⟩ := sr1_of rm q
  cases d with
  | int j =>
    obtain rfl := rv.rb.int
    simp only [rg1S] at q
    split at q
    · rename_i hb
      obtain ⟨b1, b2⟩ := bnd_iff.mp hb
      refine ⟨j, rfl, b1, b2, q.ok ?_⟩
      have := wk_range (st := st) (K := X.K) (O := O) (H1 := H1) (lo := 0) (n := j.toNat)
      unfold rangeL
      simpa using this
    · exact False.elim q
  | _ => exact False.elim q
theorem pd_range2 (ok : Cok g S T n cls EX X) {tg a b : Expr} {irs : List Ex} {p pos : Pos} (hg : S.sc.names.lookup ("range" : Str) = some .globalImplicit) (ns : [a, b].all notStar = true) (ha : PAm st X C E [a, b] irs) :
    PIs st X C E tg (.Call (.Name "range" p) [a, b] [] pos) .range2 irs := by
  have n1 : notStar a = true ∧ notStar b = true := by simpa using ns
  refine pi_imp (pi_range2 (kind_of ok hg) (ok.w.blt _ (by decide)) ha ((star_of n1.1 _ _).trans (by rw [star_of n1.2]; rfl)) (star_of n1.2 _ _)) fun σ H R ⟨O, ρ, so, q⟩ => ⟨O, ρ, so, ?_⟩
  refine (EI.args q).mono fun vs H1 s1 ⟨ds, rm, q⟩ => ?_
  obtain ⟨v, w, d, e, rfl, rv, rw', q⟩ := sr2_of rm q
  cases d with
  | int i => cases e with
    | int j =>
      obtain rfl := rv.rb.int
      obtain rfl := rw'.rb.int
      simp only [rg2S] at q
      split at q
      · rename_i hb
        obtain ⟨b1, b2⟩ := bnd_iff.mp hb.1
        obtain ⟨c1, c2⟩ := bnd_iff.mp hb.2
        exact ⟨i, j, rfl, ⟨b1, b2, c1, c2⟩, q.ok wk_range⟩
      · exact False.elim q
    | _ => exact False.elim q
  | _ => exact False.elim q
theorem pd_range3 (ok : Cok g S T n cls EX X) {tg a b c : Expr} {irs : List Ex} {p pos : Pos} (hg : S.sc.names.lookup ("range" : Str) = some .globalImplicit) (ns : [a, b, c].all notStar = true) (ha : PAm st X C E [a, b, c] irs) :
    PIs st X C E tg (.Call (.Name "range" p) [a, b, c] [] pos) .range3 irs := by
  have n1 : notStar a = true ∧ notStar b = true ∧ notStar c = true := by simpa [Bool.and_assoc] using ns
  refine pi_imp (pi_range3 (kind_of ok hg) (ok.w.blt _ (by decide)) ha (star_of n1.1 _ _) (pl_of (es := [b, c]) (by simp [n1.2.1, n1.2.2]) _)) fun σ H R ⟨O, ρ, so, q⟩ => ⟨O, ρ, so, ?_⟩
  refine (EI.args q).mono fun vs H1 s1 ⟨ds, rm, q⟩ => ?_
  obtain ⟨v, w, z, d, e, f, rfl, rv, rw', rz, q⟩ := sr3_of rm q
  cases d with
  | int i => cases e with
    | int j => cases f with
      | int k =>
        obtain rfl := rv.rb.int
        obtain rfl := rw'.rb.int
        obtain rfl := rz.rb.int
        simp only [rg3S] at q
        split at q
        · rename_i hb
          obtain ⟨b1, b2⟩ := bnd_iff.mp hb.2.1
          obtain ⟨c1, c2⟩ := bnd_iff.mp hb.2.2
          obtain rfl := hb.1
          exact ⟨i, j, -1, (i - j).toNat, rfl, RgC.neg b1 b2 c1 c2, q.ok wk_rangeC⟩
        · exact False.elim q
      | _ => exact False.elim q
    | _ => exact False.elim q
  | _ => exact False.elim q
end
end BP

/-! enumerate, zip. -/
namespace BP
open PySem PySem.Spec PyProof.Rows L2

theorem IsK.lt {k : Bool} {h : Heap} {a : Addr} {its : Array Value} (st : IsK k h a its) : a < h.objs.size := by
  obtain ⟨o, e, _⟩ := st.obj
  exact Heap.lt_size e
section
variable {g : Gc} {S : Sc} {T : Nat → Option Fn} {n : Nat} {cls : Nat → Value} {EX : XK} {X : Cx} {C : Nat → List D → Res D} {E : Nat → Hp → Prop} {st : Bool}
theorem pd_enum (ok : Cok g S T n cls EX X) {elts : List Expr} {kk : Nat} {a : Expr} {irs : List Ex} {p pos tpos : Pos} (hg : S.sc.names.lookup ("enumerate" : Str) = some .globalImplicit) (ns : [a].all notStar = true) (ha : PAm st X C E [a] irs) :
    PIs st X C E (.Tuple elts kk tpos) (.Call (.Name "enumerate" p) [a] [] pos) .enum irs := by
  refine ⟨fun pins s σ H R I h => ?_⟩
  have hq : tMs st X.K C E irs σ H (fun vs H1 => ∃ O, ∃ v d, vs = [v] ∧ RM st X.K O H1 v d ∧ EI st X.K O E (enumS d) R H1) := by
    obtain ⟨O, ρ, so, q⟩ := h
    exact ⟨O, ρ, so, (EI.args q).mono fun vs H1 s1 ⟨ds, rm, q⟩ => let ⟨v, d, e, r, q⟩ := sr1_of rm q; ⟨O, v, d, e, r, q⟩⟩
  refine Call_ (ld_blt I (kind_of ok hg) (ok.w.blt _ (by decide)) boot_enumerate (PyProof.Rows.callWith_type1 (thn (ha.run pos pins s σ H _ I hq) fun us s1 ⟨vs, H1, I1, r1, q1⟩ => ?_) (star1 ns _) rfl))
  obtain ⟨O, v, d, rfl, rm, q⟩ := q1
  obtain ⟨ds, hd, q⟩ := okL_of q
  obtain ⟨k, b, xs, rfl, hs, rs⟩ := rm.view hd
  cases r1 with
  | cons r rr =>
    cases rr
    cases r
    obtain ⟨its, rv, p'⟩ := seqK k I1 (hs H1 (Gm.refl st O H1))
    refine bp_enum_begins1 (beginsK k b its.toArray) p' fun h' he hit hsz hk => wpAny_pyIter_enum he ?_
    have I2 : Inv X pins σ H1 { s1 with heap := h' } := I1.kept (t' := s1.toks) hk
    refine ⟨s1.heap.objs.size + 1, [s1.heap.objs.size + 1, s1.heap.objs.size], _, _, H1, rfl, I2, turn_enumK k b (s1.heap.objs.size + 1) s1.heap.objs.size, ⟨⟨.none, he⟩, .new hit, Nat.succ_ne_self _, ?_⟩, fun c hc => ?_, q.ok (wk_enum hs rs)⟩
    · exact Ne.symm (Nat.ne_of_lt (Nat.lt_succ_of_lt p'.lt))
    · have e' : c = s1.heap.objs.size + 1 ∨ c = s1.heap.objs.size := by simpa using hc
      have hle : s1.heap.objs.size ≤ c := by rcases e' with z | z <;> (rw [z]; first | exact Nat.le_refl _ | exact Nat.le_add_right _ _)
      exact I1.fpOk hle (I1.hok.fresh hle)
theorem two_of {α β γ : Type} {x : Option α} {y : Option β} {f : α → β → γ} {c : γ} (h : (x.bind fun a => y.map fun b => f a b) = some c) : ∃ a b, x = some a ∧ y = some b ∧ c = f a b := by
  cases x with
  | none => cases h
  | some a => cases y with
    | none => cases h
    | some b => cases h; exact ⟨a, b, rfl, rfl, rfl⟩
theorem pd_zip2 (ok : Cok g S T n cls EX X) {elts : List Expr} {kk : Nat} {a b : Expr} {irs : List Ex} {p pos tpos : Pos} (hg : S.sc.names.lookup ("zip" : Str) = some .globalImplicit) (ns : [a, b].all notStar = true) (ha : PAm st X C E [a, b] irs) :
    PIs st X C E (.Tuple elts kk tpos) (.Call (.Name "zip" p) [a, b] [] pos) .zip2 irs := by
  have n1 : notStar a = true ∧ notStar b = true := by simpa using ns
  refine ⟨fun pins s σ H R I h => ?_⟩
  have hq : tMs st X.K C E irs σ H (fun vs H1 => ∃ O, ∃ v w d e, vs = [v, w] ∧ RM st X.K O H1 v d ∧ RM st X.K O H1 w e ∧ EI st X.K O E (zip2S d e) R H1) := by
    obtain ⟨O, ρ, so, q⟩ := h
    exact ⟨O, ρ, so, (EI.args q).mono fun vs H1 s1 ⟨ds, rm, q⟩ => let ⟨v, w, d, e, z, r, r2, q⟩ := sr2_of rm q; ⟨O, v, w, d, e, z, r, r2, q⟩⟩
  refine Call_ (ld_blt I (kind_of ok hg) (ok.w.blt _ (by decide)) PyProof.Rows.boot_zip (PyProof.Rows.callWith_type1 (thn (ha.run pos pins s σ H _ I hq) fun us s1 ⟨vs, H1, I1, r1, q1⟩ => ?_) (star_of n1.1 _ _) (pl_of (es := [b]) (by simp [n1.2]) _)))
  obtain ⟨O, v, w, d, e, rfl, rm, rm2, q⟩ := q1
  obtain ⟨⟨ds, es⟩, hd, q⟩ := okL_of q
  obtain ⟨_, _, hd, he, z⟩ := two_of hd
  cases z
  obtain ⟨k, b, xs, rfl, hs, rs⟩ := rm.view hd
  obtain ⟨k2, b2, ys, rfl, hs2, rs2⟩ := rm2.view he
  cases r1 with
  | cons r rr =>
    cases rr with
    | cons r' rr =>
      cases rr
      cases r
      cases r'
      obtain ⟨its, rv, p'⟩ := seqK k I1 (hs H1 (Gm.refl st O H1))
      obtain ⟨its2, rv2, p2⟩ := seqK k2 I1 (hs2 H1 (Gm.refl st O H1))
      refine zip_begins2 (beginsK k b its.toArray) (beginsK k2 b2 its2.toArray) p' p2 fun h' hz hT hO h1 h2 hsz hk => wpAny_pyIter_zip hz ?_
      have I2 : Inv X pins σ H1 { s1 with heap := h' } := I1.kept (t' := s1.toks) hk
      refine ⟨s1.heap.objs.size + 4, [s1.heap.objs.size + 4, s1.heap.objs.size + 2, s1.heap.objs.size + 3, s1.heap.objs.size, s1.heap.objs.size + 1], _, _, H1, rfl, I2,
        turn_zip2K k k2 (zip_sep2 (fp1 := [b]) (fp2 := [b2]) (by simpa using p'.lt) (by simpa using p2.lt)), ⟨hz, hT, ⟨_, _, hO⟩, .new h1, .new h2⟩, fun c hc => ?_, q.ok (wk_zip2 hs rs hs2 rs2)⟩
      have e' : c = s1.heap.objs.size + 4 ∨ c = s1.heap.objs.size + 2 ∨ c = s1.heap.objs.size + 3 ∨ c = s1.heap.objs.size ∨ c = s1.heap.objs.size + 1 := by simpa using hc
      have hle : s1.heap.objs.size ≤ c := by rcases e' with z | z | z | z | z <;> (rw [z]; first | exact Nat.le_refl _ | exact Nat.le_add_right _ _)
      exact I1.fpOk hle (I1.hok.fresh hle)
theorem pd_zip3 (ok : Cok g S T n cls EX X) {elts : List Expr} {kk : Nat} {a b c : Expr} {irs : List Ex} {p pos tpos : Pos} (hg : S.sc.names.lookup ("zip" : Str) = some .globalImplicit) (ns : [a, b, c].all notStar = true) (ha : PAm st X C E [a, b, c] irs) :
    PIs st X C E (.Tuple elts kk tpos) (.Call (.Name "zip" p) [a, b, c] [] pos) .zip3 irs := by
  have n1 : notStar a = true ∧ notStar b = true ∧ notStar c = true := by simpa [Bool.and_assoc] using ns
  refine ⟨fun pins s σ H R I h => ?_⟩
  have hq : tMs st X.K C E irs σ H (fun vs H1 => ∃ O, ∃ v w z d e f, vs = [v, w, z] ∧ RM st X.K O H1 v d ∧ RM st X.K O H1 w e ∧ RM st X.K O H1 z f ∧ EI st X.K O E (zip3S d e f) R H1) := by
    obtain ⟨O, ρ, so, q⟩ := h
    exact ⟨O, ρ, so, (EI.args q).mono fun vs H1 s1 ⟨ds, rm, q⟩ => let ⟨v, w, z, d, e, f, u, r, r2, r3, q⟩ := sr3_of rm q; ⟨O, v, w, z, d, e, f, u, r, r2, r3, q⟩⟩
  refine Call_ (ld_blt I (kind_of ok hg) (ok.w.blt _ (by decide)) PyProof.Rows.boot_zip (PyProof.Rows.callWith_type1 (thn (ha.run pos pins s σ H _ I hq) fun us s1 ⟨vs, H1, I1, r1, q1⟩ => ?_) (star_of n1.1 _ _) (pl_of (es := [b, c]) (by simp [n1.2.1, n1.2.2]) _)))
  obtain ⟨O, v, w, z, d, e, f, rfl, rm, rm2, rm3, q⟩ := q1
  obtain ⟨⟨ds, es, fs⟩, hd, q⟩ := okL_of q
  obtain ⟨hd, he, hf⟩ : itemsOf d = some ds ∧ itemsOf e = some es ∧ itemsOf f = some fs := by
    cases h1 : itemsOf d with
    | none => rw [h1] at hd; cases hd
    | some x => cases h2 : itemsOf e with
      | none => rw [h1, h2] at hd; cases hd
      | some y => cases h3 : itemsOf f with
        | none => rw [h1, h2, h3] at hd; cases hd
        | some z => rw [h1, h2, h3] at hd; cases hd; exact ⟨rfl, rfl, rfl⟩
  obtain ⟨k, b, xs, rfl, hs, rs⟩ := rm.view hd
  obtain ⟨k2, b2, ys, rfl, hs2, rs2⟩ := rm2.view he
  obtain ⟨k3, b3, zs, rfl, hs3, rs3⟩ := rm3.view hf
  cases r1 with
  | cons r rr =>
    cases rr with
    | cons r' rr =>
      cases rr with
      | cons r'' rr =>
        cases rr
        cases r
        cases r'
        cases r''
        obtain ⟨its, rv, p'⟩ := seqK k I1 (hs H1 (Gm.refl st O H1))
        obtain ⟨its2, rv2, p2⟩ := seqK k2 I1 (hs2 H1 (Gm.refl st O H1))
        obtain ⟨its3, rv3, p3⟩ := seqK k3 I1 (hs3 H1 (Gm.refl st O H1))
        refine zip_begins3 (beginsK k b its.toArray) (beginsK k2 b2 its2.toArray) (beginsK k3 b3 its3.toArray) p' p2 p3 fun h' hz hT hO h1 h2 h3 hsz hk => wpAny_pyIter_zip hz ?_
        have I2 : Inv X pins σ H1 { s1 with heap := h' } := I1.kept (t' := s1.toks) hk
        refine ⟨s1.heap.objs.size + 5, [s1.heap.objs.size + 5, s1.heap.objs.size + 3, s1.heap.objs.size + 4, s1.heap.objs.size, s1.heap.objs.size + 1, s1.heap.objs.size + 2], _, _, H1, rfl, I2,
          turn_zip3K k k2 k3 (zip_sep3 (fp1 := [b]) (fp2 := [b2]) (fp3 := [b3]) (by simpa using p'.lt) (by simpa using p2.lt) (by simpa using p3.lt)), ⟨hz, hT, ⟨_, _, _, hO⟩, .new h1, .new h2, .new h3⟩, fun c hc => ?_, q.ok (wk_zip3 hs rs hs2 rs2 hs3 rs3)⟩
        have e' : c = s1.heap.objs.size + 5 ∨ c = s1.heap.objs.size + 3 ∨ c = s1.heap.objs.size + 4 ∨ c = s1.heap.objs.size ∨ c = s1.heap.objs.size + 1 ∨ c = s1.heap.objs.size + 2 := by simpa using hc
        have hle : s1.heap.objs.size ≤ c := by rcases e' with z | z | z | z | z | z <;> (rw [z]; first | exact Nat.le_refl _ | exact Nat.le_add_right _ _)
        exact I1.fpOk hle (I1.hok.fresh hle)
end
end BP

/-! Targets; comprehensions. -/
namespace BP
open PySem PySem.Spec PyProof.Rows L2

/-! ### slots set, forgotten -/
theorem wipe_get {σ : L2.St} {i : Nat} : ∀ {vs : List Nat}, (wipe σ vs)[i]? = if i ∈ vs then (if i < σ.length then some none else none) else σ[i]?
  | [] => by simp [wipe]
  | v :: vs => by
    unfold wipe
    by_cases h : v = i
    · subst h
      by_cases hv : v < σ.length
      · rw [List.getElem?_set_self (by rw [wipe_length]; exact hv)]; simp [hv]
      · rw [List.getElem?_eq_none (by simp [wipe_length]; omega)]; simp [hv]
    · rw [List.getElem?_set_ne h, wipe_get]
      have : (i ∈ v :: vs) ↔ i ∈ vs := by simp [Ne.symm h]
      simp only [this]
theorem wipe_set {σ : L2.St} {i : Nat} {x : Option V} {vs : List Nat} (h : i ∈ vs) : wipe (σ.set i x) vs = wipe σ vs := by
  apply List.ext_getElem?
  intro j
  rw [wipe_get, wipe_get, List.length_set]
  by_cases hj : j ∈ vs
  · rw [if_pos hj, if_pos hj]
  · rw [if_neg hj, if_neg hj, List.getElem?_set_ne (fun e => hj (by rw [← e]; exact h))]
theorem wipeR_length (ρ : Env) : ∀ vs : List Nat, (wipeR ρ vs).length = ρ.length
  | [] => rfl
  | v :: vs => by unfold wipeR; rw [List.length_set, wipeR_length ρ vs]
theorem wipeR_some {ρ : Env} {i : Nat} {x : Slot} (hx : x ≠ .non) : ∀ {vs : List Nat}, (wipeR ρ vs)[i]? = some x → ρ[i]? = some x ∧ i ∉ vs
  | [], h => ⟨h, by simp⟩
  | v :: vs, h => by
    unfold wipeR at h
    by_cases hi : v = i
    · subst hi
      by_cases hv : v < (wipeR ρ vs).length
      · rw [List.getElem?_set_self hv] at h; cases h; exact absurd rfl hx
      · rw [List.getElem?_eq_none (by simpa using hv)] at h; cases h
    · rw [List.getElem?_set_ne hi] at h
      obtain ⟨h1, h2⟩ := wipeR_some hx h
      exact ⟨h1, by simp only [List.mem_cons, not_or]; exact ⟨fun e => hi e.symm, h2⟩⟩
section
variable {K : PySem.W.Frag} {O O' : Addr → Prop} {H H' : Hp} {σ : L2.St} {ρ : Env}
theorem Sok.wipe (h : Sok K O σ ρ H) (vs : List Nat) : Sok K O (wipe σ vs) (wipeR ρ vs) H where
  len := by rw [wipe_length, wipeR_length, h.len]
  val := fun i d e => by
    obtain ⟨e1, e2⟩ := wipeR_some (by intro z; cases z) e
    obtain ⟨v, q, r⟩ := h.val i d e1
    exact ⟨v, by rw [wipe_out e2]; exact q, r⟩
  own := fun i d e => by
    obtain ⟨e1, e2⟩ := wipeR_some (by intro z; cases z) e
    obtain ⟨v, q, r⟩ := h.own i d e1
    exact ⟨v, by rw [wipe_out e2]; exact q, r⟩
  inj := fun i j d e a e1 e2 e3 e4 => h.inj i j d e a (wipeR_some (by intro z; cases z) e1).1 (wipeR_some (by intro z; cases z) e2).1 (wipe_some e3).1 (wipe_some e4).1
  dom := h.dom
theorem Sok.setV (h : Sok K O σ ρ H) (i : Nat) {v : V} {d : D} (r : Rep K O H v d) : Sok K O (σ.set i (some v)) (ρ.set i (.val d)) H := by
  have key : ∀ (j : Nat) (x : Slot), (ρ.set i (.val d))[j]? = some x → (j = i ∧ j < σ.length ∧ x = .val d) ∨ (j ≠ i ∧ ρ[j]? = some x) := fun j x e => by
    by_cases hj : j = i
    · subst hj
      by_cases hl : j < ρ.length
      · rw [List.getElem?_set_self hl] at e
        cases e
        exact .inl ⟨rfl, by rw [h.len]; exact hl, rfl⟩
      · rw [List.getElem?_eq_none (by simp; omega)] at e; cases e
    · rw [List.getElem?_set_ne (Ne.symm hj)] at e
      exact .inr ⟨hj, e⟩
  refine ⟨by rw [List.length_set, List.length_set, h.len], fun j e hj => ?_, fun j e hj => ?_, fun j k d' e' a e1 e2 e3 e4 => ?_, h.dom⟩
  · rcases key j _ hj with ⟨rfl, hl, z⟩ | ⟨hn, z⟩
    · cases z
      exact ⟨v, by rw [List.getElem?_set_self hl], r⟩
    · obtain ⟨w, q, r'⟩ := h.val j e z
      exact ⟨w, by rw [List.getElem?_set_ne (Ne.symm hn)]; exact q, r'⟩
  · rcases key j _ hj with ⟨rfl, hl, z⟩ | ⟨hn, z⟩
    · cases z
    · obtain ⟨w, q, r'⟩ := h.own j e z
      exact ⟨w, by rw [List.getElem?_set_ne (Ne.symm hn)]; exact q, r'⟩
  · rcases key j _ e1 with ⟨rfl, hl, z⟩ | ⟨hn, z⟩
    · cases z
    · rcases key k _ e2 with ⟨rfl, hl', z'⟩ | ⟨hn', z'⟩
      · cases z'
      · rw [List.getElem?_set_ne (Ne.symm hn)] at e3
        rw [List.getElem?_set_ne (Ne.symm hn')] at e4
        exact h.inj j k d' e' a z z' e3 e4
theorem Sok.weak (h : Sok K O σ ρ H) (w : ∀ b, O' b → O b ∨ H b = none) (m : ∀ b, O b → O' b) (s : Same H H') (dm : Dom O' H') : Sok K O' σ ρ H' :=
  ⟨h.len, fun i d e => let ⟨v, q, r⟩ := h.val i d e; ⟨v, q, (r.weak w).same s⟩, fun i d e => let ⟨a, q, oa, r⟩ := h.own i d e; ⟨a, q, m a oa, (r.weak w).same s⟩, h.inj, dm⟩
end

/-- what is own behind was own ahead -/
def OwnSub (σ : L2.St) (ρ : Env) (σ' : L2.St) (ρ' : Env) : Prop := ∀ (i : Nat) (d : D) (a : Addr), ρ'[i]? = some (Slot.own d) → σ'[i]? = some (some (V.ref a)) → ρ[i]? = some (Slot.own d) ∧ σ[i]? = some (some (V.ref a))
theorem OwnSub.refl (σ : L2.St) (ρ : Env) : OwnSub σ ρ σ ρ := fun _ _ _ h h' => ⟨h, h'⟩
theorem OwnSub.trans {σ σ' σ'' : L2.St} {ρ ρ' ρ'' : Env} (h : OwnSub σ ρ σ' ρ') (h' : OwnSub σ' ρ' σ'' ρ'') : OwnSub σ ρ σ'' ρ'' := fun i d a e e' => let ⟨x, y⟩ := h' i d a e e'; h i d a x y
theorem OwnSub.setV (σ : L2.St) (ρ : Env) (i : Nat) (v : Option V) (d : D) : OwnSub σ ρ (σ.set i v) (ρ.set i (.val d)) := fun j e a h h' => by
  by_cases hj : i = j
  · subst hj
    by_cases hl : i < ρ.length
    · rw [List.getElem?_set_self hl] at h; cases h
    · rw [List.getElem?_eq_none (by simp; omega)] at h; cases h
  · rw [List.getElem?_set_ne hj] at h h'
    exact ⟨h, h'⟩

/-! ### targets -/
def tgIx : Tg → List Nat
  | .n i => [i]
  | .t is => is
/-- the target takes what stands at v -/
def gD (K : PySem.W.Frag) (t : Tg) : TG := fun v σ H Q => ∃ O ρ d ρ', Sok K O σ ρ H ∧ Rep K O H v d ∧ bindT ρ t d = some ρ' ∧
  ∀ σ', Sok K O σ' ρ' H → (∀ vs, (∀ i ∈ tgIx t, i ∈ vs) → wipe σ' vs = wipe σ vs) → OwnSub σ ρ σ' ρ' → Q σ' H
theorem pg_imp {X : Cx} {tg : Expr} {t t' : TG} (h : PG X tg t) (w : ∀ v σ H Q, t' v σ H Q → t v σ H Q) : PG X tg t' := ⟨fun pins s σ H v u Q I r q => h.run pins s σ H v u Q I r (w v σ H Q q)⟩
def NameAt (X : Cx) (e : Expr) (i : Nat) : Prop := ∃ x pos, e = .Name x pos ∧ X.N[i]? = some x ∧ Loc X.env.scope x ∧ (X.fn x = true ∨ X.env.scope.names.lookup x = some .local)
section
variable {X : Cx}
theorem pg_one (hN : X.N.Nodup) {e : Expr} {i : Nat} (h : NameAt X e i) : PG X e (gD X.K (.n i)) := by
  obtain ⟨x, pos, rfl, h1, h2, h3⟩ := h
  refine pg_imp (pg_name hN h1 h2 h3) fun v σ H Q ⟨O, ρ, d, ρ', so, r, e, q⟩ => ?_
  cases e
  exact q _ (so.setV i r) (fun vs hv => wipe_set (hv i (by simp [tgIx]))) (.setV _ _ _ _ _)
def gNames : List Nat → TGs
  | [] => gNil
  | i :: is => gCons (gName i) (gNames is)
theorem pgs_names (hN : X.N.Nodup) : ∀ {es : List Expr} {is : List Nat}, Paired (NameAt X) es is → PGs X es (gNames is)
  | _, _, .nil => pgs_nil
  | _, _, .cons h hs => by
    obtain ⟨x, pos, rfl, h1, h2, h3⟩ := h
    exact pgs_cons (pg_name hN h1 h2 h3) (pgs_names hN hs)
theorem names_each : ∀ {es : List Expr} {is : List Nat}, Paired (NameAt X) es is → (assignEach es X.env).length = is.length ∧ (assignEach es X.env).findIdx? (·.1) = none
  | _, _, .nil => ⟨rfl, rfl⟩
  | _, _, .cons h hs => by
    obtain ⟨x, pos, rfl, h1, h2, h3⟩ := h
    obtain ⟨q1, q2⟩ := names_each hs
    refine ⟨by simp only [assignEach, List.length_cons, q1], ?_⟩
    rw [assignEach, List.findIdx?_cons]
    · simp only [q2]; rfl
    · intro a b z; cases z
theorem gNames_ok {K : PySem.W.Frag} {O : Addr → Prop} {H : Hp} {σ0 : L2.St} {ρ0 : Env} {js : List Nat} : ∀ {is : List Nat} {vs : List V} {ds : List D} {σ : L2.St} {ρ ρ' : Env} {Q : L2.St → Hp → Prop}, (∀ i ∈ is, i ∈ js) → Sok K O σ ρ H → Reps K O H vs ds → putsV ρ is ds = some ρ' →
    (∀ vs, (∀ i ∈ js, i ∈ vs) → wipe σ vs = wipe σ0 vs) → OwnSub σ0 ρ0 σ ρ → (∀ σ', Sok K O σ' ρ' H → (∀ vs, (∀ i ∈ js, i ∈ vs) → wipe σ' vs = wipe σ0 vs) → OwnSub σ0 ρ0 σ' ρ' → Q σ' H) → gNames is vs σ H Q
  | [], _, _, _, _, _, _, _, so, .nil, e, hw, ow, q => by
    cases e
    exact ⟨rfl, q _ so hw ow⟩
  | i :: is, _, _, _, _, _, _, hj, so, .cons r rs, e, hw, ow, q => by
    refine ⟨_, _, rfl, ?_⟩
    exact gNames_ok (fun k hk => hj k (List.mem_cons_of_mem _ hk)) (so.setV i r) rs e (fun vs hv => by rw [wipe_set (hv i (hj i List.mem_cons_self))]; exact hw vs hv) (ow.trans (.setV _ _ _ _ _)) q
  | [], _, _, _, _, _, _, _, _, .cons _ _, e, _, _, _ => by cases e
  | _ :: _, _, _, _, _, _, _, _, _, .nil, e, _, _, _ => by cases e
theorem pg_many (hc : X.calm = true) (hN : X.N.Nodup) {es : List Expr} {is : List Nat} {k : Nat} {pos : Pos} (h : Paired (NameAt X) es is) : PG X (.Tuple es k pos) (gD X.K (.t is)) := by
  have hs := pgs_names hN h
  obtain ⟨hn, hst⟩ := names_each h
  refine ⟨fun pins s σ H v u Q I r ⟨O, ρ, d, ρ', so, rp, e, q⟩ => ?_⟩
  cases d with
  | tuple ds =>
    simp only [bindT] at e
    split at e
    · rename_i hl
      obtain ⟨a, xs, rfl, hq, rs⟩ := RB.tuple (.r rp)
      exact (pg_tup hc hs hn hst).run pins s σ H _ u Q I r ⟨a, xs, rfl, .of hq, by rw [rs.length, hl], gNames_ok (js := is) (fun _ z => z) so rs e (fun _ _ => rfl) (.refl _ _) q⟩
    · cases e
  | list ds =>
    simp only [bindT] at e
    split at e
    · rename_i hl
      obtain ⟨a, xs, rfl, hq, rs⟩ := RB.list (.r rp)
      exact (pg_lst hc hs hn hst).run pins s σ H _ u Q I r ⟨a, xs, rfl, hq, by rw [rs.length, hl], gNames_ok (js := is) (fun _ z => z) so rs e (fun _ _ => rfl) (.refl _ _) q⟩
    · cases e
  | _ => cases e
end

/-! ### comprehensions -/
theorem compL_exc {turn : D → Res (Option D)} {items : List D} {c : Nat} (h : noExc (compL turn items) = .exc c) : False := by
  unfold noExc at h
  split at h <;> rename_i q
  · cases h
  · exact q _ h
theorem noExc_ok {α : Type} {r : Res α} {a : α} (h : noExc r = .ok a) : r = .ok a := by
  cases r <;> first | exact h | cases h
theorem bind_ok_iff {α β : Type} {r : Res α} {f : α → Res β} {b : β} (h : r.bind f = .ok b) : ∃ a, r = .ok a ∧ f a = .ok b := by
  cases r with
  | ok a => exact ⟨a, rfl, h⟩
  | exc c => cases h
  | bad => cases h
def tAll (K : PySem.W.Frag) (C : Nat → List D → Res D) (E : Nat → Hp → Prop) (irs : List Ex) : TT := fun σ H Q => ∃ O ρ, Sok K O σ ρ H ∧ ET E (evalAll C irs ρ) Q H
theorem pts_all0 {X : Cx} {C : Nat → List D → Res D} {E : Nat → Hp → Prop} : PTs X [] (tAll X.K C E []) :=
  ⟨fun pins s σ H Q I ⟨O, ρ, so, q⟩ => pts_nil.run pins s σ H Q I (q H (Same.refl H))⟩
theorem pts_all1 {X : Cx} {C : Nat → List D → Res D} {E : Nat → Hp → Prop} {c : Expr} {ic : Ex} (h : PTs' X C E c ic) : PTs X [c] (tAll X.K C E [ic]) :=
  ⟨fun pins s σ H Q I ⟨O, ρ, so, q⟩ => (pts_one h).run pins s σ H Q I (by
    refine ⟨O, ρ, so, ?_⟩
    simp only [evalAll] at q
    cases e : evalE C ic ρ with
    | bad => rw [e] at q; exact q
    | exc c => rw [e] at q; exact q
    | ok d =>
      rw [e, Res.bind_ok] at q
      rw [Res.bind_ok]
      cases e2 : asBool d with
      | bad => rw [e2] at q; exact q
      | exc c => rw [e2] at q; exact q
      | ok t =>
        rw [e2, Res.bind_ok] at q
        cases t with
        | true => exact q
        | false => exact q)⟩
section
variable {X : Cx} {C : Nat → List D → Res D} {E : Nat → Hp → Prop}
/-- one turn -/
def turnD (C : Nat → List D → Res D) (e : Ex) (own : List Nat) (t : Tg) (conds : List Ex) (ρ : Env) : D → Res (Option D) := fun d => match bindT (wipeR ρ own) t d with
  | some ρ' => (evalAll C conds ρ').bind fun ok => if ok = true then (evalE C e ρ').bind fun y => .ok (some y) else .ok none
  | none => .bad
theorem eval_comp (e : Ex) (own : List Nat) (t : Tg) (sk : Sk) (src conds : List Ex) (ρ : Env) : evalE C (.comp e own t sk src conds) ρ = ((evalEs C src ρ).bind (evalSrc sk)).bind fun items =>
    (noExc (compL (turnD C e own t conds ρ) items)).bind fun r => if items.length ≤ sizeLine then .ok (.list r) else .bad := by
  rw [bind_assoc, evalE]
  rfl
theorem comp_ok {e : Ex} {own : List Nat} {t : Tg} {sk : Sk} {src conds : List Ex} {σ : L2.St} {H : Hp} {Q : VK} {E' : Nat → Hp → Prop} (ht : ∀ i ∈ tgIx t, i ∈ own)
    (h : tS X.K C E (.comp e own t sk src conds) σ H Q) : tLc (tI false X.K C E sk src) (gD X.K t) (tAll X.K C E' conds) (tS X.K C E' e) own σ H Q := by
  obtain ⟨O, ρ, so, q⟩ := h
  rw [eval_comp] at q
  refine ⟨O, ρ, so, ?_⟩
  generalize (evalEs C src ρ).bind (evalSrc sk) = rs at q
  cases rs with
  | bad => exact False.elim q
  | exc c => exact q
  | ok items =>
    rw [Res.bind_ok] at q
    cases hr : noExc (compL (turnD C e own t conds ρ) items) with
    | bad => rw [hr] at q; exact False.elim q
    | exc c => exact (compL_exc hr).elim
    | ok r =>
      rw [hr, Res.bind_ok] at q
      split at q
      · rename_i hz
        have hr := noExc_ok hr
        intro J H1 s1 wk D hD
        have so1 := so.same s1
        let O' : Addr → Prop := fun b => O b ∨ b = D
        have w : ∀ b, O' b → O b ∨ H1 b = none := fun b z => z.elim .inl fun z => .inr (by rw [z]; exact hD)
        have hOD : ¬ O D := fun z => so1.dom D z hD
        have dm1 : ∀ {H' : Hp}, Same H1 H' → H' D ≠ none → Dom O' H' := fun {H'} s hd b z => by
          rcases z with z | z
          · exact Dom.same so1.dom s b z
          · rw [z]; exact hd
        let Inv' : Nat → Hp → Prop := fun i H' => ∃ acc ds rest, Same H1 H' ∧ H' D = some (.lst acc) ∧ Reps X.K O' H' acc ds ∧ acc.length ≤ i ∧ compL (turnD C e own t conds ρ) (items.drop i) = .ok rest ∧ r = ds ++ rest
        have s3 : Same H1 (upd H1 D (.lst [])) := same_upd hD
        refine ⟨fun i m H' => m = items.length - i ∧ i ≤ items.length ∧ Inv' i H', ⟨items.length, by simp, Nat.zero_le _, [], [], r, s3, upd_same, .nil, Nat.zero_le _, by simpa using hr, rfl⟩, ?_⟩
        rintro i m H' ⟨rfl, hi, acc, ds, rest, s4, hD4, rp, hl, hc, rfl⟩
        have dm4 : Dom O' H' := dm1 s4 (by rw [hD4]; intro z; cases z)
        obtain ⟨k1, k2, k3⟩ := wk O' i H' w dm4 (show Gm false O H1 H' from s4)
        by_cases hlt : i < items.length
        · refine .inr ⟨k1 hlt, Inv' (i + 1), fun H5 z => ⟨items.length - (i + 1), by omega, rfl, hlt, z⟩, fun x H5 y => ?_⟩
          obtain ⟨s5, rx⟩ := k3 x H5 items[i] (List.getElem?_eq_getElem hlt) y
          have hdrop : items.drop i = items[i] :: items.drop (i + 1) := List.drop_eq_getElem_cons hlt
          rw [hdrop, compL] at hc
          obtain ⟨o, ho, hc⟩ := bind_ok_iff hc
          obtain ⟨r2, hr2, hc⟩ := bind_ok_iff hc
          have so5 : Sok X.K O' (wipe σ own) (wipeR ρ own) H5 := (so1.wipe own).weak w (fun _ => .inl) (s4.trans s5) (dm1 (s4.trans s5) (by rw [s5 D _ hD4]; intro z; cases z))
          unfold turnD at ho
          split at ho
          · rename_i ρ' hb
            refine ⟨O', _, _, ρ', so5, rx, hb, fun σ' so' hw _ => ⟨?_, ?_⟩⟩
            · have := hw own ht
              rw [this]
              apply List.ext_getElem?
              intro j
              rw [wipe_get, wipe_length, wipe_get]
              split <;> rfl
            · refine ⟨O', ρ', so', ?_⟩
              obtain ⟨b, hb1, ho⟩ := bind_ok_iff ho
              rw [hb1]
              intro H6 s6
              cases b with
              | false =>
                simp only [Bool.false_eq_true, if_false] at ho ⊢
                cases ho
                cases hc
                exact ⟨acc, ds, _, (s4.trans s5).trans s6, s6 _ _ (s5 _ _ hD4), (rp.same s5).same s6, by omega, hr2, rfl⟩
              | true =>
                simp only [if_true] at ho ⊢
                obtain ⟨yd, hy, ho⟩ := bind_ok_iff ho
                cases ho
                cases hc
                refine ⟨O', ρ', so'.same s6, ?_⟩
                rw [hy]
                intro y7 H7 s7 r7 _
                have hD7 := s7 _ _ (s6 _ _ (s5 _ _ hD4))
                refine ⟨acc, hD7, by omega, acc ++ [y7], ds ++ [yd], r2, ?_, upd_same, ?_, ?_, hr2, by simp⟩
                · exact fun b o z => by
                    rw [upd_ne (ne_of_none z hD)]
                    exact s7 _ _ (s6 _ _ (s5 _ _ (s4 _ _ z)))
                · refine (Reps.snoc r7 (((rp.same s5).same s6).same s7)).keep fun b o nb z => ?_
                  rw [upd_ne fun z2 => nb (.inr z2)]
                  exact z
                · rw [List.length_append]; simp; omega
          · cases ho
        · have ei : i = items.length := by omega
          subst ei
          refine .inl ⟨k2 rfl, ?_⟩
          rw [List.drop_length, compL] at hc
          cases hc
          rw [List.append_nil] at q
          have rp' : Reps X.K O H' acc ds := rp.weak fun b z => .inl (.inl z)
          exact q (.ref D) H' (s1.trans s4) (.lst (.inl ⟨hOD, .inl hD4⟩) rp') fun _ _ => ⟨D, rfl, s1.free hD, .lst hD4 rp⟩
      · exact False.elim q
end
end BP

/-! Statements: the state, its steps. -/
namespace BP
open PySem PySem.Spec PyProof.Rows L2

/-- what a stretch of a body starts from: M may be changed of what is there, C are the caller's own, U the owned ones there -/
structure Bs where
  M : Addr → Prop
  C : Addr → Prop
  U : Addr → Prop
  H : Hp
structure Stt (K : PySem.W.Frag) (B : Bs) (O : Addr → Prop) (σ : L2.St) (ρ : Env) (H : Hp) : Prop where
  ok : Sok K O σ ρ H
  lo : ∀ b, B.C b → O b
  hi : ∀ b, O b → B.U b ∨ B.H b = none
  kp : Keep B.M B.H H
  ow : ∀ (i : Nat) (d : D) (a : Addr), ρ[i]? = some (Slot.own d) → σ[i]? = some (some (V.ref a)) → ¬ B.C a ∧ (B.M a ∨ B.H a = none)
def St' (K : PySem.W.Frag) (B : Bs) (σ : L2.St) (ρ : Env) (H : Hp) : Prop := ∃ O, Stt K B O σ ρ H
section
variable {K : PySem.W.Frag} {B : Bs} {O : Addr → Prop} {σ : L2.St} {ρ : Env} {H H' : Hp}
theorem Keep.trans {M : Addr → Prop} {H H1 H2 : Hp} (h : Keep M H H1) (h' : Keep M H1 H2) : Keep M H H2 := fun b o n e => h' b o n (h b o n e)
theorem Stt.same (h : Stt K B O σ ρ H) (s : Same H H') : Stt K B O σ ρ H' := ⟨h.ok.same s, h.lo, h.hi, h.kp.trans (.of s), h.ow⟩
theorem Stt.sub {σ' : L2.St} {ρ' : Env} (h : Stt K B O σ ρ H) (so : Sok K O σ' ρ' H) (w : OwnSub σ ρ σ' ρ') : Stt K B O σ' ρ' H :=
  ⟨so, h.lo, h.hi, h.kp, fun i d a e e' => let ⟨x, y⟩ := w i d a e e'; h.ow i d a x y⟩
/-- an address that wasn't there a moment ago -/
theorem Stt.new (h : Stt K B O σ ρ H) {a : Addr} (n : H a = none) : ¬ O a ∧ ¬ B.C a ∧ (B.M a ∨ B.H a = none) := by
  have no : ¬ O a := fun z => h.ok.dom a z n
  refine ⟨no, fun z => no (h.lo a z), ?_⟩
  cases e : B.H a with
  | none => exact .inr rfl
  | some o =>
    by_cases m : B.M a
    · exact .inl m
    · rw [h.kp a o m e] at n; cases n
/-- a new list or dict gets an owner -/
theorem Stt.own_new (bM : ∀ b, B.M b → B.U b) (h : Stt K B O σ ρ H) (s : Same H H') {a : Addr} (n : H a = none) {d : D} (r : Own K (fun b => O b ∨ b = a) H' a d) (i : Nat) :
    St' K B (σ.set i (some (.ref a))) (ρ.set i (.own d)) H' := by
  obtain ⟨n1, n2, n3⟩ := h.new n
  let O' : Addr → Prop := fun b => O b ∨ b = a
  have ok' : Sok K O' σ ρ H' := h.ok.weak (fun b z => z.elim .inl fun z => .inr (by rw [z]; exact n)) (fun _ => .inl) s fun b z => by
    rcases z with z | z
    · exact Dom.same h.ok.dom s b z
    · rw [z]; exact r.there
  have key : ∀ (j : Nat) (x : Slot), (ρ.set i (.own d))[j]? = some x → (j = i ∧ j < σ.length ∧ x = .own d) ∨ (j ≠ i ∧ ρ[j]? = some x) := fun j x e => by
    by_cases hj : j = i
    · subst hj
      by_cases hl : j < ρ.length
      · rw [List.getElem?_set_self hl] at e
        cases e
        exact .inl ⟨rfl, by rw [h.ok.len]; exact hl, rfl⟩
      · rw [List.getElem?_eq_none (by simp; omega)] at e; cases e
    · rw [List.getElem?_set_ne (Ne.symm hj)] at e
      exact .inr ⟨hj, e⟩
  -- the addresses of the others aren't the new one
  have other : ∀ (j : Nat) (e : D), ρ[j]? = some (.own e) → σ[j]? = some (some (.ref a)) → False := fun j e z q => by
    obtain ⟨a', q', _, r'⟩ := h.ok.own j e z
    rw [q] at q'
    cases q'
    exact r'.there n
  refine ⟨O', ⟨by rw [List.length_set, List.length_set, h.ok.len], fun j e hj => ?_, fun j e hj => ?_, fun j k d' e' a' e1 e2 e3 e4 => ?_, ok'.dom⟩, fun b z => .inl (h.lo b z), fun b z => ?_, h.kp.trans (.of s), fun j e a' hj hs => ?_⟩
  · rcases key j _ hj with ⟨rfl, hl, z⟩ | ⟨hn, z⟩
    · cases z
    · obtain ⟨w, q, r'⟩ := ok'.val j e z
      exact ⟨w, by rw [List.getElem?_set_ne (Ne.symm hn)]; exact q, r'⟩
  · rcases key j _ hj with ⟨rfl, hl, z⟩ | ⟨hn, z⟩
    · cases z
      exact ⟨a, by rw [List.getElem?_set_self hl], .inr rfl, r⟩
    · obtain ⟨w, q, r'⟩ := ok'.own j e z
      exact ⟨w, by rw [List.getElem?_set_ne (Ne.symm hn)]; exact q, r'⟩
  · rcases key j _ e1 with ⟨rfl, hl, z⟩ | ⟨hn, z⟩
    · rcases key k _ e2 with ⟨rfl, hl', z'⟩ | ⟨hn', z'⟩
      · rfl
      · rw [List.getElem?_set_self hl] at e3
        cases e3
        rw [List.getElem?_set_ne (Ne.symm hn')] at e4
        exact (other k _ z' e4).elim
    · rcases key k _ e2 with ⟨rfl, hl', z'⟩ | ⟨hn', z'⟩
      · rw [List.getElem?_set_self hl'] at e4
        cases e4
        rw [List.getElem?_set_ne (Ne.symm hn)] at e3
        exact (other j _ z e3).elim
      · rw [List.getElem?_set_ne (Ne.symm hn)] at e3
        rw [List.getElem?_set_ne (Ne.symm hn')] at e4
        exact h.ok.inj j k d' e' a' z z' e3 e4
  · rcases z with z | z
    · exact h.hi b z
    · rw [z]; exact n3.elim (fun m => .inl (bM _ m)) .inr
  · rcases key j _ hj with ⟨rfl, hl, z⟩ | ⟨hn, z⟩
    · rw [List.getElem?_set_self hl] at hs
      cases hs
      exact ⟨n2, n3⟩
    · rw [List.getElem?_set_ne (Ne.symm hn)] at hs
      exact h.ow j e a' z hs
/-- an own list or dict is changed -/
theorem Stt.chg (h : Stt K B O σ ρ H) {i : Nat} {d d' : D} {a : Addr} (e : ρ[i]? = some (.own d)) (e' : σ[i]? = some (some (.ref a))) {o : HO} (r : Own K O (upd H a o) a d') :
    Stt K B O σ (ρ.set i (.own d')) (upd H a o) := by
  obtain ⟨a2, q1, oa, _⟩ := h.ok.own i d e
  rw [e'] at q1
  cases q1
  obtain ⟨n2, n3⟩ := h.ow i d a e e'
  have kO : Keep O H (upd H a o) := fun b x nb z => by rw [upd_ne fun y => nb (by rw [y]; exact oa)]; exact z
  have hl : i < ρ.length := (List.getElem?_eq_some_iff.mp e).1
  have key : ∀ (j : Nat) (x : Slot), (ρ.set i (.own d'))[j]? = some x → (j = i ∧ x = .own d') ∨ (j ≠ i ∧ ρ[j]? = some x) := fun j x z => by
    by_cases hj : j = i
    · subst hj
      rw [List.getElem?_set_self hl] at z
      cases z
      exact .inl ⟨rfl, rfl⟩
    · rw [List.getElem?_set_ne (Ne.symm hj)] at z
      exact .inr ⟨hj, z⟩
  have back : ∀ (j : Nat) (x : D), (ρ.set i (.own d'))[j]? = some (.own x) → ∃ y, ρ[j]? = some (.own y) := fun j x z => by
    rcases key j _ z with ⟨rfl, _⟩ | ⟨_, z⟩
    · exact ⟨d, e⟩
    · exact ⟨x, z⟩
  refine ⟨⟨by rw [List.length_set, h.ok.len], fun j x hj => ?_, fun j x hj => ?_, fun j k x y a' e1 e2 e3 e4 => ?_, fun b ob => ?_⟩, h.lo, h.hi, fun b x nb z => ?_, fun j x a' hj hs => ?_⟩
  · rcases key j _ hj with ⟨rfl, z⟩ | ⟨hn, z⟩
    · cases z
    · obtain ⟨w, q, r'⟩ := h.ok.val j x z
      exact ⟨w, q, r'.keep kO⟩
  · rcases key j _ hj with ⟨rfl, z⟩ | ⟨hn, z⟩
    · cases z
      exact ⟨a, e', oa, r⟩
    · obtain ⟨w, q, ow, r'⟩ := h.ok.own j x z
      refine ⟨w, q, ow, r'.keep kO fun o' z' => ?_⟩
      rw [upd_ne fun y => hn (h.ok.inj j i x d a z e (by rw [q, y]) e')]
      exact z'
  · obtain ⟨x', z1⟩ := back j x e1
    obtain ⟨y', z2⟩ := back k y e2
    exact h.ok.inj j k x' y' a' z1 z2 e3 e4
  · by_cases hb : b = a
    · rw [hb, upd_same]; intro z; cases z
    · rw [upd_ne hb]; exact h.ok.dom b ob
  · have z' := h.kp b x nb z
    rw [upd_ne fun y => ?_]
    · exact z'
    · rcases n3 with m | m
      · exact nb (by rw [y]; exact m)
      · rw [← y, z] at m; cases m
  · obtain ⟨y, z⟩ := back j x hj
    exact h.ow j y a' z hs
/-- an own one becomes a value as others -/
theorem Stt.freeze (h : St' K B σ ρ H) (i : Nat) : St' K B σ (freeze ρ i) H := by
  unfold BP.freeze
  split
  · rename_i d e
    obtain ⟨O, h⟩ := h
    obtain ⟨a, q, oa, r⟩ := h.ok.own i d e
    obtain ⟨n2, n3⟩ := h.ow i d a e q
    have hl : i < ρ.length := (List.getElem?_eq_some_iff.mp e).1
    have key : ∀ (j : Nat) (x : Slot), (ρ.set i (.val d))[j]? = some x → (j = i ∧ x = .val d) ∨ (j ≠ i ∧ ρ[j]? = some x) := fun j x z => by
      by_cases hj : j = i
      · subst hj
        rw [List.getElem?_set_self hl] at z
        cases z
        exact .inl ⟨rfl, rfl⟩
      · rw [List.getElem?_set_ne (Ne.symm hj)] at z
        exact .inr ⟨hj, z⟩
    refine ⟨fun b => O b ∧ b ≠ a, ⟨by rw [List.length_set, h.ok.len], fun j x hj => ?_, fun j x hj => ?_, fun j k x y a' e1 e2 e3 e4 => ?_, fun b ob => h.ok.dom b ob.1⟩, fun b z => ⟨h.lo b z, fun y => n2 (y ▸ z)⟩, fun b z => h.hi b z.1, h.kp, fun j x a' hj hs => ?_⟩
    · rcases key j _ hj with ⟨rfl, z⟩ | ⟨hn, z⟩
      · cases z
        exact ⟨.ref a, q, (r.weak fun b z => .inl z.1).rep fun z => z.2 rfl⟩
      · obtain ⟨w, q', r'⟩ := h.ok.val j x z
        exact ⟨w, q', r'.weak fun b z => .inl z.1⟩
    · rcases key j _ hj with ⟨rfl, z⟩ | ⟨hn, z⟩
      · cases z
      · obtain ⟨w, q', ow, r'⟩ := h.ok.own j x z
        exact ⟨w, q', ⟨ow, fun y => hn (h.ok.inj j i x d a z e (by rw [q', y]) q)⟩, r'.weak fun b z => .inl z.1⟩
    · rcases key j _ e1 with ⟨rfl, z⟩ | ⟨hn, z⟩
      · cases z
      · rcases key k _ e2 with ⟨rfl, z'⟩ | ⟨hn', z'⟩
        · cases z'
        · exact h.ok.inj j k x y a' z z' e3 e4
    · rcases key j _ hj with ⟨rfl, z⟩ | ⟨hn, z⟩
      · cases z
      · exact h.ow j x a' z hs
  · exact h
theorem Stt.freezes (is : List Nat) : ∀ {ρ : Env}, St' K B σ ρ H → St' K B σ (freezes ρ is) H := by
  unfold BP.freezes
  induction is with
  | nil => exact fun h => h
  | cons i is ih => exact fun h => ih (Stt.freeze h i)
end

/-! ### another start, later -/
structure Later (B B1 : Bs) : Prop where
  kp : Keep B.M B.H B1.H
  m : ∀ b, B1.M b → B.M b ∨ B.H b = none
  c : B1.C = B.C
  u : ∀ b, B1.U b → B.U b ∨ B.H b = none
  mu : ∀ b, B.M b → B.U b
theorem Later.none {B B1 : Bs} (l : Later B B1) {a : Addr} (n : B1.H a = none) : B.M a ∨ B.H a = none := by
  cases e : B.H a with
  | none => exact .inr rfl
  | some o =>
    by_cases m : B.M a
    · exact .inl m
    · rw [l.kp a o m e] at n; cases n
theorem Later.keep {B B1 : Bs} (l : Later B B1) {H' : Hp} (k : Keep B1.M B1.H H') : Keep B.M B.H H' := fun b o nb e => by
  refine k b o (fun m => ?_) (l.kp b o nb e)
  rcases l.m b m with z | z
  · exact nb z
  · rw [z] at e; cases e
theorem Later.up {K : PySem.W.Frag} {B B1 : Bs} (l : Later B B1) {σ : L2.St} {ρ : Env} {H : Hp} (h : St' K B1 σ ρ H) : St' K B σ ρ H := by
  obtain ⟨O, h⟩ := h
  refine ⟨O, h.ok, fun b z => h.lo b (by rw [l.c]; exact z), fun b z => ?_, l.keep h.kp, fun i d a e e' => ?_⟩
  · rcases h.hi b z with z | z
    · exact l.u b z
    · exact (l.none z).elim (fun m => .inl (l.mu b m)) .inr
  · obtain ⟨n1, n2⟩ := h.ow i d a e e'
    rw [l.c] at n1
    refine ⟨n1, ?_⟩
    rcases n2 with z | z
    · exact l.m a z
    · exact l.none z
/-- a start here and now -/
def nowB (B : Bs) (O : Addr → Prop) (σ : L2.St) (ρ : Env) (H : Hp) : Bs := ⟨fun a => ∃ (i : Nat) (d : D), ρ[i]? = some (Slot.own d) ∧ σ[i]? = some (some (V.ref a)), B.C, O, H⟩
theorem now_M {K : PySem.W.Frag} {B : Bs} {O : Addr → Prop} {σ : L2.St} {ρ : Env} {H : Hp} (h : Stt K B O σ ρ H) : ∀ b, (nowB B O σ ρ H).M b → O b := fun b ⟨i, d, e, e'⟩ => by
  obtain ⟨a, q, oa, _⟩ := h.ok.own i d e
  rw [e'] at q
  cases q
  exact oa
theorem Stt.now {K : PySem.W.Frag} {B : Bs} {O : Addr → Prop} {σ : L2.St} {ρ : Env} {H : Hp} (bM : ∀ b, B.M b → B.U b) (h : Stt K B O σ ρ H) : Stt K (nowB B O σ ρ H) O σ ρ H ∧ Later B (nowB B O σ ρ H) := by
  refine ⟨⟨h.ok, h.lo, fun b z => .inl z, fun b o _ e => e, fun i d a e e' => ⟨(h.ow i d a e e').1, .inl ⟨i, d, e, e'⟩⟩⟩, ⟨h.kp, fun b ⟨i, d, e, e'⟩ => (h.ow i d b e e').2, rfl, h.hi, bM⟩⟩

/-! ### what a statement is to reach -/
def FlP (K : PySem.W.Frag) (B : Bs) (E : Nat → Hp → Prop) (r : Fl) (D : Ends) : Prop := match r with
  | .nx ρ' => ∀ σ' H', St' K B σ' ρ' H' → D.nx σ' H'
  | .rt d => ∀ v H', Keep B.M B.H H' → Rep K B.C H' v d → D.rt v H'
  | .ex c => ∀ H', Keep B.M B.H H' → E c H'
  | .bad => False
def tSt (K : PySem.W.Frag) (E : Nat → Hp → Prop) (f : Env → Fl) : TS := fun D σ H => ∃ B ρ, (∀ b, B.M b → B.U b) ∧ St' K B σ ρ H ∧ FlP K B E (f ρ) D
theorem FlP.later {K : PySem.W.Frag} {B B1 : Bs} {E : Nat → Hp → Prop} {r : Fl} {D D' : Ends} (l : Later B B1) (h : FlP K B E r D) (nx : ∀ ρ', r = .nx ρ' → ∀ σ' H', St' K B1 σ' ρ' H' → D'.nx σ' H') (rt : D'.rt = D.rt) : FlP K B1 E r D' := by
  cases r with
  | nx ρ' => exact fun σ' H' s => nx ρ' rfl σ' H' s
  | rt d => exact fun v H' k r => by rw [rt]; exact h v H' (l.keep k) (by rw [← l.c]; exact r)
  | ex c => exact fun H' k => h H' (l.keep k)
  | bad => exact h
theorem FlP.ends {K : PySem.W.Frag} {B : Bs} {E : Nat → Hp → Prop} {r : Fl} {D D' : Ends} (h : FlP K B E r D) (nx : ∀ ρ', r = .nx ρ' → ∀ σ' H', St' K B σ' ρ' H' → D'.nx σ' H') (rt : D'.rt = D.rt) : FlP K B E r D' := by
  cases r with
  | nx ρ' => exact fun σ' H' s => nx ρ' rfl σ' H' s
  | rt d => exact fun v H' k r => by rw [rt]; exact h v H' k r
  | ex c => exact h
  | bad => exact h
section
variable {X : Cx} {C : Nat → List D → Res D} {E : Nat → Hp → Prop}
abbrev PSd (X : Cx) (E : Nat → Hp → Prop) (s : Stmt) (f : Env → Fl) : Prop := PS X s (tSt X.K E f)
abbrev PSsd (X : Cx) (E : Nat → Hp → Prop) (s : List Stmt) (f : Env → Fl) : Prop := PSs X s (tSt X.K E f)
theorem ps_imp {s : Stmt} {t t' : TS} (h : PS X s t) (w : ∀ D σ H, t' D σ H → t D σ H) : PS X s t' := ⟨fun pins s σ H D I q => h.run pins s σ H D I (w D σ H q)⟩
theorem pss_imp {s : List Stmt} {t t' : TS} (h : PSs X s t) (w : ∀ D σ H, t' D σ H → t D σ H) : PSs X s t' := ⟨fun pins s σ H D I q => h.run pins s σ H D I (w D σ H q)⟩
theorem sd_nil : PSsd X E [] .nx := pss_imp pss_nil fun D σ H ⟨B, ρ, bM, st, q⟩ => q σ H st
theorem sd_cons {s : Stmt} {ss : List Stmt} {f g : Env → Fl} (h : PSd X E s f) (hs : PSsd X E ss g) : PSsd X E (s :: ss) (fun ρ => (f ρ).next g) :=
  pss_imp (pss_cons h hs) fun D σ H ⟨B, ρ, bM, st, q⟩ => ⟨B, ρ, bM, st, by
    have q : FlP X.K B E ((f ρ).next g) D := q
    cases e : f ρ with
    | nx ρ' => rw [e] at q; exact fun σ' H' s => ⟨B, ρ', bM, s, q⟩
    | rt d => rw [e] at q; exact q
    | ex c => rw [e] at q; exact q
    | bad => rw [e] at q; exact q⟩
/-- own ones frozen ahead -/
theorem sd_fz {ss : List Stmt} {f : Env → Fl} (is : List Nat) (h : PSsd X E ss f) : PSsd X E ss fun ρ => f (freezes ρ is) :=
  pss_imp h fun D σ H ⟨B, ρ, bM, st, q⟩ => ⟨B, freezes ρ is, bM, Stt.freezes is st, q⟩
theorem sd_fz1 {s : Stmt} {f : Env → Fl} (is : List Nat) (h : PSd X E s f) : PSd X E s fun ρ => f (freezes ρ is) :=
  ps_imp h fun D σ H ⟨B, ρ, bM, st, q⟩ => ⟨B, freezes ρ is, bM, Stt.freezes is st, q⟩
theorem sd_pass {pos : Pos} : PSd X E (.Pass pos) .nx := ps_imp ps_pass fun D σ H ⟨B, ρ, bM, st, q⟩ => q σ H st
theorem sd_doc {x : Str} {j : Nat} {pos pos' : Pos} : PSd X E (.Expr (.Constant (.str x) j pos) pos') .nx := ps_imp ps_doc fun D σ H ⟨B, ρ, bM, st, q⟩ => q σ H st
/-- a term first -/
theorem fl_tS {K : PySem.W.Frag} {ir : Ex} {σ : L2.St} {H : Hp} {D : Ends} {B : Bs} {ρ : Env} {f : PyData → Fl} (st : St' K B σ ρ H) (q : FlP K B E ((evalE C ir ρ).fl f) D) :
    tS K C E ir σ H fun v H1 => ∃ O d, Stt K B O σ ρ H1 ∧ Rep K O H1 v d ∧ (freshE ir = true → ownD d = true → ∃ H0, Same H0 H1 ∧ Stt K B O σ ρ H0 ∧ Fresh K O H0 H1 v d) ∧ FlP K B E (f d) D := by
  obtain ⟨O, st⟩ := st
  refine ⟨O, ρ, st.ok, ?_⟩
  cases e : evalE C ir ρ with
  | ok d => rw [e] at q; exact fun v H1 s1 r1 fr => ⟨O, d, st.same s1, r1, fun a b => ⟨H, s1, st, fr a b⟩, q⟩
  | exc c => rw [e] at q; exact fun H1 s1 => q H1 (st.kp.trans (.of s1))
  | bad => rw [e] at q; exact q
theorem fl_tSO {K : PySem.W.Frag} {ir : Ex} {σ : L2.St} {H : Hp} {D : Ends} {B : Bs} {O : Addr → Prop} {ρ : Env} {f : PyData → Fl} (st : Stt K B O σ ρ H) (q : FlP K B E ((evalE C ir ρ).fl f) D) :
    tS K C E ir σ H fun v H1 => ∃ d, Same H H1 ∧ Stt K B O σ ρ H1 ∧ Rep K O H1 v d ∧ FlP K B E (f d) D := by
  refine ⟨O, ρ, st.ok, ?_⟩
  cases e : evalE C ir ρ with
  | ok d => rw [e] at q; exact fun v H1 s1 r1 fr => ⟨d, s1, st.same s1, r1, q⟩
  | exc c => rw [e] at q; exact fun H1 s1 => q H1 (st.kp.trans (.of s1))
  | bad => rw [e] at q; exact q
/-- name = a new list or dict -/
theorem sd_own {i : Nat} {s : Stmt} {ir : Ex} (h : PS X s (tAsg (tS X.K C E ir) (gName i))) (hf : freshE ir = true) : PSd X E s (evalS C (.own i ir)) := by
  refine ps_imp h fun D σ H ⟨B, ρ, bM, st, q⟩ => ?_
  simp only [evalS] at q
  have w := fl_tS st q
  obtain ⟨O, ρ2, so, q2⟩ := w
  refine ⟨O, ρ2, so, q2.mono fun v H1 s1 ⟨O, d, st1, r1, fr, q⟩ => ?_⟩
  show D.nx _ _
  split at q
  · rename_i ho
    obtain ⟨H0, s0, st0, a, rfl, n, ow⟩ := fr hf ho
    exact q _ _ (Stt.own_new bM st0 s0 n ow i)
  · exact q _ _ ⟨O, st1.sub (st1.ok.setV i r1) (.setV _ _ _ _ _)⟩
/-- target = value -/
theorem sd_set {t : Tg} {s : Stmt} {ir : Ex} (h : PS X s (tAsg (tS X.K C E ir) (gD X.K t))) : PSd X E s (evalS C (.set t ir)) := by
  refine ps_imp h fun D σ H ⟨B, ρ, bM, st, q⟩ => ?_
  simp only [evalS] at q
  have w := fl_tS st q
  obtain ⟨O, ρ2, so, q2⟩ := w
  refine ⟨O, ρ2, so, q2.mono fun v H1 s1 ⟨O, d, st1, r1, fr, q⟩ => ?_⟩
  cases e : bindT ρ t d with
  | none => rw [e] at q; exact False.elim q
  | some ρ' =>
    rw [e] at q
    exact ⟨O, ρ, d, ρ', st1.ok, r1, e, fun σ' so' _ ow => q _ _ ⟨O, st1.sub so' ow⟩⟩
theorem sd_ret {e : Expr} {ir : Ex} {pos : Pos} (h : PEs X C E e ir) : PSd X E (.Return (some e) pos) (evalS C (.ret ir)) := by
  refine ps_imp (ps_ret h) fun D σ H ⟨B, ρ, bM, st, q⟩ => ?_
  simp only [evalS] at q
  obtain ⟨O, ρ2, so, q2⟩ := fl_tS st q
  exact ⟨O, ρ2, so, q2.mono fun v H1 s1 ⟨O, d, st1, r1, fr, q⟩ => q v H1 st1.kp (r1.weak fun b z => .inl (st1.lo b z))⟩
theorem fl_tT {K : PySem.W.Frag} {ir : Ex} {σ : L2.St} {H : Hp} {D : Ends} {B : Bs} {ρ : Env} {f : Bool → Fl} (st : St' K B σ ρ H) (q : FlP K B E (((evalE C ir ρ).bind asBool).fl f) D) :
    tTs K C E ir σ H fun t H1 => St' K B σ ρ H1 ∧ FlP K B E (f t) D := by
  obtain ⟨O, st⟩ := st
  refine ⟨O, ρ, st.ok, ?_⟩
  cases e : (evalE C ir ρ).bind asBool with
  | ok d => rw [e] at q; exact fun H1 s1 => ⟨⟨O, st.same s1⟩, q⟩
  | exc c => rw [e] at q; exact fun H1 s1 => q H1 (st.kp.trans (.of s1))
  | bad => rw [e] at q; exact q
theorem ET.mono' {r : Res Bool} {Q Q' : Bool → Hp → Prop} {H : Hp} (h : ET E r Q H) (w : ∀ v H', Q v H' → Q' v H') : ET E r Q' H := ET.mono h fun v H' _ => w v H'
theorem sd_if {c : Expr} {a b : List Stmt} {ic : Ex} {fa fb : Env → Fl} {pos : Pos} (hc : PTs' X C E c ic) (ha : PSsd X E a fa) (hb : PSsd X E b fb) :
    PSd X E (.If c a b pos) fun ρ => ((evalE C ic ρ).bind asBool).fl fun t => if t = true then fa ρ else fb ρ := by
  refine ps_imp (ps_if hc ha hb) fun D σ H ⟨B, ρ, bM, st, q⟩ => ?_
  obtain ⟨O, ρ2, so, q2⟩ := fl_tT st q
  refine ⟨O, ρ2, so, ET.mono' q2 fun t H1 ⟨st1, q⟩ => ?_⟩
  cases t with
  | true => exact iteT ⟨B, ρ, bM, st1, q⟩
  | false => exact iteF ⟨B, ρ, bM, st1, q⟩
theorem sd_while {c : Expr} {body : List Stmt} {ic : Ex} {fb : Env → Fl} {pos : Pos} (hp : PassesOwn (model X.prog X.w) X.A X.env X.xe) (hc : PTs' X C E c ic) (hb : PSsd X E body fb) :
    PSd X E (.While c body [] pos) (whileL (evalE C ic) fb whileTurns) := by
  refine ps_imp (ps_while hp hc hb) fun D σ H ⟨B, ρ, bM, st, q⟩ => ?_
  refine ⟨fun m σ H => ∃ ρ, St' X.K B σ ρ H ∧ FlP X.K B E (whileL (evalE C ic) fb m ρ) D, ⟨whileTurns, ρ, st, q⟩, fun m σ1 H1 ⟨ρ1, st1, q1⟩ => ?_⟩
  cases m with
  | zero => exact False.elim q1
  | succ m =>
    simp only [whileL] at q1
    obtain ⟨O, ρ2, so, q2⟩ := fl_tT st1 q1
    refine ⟨O, ρ2, so, ET.mono' q2 fun t H2 ⟨st2, q3⟩ => ?_⟩
    cases t with
    | false => exact iteF (q3 _ _ st2)
    | true =>
      refine iteT ⟨fun σ' H' => ∃ ρ', St' X.K B σ' ρ' H' ∧ FlP X.K B E (whileL (evalE C ic) fb m ρ') D, fun σ' H' ⟨ρ', s', q'⟩ => ⟨m, Nat.lt_succ_self m, ρ', s', q'⟩, B, ρ1, bM, st2, ?_⟩
      have q3 : FlP X.K B E ((fb ρ1).next fun ρ' => whileL (evalE C ic) fb m ρ') D := q3
      cases e : fb ρ1 with
      | nx ρ' => rw [e] at q3; exact fun σ' H' s => ⟨ρ', s, q3⟩
      | rt d => rw [e] at q3; exact q3
      | ex c => rw [e] at q3; exact q3
      | bad => rw [e] at q3; exact q3
theorem sd_for {tg iter : Expr} {body : List Stmt} {t : Tg} {sk : Sk} {src : List Ex} {fb : Env → Fl} {pos : Pos} (hp : PassesOwn (model X.prog X.w) X.A X.env X.xe) (hc : X.calm = true) (hi : PIs true X C E tg iter sk src) (hg : PG X tg (gD X.K t)) (hb : PSsd X E body fb)
    (hs : ∀ x, foldedSetIterable iter X.env x = pure x) : PSd X E (.For tg iter body [] pos) fun ρ => ((evalEs C src ρ).bind (evalSrc sk)).fl fun items => loopL (fun ρ d => optFl (bindT ρ t d) fb) items ρ := by
  refine ps_imp (ps_for hp hc hi hg hb hs) fun D σ H ⟨B, ρ, bM, ⟨O, st⟩, q⟩ => ?_
  refine ⟨O, ρ, st.ok, ?_⟩
  have q : FlP X.K B E (((evalEs C src ρ).bind (evalSrc sk)).fl fun items => loopL (fun ρ d => optFl (bindT ρ t d) fb) items ρ) D := q
  cases e : (evalEs C src ρ).bind (evalSrc sk) with
  | bad => rw [e] at q; exact q
  | exc c => rw [e] at q; exact fun H1 s1 => q H1 (st.kp.trans (.of s1))
  | ok items =>
    rw [e] at q
    intro J H1 s1 wk
    obtain ⟨st1, lt⟩ := (st.same s1).now bM
    generalize hB1 : nowB B O σ ρ H1 = B1 at st1 lt
    have hU : B1.U = O := by rw [← hB1]; rfl
    have hH : B1.H = H1 := by rw [← hB1]; rfl
    have hMO : ∀ b, B1.M b → O b := by rw [← hB1]; exact now_M (st.same s1)
    have bM1 : ∀ b, B1.M b → B1.U b := by rw [hU]; exact hMO
    have q : FlP X.K B E (loopL (fun ρ d => optFl (bindT ρ t d) fb) items ρ) D := q
    let G : Nat → L2.St → Hp → Prop := fun i σ' H' => ∃ ρ', St' X.K B1 σ' ρ' H' ∧ FlP X.K B E (loopL (fun ρ d => optFl (bindT ρ t d) fb) (items.drop i) ρ') D
    refine ⟨fun i m σ' H' => m = items.length - i ∧ i ≤ items.length ∧ G i σ' H', ⟨items.length, by simp, Nat.zero_le _, ρ, ⟨O, st1⟩, by simpa using q⟩, ?_⟩
    rintro i m σ2 H2 ⟨rfl, hi, ρ2, ⟨O2, st2⟩, q2⟩
    have w2 : ∀ b, O2 b → O b ∨ H1 b = none := fun b z => by
      have := st2.hi b z
      rw [hU, hH] at this
      exact this
    have k2 : Keep O H1 H2 := fun b o nb z => st2.kp b o (fun y => nb (hMO b y)) (by rw [hH]; exact z)
    obtain ⟨k1, k3, k4⟩ := wk O2 i H2 w2 st2.ok.dom (show Gm true O H1 H2 from k2)
    by_cases hlt : i < items.length
    · refine .inr ⟨k1 hlt, G (i + 1), fun σ' H' g => ⟨items.length - (i + 1), by omega, rfl, hlt, g⟩, fun x H3 y => ?_⟩
      obtain ⟨s3, r3⟩ := k4 x H3 items[i] (List.getElem?_eq_getElem hlt) y
      have st3 := st2.same s3
      rw [List.drop_eq_getElem_cons hlt] at q2
      simp only [loopL] at q2
      cases eb : bindT ρ2 t items[i] with
      | none => rw [eb] at q2; exact False.elim q2
      | some ρ' =>
        rw [eb] at q2
        refine ⟨O2, ρ2, items[i], ρ', st3.ok, r3, eb, fun σ' so' _ ow => ⟨B1, ρ', bM1, ⟨O2, st3.sub so' ow⟩, ?_⟩⟩
        have q2 : FlP X.K B E ((fb ρ').next fun ρ'' => loopL (fun ρ d => optFl (bindT ρ t d) fb) (items.drop (i + 1)) ρ'') D := q2
        cases ef : fb ρ' with
        | nx ρ'' => rw [ef] at q2; exact fun σ'' H'' s => ⟨ρ'', s, q2⟩
        | rt d => rw [ef] at q2; exact fun v H' k r => q2 v H' (lt.keep k) (by rw [← lt.c]; exact r)
        | ex c => rw [ef] at q2; exact fun H' k => q2 H' (lt.keep k)
        | bad => rw [ef] at q2; exact q2
    · have ei : i = items.length := by omega
      subst ei
      refine .inl ⟨k3 rfl, ?_⟩
      rw [List.drop_length] at q2
      exact q2 σ2 H2 (lt.up ⟨O2, st2⟩)
end
end BP

/-! Own lists and dicts changed: append, extend, x[i] = v. -/
namespace PySem
open AutoSeq1
set_option maxRecDepth 8000 in
theorem bp_extendL (l : Addr) (items : Array Value) (n : Nat) (b : Addr) (items2 : Array Value) (n2 : Nat) (dd : Option Addr) (sl : Array (Option Value)) (hs0 : ¬(!items.isEmpty && Builtin.List.listTooLong (items.size + items2.size)) = true) (hs1 : items.size ≤ sizeLine) (hs2 : items.size + items2.size ≤ sizeLine + 1) :
    Meets (Builtin.«list.extend» ⟨[.ref l, .ref b], []⟩) (fun _ R s => s.heap.get? l = some { cls := .type "list", dict := none, data := .seq items n, slots := #[] } ∧ s.heap.get? b = some { cls := .type "list", dict := dd, data := .seq items2 n2, slots := sl } ∧ R (.ok (.ret Value.none)) { s with heap := s.heap.update l (Obj.mapSeq fun x => x ++ items2), toks := s.toks }) :=
  .of_wp fun prog w A R s h => by
    obtain ⟨hp, g, d, tk, os⟩ := s; obtain ⟨hl, hb, h⟩ := h; have f1 := idx_int; have f2 := sub_tuple_tuple; have f3 := sub_list_list; have f4 := sub_tuple_list; have f5 := sub_list_tuple;
    have hz' : (items ++ items2).size ≤ sizeLine + 1 := by rw [Array.size_append]; exact hs2
    wp_walk using (wpAny_updateSeq hl rfl (hz := hs1) (_hz' := hz')), wpAny_loadPart' hl, wpAny_loadPart' hb; exact ⟨_, rfl, h⟩
theorem bp_extendT (l : Addr) (items : Array Value) (n : Nat) (b : Addr) (items2 : Array Value) (n2 : Nat) (dd : Option Addr) (sl : Array (Option Value)) (hs0 : ¬(!items.isEmpty && Builtin.List.listTooLong (items.size + items2.size)) = true) (hs1 : items.size ≤ sizeLine) (hs2 : items.size + items2.size ≤ sizeLine + 1) :
    Meets (Builtin.«list.extend» ⟨[.ref l, .ref b], []⟩) (fun _ R s => s.heap.get? l = some { cls := .type "list", dict := none, data := .seq items n, slots := #[] } ∧ s.heap.get? b = some { cls := .type "tuple", dict := dd, data := .seq items2 n2, slots := sl } ∧ R (.ok (.ret Value.none)) { s with heap := s.heap.update l (Obj.mapSeq fun x => x ++ items2), toks := s.toks }) :=
  .of_wp fun prog w A R s h => by
    obtain ⟨hp, g, d, tk, os⟩ := s; obtain ⟨hl, hb, h⟩ := h; have f1 := idx_int; have f2 := sub_tuple_tuple; have f3 := sub_list_list; have f4 := sub_tuple_list; have f5 := sub_list_tuple;
    have hz' : (items ++ items2).size ≤ sizeLine + 1 := by rw [Array.size_append]; exact hs2
    wp_walk using (wpAny_updateSeq hl rfl (hz := hs1) (_hz' := hz')), wpAny_loadPart' hl, wpAny_loadPart' hb; exact ⟨_, rfl, h⟩
end PySem
namespace BP
open PySem PySem.Spec PyProof.Rows L2

def rExtD (K : PySem.W.Frag) : V → List V → Hp → VK → Prop := fun x vs H Q => ∃ l b xs zs, x = .ref l ∧ vs = [.ref b] ∧ H l = some (.lst xs) ∧ (SqL K H b zs ∨ SqT K H b zs) ∧ xs.length + zs.length ≤ sizeLine ∧ Q .non (upd H l (.lst (xs ++ zs)))
theorem mt_extD {X : Cx} : MtM X "list.extend" (rExtD X.K) := by
  intro pins s σ H x vs v us Q I rx rv h
  obtain ⟨l, b, xs, zs, rfl, rfl, hH, hB, hz, q⟩ := h
  cases rx
  obtain ⟨u, rfl, ru⟩ := rv.one
  cases ru
  obtain ⟨z, its, n, r, hl, e⟩ := I.lstM hH
  have fin : ∀ {its2 : List Value}, Vals zs its2 → EP X pins σ Q Value.none { s with heap := s.heap.update l (Obj.mapSeq fun x => x ++ its2.toArray), toks := s.toks } := fun {its2} r2 => by
    refine ⟨.non, _, I.lset (its' := its ++ its2) hH e (by simp) (r.append r2) ?_, rfl, q⟩
    rw [List.length_append]
    omega
  have big : ∀ {its2 : List Value}, Vals zs its2 → its.toArray.size + its2.toArray.size ≤ sizeLine := fun {its2} r2 => by
    have := r2.length
    rw [List.size_toArray, List.size_toArray]; omega
  have hlong : ∀ {its2 : List Value}, Vals zs its2 → ¬ (!its.toArray.isEmpty && Builtin.List.listTooLong (its.toArray.size + its2.toArray.size)) = true := fun {its2} r2 => by
    rw [notLongL (big r2), Bool.and_false]
    exact Bool.false_ne_true
  rcases hB with hB | hB
  · obtain ⟨its2, r2, ⟨⟨cls2, dd2, data2, sl2⟩, n2, ho2, hc2, _, hd2⟩, _⟩ := I.list hB
    simp only at hc2 hd2
    subst hc2 hd2
    exact call_meets F.slot_list_extend ⟨_, e, rfl⟩ F.entry_list_extend (F.args_list_extend_2 _ _)
      (bp_extendL l its.toArray n b its2.toArray n2 dd2 sl2 (hlong r2) (by rw [List.size_toArray]; omega) (by have := big r2; omega)) ⟨e, ho2, fin r2⟩
  · obtain ⟨its2, r2, ⟨⟨cls2, dd2, data2, sl2⟩, ho2, hc2, n2, hd2⟩, _⟩ := I.tuple hB
    simp only at hc2 hd2
    subst hc2 hd2
    exact call_meets F.slot_list_extend ⟨_, e, rfl⟩ F.entry_list_extend (F.args_list_extend_2 _ _)
      (bp_extendT l its.toArray n b its2.toArray n2 dd2 sl2 (hlong r2) (by rw [List.size_toArray]; omega) (by have := big r2; omega)) ⟨e, ho2, fin r2⟩

section
variable {X : Cx} {C : Nat → List D → Res D} {E : Nat → Hp → Prop}
theorem chg_own {ρ : Env} {i : Nat} {f : PyData → Option PyData} {K : PySem.W.Frag} {B : Bs} {D : Ends} (q : FlP K B E (chg ρ i f) D) : ∃ d d', ρ[i]? = some (.own d) ∧ f d = some d' ∧ FlP K B E (.nx (ρ.set i (.own d'))) D := by
  unfold chg at q
  split at q
  · rename_i d e
    split at q
    · rename_i d' e'
      exact ⟨d, d', e, e', q⟩
    · exact False.elim q
  · exact False.elim q
theorem attr_var {y : Str} {p : Pos} {name : Str} : attributeBase (.Name y p) name X.env (eval (.Name y p) X.env) = eval (.Name y p) X.env := rfl
theorem few1 {e : Expr} {cpos : Pos} (ns : notStar e = true) : ((backTo cpos (starEach [e] X.env)).all (fun x => !x.1) && (backToKw cpos (keywordEach [] X.env)).all (fun x => x.1.isSome)
      && decide (([e] : List Expr).length + ([] : List Keyword).length + (if ([] : List Keyword).isEmpty then 0 else 1) < 30)) = true := by rw [star_of ns]; rfl
theorem ty_list {K : PySem.W.Frag} {H : Hp} {a : Addr} {xs : List V} (h : H a = some (.lst xs)) : tyV K "list" (.ref a) H := .inl ⟨rfl, xs, .inl (.inl h)⟩
theorem ownL_at {K : PySem.W.Frag} {O : Addr → Prop} {σ : L2.St} {ρ : Env} {H : Hp} {i : Nat} (so : Sok K O σ ρ H) (h : ownL ρ i = true) : ∃ a, σ[i]? = some (some (.ref a)) ∧ tyV K "list" (.ref a) H := by
  unfold ownL at h
  split at h
  · rename_i xs e
    obtain ⟨a, q1, oa, r⟩ := so.own i _ e
    cases r with
    | lst h hs => exact ⟨a, q1, ty_list h⟩
  · cases h
theorem sd_app {i : Nat} {y : Str} {e : Expr} {ir : Ex} {p apos cpos pos : Pos} (hN : X.N[i]? = some y) (hv : Vis X.env.scope y) (hd : (y == ("__debug__" : Str)) = false) (hcd : (y == ("__classdict__" : Str)) = false) (hl : (apos.endLine == cpos.line) = true) (ns : notStar e = true)
    (he : PEs X C E e ir) : PSd X E (.Expr (.Call (.Attribute (.Name y p) "append" apos) [e] [] cpos) pos) (evalS C (.app i ir)) := by
  refine ps_imp (ps_expr (pe_bm PySem.F.plainAttrs_list PySem.F.slot_list_append PySem.F.type_list_append mt_append (pe_var hN hv hd hcd) (pa_cons he pa_nil (star_of ns [] _)) rfl (few1 ns) hl (star_of ns [] _) rfl)) fun D σ H ⟨B, ρ, bM, st, q⟩ => ?_
  simp only [evalS] at q
  split at q
  · rename_i hw
    obtain ⟨a, ev, ty⟩ := ownL_at st.choose_spec.ok hw
    refine ⟨.ref a, ev, ty, ?_⟩
    obtain ⟨O, ρ2, so, q2⟩ := fl_tS st q
    refine ⟨O, ρ2, so, q2.mono fun w H1 s1 ⟨O, d, st1, r1, fr, q⟩ => ?_⟩
    obtain ⟨d0, d1, e2, e3, q⟩ := chg_own q
    obtain ⟨a', q1, oa, r⟩ := st1.ok.own i d0 e2
    rw [ev] at q1
    cases q1
    cases r with
    | dct h hs => cases e3
    | lst h hs =>
      simp only [appD] at e3
      split at e3
      · rename_i hz
        cases e3
        refine ⟨a, _, w, rfl, rfl, h, by rw [hs.length]; exact hz, q _ _ ⟨O, st1.chg e2 ev (.lst upd_same ?_)⟩⟩
        refine (hs.snoc r1).keep fun b x nb z => ?_
        rw [upd_ne fun y => nb (by rw [y]; exact oa)]
        exact z
      · cases e3
  · exact False.elim q
theorem sd_ext {i : Nat} {y : Str} {e : Expr} {ir : Ex} {p apos cpos pos : Pos} (hN : X.N[i]? = some y) (hv : Vis X.env.scope y) (hd : (y == ("__debug__" : Str)) = false) (hcd : (y == ("__classdict__" : Str)) = false) (hl : (apos.endLine == cpos.line) = true) (ns : notStar e = true)
    (he : PEs X C E e ir) : PSd X E (.Expr (.Call (.Attribute (.Name y p) "extend" apos) [e] [] cpos) pos) (evalS C (.ext i ir)) := by
  refine ps_imp (ps_expr (pe_bm PySem.F.plainAttrs_list PySem.F.slot_list_extend PySem.F.type_list_extend mt_extD (pe_var hN hv hd hcd) (pa_cons he pa_nil (star_of ns [] _)) rfl (few1 ns) hl (star_of ns [] _) rfl)) fun D σ H ⟨B, ρ, bM, st, q⟩ => ?_
  simp only [evalS] at q
  split at q
  · rename_i hw
    obtain ⟨a, ev, ty⟩ := ownL_at st.choose_spec.ok hw
    refine ⟨.ref a, ev, ty, ?_⟩
    obtain ⟨O, ρ2, so, q2⟩ := fl_tS st q
    refine ⟨O, ρ2, so, q2.mono fun w H1 s1 ⟨O, d, st1, r1, fr, q⟩ => ?_⟩
    obtain ⟨d0, d1, e2, e3, q⟩ := chg_own q
    obtain ⟨a', q1, oa, r⟩ := st1.ok.own i d0 e2
    rw [ev] at q1
    cases q1
    have kO : ∀ u, Keep O H1 (upd H1 a u) := fun u b x nb z => by
      rw [upd_ne fun y => nb (by rw [y]; exact oa)]
      exact z
    cases r with
    | dct h hs => cases e3
    | lst h hs =>
      simp only [extD] at e3
      cases d with
      | list ys =>
        simp only [itemsOf] at e3
        split at e3
        · rename_i hz
          cases e3
          obtain ⟨b, zs, rfl, hq, rs⟩ := RB.list (.r r1)
          exact ⟨a, b, _, zs, rfl, rfl, h, .inl hq, by rw [hs.length, rs.length]; exact hz, q _ _ ⟨O, st1.chg e2 ev (.lst upd_same ((hs.append rs).keep (kO _)))⟩⟩
        · cases e3
      | tuple ys =>
        simp only [itemsOf] at e3
        split at e3
        · rename_i hz
          cases e3
          obtain ⟨b, zs, rfl, hq, rs⟩ := RB.tuple (.r r1)
          exact ⟨a, b, _, zs, rfl, rfl, h, .inr (.of hq), by rw [hs.length, rs.length]; exact hz, q _ _ ⟨O, st1.chg e2 ev (.lst upd_same ((hs.append rs).keep (kO _)))⟩⟩
        · cases e3
      | _ => cases e3
  · exact False.elim q
theorem RepK.putK {K : PySem.W.Frag} {O : Addr → Prop} {H : Hp} {ns : List Int} {v : V} {d : D} (r : Rep K O H v d) : ∀ {kvs : List (List Key × V)} {ps : List (D × D)}, RepK K O H kvs ps →
    RepK K O H (kvs.map fun kv => if kv.1 = ns.map Sum.inl then (kv.1, v) else kv) (ps.map fun p => if PyData.eqv p.1 (.tuple (ns.map PyData.int)) = true then (p.1, d) else p)
  | _, _, .nil => .nil
  | _, _, .cons (ns := ms) h hs => by
    rw [List.map_cons, List.map_cons]
    by_cases e : ms = ns
    · subst e
      simp only [eqv_key, decide_true, if_true]
      exact .cons r (RepK.putK r hs)
    · have e' : ¬ (ms.map (Sum.inl : Int → Key)) = ns.map Sum.inl := fun z => e (inl_inj.mp z)
      simp only [eqv_key, decide_eq_true_eq, e, e', if_false]
      exact .cons h (RepK.putK r hs)
theorem RepK.snoc {K : PySem.W.Frag} {O : Addr → Prop} {H : Hp} {ns : List Int} {v : V} {d : D} (r : Rep K O H v d) : ∀ {kvs : List (List Key × V)} {ps : List (D × D)}, RepK K O H kvs ps →
    RepK K O H (kvs ++ [(ns.map Sum.inl, v)]) (ps ++ [(.tuple (ns.map PyData.int), d)])
  | _, _, .nil => .cons r .nil
  | _, _, .cons h hs => .cons h (RepK.snoc r hs)
theorem RepK.put {K : PySem.W.Frag} {O : Addr → Prop} {H : Hp} {ns : List Int} {v : V} {d : D} (r : Rep K O H v d) {kvs : List (List Key × V)} {ps : List (D × D)} (h : RepK K O H kvs ps) :
    RepK K O H (L2.putK kvs (ns.map Sum.inl) v) (putKV ps (.tuple (ns.map PyData.int)) d) := by
  unfold L2.putK putKV
  have e := valV_any (ns.map Sum.inl) kvs
  rcases h.find (ns := ns) with ⟨w, x, q1, q2, q3, q4⟩ | ⟨q1, q2, q3⟩
  · rw [q1] at e
    have e : (kvs.any fun kv => decide (kv.1 = ns.map Sum.inl)) = true := e
    rw [if_pos e, if_pos q4]
    exact h.putK r
  · rw [q1] at e
    have e : (kvs.any fun kv => decide (kv.1 = ns.map Sum.inl)) = false := e
    rw [if_neg (by rw [e]; decide), if_neg (by rw [q3]; decide)]
    exact h.snoc r
theorem sd_put {i : Nat} {y : Str} {x e : Expr} {ix ir : Ex} {p pos' pos : Pos} (hu : X.A.units + 1 < cLine) (hN : X.N[i]? = some y) (hv : Vis X.env.scope y) (hd : (y == ("__debug__" : Str)) = false) (hcd : (y == ("__classdict__" : Str)) = false) (hs : swapsWith e (some (.Subscript (.Name y p) x pos')) pos.line X.env = pure false)
    (hx : PEs X C E x ix) (he : PEs X C E e ir) : PSd X E (.Assign [.Subscript (.Name y p) x pos'] e pos) (evalS C (.put i ix ir)) := by
  refine ⟨fun pins s σ H D I ⟨B, ρ, bM, ⟨O, st⟩, q⟩ => ?_⟩
  simp only [evalS] at q
  split at q
  · rename_i hw
    obtain ⟨a, ev⟩ : ∃ a, σ[i]? = some (some (.ref a)) := by
      unfold ownA at hw
      split at hw
      · rename_i d e
        obtain ⟨a, q1, _⟩ := st.ok.own i d e
        exact ⟨a, q1⟩
      · cases hw
    refine wpAny_Assign_Subscript (thn (he.run pins s σ H _ I (fl_tSO st q)) fun r s1 ⟨v, H1, I1, rv, d, _, st1, r1, q1⟩ => ?_) hs
    refine thn ((pe_var hN hv hd hcd).run pins s1 σ H1 (fun w H2 => w = .ref a ∧ H2 = H1) I1 ⟨.ref a, ev, rfl, rfl⟩) fun ov s2 ⟨w, H2, I2, rw2, ew, eH⟩ => ?_
    subst ew eH
    cases rw2
    refine thn (hx.run pins s2 σ H2 _ I2 (fl_tSO st1 q1)) fun iv s3 ⟨k, H3, I3, rk, dk, s13, st3, r3, q3⟩ => ?_
    have r1' := r1.same s13
    obtain ⟨d0, d1, e2, e3, q3⟩ := chg_own q3
    obtain ⟨a', q4, oa, r⟩ := st3.ok.own i d0 e2
    rw [ev] at q4
    cases q4
    have kO : ∀ u, Keep O H3 (upd H3 a u) := fun u b x nb z => by
      rw [upd_ne fun y => nb (by rw [y]; exact oa)]
      exact z
    cases r with
    | lst h hs' =>
      simp only [putD] at e3
      cases dk with
      | int j =>
        simp only [Option.map_eq_some_iff] at e3
        obtain ⟨m, hm, rfl⟩ := e3
        have ek : k = .int j := RB.int (.r r3)
        subst ek
        refine thn (set_list pins s3 σ H3 (.ref a) (.int j) v _ iv r (fun H' => D.nx σ H') I3 rfl rk rv ⟨a, _, j, m, rfl, rfl, h, by rw [hs'.length]; exact hm, ?_⟩) fun _ s4 ⟨H4, I4, q5⟩ => ⟨σ, H4, I4, q5⟩
        exact q3 _ _ ⟨O, st3.chg e2 ev (.lst upd_same ((hs'.set r1' m).keep (kO _)))⟩
      | _ => cases e3
    | dct h hs' =>
      simp only [putD] at e3
      split at e3
      · rename_i hz
        cases e3
        obtain ⟨ns, rfl⟩ := keyOf_eq hz.2
        obtain ⟨b, rfl, hb⟩ := key_at (.r r3)
        refine d_setItem hu I3 (DPut.t h hb (by rw [hs'.length]; exact hz.1)) rk rv fun s4 I4 => ⟨σ, _, I4, ?_⟩
        exact q3 _ _ ⟨O, st3.chg e2 ev (.dct upd_same ((hs'.put r1').keep (kO _)))⟩
      · cases e3
  · exact False.elim q
end
end BP

namespace PySem
open PySem.Spec PyProof.Rows L2
theorem bp_mulSame (l : Addr) (items : Array Value) (n : Nat) (dd : Option Addr) (sl : Array (Option Value)) (x : Int) (u : Tok) (c0 : (decide (x < -(2 ^ 63)) || decide (x ≥ 2 ^ 63)) = false) (c1 : (items.isEmpty || x == 1) = true) :
    Meets (Builtin.«tuple.__mul__» ⟨[.ref l, .int x u], []⟩) (fun _ R s => s.heap.get? l = some { cls := .type "tuple", dict := dd, data := .seq items n, slots := sl } ∧
      R (.ok (.ret (Value.ref l))) s) :=
  .of_wp fun prog w A R s h => by
    obtain ⟨hp, g, d, tk, os⟩ := s
    obtain ⟨hl, h⟩ := h
    have f1 := AutoSeq1.idx_int
    wp_walk using AutoSeq1.wpAny_loadPart' hl
    repeat (first
      | (refine wpAny_ite_false (decide_eq_false (by rw [c0]; exact Bool.false_ne_true)) ?_; wp_walk using AutoSeq1.wpAny_loadPart' hl)
      | (refine wpAny_ite_true (decide_eq_true c1) ?_; wp_walk using AutoSeq1.wpAny_loadPart' hl))
    exact ⟨_, rfl, h⟩
theorem bp_mulNil (l : Addr) (items : Array Value) (n : Nat) (dd : Option Addr) (sl : Array (Option Value)) (x : Int) (u : Tok) (c0 : (decide (x < -(2 ^ 63)) || decide (x ≥ 2 ^ 63)) = false) (c1 : (items.isEmpty || x == 1) = false) (c2 : (decide (x ≤ 0) || items.isEmpty) = true) :
    Meets (Builtin.«tuple.__mul__» ⟨[.ref l, .int x u], []⟩) (fun _ R s => s.heap.get? l = some { cls := .type "tuple", dict := dd, data := .seq items n, slots := sl } ∧
      R (.ok (.ret (Value.ref s.heap.objs.size))) { s with heap := s.heap.push { cls := Value.type "tuple", data := Data.seq #[] }, toks := s.toks }) :=
  .of_wp fun prog w A R s h => by
    obtain ⟨hp, g, d, tk, os⟩ := s
    obtain ⟨hl, h⟩ := h
    have f1 := AutoSeq1.idx_int
    wp_walk using AutoSeq1.wpAny_loadPart' hl
    repeat (first
      | (refine wpAny_ite_false (decide_eq_false (by rw [c0]; exact Bool.false_ne_true)) ?_; wp_walk using AutoSeq1.wpAny_loadPart' hl)
      | (refine wpAny_ite_false (decide_eq_false (by rw [c1]; exact Bool.false_ne_true)) ?_; wp_walk using AutoSeq1.wpAny_loadPart' hl)
      | (refine wpAny_ite_true (decide_eq_true c2) ?_; wp_walk using AutoSeq1.wpAny_loadPart' hl))
    exact ⟨_, rfl, h⟩
theorem bp_mulLst (l : Addr) (items : Array Value) (n : Nat) (dd : Option Addr) (sl : Array (Option Value)) (x : Int) (u : Tok) (hs0 : ¬(!Builtin.List.listFitsIndex x) = true) (hs1 : ¬items.size * x.toNat > (2 ^ 63 - 1) / 8) (hc2 : ¬Builtin.List.listTooLong (items.size * x.toNat) = true) :
    Meets (Builtin.«list.__mul__» ⟨[.ref l, .int x u], []⟩) (fun _ R s => s.heap.get? l = some { cls := .type "list", dict := dd, data := .seq items n, slots := sl } ∧
      R (.ok (.ret (Value.ref s.heap.objs.size))) { s with heap := s.heap.push { cls := Value.type "list", data := Data.seq (List.foldl (fun x1 x2 => x1 ++ x2) #[] (List.replicate (if items.isEmpty = true then 0 else x.toNat) items)) }, toks := s.toks }) :=
  .of_wp fun prog w A R s h => by
    obtain ⟨hp, g, d, tk, os⟩ := s
    obtain ⟨hl, h⟩ := h
    have f1 := AutoSeq1.idx_int
    have hsz := AutoListH.joined_fits hc2
    wp_walk using AutoSeq1.wpAny_loadPart' hl
    refine wpAny_ite_false (decide_eq_false (Nat.not_lt.mpr hsz)) ?_
    wp_walk using AutoSeq1.wpAny_loadPart' hl
    exact ⟨_, rfl, h⟩
theorem bp_rmulLst (a : Int) (t : Tok) (l : Addr) (items : Array Value) (n : Nat) (dd : Option Addr) (sl : Array (Option Value)) :
    Meets (Builtin.«int.__rmul__» ⟨[.int a t, .ref l], []⟩) (fun _ R s => s.heap.get? l = some { cls := .type "list", dict := dd, data := .seq items n, slots := sl } ∧ R (.ok (.ret Value.notImplemented)) s) :=
  .of_wp fun prog w A R s h => by obtain ⟨hp, g, d, tk, os⟩ := s; obtain ⟨hl, h⟩ := h; wp_walk using AutoSeq1.wpAny_loadPart' hl; exact ⟨_, rfl, h⟩
end PySem
namespace BP
open PySem PySem.Spec PyProof.Rows L2
section
variable {X : Cx} {E : Nat → Hp → Prop}
theorem rep_len {α : Type} {k : Int} {xs : List α} (h : k ≤ 1000 ∧ xs.length ≤ 1000) : (List.replicate k.toNat xs).flatten.length ≤ sizeLine := by
  rw [PyProof.Rows.lm_len_rep_flat, sizeLine_eq]
  have a1 : k.toNat * xs.length ≤ 1000 * 1000 := Nat.mul_le_mul (by omega) h.2
  omega
/-- a tuple times an int -/
theorem op_mulTup {l : Addr} {k : Int} {xs : List V} {u : Value} {pins : List (Addr × Obj)} {s : Shared} {σ : L2.St} {H : Hp} {Q : VK} (I : Inv X pins σ H s) (ry : RelV (.int k) u) (hT : SqT X.K H l xs) (h0 : -(2 ^ 63) ≤ k) (h : k ≤ 1000 ∧ xs.length ≤ 1000)
    (q1 : xs = [] ∨ k = 1 → Q (.ref l) H) (q : ∀ p, H p = none → Q (.ref p) (upd H p (.tup (List.replicate k.toNat xs).flatten))) : wpAny (model X.prog X.w) X.A (binaryOp .Mult (.ref l) u) (EP X pins σ Q) X.xe s := by
  by_cases hg : xs ≠ [] ∧ 2 ≤ k
  · exact op_repT pins s σ H (.ref l) (.int k) (.ref l) u Q I rfl ry ⟨l, k, xs, rfl, rfl, hT, hg.1, hg.2, h.1, h.2, q⟩
  · obtain ⟨t, rfl⟩ := ry
    obtain ⟨its, r, ⟨⟨cls, dd, data, sl⟩, ho, hc, n, hd⟩, hs⟩ := I.tuple hT
    simp only at hc hd
    subst hc hd
    have hle : its.length = xs.length := r.length.symm
    have c0 : (decide (k < -(2 ^ 63)) || decide (k ≥ 2 ^ 63)) = false := by
      rw [decide_eq_false (by omega), decide_eq_false (by omega)] <;> rfl
    by_cases e : xs = [] ∨ k = 1
    · have c1 : (its.toArray.isEmpty || k == 1) = true := by
        rcases e with e | e
        · subst e
          cases r
          rfl
        · subst e
          simp
      exact wpAny_binaryOp_repeat_ref (T := "tuple") (U := "int") (by decide) ⟨_, ho, rfl⟩ (fun s' => typeIs_int s' k t) noFill_tuple_mul F.fills_int_mul F.slot_int_rmul repeat_tuple F.slot_int_index.lookup
        (call_meets F.slot_int_rmul (typeIs_int s k t) F.entry_int_rmul (F.args_int_rmul_2 _ _) (int_rmul_tuple k t l its.toArray n dd sl)
          ⟨ho, rfl, ⟨_, ho, rfl⟩, call_meets F.slot_tuple_mul ⟨_, ho, rfl⟩ F.entry_tuple_mul (F.args_tuple_mul_2 _ _) (bp_mulSame l its.toArray n dd sl k t c0 c1) ⟨ho, .ref l, H, I, rfl, q1 e⟩⟩)
    · have hne : xs ≠ [] := fun z => e (.inl z)
      have hk1 : k ≠ 1 := fun z => e (.inr z)
      have hk0 : k ≤ 0 := by
        rcases Int.lt_or_le 1 k with z | z
        · exact absurd ⟨hne, by omega⟩ hg
        · omega
      have hi : its.toArray.isEmpty = false := by
        cases its with
        | nil => cases r; exact absurd rfl hne
        | cons a b => rfl
      have c1 : (its.toArray.isEmpty || k == 1) = false := by
        rw [hi, Bool.false_or]
        exact beq_eq_false_iff_ne.mpr hk1
      have c2 : (decide (k ≤ 0) || its.toArray.isEmpty) = true := by rw [decide_eq_true hk0]; rfl
      have e0 : (List.replicate k.toNat xs).flatten = [] := by
        have : k.toNat = 0 := by omega
        rw [this]; rfl
      rw [e0] at q
      refine wpAny_binaryOp_repeat_ref (T := "tuple") (U := "int") (by decide) ⟨_, ho, rfl⟩ (fun s' => typeIs_int s' k t) noFill_tuple_mul F.fills_int_mul F.slot_int_rmul repeat_tuple F.slot_int_index.lookup
        (call_meets F.slot_int_rmul (typeIs_int s k t) F.entry_int_rmul (F.args_int_rmul_2 _ _) (int_rmul_tuple k t l its.toArray n dd sl)
          ⟨ho, rfl, ⟨_, ho, rfl⟩, call_meets F.slot_tuple_mul ⟨_, ho, rfl⟩ F.entry_tuple_mul (F.args_tuple_mul_2 _ _) (bp_mulNil l its.toArray n dd sl k t c0 c1 c2) ⟨ho, ?_⟩⟩)
      exact ⟨.ref s.heap.objs.size, _, I.laid (t' := s.toks) (o := .tup []) (fun b ob q => Heap.get?_push_of_some _ q) (Nat.le_refl _) ⟨Nat.zero_le _, [], .nil, IsTup.new _ _⟩, rfl, q _ (I.hok.fresh (Nat.le_refl _))⟩
/-- a list times an int -/
theorem op_mulLst {l : Addr} {k : Int} {xs : List V} {u : Value} {pins : List (Addr × Obj)} {s : Shared} {σ : L2.St} {H : Hp} {Q : VK} (I : Inv X pins σ H s) (ry : RelV (.int k) u) (hT : SqL X.K H l xs) (h1 : -(2 ^ 63) ≤ k) (h : k ≤ 1000 ∧ xs.length ≤ 1000)
    (q : ∀ p, H p = none → Q (.ref p) (upd H p (.lst (List.replicate k.toNat xs).flatten))) : wpAny (model X.prog X.w) X.A (binaryOp .Mult (.ref l) u) (EP X pins σ Q) X.xe s := by
  obtain ⟨t, rfl⟩ := ry
  obtain ⟨its, r, ⟨⟨cls, dd, data, sl⟩, n, ho, hc, _, hd⟩, _⟩ := I.list hT
  simp only at hc hd
  subst hc hd
  have hl : its.length = xs.length := r.length.symm
  have hm : its.toArray.size * k.toNat ≤ 1000000 := by
    rw [List.size_toArray, hl]
    have a1 : xs.length * k.toNat ≤ 1000 * 1000 := Nat.mul_le_mul h.2 (by omega)
    omega
  have hz : (sizeLine : Nat) = 1048576 ∨ 1000000 ≤ sizeLine := .inr (by rw [sizeLine_eq]; omega)
  have hlen : its.toArray.size * k.toNat ≤ sizeLine := by
    rcases hz with z | z <;> omega
  have hcap : ¬ its.toArray.size * k.toNat > (2 ^ 63 - 1) / 8 := by omega
  have hfit : ¬ (!Builtin.List.listFitsIndex k) = true := by
    rw [fitsIndex_both h1 (by omega)]
    exact Bool.false_ne_true
  have hlong : ¬ Builtin.List.listTooLong (its.toArray.size * k.toNat) = true := by
    rw [notLongL hlen]
    exact Bool.false_ne_true
  have hnew : List.foldl (fun x1 x2 => x1 ++ x2) #[] (List.replicate (if its.toArray.isEmpty = true then 0 else k.toNat) its.toArray) = (List.replicate k.toNat its).flatten.toArray := by
    rw [size_rep]
    cases its with
    | nil => simp
    | cons a r' => rw [if_neg (by simp)]
  refine wpAny_binaryOp_repeat_ref (T := "list") (U := "int") (by decide) ⟨_, ho, rfl⟩ (fun s' => typeIs_int s' k t) noFill_list_mul F.fills_int_mul F.slot_int_rmul repeat_list F.slot_int_index.lookup
    (call_meets F.slot_int_rmul (typeIs_int s k t) F.entry_int_rmul (F.args_int_rmul_2 _ _) (bp_rmulLst k t l its.toArray n dd sl)
      ⟨ho, rfl, ⟨_, ho, rfl⟩, call_meets F.slot_list_mul ⟨_, ho, rfl⟩ F.entry_list_mul (F.args_list_mul_2 _ _) (bp_mulLst l its.toArray n dd sl k t hfit hcap hlong) ⟨ho, ?_⟩⟩)
  rw [hnew]
  exact ⟨.ref _, _, I.lnew (t' := s.toks) (r.rep k.toNat) (rep_len h), rfl, q _ I.fresh⟩
theorem op_mulD {fr : Bool} : OpR X (binaryOp .Mult) (rOp X.K fr E (evalBin .mul)) := by
  intro pins s σ H x y v u Q I rx ry h
  obtain ⟨O, a, b, dm, ra, rb, q⟩ := h
  cases a with
  | int i => cases b with
    | int j =>
      simp only [evalBin] at q
      split at q
      · rename_i hz
        rw [Bool.or_eq_true, smallI_iff, smallI_iff] at hz
        exact op_mul pins s σ H x y v u Q I rx ry ⟨i, j, ra.int, rb.int, hz, q.int⟩
      · exact q.elim
    | _ => exact q.elim
  | tuple xs => cases b with
    | int k =>
      simp only [evalBin] at q
      split at q
      · rename_i hz
        obtain ⟨p1, vs, rfl, h1, r1⟩ := ra.tuple
        obtain rfl := rb.int
        cases rx
        refine op_mulTup I ry (.of h1) hz.1 ⟨hz.2.1, by rw [r1.length]; exact hz.2.2⟩ (fun e => ?_) (q.newTup dm (r1.rep k.toNat))
        have e1 : repL k xs = xs := by
          rcases e with e | e
          · subst e
            cases r1
            unfold repL
            simp
          · subst e
            unfold repL
            simp
        rw [e1] at q
        exact q.rep ra.tupleR fun _ => rfl
      · exact q.elim
    | _ => exact q.elim
  | list xs => cases b with
    | int k =>
      simp only [evalBin] at q
      split at q
      · rename_i hz
        obtain ⟨p1, vs, rfl, h1, r1⟩ := ra.list
        obtain rfl := rb.int
        cases rx
        exact op_mulLst I ry h1 hz.1 ⟨hz.2.1, by rw [r1.length]; exact hz.2.2⟩ (q.newLst dm (r1.rep k.toNat))
      · exact q.elim
    | _ => exact q.elim
  | _ => exact q.elim
end
end BP

/-! [::-1]. -/
namespace BP
open PySem PySem.Spec PyProof.Rows L2 HT
section
variable {prog : Program} {w : World} {A : Around} {E : Value → Shared → Prop} {s : Shared}
theorem adjust_rev (n : Nat) : Builtin.Slice.sliceAdjust none none (-1) (n : Int) = ((n : Int) - 1, -1) := by
  unfold Builtin.Slice.sliceAdjust
  simp
theorem places_rev (n : Nat) : Builtin.Slice.slicePlaces ((n : Int) - 1) (-1) (-1) = n := by
  unfold Builtin.Slice.slicePlaces
  simp
  omega
theorem sliceApplied_rev {sl : Addr} {t : Tok} {n : Nat} {Q : Int × Int × Nat → Shared → Prop} (hs : s.heap.IsSliceOf sl .none .none (.int (-1) t))
    (h : Q ((n : Int) - 1, -1, n) s) : wpAny (model prog w) A (Builtin.Slice.sliceApplied (.ref sl) (pure (n : Int))) Q E s := by
  obtain ⟨os, hos, hcs, hds⟩ := id hs
  unfold Builtin.Slice.sliceApplied Builtin.Slice.sliceFields
  refine wpAny_bind (wpAny_bind (wpAny_field hos hds (x := .none) rfl (wpAny_bind (wpAny_field hos hds (x := .none) rfl (wpAny_bind (wpAny_field hos hds (x := .int (-1) t) rfl (wpAny_pure ?_)))))))
  refine wpAny_bind (slicePart_int ?_)
  show wpAny _ _ (if ((-1 : Int) == 0) = true then _ else _) _ _ s
  rw [if_neg (by decide)]
  refine wpAny_bind (slicePart_none (wpAny_bind (slicePart_none (wpAny_bind (wpAny_pure ?_)))))
  show wpAny _ _ (match Builtin.Slice.sliceAdjust none none (-1) (n : Int) with | (lo, hi) => pure (lo, (-1 : Int), Builtin.Slice.slicePlaces lo hi (-1))) _ _ s
  rw [adjust_rev n]
  show wpAny _ _ (pure ((n : Int) - 1, (-1 : Int), Builtin.Slice.slicePlaces ((n : Int) - 1) (-1) (-1))) _ _ s
  rw [places_rev]
  exact wpAny_pure h
theorem fm_congr {α β : Type} {f g : α → Option β} : ∀ {l : List α}, (∀ x ∈ l, f x = g x) → l.filterMap f = l.filterMap g
  | [], _ => rfl
  | x :: l, h => by
    rw [List.filterMap_cons, List.filterMap_cons, h x List.mem_cons_self, fm_congr fun y hy => h y (List.mem_cons_of_mem _ hy)]
theorem pick_rev (xs : Array Value) : ((List.range xs.size).filterMap fun (m : Nat) => xs[(((xs.size : Int) - 1) + (m : Int) * (-1)).toNat]?).toArray = xs.toList.reverse.toArray := by
  congr 1
  have e : (List.range xs.size).filterMap (fun (m : Nat) => xs[(((xs.size : Int) - 1) + (m : Int) * (-1)).toNat]?) = (List.range xs.size).filterMap (fun m => xs.toList.reverse[m]?) := by
    apply fm_congr
    intro m hm
    have hm := List.mem_range.mp hm
    have : (((xs.size : Int) - 1) + (m : Int) * (-1)).toNat = xs.size - 1 - m := by omega
    rw [this, List.getElem?_reverse (by simpa using hm)]
    simp
  rw [e]
  have key : ∀ l : List Value, (List.range l.length).filterMap (fun m => l[m]?) = l := fun l => by
    induction l with
    | nil => rfl
    | cons a l ih =>
      rw [List.length_cons, List.range_succ_eq_map, List.filterMap_cons]
      simp only [List.getElem?_cons_zero, List.filterMap_map]
      congr 1
  have := key xs.toList.reverse
  simpa using this
theorem getItem_tuple_rev {t sl : Addr} {items : Array Value} {tk : Tok} {Q : Value → Shared → Prop} (ht : IsTup s.heap t items) (hs : s.heap.IsSliceOf sl .none .none (.int (-1) tk))
    (h : Q (.ref s.heap.objs.size) { s with heap := s.heap.push { cls := .type "tuple", data := .seq items.toList.reverse.toArray } })
    (hsz : items.size ≤ sizeLine) : wpAny (model prog w) A (getItem (.ref t) (.ref sl)) Q E s := by
  have htake : sizeOk (.seq items.toList.reverse.toArray) := by
    show items.toList.reverse.toArray.size ≤ sizeLine
    rw [List.size_toArray, List.length_reverse, Array.length_toList]
    exact hsz
  obtain ⟨os, hos, hcs, hds⟩ := id hs
  have hTs : s.TypeIs (.ref sl) "slice" := ⟨os, hos, hcs⟩
  unfold getItem
  try with_reducible refine wpAny_holding ?_
  first | refine wpAny_bind (wpAny_pure ?_) | skip
  refine wpAny_bind (wpAny_sequenceKey ht.typeIs (by decide) ?_)
  refine wpAny_bind (wpAny_callSpecial?_slot (name := Str.ofString "__getitem__") ht.typeIs PyProof.Rows.slot_tuple_getitem
    (wpAny_call_entry PyProof.Rows.slot_tuple_getitem ht.typeIs entry_tuple_getitem ?_ (args_tuple_getitem _ _)))
  show wpAny _ _ (Builtin.Tuple.tupleItemsOf (.ref t) >>= _) _ _ s
  refine wpAny_bind (tupleItemsOf_ ht ?_)
  refine wpAny_bind (wpAny_typeOf hTs ?_)
  rw [if_pos (by decide)]
  refine wpAny_bind (sliceApplied_rev hs ?_)
  show wpAny _ _ (if (((items.size : Int) - 1) == 0 && (-1 : Int) == 1 && items.size == items.size) = true then _ else _) _ _ s
  rw [if_neg (by simp), pick_rev]
  first
    | exact wpAny_bind (m := Builtin.Tuple.tupleExact _) (wpAny_newObj_type (wpAny_pure ⟨_, rfl, wpAny_pure h⟩) htake)
    | exact wpAny_bind (m := Builtin.Tuple.tupleExact _) (wpAny_newObj_type (wpAny_bind (wpAny_pure (wpAny_pure ⟨_, rfl, wpAny_pure h⟩))) htake)
    | exact wpAny_bind (wpAny_bind (m := Builtin.Tuple.tupleExact _) (wpAny_newObj_type (wpAny_pure (wpAny_pure ⟨_, rfl, wpAny_pure h⟩)) htake))
    | exact wpAny_bind (wpAny_bind (m := Builtin.Tuple.tupleExact _) (wpAny_newObj_type (wpAny_pure ⟨_, rfl, wpAny_pure h⟩) htake))
end
def tRevD (K : PySem.W.Frag) (te : TE) : TE := fun σ H Q => te σ H fun x H1 => ∃ a xs, x = .ref a ∧ ((SqL K H1 a xs ∧ ∀ p, H1 p = none → Q (.ref p) (upd H1 p (.lst xs.reverse))) ∨ (SqT K H1 a xs ∧ ∀ p, H1 p = none → Q (.ref p) (upd H1 p (.tup xs.reverse))))
section
variable {X : Cx}
theorem pe_revD {e : Expr} {te : TE} {k : Nat} {p1 p2 p3 pos : Pos} (he : PE X e te) : PE X (.Subscript e (.Slice none none (some (.UnaryOp .USub (.Constant (.int 1) k p1) p2)) p3) pos) (tRevD X.K te) := by
  refine ⟨fun pins s σ H Q I h => ?_⟩
  refine Subscript_ (thn (he.run pins s σ H _ I h) fun v s1 ⟨x, H1, I1, r1, q1⟩ => ?_)
  obtain ⟨a, xs, ex, q1⟩ := q1
  subst ex
  cases r1
  have hst : PO X (some (.UnaryOp .USub (.Constant (.int 1) k p1) p2)) (tPart (tUn (rU fun i => .int (-i)) (tC (.int 1)))) := po_some (pe_un un_neg pe_int)
  refine wpAny_Slice (thn (po_none.run pins s1 σ H1 (fun o H2 => o = none ∧ H2 = H1) I1 ⟨rfl, rfl⟩) fun vl s2 ⟨l, H2, I2, pl, el, e2⟩ => ?_)
  subst el e2
  refine thn (po_none.run pins s2 σ H2 (fun o H3 => o = none ∧ H3 = H2) I2 ⟨rfl, rfl⟩) fun vu s3 ⟨u, H3, I3, pu, eu, e3⟩ => ?_
  subst eu e3
  refine thn (hst.run pins s3 σ H3 (fun o H4 => o = some (-1) ∧ H4 = H3) I3 ⟨1, rfl, -1, rfl, rfl, rfl⟩) fun vs s4 ⟨o, H4, I4, ps, eo, e4⟩ => ?_
  subst eo e4
  have I5 : Inv X pins σ H4 { s4 with heap := s4.heap.push { cls := .type "slice", data := .fields #[vl, vu, vs] } } := I4.kept (t' := s4.toks) fun b ob q => Heap.get?_push_of_some _ q
  show wpAny (model X.prog X.w) X.A (subscriptTail e (.Slice none none (some (.UnaryOp .USub (.Constant (.int 1) k p1) p2)) p3) (.ref a) (.ref s4.heap.objs.size)) (EP X pins σ Q) X.xe { s4 with heap := s4.heap.push { cls := .type "slice", data := .fields #[vl, vu, vs] } }
  rcases q1 with ⟨hx, q⟩ | ⟨hx, q⟩
  · obtain ⟨its, r, ht, hz⟩ := I5.list hx
    have hlen := r.length
    refine tail_any (ops := [.ref a, .ref s4.heap.objs.size]) ht.isList.typeIs (PySem.slot_list_getitem.lookup) ?_ (by with_unfolding_all rfl)
    refine wpAny_getItem_list_slice ht.isList (Heap.IsSliceOf.new _ vl vu vs) pl pu ps (by decide) ?_ (by rw [List.size_toArray]; omega)
    rw [PySem.W.krv_pick]
    refine ⟨.ref _, _, I5.laid (t' := s4.toks) (o := .lst xs.reverse) (fun b ob q => Heap.get?_push_of_some _ q) (Nat.le_refl _) ?_, rfl, q _ (I5.hok.fresh (Nat.le_refl _))⟩
    exact ⟨by rw [List.length_reverse]; exact hz, _, 0, r.reverse, Heap.get?_push_size _ rfl⟩
  · obtain ⟨its, r, ht, hz⟩ := I5.tuple hx
    have hlen := r.length
    refine tail_any (ops := [.ref a, .ref s4.heap.objs.size]) ht.typeIs (PyProof.Rows.slot_tuple_getitem.lookup) ?_ (by with_unfolding_all rfl)
    cases pl
    cases pu
    cases ps
    refine getItem_tuple_rev ht (Heap.IsSliceOf.new _ _ _ _) ?_ (by rw [List.size_toArray]; omega)
    refine ⟨.ref _, _, I5.laid (t' := s4.toks) (o := .tup xs.reverse) (fun b ob q => Heap.get?_push_of_some _ q) (Nat.le_refl _) ?_, rfl, q _ (I5.hok.fresh (Nat.le_refl _))⟩
    exact ⟨by rw [List.length_reverse]; exact hz, _, r.reverse, IsTup.new _ _⟩
theorem pd_rev {C : Nat → List D → Res D} {E : Nat → Hp → Prop} {e : Expr} {ir : Ex} {k : Nat} {p1 p2 p3 pos : Pos} (he : PEb X C E e ir) : PEs X C E (.Subscript e (.Slice none none (some (.UnaryOp .USub (.Constant (.int 1) k p1) p2)) p3) pos) (.rev ir) := by
  refine pe_imp (pe_revD he) fun σ H Q ⟨O, ρ, so, q⟩ => ⟨O, ρ, so, ?_⟩
  simp only [evalE] at q
  refine (EB.bindS q).mono fun x H1 _ ⟨d, r, s1, q⟩ => ?_
  have dm := Dom.same so.dom s1
  cases d with
  | tuple ys =>
    obtain ⟨a, xs, rfl, h1, r1⟩ := r.tuple
    exact ⟨a, xs, rfl, .inr ⟨.of h1, q.newTup dm r1.reverse⟩⟩
  | list ys =>
    obtain ⟨a, xs, rfl, h1, r1⟩ := r.list
    exact ⟨a, xs, rfl, .inl ⟨h1, q.newLst dm r1.reverse⟩⟩
  | _ => exact False.elim q
end
end BP

/-! sorted; list(range(..)), tuple(range(..)); dicts made. -/
namespace SrtO
open PySem PyProof.Rows Srt
section
variable {prog : Program} {w : World} {A : Around} {E : Value → Shared → Prop} {s : Shared}
theorem bp_sorted {T : String} {l : Addr} {o : Obj} {items : Array Value} {n : Nat} {ltv : Value → Value → Bool} {Q : Value → Shared → Prop} (O : Swo ltv) (hT : T = "list" ∨ T = "tuple")
    (ho : s.heap.get? l = some o) (hc : o.cls = .type T) (hd : o.data = .seq items n) (hz : items.size ≤ sizeLine)
    (hS : 2 ≤ items.toList.length → ∀ (h₁ : Heap) (a : Addr), h₁.get? a = some (seqObj "list" items.toList.toArray 0) → (∀ b o, s.heap.get? b = some o → b ≠ a ∧ h₁.get? b = some o) → SortableO prog w A.in1.in1 { s with heap := h₁ } a items.toList ltv)
    (h : ∀ (out : List Value) (h1 h2 : Heap) (a : Addr) (ep : Nat), Srtd ltv out → Stb ltv out items.toList → (∀ b o, s.heap.get? b = some o → h1.get? b = some o) → (∀ b o, h1.get? b = some o → h2.get? b = some o) → h1.objs.size ≤ a → h2.get? a = some (seqObj "list" out.toArray ep) → Q (.ref a) { s with heap := h2 }) :
    wpAny (model prog w) A (call (.builtin "sorted") [.ref l]) Q E s := by
  refine Calls.call_function_entry kind_sorted plain_sorted entry_sorted (args_sorted1 _) ?_
  unfold Builtin.«sorted»
  refine wpAny_bind (m := checkCount "sorted" 1 1 _) (wpAny_pure ?_)
  refine wpAny_bind (PySem.wpAny_collect_seq l hT ho hc hd (fun h' hk => ?_) hz)
  have hz2 : items.toList.length ≤ sizeLine := by rw [Array.length_toList]; exact hz
  refine wpAny_bind (wpAny_newList ?_ hz2)
  have hoL : (h'.push (seqObj "list" items.toList.toArray 0)).get? h'.objs.size = some (seqObj "list" items.toList.toArray 0) := Heap.get?_push_size _ rfl
  have keep : ∀ b o, s.heap.get? b = some o → b ≠ h'.objs.size ∧ (h'.push (seqObj "list" items.toList.toArray 0)).get? b = some o := fun b o q =>
    ⟨Nat.ne_of_lt (Heap.lt_size (hk b o q)), Heap.get?_push_of_some _ (hk b o q)⟩
  show wpAny _ _ _ _ _ { s with heap := h'.push (seqObj "list" items.toList.toArray 0) }
  refine wpAny_bind (wpAny_holding (wpAny_call_entry slot_list_sort ⟨_, hoL, rfl⟩ entry_list_sort (list_sort_ord O hoL hz2 (fun h2 => hS h2 _ _ hoL keep) fun out hs hb => ⟨_, rfl, ?_⟩) (args_list_sort _)))
  obtain ⟨ep, he⟩ := sortedHeap_at (out := out.toArray) hoL
  refine wpAny_pure ⟨_, rfl, h out h' _ h'.objs.size ep hs hb hk (fun b o q => ?_) (Nat.le_refl _) he⟩
  show (sortedHeap (h'.push (seqObj "list" items.toList.toArray 0)) h'.objs.size items.toList out.toArray).get? b = some o
  have hlt := Heap.lt_size q
  rw [sortedHeap_old (Nat.ne_of_lt hlt) (by rw [size_push']; exact Nat.lt_succ_of_lt hlt)]
  exact Heap.get?_push_of_some _ q
end
end SrtO
namespace BP
open PySem PySem.Spec PyProof.Rows L2
theorem insI_perm (x : Int) : ∀ l : List Int, (insI x l).Perm (x :: l)
  | [] => .refl _
  | y :: r => by
    unfold insI
    split
    · exact .refl _
    · exact ((insI_perm x r).cons y).trans (.swap x y r)
theorem sortI_perm : ∀ l : List Int, (sortI l).Perm l
  | [] => .refl _
  | x :: r => (insI_perm x (sortI r)).trans ((sortI_perm r).cons x)
theorem insI_sorted (x : Int) : ∀ l : List Int, l.Pairwise (· ≤ ·) → (insI x l).Pairwise (· ≤ ·)
  | [], _ => List.pairwise_singleton _ _
  | y :: r, h => by
    have h' := List.pairwise_cons.mp h
    unfold insI
    split
    · rename_i hx
      exact List.pairwise_cons.mpr ⟨fun z hz => by
        rcases List.mem_cons.mp hz with rfl | hz
        · exact hx
        · exact Int.le_trans hx (h'.1 z hz), h⟩
    · rename_i hx
      refine List.pairwise_cons.mpr ⟨fun z hz => ?_, insI_sorted x r h'.2⟩
      rcases List.mem_cons.mp ((insI_perm x r).mem_iff.mp hz) with rfl | hz
      · omega
      · exact h'.1 z hz
theorem sortI_sorted : ∀ l : List Int, (sortI l).Pairwise (· ≤ ·)
  | [] => .nil
  | x :: r => insI_sorted x _ (sortI_sorted r)
theorem sortI_uniq {l m : List Int} (p : m.Perm l) (h : m.Pairwise (· ≤ ·)) : m = sortI l :=
  List.Perm.eq_of_pairwise (fun a b _ _ h1 h2 => Int.le_antisymm h1 h2) h (sortI_sorted l) (p.trans (sortI_perm l).symm)
section
variable {X : Cx} {E : Nat → Hp → Prop}
theorem cr_sortedD : CallR X (.builtin "sorted") (rBt X.K true E .sorted) := by
  intro pins s σ H xs us Q I r h
  obtain ⟨O, ds, dm, rs, q⟩ := h
  obtain ⟨v, d, rfl, rb, q⟩ := rBt.one rs q
  obtain ⟨ns, e, q⟩ := q.okO
  obtain ⟨ys, e1, e2⟩ := Option.bind_eq_some_iff.mp e
  obtain ⟨p, vs, rfl, h1, r1⟩ := rb.items e1
  have e3 := intsOf_eq e2
  subst e3
  rw [r1.ints] at h1
  obtain ⟨T, o, its, m, hT, ho, hc, hd, rv, hz⟩ : ∃ T o, ∃ its : List Value, ∃ m, (T = "list" ∨ T = "tuple") ∧ s.heap.get? p = some o ∧ o.cls = .type T ∧ o.data = .seq its.toArray m ∧ Vals (ns.map V.int) its ∧ (ns.map V.int).length ≤ sizeLine := by
    rcases h1 with h1 | h1
    · obtain ⟨its, rv, ⟨o, n, ho, hc, _, hd⟩, hz⟩ := I.list h1
      exact ⟨_, o, its, n, .inl rfl, ho, hc, hd, rv, hz⟩
    · obtain ⟨its, rv, ⟨o, ho, hc, n, hd⟩, hz⟩ := I.tuple h1
      exact ⟨_, o, its, n, .inr rfl, ho, hc, hd, rv, hz⟩
  rw [Vals.ref1 r]
  have hi := rv.ints
  refine SrtO.bp_sorted SrtO.swo_int hT ho hc hd (by rw [List.size_toArray, ← rv.length]; exact hz) (fun h2 h₁ a' _ _ => SrtO.ints_sortable (by simpa using hi) h2) fun out h1 h2 a ep k1 k2 kp1 kp2 ha hg => ?_
  obtain ⟨j1, j2, j3⟩ := SrtO.ints_out (by simpa using hi) k1 k2
  have I1 : Inv X pins σ H { s with heap := h1 } := I.kept (t' := s.toks) kp1
  have eo : out.map SrtO.iv = sortI ns := sortI_uniq j2 j3
  have hlen : ((out.map SrtO.iv).map V.int).length ≤ sizeLine := by
    rw [List.length_map, j2.length_eq]
    rw [List.length_map] at hz
    exact hz
  have hn : H a = none := I1.hok.fresh ha
  refine ⟨.ref a, upd H a (.lst ((out.map SrtO.iv).map V.int)), I1.laid (t' := s.toks) kp2 ha ⟨hlen, out, ep, vals_of_ints j1, hg⟩, rfl, ?_⟩
  rw [eo]
  exact q.newLst dm (Reps.of_ints _) a hn
end
/-! ### list(range(..)), tuple(range(..)) -/
section
variable {g : Gc} {S : Sc} {T : Nat → Option Fn} {n : Nat} {cls : Nat → Value} {EX : XK} {X : Cx} {C : Nat → List D → Res D} {E : Nat → Hp → Prop}
theorem rgOk_iff {a b : Int} (h : rgOk a b = true) : RgOk a b := by
  unfold rgOk at h
  rw [Bool.and_eq_true, Bool.and_eq_true, bnd_iff, bnd_iff, decide_eq_true_eq] at h
  exact ⟨h.1.1.1, h.1.1.2, h.1.2.1, h.1.2.2, h.2⟩
theorem reps_rg {K : PySem.W.Frag} {O : Addr → Prop} {H : Hp} (a b : Int) : Reps K O H (rgV a b) (rangeL a b) := by
  have : ∀ l : List Nat, Reps K O H (l.map fun i => V.int (a + (i : Nat))) (l.map fun i => PyData.int (a + (i : Nat))) := fun l => by
    induction l with
    | nil => exact .nil
    | cons x l ih => exact .cons (.int _) ih
  exact this _
theorem star1' {a : Expr} (ns : notStar a = true) (env : PySem.Env) : starEach [a] env = (false, eval a env) :: starEach [] env := star_of ns [] env
theorem pd_listRange1 (ok : Cok g S T n cls EX X) {a : Expr} {ia : Ex} {p p2 pos pos2 : Pos} (hl : S.sc.names.lookup ("list" : Str) = some .globalImplicit) (hg : S.sc.names.lookup ("range" : Str) = some .globalImplicit) (ns : notStar a = true) (ha : PEb X C E a ia) :
    PEs X C E (.Call (.Name "list" p) [.Call (.Name "range" p2) [a] [] pos2] [] pos) (.bt .listRange1 [ia]) := by
  refine pe_imp (pe_listRg ok.calm (kind_of ok hl) (ok.w.blt _ (by decide)) (prg_1 (kind_of ok hg) (ok.w.blt _ (by decide)) ha (star1' ns _)) (star_of rfl _ _)) fun σ H Q ⟨O, ρ, so, q⟩ => ⟨O, ρ, so, ?_⟩
  simp only [evalE, evalEs, bind_assoc] at q
  refine (EB.bindS q).mono fun x H1 _ ⟨d, r, s1, q⟩ => ?_
  have q : ES X.K O true E (listRange1D d) Q H1 := q
  cases d with
  | int j =>
    simp only [listRange1D] at q
    split at q
    · rename_i h
      exact ⟨j, r.int, rgOk_iff h, q.newLst (Dom.same so.dom s1) (reps_rg 0 j)⟩
    · exact False.elim q
  | _ => exact False.elim q
theorem pd_listRange2 (ok : Cok g S T n cls EX X) {a b : Expr} {ia ib : Ex} {p p2 pos pos2 : Pos} (hl : S.sc.names.lookup ("list" : Str) = some .globalImplicit) (hg : S.sc.names.lookup ("range" : Str) = some .globalImplicit) (ns : notStar a = true) (ns2 : notStar b = true) (ha : PEb X C E a ia) (hb : PEb X C E b ib) :
    PEs X C E (.Call (.Name "list" p) [.Call (.Name "range" p2) [a, b] [] pos2] [] pos) (.bt .listRange2 [ia, ib]) := by
  refine pe_imp (pe_listRg ok.calm (kind_of ok hl) (ok.w.blt _ (by decide)) (prg_2 (kind_of ok hg) (ok.w.blt _ (by decide)) ha hb (star_of ns _ _) (star_of ns2 _ _) (pl_of (es := [b]) (by simp [ns2]) _)) (star_of rfl _ _)) fun σ H Q ⟨O, ρ, so, q⟩ => ⟨O, ρ, so, ?_⟩
  simp only [evalE, evalEs, bind_assoc] at q
  refine (EB.bindS q).mono fun x H1 _ ⟨d, r, s1, q⟩ => ⟨O, ρ, so.same s1, ?_⟩
  refine (EB.bindS q).mono fun y H2 _ ⟨d2, r2, s2, q⟩ => ?_
  have q : ES X.K O true E (listRange2D d d2) Q H2 := q
  cases d with
  | int i => cases d2 with
    | int j =>
      simp only [listRange2D] at q
      split at q
      · rename_i h
        exact ⟨i, j, r.int, r2.int, rgOk_iff h, q.newLst (Dom.same (Dom.same so.dom s1) s2) (reps_rg i j)⟩
      · exact False.elim q
    | _ => exact False.elim q
  | _ => exact False.elim q
theorem pd_tupRange2 (ok : Cok g S T n cls EX X) {a b : Expr} {ia ib : Ex} {p p2 pos pos2 : Pos} (hl : S.sc.names.lookup ("tuple" : Str) = some .globalImplicit) (hg : S.sc.names.lookup ("range" : Str) = some .globalImplicit) (ns : notStar a = true) (ns2 : notStar b = true) (ha : PEb X C E a ia) (hb : PEb X C E b ib) :
    PEs X C E (.Call (.Name "tuple" p) [.Call (.Name "range" p2) [a, b] [] pos2] [] pos) (.bt .tupRange2 [ia, ib]) := by
  refine pe_imp (pe_tupRg ok.calm (kind_of ok hl) (ok.w.blt _ (by decide)) (prg_2 (kind_of ok hg) (ok.w.blt _ (by decide)) ha hb (star_of ns _ _) (star_of ns2 _ _) (pl_of (es := [b]) (by simp [ns2]) _)) (star_of rfl _ _)) fun σ H Q ⟨O, ρ, so, q⟩ => ⟨O, ρ, so, ?_⟩
  simp only [evalE, evalEs, bind_assoc] at q
  refine (EB.bindS q).mono fun x H1 _ ⟨d, r, s1, q⟩ => ⟨O, ρ, so.same s1, ?_⟩
  refine (EB.bindS q).mono fun y H2 _ ⟨d2, r2, s2, q⟩ => ?_
  have q : ES X.K O false E (tupRange2D d d2) Q H2 := q
  cases d with
  | int i => cases d2 with
    | int j =>
      simp only [tupRange2D] at q
      split at q
      · rename_i h
        exact ⟨i, j, r.int, r2.int, rgOk_iff h, q.newTup (Dom.same (Dom.same so.dom s1) s2) (reps_rg i j)⟩
      · exact False.elim q
    | _ => exact False.elim q
  | _ => exact False.elim q
/-! ### {} -/
theorem pd_dict0 {pos : Pos} : PEs X C E (.Dict [] [] pos) .dict0 := by
  refine pe_imp pe_dnewT fun σ H Q ⟨O, ρ, so, q⟩ => ?_
  simp only [evalE] at q
  intro p hp
  have dm : Dom O H := so.dom
  exact q _ _ (same_upd hp) (.dct (dm.not hp) upd_same .nil) fun _ _ => ⟨p, rfl, hp, .dct upd_same .nil⟩
end
end BP

/-! The compiler of terms, and what it promises. -/
namespace BP
open PySem PySem.Spec PyProof.Rows L2

inductive Md where | s | b | t
  deriving DecidableEq
def gd {α : Type} (c : Bool) (o : Option α) : Option α := if c = true then o else none
theorem gd_some {α : Type} {c : Bool} {o : Option α} {a : α} : gd c o = some a ↔ c = true ∧ o = some a := by
  unfold gd
  split
  · rename_i h; simp [h]
  · rename_i h; simp [h]
def cL (f : Expr → Option Ex) : List Expr → Option (List Ex)
  | [] => some []
  | e :: es => (f e).bind fun i => (cL f es).bind fun is => some (i :: is)
theorem cL_ok {f : Expr → Option Ex} {P : Expr → Ex → Prop} (h : ∀ e i, f e = some i → P e i) : ∀ {es : List Expr} {is : List Ex}, cL f es = some is → Paired P es is
  | [], _, e => by cases e; exact .nil
  | x :: es, _, e => by
    simp only [cL, Option.bind_eq_some_iff] at e
    obtain ⟨i, h1, is, h2, e⟩ := e
    cases e
    exact .cons (h x i h1) (cL_ok h h2)
def gImp (S : Sc) (x : Str) : Bool := decide (S.sc.names.lookup x = some .globalImplicit)
def visC (S : Sc) (x : Str) : Bool := decide (S.sc.names.lookup x = some .local) || decide (S.sc.names.lookup x = some .cell) || decide (S.sc.names.lookup x = some .free)
def locC (S : Sc) (x : Str) : Bool := decide (S.sc.names.lookup x = some .local) || (decide (S.sc.names.lookup x = some .cell) && S.fn x)
def plainN (x : Str) : Bool := !(x == ("__debug__" : Str)) && !(x == ("__classdict__" : Str)) && decide (x ≠ ("__name__" : Str))
def slotIn (N : List Str) (x : Str) : Option Nat := match N.findIdx? (· == x) with
  | some i => if N[i]? = some x then some i else none
  | none => none
theorem slotIn_ok {N : List Str} {x : Str} {i : Nat} (h : slotIn N x = some i) : N[i]? = some x := by
  unfold slotIn at h
  split at h
  · split at h
    · rename_i e; cases h; exact e
    · cases h
  · cases h
def ownOf (N : List Str) (scope : Scope) : List (Str × Nat) := scope.names.filterMap fun y => match y.2 with
  | .local => (slotIn N y.1).map fun i => (y.1, i)
  | .cell => (slotIn N y.1).map fun i => (y.1, i)
  | _ => none
def ownIx (own : List (Str × Nat)) : List Nat := own.map (·.2)
def blkS (S : Sc) (scope : Scope) : Sc := ⟨relS scope S.sc, fun x => scope.names.lookup x == some .cell⟩
def bopOf : Operator → Option Bop
  | .Add => some .add
  | .Sub => some .sub
  | .Mult => some .mul
  | .FloorDiv => some .fdiv
  | .Mod => some .mod
  | _ => none
def isNoneC : Expr → Bool
  | .Constant .none _ _ => true
  | _ => false
def copOf (op : CmpOp) (b : Expr) : Option Cop := match op with
  | .Eq => some .eq
  | .NotEq => some .ne
  | .Lt => some .lt
  | .LtE => some .le
  | .Gt => some .gt
  | .GtE => some .ge
  | .Is => some (if isNoneC b = true then .isN else .isB)
  | .IsNot => some (if isNoneC b = true then .notN else .notB)
  | .In => some .inn
  | .NotIn => some .nin
def cmpC (f : Expr → Option Ex) (a : Expr) : List CmpOp → List Expr → Option Ex
  | [op], [b] => gd (!behindInMarks op b) ((copOf op b).bind fun o => (f a).bind fun ia => (f b).bind fun ib => some (.cmp o ia ib))
  | [op, op'], [b, c] => gd (!lastMarks [op, op'] [b, c]) ((copOf op b).bind fun o => (copOf op' c).bind fun o' => (f a).bind fun ia => (f b).bind fun ib => (f c).bind fun ic => some (.chain o o' ia ib ic))
  | _, _ => none
def btKind (tn : Str) : Option Bt :=
  if tn = ("tuple" : Str) then some .isTuple else if tn = ("int" : Str) then some .isInt else if tn = ("bool" : Str) then some .isBool else if tn = ("str" : Str) then some .isStr else none
/-- built-ins by name and how many they are handed -/
def bltOf (x : Str) (k : Nat) : Option Bt :=
  if x = ("len" : Str) ∧ k = 1 then some .len
  else if x = ("tuple" : Str) ∧ k = 1 then some .tuple
  else if x = ("list" : Str) ∧ k = 1 then some .list
  else if x = ("sum" : Str) ∧ k = 1 then some .sum
  else if x = ("all" : Str) ∧ k = 1 then some .all
  else if x = ("any" : Str) ∧ k = 1 then some .any
  else if x = ("max" : Str) ∧ k = 2 then some .max2
  else if x = ("min" : Str) ∧ k = 2 then some .min2
  else if x = ("sorted" : Str) ∧ k = 1 then some .sorted
  else if x = ("int" : Str) ∧ k = 1 then some .toInt
  else if x = ("str" : Str) ∧ k = 1 then some .toStr
  else none
def rangeArgs : List Expr → Option (List Expr)
  | [.Call (.Name r _) as [] _] => if r = ("range" : Str) then some as else none
  | _ => none
theorem rangeArgs_ok {as bs : List Expr} (h : rangeArgs as = some bs) : ∃ p pos, as = [.Call (.Name ("range" : Str) p) bs [] pos] := by
  unfold rangeArgs at h
  split at h
  · split at h
    · rename_i e; cases h; subst e; exact ⟨_, _, rfl⟩
    · cases h
  · cases h
def isM1 : Expr → Bool
  | .UnaryOp .USub (.Constant (.int i) _ _) _ => decide (i = 1)
  | _ => false
theorem isM1_ok {e : Expr} (h : isM1 e = true) : ∃ k p1 p2, e = .UnaryOp .USub (.Constant (.int 1) k p1) p2 := by
  unfold isM1 at h
  split at h
  · have := of_decide_eq_true h
    subst this
    exact ⟨_, _, _, rfl⟩
  · cases h
def isSlice : Expr → Bool
  | .Slice .. => true
  | _ => false
def isSet : Expr → Bool
  | .Set .. => true
  | _ => false
def nameC (N : List Str) (S : Sc) : Expr → Option Nat
  | .Name x _ => gd (locC S x) (slotIn N x)
  | _ => none
def cNs (N : List Str) (S : Sc) : List Expr → Option (List Nat)
  | [] => some []
  | e :: es => (nameC N S e).bind fun i => (cNs N S es).bind fun is => some (i :: is)
def tgC (N : List Str) (S : Sc) : Expr → Option Tg
  | .Name x p => (nameC N S (.Name x p)).bind fun i => some (.n i)
  | .Tuple es _ _ => (cNs N S es).bind fun is => some (.t is)
  | _ => none
def isTupE : Expr → Bool
  | .Tuple .. => true
  | _ => false
/-- what is walked -/
def seqC (f : Expr → Option Ex) (e : Expr) : Option (Sk × List Ex) := (f e).bind fun i => some (.seq, [i])
def srcC (f : Expr → Option Ex) (S : Sc) (tg : Expr) (e : Expr) : Option (Sk × List Ex) := match e with
  | .Call (.Name x _) as [] _ =>
    if x = ("range" : Str) then gd (gImp S x && as.all notStar) ((cL f as).bind fun is => match as with
      | [_] => some (.range1, is)
      | [_, _] => some (.range2, is)
      | [_, _, _] => some (.range3, is)
      | _ => none)
    else if x = ("enumerate" : Str) then gd (gImp S x && as.all notStar && isTupE tg) ((cL f as).bind fun is => match as with
      | [_] => some (.enum, is)
      | _ => none)
    else if x = ("zip" : Str) then gd (gImp S x && as.all notStar && isTupE tg) ((cL f as).bind fun is => match as with
      | [_, _] => some (.zip2, is)
      | [_, _, _] => some (.zip3, is)
      | _ => none)
    else seqC f e
  | _ => seqC f e
def callC (g : Gc) (S : Sc) (fs fb : Expr → Option Ex) (x : Str) (as : List Expr) : Option Ex :=
  gd (plainN x && gImp S x && as.all notStar && !as.isEmpty) (match g.fns.lookup x with
    | some f => (cL fs as).bind fun is => some (.call f is)
    | none => match rangeArgs as with
      | some bs => gd (gImp S "range" && bs.all notStar) ((cL fb bs).bind fun is =>
          if x = ("list" : Str) then (match bs with
            | [_] => some (.bt .listRange1 is)
            | [_, _] => some (.bt .listRange2 is)
            | _ => none)
          else if x = ("tuple" : Str) then (match bs with
            | [_, _] => some (.bt .tupRange2 is)
            | _ => none)
          else none)
      | none => if x = ("isinstance" : Str) then (match as with
          | [e, .Name tn _] => gd (gImp S tn) ((btKind tn).bind fun f => (fb e).bind fun i => some (.bt f [i]))
          | _ => none)
        else (bltOf x as.length).bind fun f => (cL fb as).bind fun is => some (.bt f is))
def optC (f : Expr → Option Ex) : Option Expr → Option (List Ex)
  | none => some []
  | some e => (f e).bind fun i => some [i]
/-- a test -/
def cTt (f : Md → Expr → Option Ex) (e : Expr) : Option Ex := match e with
  | .BoolOp .And es _ => gd (!es.isEmpty) ((cL (f .t) es).bind fun is => some (andAll is))
  | .BoolOp .Or es _ => gd (!es.isEmpty) ((cL (f .t) es).bind fun is => some (orAll is))
  | .UnaryOp .Not a _ => (f .t a).bind fun i => some (.not i)
  | .Compare a ops cs _ => cmpC (f .b) a ops cs
  | .Name .. => (f .s e).bind fun i => gd (!freshE i) (some i)
  | .Call .. => (f .s e).bind fun i => gd (!freshE i) (some i)
  | .Subscript .. => (f .s e).bind fun i => gd (!freshE i) (some i)
  | .Constant .. => (f .s e).bind fun i => gd (!freshE i) (some i)
  | _ => none
def cSub (f : Md → Expr → Option Ex) (a : Expr) : Expr → Option Ex
  | .Slice lo hi none _ => (f .b a).bind fun ia => (optC (f .b) lo).bind fun il => (optC (f .b) hi).bind fun ih => some (.sl ia il ih)
  | .Slice none none (some st) _ => gd (isM1 st) ((f .b a).bind fun ia => some (.rev ia))
  | .Slice .. => none
  | b => gd (!isSlice b) ((f .b a).bind fun ia => (f .b b).bind fun ib => some (.ix ia ib))
def cKn : Const → Option D
  | .int i => some (.int i)
  | .str z => some (.str z)
  | .bool z => some (.bool z)
  | .none => some .none
  | _ => none
def cComp (g : Gc) (f : Sc → Md → Expr → Option Ex) (S : Sc) (elt : Expr) (scope : Scope) : List Comprehension → Option Ex
  | [⟨tg, iter, ifs, asy⟩] =>
    gd (decide (asy = 0) && blkC g.N S.sc scope (ownOf g.N scope) && !isSet iter) ((tgC g.N (blkS S scope) tg).bind fun t => gd ((tgIx t).all fun i => decide (i ∈ ownIx (ownOf g.N scope))) ((srcC (f S .b) S tg iter).bind fun q =>
      (match ifs with
        | [] => some []
        | [c] => (f (blkS S scope) .t c).bind fun ic => some [ic]
        | _ => none).bind fun cs => (f (blkS S scope) .s elt).bind fun ie => some (.comp ie (ownIx (ownOf g.N scope)) t q.1 q.2 cs)))
  | _ => none
def cName (g : Gc) (S : Sc) (bw : Bool) (x : Str) : Option Ex :=
  gd (plainN x) (if visC S x = true then (slotIn g.N x).bind fun i => some (if bw = true then .b i else .v i) else gd (gImp S x) ((g.consts.lookup x).bind fun d => some (.k d)))
/-- a value that is no name -/
def cVv (g : Gc) (f : Sc → Md → Expr → Option Ex) (S : Sc) (e : Expr) : Option Ex := match e with
  | .Constant k _ _ => (cKn k).bind fun d => some (.k d)
  | .Tuple es _ _ => gd (es.all notStar) ((cL (f S .s) es).bind fun is => some (.tup is))
  | .List es _ => gd (es.all notStar) ((cL (f S .s) es).bind fun is => some (.lst is))
  | .BinOp a op b _ => (bopOf op).bind fun o => (f S .b a).bind fun ia => (f S .b b).bind fun ib => some (.bin o ia ib)
  | .Compare a ops cs _ => cmpC (f S .b) a ops cs
  | .UnaryOp .Not a _ => (f S .b a).bind fun i => some (.not i)
  | .UnaryOp .USub a _ => (f S .b a).bind fun i => some (.neg i)
  | .BoolOp .And es _ => gd (!es.isEmpty) ((cL (f S .s) es).bind fun is => some (andAll is))
  | .BoolOp .Or es _ => gd (!es.isEmpty) ((cL (f S .s) es).bind fun is => some (orAll is))
  | .IfExp c a b _ => (f S .t c).bind fun ic => (f S .s a).bind fun ia => (f S .s b).bind fun ib => some (.ife ic ia ib)
  | .Call (.Name x _) as [] _ => callC g S (f S .s) (f S .b) x as
  | .Subscript a b _ => cSub (f S) a b
  | .Dict [] [] _ => some .dict0
  | .ListComp elt cs scope _ => cComp g f S elt scope cs
  | _ => none
def isName : Expr → Option Str
  | .Name x _ => some x
  | _ => none
def cX (g : Gc) : Nat → Sc → Md → Expr → Option Ex
  | 0, _, _, _ => none
  | n + 1, S, .t, e => cTt (cX g n S) e
  | n + 1, S, .s, e => match isName e with
    | some x => cName g S false x
    | none => cVv g (cX g n) S e
  | n + 1, S, .b, e => match isName e with
    | some x => cName g S true x
    | none => cVv g (cX g n) S e
end BP

/-! What the compiler of terms promises. -/
namespace BP
open PySem PySem.Spec PyProof.Rows L2
section
variable {g : Gc} {S : Sc} {T : Nat → Option Fn} {m : Nat} {cls : Nat → Value} {EX : XK} {X : Cx} {C : Nat → List D → Res D} {E : Nat → Hp → Prop}
theorem plainN_ok {x : Str} (h : plainN x = true) : (x == ("__debug__" : Str)) = false ∧ (x == ("__classdict__" : Str)) = false ∧ x ≠ "__name__" := by
  unfold plainN at h
  simp only [Bool.and_eq_true, Bool.not_eq_true', decide_eq_true_eq] at h
  exact ⟨h.1.1, h.1.2, h.2⟩
theorem gImp_ok {x : Str} (h : gImp S x = true) : S.sc.names.lookup x = some .globalImplicit := of_decide_eq_true h
theorem visC_ok (ok : Cok g S T m cls EX X) {x : Str} (h : visC S x = true) : Vis X.env.scope x := by
  unfold visC at h
  rw [Bool.or_eq_true, Bool.or_eq_true, decide_eq_true_eq, decide_eq_true_eq, decide_eq_true_eq] at h
  unfold Vis
  rw [ok.sc]
  rcases h with (h | h) | h
  · exact .inl h
  · exact .inr (.inl h)
  · exact .inr (.inr h)
theorem hu65 (ok : Cok g S T m cls EX X) : X.A.units + 65 < cLine := by have := ok.room.un; omega
theorem hu64 (ok : Cok g S T m cls EX X) : X.A.units + 64 < cLine := by have := ok.room.un; omega
theorem hu1 (ok : Cok g S T m cls EX X) : X.A.units + 1 < cLine := by have := ok.room.un; omega
theorem slot_ok (ok : Cok g S T m cls EX X) {x : Str} {i : Nat} (h : slotIn g.N x = some i) : X.N[i]? = some x := by rw [ok.hN]; exact slotIn_ok h
theorem bop_ok (X : Cx) {op : Operator} {o : Bop} (h : bopOf op = some o) : OpR X (binaryOp op) (rOp X.K true E (evalBin o)) := by
  cases op <;> cases h
  · exact op_addD
  · exact op_subD
  · exact op_mulD
  · exact op_modD
  · exact op_fdivD
theorem cop_ok (ok : Cok g S T m cls EX X) {op : CmpOp} {b : Expr} {o : Cop} (h : copOf op b = some o) : OpR X (compareOp op) (rOp X.K false E (evalCmp o)) := by
  cases op <;> simp only [copOf, Option.some.injEq] at h
  · subst h; exact op_eqDD (hu64 ok)
  · subst h; exact op_neDD (hu64 ok)
  · subst h; exact op_ltD
  · subst h; exact op_leD
  · subst h; exact op_gtD
  · subst h; exact op_geD
  · split at h <;> subst h
    · exact op_isND
    · exact op_isBD
  · split at h <;> subst h
    · exact op_notND
    · exact op_notBD
  · subst h; exact op_innD (hu65 ok)
  · subst h; exact op_ninD (hu65 ok)
theorem cmp_ok (ok : Cok g S T m cls EX X) {f : Expr → Option Ex} (hf : ∀ e i, f e = some i → PEb X C E e i) {a : Expr} {pos : Pos} : ∀ {ops : List CmpOp} {cs : List Expr} {ir : Ex}, cmpC f a ops cs = some ir →
    PEs X C E (.Compare a ops cs pos) ir ∧ PTs' X C E (.Compare a ops cs pos) ir
  | [op], [b], ir, h => by
    simp only [cmpC, gd_some, Option.bind_eq_some_iff, Bool.not_eq_true'] at h
    obtain ⟨hm, o, ho, ia, ha, ib, hb, e⟩ := h
    cases e
    exact ⟨pd_cmp (cop_ok ok ho) (hf _ _ ha) (hf _ _ hb) hm, pd_cmpT (cop_ok ok ho) (hf _ _ ha) (hf _ _ hb) hm⟩
  | [op, op'], [b, c], ir, h => by
    simp only [cmpC, gd_some, Option.bind_eq_some_iff, Bool.not_eq_true'] at h
    obtain ⟨hm, o, ho, o', ho', ia, ha, ib, hb, ic, hc, e⟩ := h
    cases e
    exact ⟨pd_chain (cop_ok ok ho) (cop_ok ok ho') (hf _ _ ha) (hf _ _ hb) (hf _ _ hc) hm, pd_chainT (cop_ok ok ho) (cop_ok ok ho') (hf _ _ ha) (hf _ _ hb) (hf _ _ hc) hm⟩
  | [], _, _, h => by simp [cmpC] at h
  | [_], [], _, h => by simp [cmpC] at h
  | [_], _ :: _ :: _, _, h => by simp [cmpC] at h
  | [_, _], [], _, h => by simp [cmpC] at h
  | [_, _], [_], _, h => by simp [cmpC] at h
  | [_, _], _ :: _ :: _ :: _, _, h => by simp [cmpC] at h
  | _ :: _ :: _ :: _, _, _, h => by simp [cmpC] at h
theorem pas_of : ∀ {es : List Expr} {is : List Ex}, Paired (fun e i => PEs X C E e i) es is → es.all notStar = true → PAs X C E es is
  | _, _, .nil, _ => pd_nilS
  | _, _, .cons h hs, n => by
    rw [List.all_cons, Bool.and_eq_true] at n
    exact pd_consS h (pas_of hs n.2) n.1
theorem pab_of : ∀ {es : List Expr} {is : List Ex}, Paired (fun e i => PEb X C E e i) es is → es.all notStar = true → PAb X C E es is
  | _, _, .nil, _ => pd_nilB
  | _, _, .cons h hs, n => by
    rw [List.all_cons, Bool.and_eq_true] at n
    exact pd_consB h (pab_of hs n.2) n.1
theorem pam_of {st : Bool} : ∀ {es : List Expr} {is : List Ex}, Paired (fun e i => PEm st X C E e i) es is → es.all notStar = true → PAm st X C E es is
  | _, _, .nil, _ => PAm.nil
  | _, _, .cons h hs, n => by
    rw [List.all_cons, Bool.and_eq_true] at n
    exact PAm.cons h (pam_of hs n.2) n.1
theorem ok_blk (ok : Cok g S T m cls EX X) {scope : Scope} {s : Shared} {H : Hp} {Ca : Addr} {cl : List (Str × Addr)} {fp : List Addr} : Cok g (blkS S scope) T m cls (fun _ _ _ => False) (X.blk s H scope (compEnvC scope cl Ca X.env) fp) where
  w := ok.w
  calm := ok.calm
  hN := ok.hN
  nd := ok.nd
  sc := by
    show relS scope X.env.scope = relS scope S.sc
    rw [ok.sc]
  fn := rfl
  room := ok.room
  takes := takes0
theorem src_ok {st : Bool} (ok : Cok g S T m cls EX X) {f : Expr → Option Ex} (hf : ∀ e i, f e = some i → PEm st X C E e i) {tg e : Expr} {q : Sk × List Ex} (h : srcC f S tg e = some q) : PIs st X C E tg e q.1 q.2 := by
  have hs : ∀ {e : Expr} {q : Sk × List Ex}, seqC f e = some q → PIs st X C E tg e q.1 q.2 := fun {e q} h => by
    simp only [seqC, Option.bind_eq_some_iff] at h
    obtain ⟨i, h1, e⟩ := h
    cases e
    exact pd_seq (hf _ _ h1)
  unfold srcC at h
  split at h
  · rename_i x p as pos
    split at h
    · rename_i ex
      subst ex
      simp only [gd_some, Option.bind_eq_some_iff, Bool.and_eq_true] at h
      obtain ⟨⟨hg, hn⟩, is, hl, h⟩ := h
      have pa := pam_of (cL_ok hf hl) hn
      split at h <;> cases h
      · exact pd_range1 ok (gImp_ok hg) hn pa
      · exact pd_range2 ok (gImp_ok hg) hn pa
      · exact pd_range3 ok (gImp_ok hg) hn pa
    · split at h
      · rename_i ex
        subst ex
        simp only [gd_some, Option.bind_eq_some_iff, Bool.and_eq_true] at h
        obtain ⟨⟨⟨hg, hn⟩, ht⟩, is, hl, h⟩ := h
        have pa := pam_of (cL_ok hf hl) hn
        obtain ⟨elts, kk, tpos, rfl⟩ : ∃ elts kk tpos, tg = .Tuple elts kk tpos := by
          cases tg <;> first | (cases ht; done) | exact ⟨_, _, _, rfl⟩
        split at h <;> cases h
        exact pd_enum ok (gImp_ok hg) hn pa
      · split at h
        · rename_i ex
          subst ex
          simp only [gd_some, Option.bind_eq_some_iff, Bool.and_eq_true] at h
          obtain ⟨⟨⟨hg, hn⟩, ht⟩, is, hl, h⟩ := h
          have pa := pam_of (cL_ok hf hl) hn
          obtain ⟨elts, kk, tpos, rfl⟩ : ∃ elts kk tpos, tg = .Tuple elts kk tpos := by
            cases tg <;> first | (cases ht; done) | exact ⟨_, _, _, rfl⟩
          split at h <;> cases h
          · exact pd_zip2 ok (gImp_ok hg) hn pa
          · exact pd_zip3 ok (gImp_ok hg) hn pa
        · exact hs h
  · exact hs h
theorem name_ok (ok : Cok g S T m cls EX X) {e : Expr} {i : Nat} (h : nameC g.N S e = some i) : NameAt X e i := by
  unfold nameC at h
  split at h
  · rename_i x p
    rw [gd_some] at h
    obtain ⟨hl, hi⟩ := h
    refine ⟨x, p, rfl, slot_ok ok hi, ?_, ?_⟩
    · unfold locC at hl
      simp only [Bool.or_eq_true, Bool.and_eq_true, decide_eq_true_eq] at hl
      unfold L2.Loc
      rw [ok.sc]
      rcases hl with hl | hl
      · exact .inl hl
      · exact .inr hl.1
    · unfold locC at hl
      simp only [Bool.or_eq_true, Bool.and_eq_true, decide_eq_true_eq] at hl
      rw [ok.fn, ok.sc]
      rcases hl with hl | hl
      · exact .inr hl
      · exact .inl hl.2
  · cases h
theorem names_ok (ok : Cok g S T m cls EX X) : ∀ {es : List Expr} {is : List Nat}, cNs g.N S es = some is → Paired (NameAt X) es is
  | [], _, h => by cases h; exact .nil
  | e :: es, _, h => by
    simp only [cNs, Option.bind_eq_some_iff] at h
    obtain ⟨i, h1, is, h2, e⟩ := h
    cases e
    exact .cons (name_ok ok h1) (names_ok ok h2)
theorem tg_ok (ok : Cok g S T m cls EX X) {e : Expr} {t : Tg} (h : tgC g.N S e = some t) : PG X e (gD X.K t) := by
  unfold tgC at h
  split at h
  · simp only [Option.bind_eq_some_iff] at h
    obtain ⟨i, h1, e⟩ := h
    cases e
    exact pg_one ok.nd (name_ok ok h1)
  · simp only [Option.bind_eq_some_iff] at h
    obtain ⟨is, h1, e⟩ := h
    cases e
    exact pg_many ok.calm ok.nd (names_ok ok h1)
  · cases h
theorem lookup_mem {α : Type} {l : List (Str × α)} {x : Str} {a : α} (h : l.lookup x = some a) : (x, a) ∈ l := PySem.mem_of_lookup h
theorem blt_ok (ok : Cok g S T m cls EX X) {x : Str} {f : Bt} {e : Expr} {es : List Expr} {irs : List Ex} {p pos : Pos} (hg : S.sc.names.lookup x = some .globalImplicit) (hp : plainN x = true) (ns : (e :: es).all notStar = true) (hb : bltOf x (e :: es).length = some f)
    (ha : PAb X C E (e :: es) irs) : PEs X C E (.Call (.Name x p) (e :: es) [] pos) (.bt f irs) := by
  obtain ⟨hd, _, hn⟩ := plainN_ok hp
  unfold bltOf at hb
  repeat' split at hb
  all_goals (first | cases hb | skip)
  all_goals (rename_i hx; obtain ⟨rfl, _⟩ := hx)
  · exact pd_blt ok cr_len (by decide) hg (by decide +kernel) hn hd ns ha
  · exact pd_bltTy ok cr_tuple (by decide) hg (by decide +kernel) hn hd ns ha
  · exact pd_bltTy ok cr_list (by decide) hg (by decide +kernel) hn hd ns ha
  · exact pd_blt ok (cr_sumD ok.calm) (by decide) hg (by decide +kernel) hn hd ns ha
  · exact pd_blt ok (cr_allD ok.calm) (by decide) hg (by decide +kernel) hn hd ns ha
  · exact pd_blt ok (cr_anyD ok.calm) (by decide) hg (by decide +kernel) hn hd ns ha
  · exact pd_blt ok (cr_max2D ok.calm) (by decide) hg (by decide +kernel) hn hd ns ha
  · exact pd_blt ok (cr_min2D ok.calm) (by decide) hg (by decide +kernel) hn hd ns ha
  · exact pd_blt ok cr_sortedD (by decide) hg (by decide +kernel) hn hd ns ha
  · exact pd_bltTy ok cr_intD (by decide) hg (by decide +kernel) hn hd ns ha
  · exact pd_bltTy ok cr_strD (by decide) hg (by decide +kernel) hn hd ns ha
theorem isi_ok (ok : Cok g S T m cls EX X) {tn : Str} {f : Bt} {e : Expr} {ir : Ex} {p p2 pos : Pos} (hg : S.sc.names.lookup ("isinstance" : Str) = some .globalImplicit) (hgt : S.sc.names.lookup tn = some .globalImplicit) (hb : btKind tn = some f) (ns : notStar e = true) (ha : PEb X C E e ir) :
    PEs X C E (.Call (.Name "isinstance" p) [e, .Name tn p2] [] pos) (.bt f [ir]) := by
  unfold btKind at hb
  repeat' split at hb
  all_goals (first | cases hb | skip)
  all_goals (rename_i hx; subst hx)
  · exact pd_isi ok kit_tuple rfl rfl (by decide) (by decide) hg hgt (by decide +kernel) (by decide) (by decide) ns ha
  · exact pd_isi ok kit_int rfl rfl (by decide) (by decide) hg hgt (by decide +kernel) (by decide) (by decide) ns ha
  · exact pd_isi ok kit_bool rfl rfl (by decide) (by decide) hg hgt (by decide +kernel) (by decide) (by decide) ns ha
  · exact pd_isi ok kit_str rfl rfl (by decide) (by decide) hg hgt (by decide +kernel) (by decide) (by decide) ns ha
theorem notSet_fold {e : Expr} (h : isSet e = false) (env : PySem.Env) : ∀ x, foldedSetIterable e env x = pure x := fun x => by
  cases e <;> first | rfl | cases h
end
section
variable {g : Gc} {T : Nat → Option Fn} {m : Nat} {cls : Nat → Value}
def SX (md : Md) (X : Cx) (C : Nat → List D → Res D) (E : Nat → Hp → Prop) (e : Expr) (ir : Ex) : Prop := match md with
  | .s => PEs X C E e ir
  | .b => PEb X C E e ir
  | .t => PTs' X C E e ir
theorem SX.of {md : Md} {X : Cx} {C : Nat → List D → Res D} {E : Nat → Hp → Prop} {e : Expr} {ir : Ex} (h : PEs X C E e ir) (n : md ≠ .t) : SX md X C E e ir := by
  cases md with
  | s => exact h
  | b => exact h.b
  | t => exact absurd rfl n
theorem call_ok {S : Sc} {EX : XK} {X : Cx} (ok : Cok g S T m cls EX X) {fs fb : Expr → Option Ex} (hs : ∀ e i, fs e = some i → PEs X (callF T m) (Ecl cls EX) e i) (hb : ∀ e i, fb e = some i → PEb X (callF T m) (Ecl cls EX) e i) {x : Str} {as : List Expr} {p pos : Pos} {ir : Ex}
    (h : callC g S fs fb x as = some ir) : PEs X (callF T m) (Ecl cls EX) (.Call (.Name x p) as [] pos) ir := by
  unfold callC at h
  rw [gd_some] at h
  obtain ⟨hc, h⟩ := h
  simp only [Bool.and_eq_true, Bool.not_eq_true'] at hc
  obtain ⟨⟨⟨hp, hg⟩, hn⟩, he⟩ := hc
  have hg' := gImp_ok hg
  obtain ⟨e1, es, rfl⟩ : ∃ e1 es, as = e1 :: es := by
    cases as with
    | nil => cases he
    | cons a b => exact ⟨a, b, rfl⟩
  split at h
  · rename_i f hf
    simp only [Option.bind_eq_some_iff] at h
    obtain ⟨is, hl, e⟩ := h
    cases e
    exact pd_call ok (lookup_mem hf) hg' (plainN_ok hp).1 hn (pas_of (cL_ok hs hl) hn)
  · split at h
    · rename_i bs hr
      obtain ⟨p2, pos2, e⟩ := rangeArgs_ok hr
      cases e
      simp only [gd_some, Option.bind_eq_some_iff, Bool.and_eq_true] at h
      obtain ⟨⟨hgr, hnb⟩, is, hl, h⟩ := h
      split at h
      · rename_i ex
        subst ex
        split at h
        · rename_i a
          cases h
          have pl := cL_ok hb hl
          cases pl with
          | cons ha pl =>
            cases pl
            exact pd_listRange1 ok hg' (gImp_ok hgr) (by simpa using hnb) ha
        · rename_i a b
          cases h
          have pl := cL_ok hb hl
          have hnb' : notStar a = true ∧ notStar b = true := by simpa using hnb
          cases pl with
          | cons ha pl =>
            cases pl with
            | cons hb' pl =>
              cases pl
              exact pd_listRange2 ok hg' (gImp_ok hgr) hnb'.1 hnb'.2 ha hb'
        · cases h
      · split at h
        · rename_i ex
          subst ex
          split at h
          · rename_i a b
            cases h
            have pl := cL_ok hb hl
            have hnb' : notStar a = true ∧ notStar b = true := by simpa using hnb
            cases pl with
            | cons ha pl =>
              cases pl with
              | cons hb' pl =>
                cases pl
                exact pd_tupRange2 ok hg' (gImp_ok hgr) hnb'.1 hnb'.2 ha hb'
          · cases h
        · cases h
    · split at h
      · rename_i ex
        subst ex
        split at h
        · rename_i e tn p2 heq
          cases heq
          simp only [gd_some, Option.bind_eq_some_iff] at h
          obtain ⟨hgt, f, hf, i, hi, e⟩ := h
          cases e
          exact isi_ok ok hg' (gImp_ok hgt) hf (by simpa [notStar] using hn) (hb _ _ hi)
        · cases h
      · simp only [Option.bind_eq_some_iff] at h
        obtain ⟨f, hf, is, hl, e⟩ := h
        cases e
        exact blt_ok ok hg' hp hn hf (pab_of (cL_ok hb hl) hn)
theorem opt_ok {S : Sc} {EX : XK} {X : Cx} {C : Nat → List D → Res D} {E : Nat → Hp → Prop} {fb : Expr → Option Ex} (hb : ∀ e i, fb e = some i → PEb X C E e i) : ∀ {o : Option Expr} {il : List Ex}, optC fb o = some il → PO X o (tPo X.K C E il)
  | none, _, h => by cases h; exact po_nil
  | some e, _, h => by
    simp only [optC, Option.bind_eq_some_iff] at h
    obtain ⟨i, hi, e⟩ := h
    cases e
    exact po_of (hb _ _ hi)
theorem cTt_ok {S : Sc} {EX : XK} {X : Cx} (ok : Cok g S T m cls EX X) {f : Md → Expr → Option Ex} (hf : ∀ md e i, f md e = some i → SX md X (callF T m) (Ecl cls EX) e i) {e : Expr} {ir : Ex} (h : cTt f e = some ir) : PTs' X (callF T m) (Ecl cls EX) e ir := by
  unfold cTt at h
  split at h
  · simp only [gd_some, Option.bind_eq_some_iff, Bool.not_eq_true'] at h
    obtain ⟨hne, is, hl, e⟩ := h
    cases e
    exact (pd_andLT (fun z => by subst z; cases hne) (cL_ok (hf .t) hl)).pt
  · simp only [gd_some, Option.bind_eq_some_iff, Bool.not_eq_true'] at h
    obtain ⟨hne, is, hl, e⟩ := h
    cases e
    exact (pd_orLT (fun z => by subst z; cases hne) (cL_ok (hf .t) hl)).pt
  · simp only [Option.bind_eq_some_iff] at h
    obtain ⟨i, hi, e⟩ := h
    cases e
    exact pd_notT (hf .t _ _ hi)
  · exact (cmp_ok ok (hf .b) h).2
  all_goals first | (cases h; done) | skip
  all_goals (simp only [gd_some, Option.bind_eq_some_iff, Bool.not_eq_true'] at h; obtain ⟨i, hi, hfr, e⟩ := h; cases e; exact pd_val (hf .s _ _ hi) hfr fun _ => rfl)
theorem cSub_ok {S : Sc} {EX : XK} {X : Cx} (ok : Cok g S T m cls EX X) {f : Md → Expr → Option Ex} (hf : ∀ md e i, f md e = some i → SX md X (callF T m) (Ecl cls EX) e i) {a b : Expr} {pos : Pos} {ir : Ex} (h : cSub f a b = some ir) : PEs X (callF T m) (Ecl cls EX) (.Subscript a b pos) ir := by
  have hb := hf .b
  unfold cSub at h
  split at h
  · simp only [Option.bind_eq_some_iff] at h
    obtain ⟨ia, ha, il, hl, ih, hh, e⟩ := h
    cases e
    exact pd_sl (hb _ _ ha) (opt_ok (S := S) (EX := EX) hb hl) (opt_ok (S := S) (EX := EX) hb hh)
  · simp only [gd_some, Option.bind_eq_some_iff] at h
    obtain ⟨hm, ia, ha, e⟩ := h
    cases e
    obtain ⟨k, p1, p2, rfl⟩ := isM1_ok hm
    exact pd_rev (hb _ _ ha)
  · cases h
  · simp only [gd_some, Option.bind_eq_some_iff, Bool.not_eq_true'] at h
    obtain ⟨hn, ia, ha, ib, hbb, e⟩ := h
    cases e
    refine pd_ix (hu1 ok) (hb _ _ ha) (hb _ _ hbb) fun o i => ?_
    cases b <;> first | rfl | (cases hn; done)
theorem cComp_ok {S : Sc} {EX : XK} {X : Cx} (ok : Cok g S T m cls EX X) {f : Sc → Md → Expr → Option Ex} (hf : ∀ (S : Sc) (md : Md) (e : Expr) (i : Ex) (EX : XK) (X : Cx), Cok g S T m cls EX X → f S md e = some i → SX md X (callF T m) (Ecl cls EX) e i) {elt : Expr} {scope : Scope} {cs : List Comprehension} {pos : Pos} {ir : Ex}
    (h : cComp g f S elt scope cs = some ir) : PEs X (callF T m) (Ecl cls EX) (.ListComp elt cs scope pos) ir := by
  unfold cComp at h
  split at h
  · rename_i tg iter ifs asy
    simp only [gd_some, Option.bind_eq_some_iff, Bool.and_eq_true, decide_eq_true_eq, Bool.not_eq_true'] at h
    obtain ⟨⟨⟨rfl, hblk⟩, hset⟩, t, ht, hall, q, hq, cs', hcs, ie, hie, e⟩ := h
    cases e
    have hblk' : BlkOk X.N X.env.scope scope (ownOf g.N scope) := by
      rw [ok.hN, ok.sc]
      exact blkOk_by hblk
    have hsrc : PIs false X (callF T m) (Ecl cls EX) tg iter q.1 q.2 := src_ok (st := false) (C := callF T m) (E := Ecl cls EX) ok (fun e i z => show PEb X (callF T m) (Ecl cls EX) e i from hf S .b e i EX X ok z) hq
    have htt : ∀ (s : Shared) (H : Hp) (Ca : Addr) (cl : List (Str × Addr)) (fp : List Addr), PTs (X.blk s H scope (compEnvC scope cl Ca X.env) fp) ifs (tAll X.K (callF T m) (Ecl cls fun _ _ _ => False) cs') := fun s H Ca cl fp => by
      split at hcs
      · cases hcs; exact pts_all0
      · simp only [Option.bind_eq_some_iff] at hcs
        obtain ⟨ic, hic, e⟩ := hcs
        cases e
        exact pts_all1 (hf _ .t _ _ _ _ (ok_blk ok) hic)
      · cases hcs
    have htg : ∀ (s : Shared) (H : Hp) (Ca : Addr) (cl : List (Str × Addr)) (fp : List Addr), PG (X.blk s H scope (compEnvC scope cl Ca X.env) fp) tg (gD X.K t) := fun s H Ca cl fp => tg_ok (X := X.blk s H scope (compEnvC scope cl Ca X.env) fp) (ok_blk ok) ht
    have hel : ∀ (s : Shared) (H : Hp) (Ca : Addr) (cl : List (Str × Addr)) (fp : List Addr), PE (X.blk s H scope (compEnvC scope cl Ca X.env) fp) elt (tS X.K (callF T m) (Ecl cls fun _ _ _ => False) ie) := fun s H Ca cl fp => hf _ .s _ _ _ (X.blk s H scope (compEnvC scope cl Ca X.env) fp) (ok_blk ok) hie
    refine pe_imp (pe_lc ok.calm ok.nd hsrc hblk' htg htt hel (notSet_fold hset _)) fun σ H Q w => ?_
    exact comp_ok (fun i hi => by
      have := List.all_eq_true.mp hall i hi
      exact of_decide_eq_true this) w
  · cases h
theorem cName_ok {S : Sc} {EX : XK} {X : Cx} (ok : Cok g S T m cls EX X) {bw : Bool} {x : Str} {p : Pos} {ir : Ex} (h : cName g S bw x = some ir) : if bw = true then PEb X (callF T m) (Ecl cls EX) (.Name x p) ir else PEs X (callF T m) (Ecl cls EX) (.Name x p) ir := by
  unfold cName at h
  rw [gd_some] at h
  obtain ⟨hp, h⟩ := h
  obtain ⟨q1, q2, q3⟩ := plainN_ok hp
  split at h
  · rename_i hv
    simp only [Option.bind_eq_some_iff] at h
    obtain ⟨i, hi, e⟩ := h
    have pv := pe_var (X := X) (pos := p) (slot_ok ok hi) (visC_ok ok hv) q1 q2
    cases bw with
    | true => cases e; exact pd_varB pv
    | false => cases e; exact pd_var pv
  · simp only [gd_some, Option.bind_eq_some_iff] at h
    obtain ⟨hg, d, hd, e⟩ := h
    cases e
    obtain ⟨v, u, h1, h2, h3⟩ := ok.w.con _ (lookup_mem hd)
    have pc : PEs X (callF T m) (Ecl cls EX) (.Name x p) (.k d) := pd_const (pe_glob (kind_of ok (gImp_ok hg)) h1 h2 q1) h3
    cases bw with
    | true => exact pc.b
    | false => exact pc
theorem cVv_ok {S : Sc} {EX : XK} {X : Cx} (ok : Cok g S T m cls EX X) {f : Sc → Md → Expr → Option Ex} (hf : ∀ (S : Sc) (md : Md) (e : Expr) (i : Ex) (EX : XK) (X : Cx), Cok g S T m cls EX X → f S md e = some i → SX md X (callF T m) (Ecl cls EX) e i) {e : Expr} {ir : Ex}
    (h : cVv g f S e = some ir) : PEs X (callF T m) (Ecl cls EX) e ir := by
  have hs : ∀ e i, f S .s e = some i → PEs X (callF T m) (Ecl cls EX) e i := fun e i q => hf S .s e i EX X ok q
  have hb : ∀ e i, f S .b e = some i → PEb X (callF T m) (Ecl cls EX) e i := fun e i q => hf S .b e i EX X ok q
  have ht : ∀ e i, f S .t e = some i → PTs' X (callF T m) (Ecl cls EX) e i := fun e i q => hf S .t e i EX X ok q
  unfold cVv at h
  split at h
  · simp only [Option.bind_eq_some_iff] at h
    obtain ⟨d, hd, e⟩ := h
    cases e
    unfold cKn at hd
    split at hd <;> cases hd
    · exact pd_const pe_int fun _ _ => .int _
    · exact pd_const pe_str fun _ _ => .str _
    · exact pd_const pe_bl fun _ _ => .bl _
    · exact pd_const pe_non fun _ _ => .non
  · simp only [gd_some, Option.bind_eq_some_iff] at h
    obtain ⟨hn, is, hl, e⟩ := h
    cases e
    exact pd_tup (pas_of (cL_ok hs hl) hn)
  · simp only [gd_some, Option.bind_eq_some_iff] at h
    obtain ⟨hn, is, hl, e⟩ := h
    cases e
    exact pd_lst (pas_of (cL_ok hs hl) hn)
  · simp only [Option.bind_eq_some_iff] at h
    obtain ⟨o, ho, ia, ha, ib, hbb, e⟩ := h
    cases e
    exact pd_bin (bop_ok X ho) (hb _ _ ha) (hb _ _ hbb)
  · exact (cmp_ok ok hb h).1
  · simp only [Option.bind_eq_some_iff] at h
    obtain ⟨i, hi, e⟩ := h
    cases e
    exact pd_not (hb _ _ hi)
  · simp only [Option.bind_eq_some_iff] at h
    obtain ⟨i, hi, e⟩ := h
    cases e
    exact pd_neg (hb _ _ hi)
  · simp only [gd_some, Option.bind_eq_some_iff, Bool.not_eq_true'] at h
    obtain ⟨hne, is, hl, e⟩ := h
    cases e
    exact pd_andL (fun z => by subst z; cases hne) (cL_ok hs hl)
  · simp only [gd_some, Option.bind_eq_some_iff, Bool.not_eq_true'] at h
    obtain ⟨hne, is, hl, e⟩ := h
    cases e
    exact pd_orL (fun z => by subst z; cases hne) (cL_ok hs hl)
  · simp only [Option.bind_eq_some_iff] at h
    obtain ⟨ic, hc, ia, ha, ib, hbb, e⟩ := h
    cases e
    exact pd_ife (ht _ _ hc) (hs _ _ ha) (hs _ _ hbb)
  · exact call_ok ok hs hb h
  · exact cSub_ok ok (fun md e i q => hf S md e i EX X ok q) h
  · cases h
    exact pd_dict0
  · exact cComp_ok ok hf h
  · cases h
theorem isName_ok {e : Expr} {x : Str} (h : isName e = some x) : ∃ p, e = .Name x p := by
  cases e <;> first | (cases h; exact ⟨_, rfl⟩) | (cases h; done)
theorem cX_ok : ∀ (n : Nat) (S : Sc) (md : Md) (e : Expr) (ir : Ex) (EX : XK) (X : Cx), Cok g S T m cls EX X → cX g n S md e = some ir → SX md X (callF T m) (Ecl cls EX) e ir := by
  intro n
  induction n with
  | zero => intro S md e ir EX X ok h; simp [cX] at h
  | succ n ih =>
    intro S md e ir EX X ok h
    cases md with
    | t =>
      simp only [cX] at h
      exact cTt_ok ok (fun md e i q => ih S md e i EX X ok q) h
    | s =>
      simp only [cX] at h
      split at h
      · rename_i x hx
        obtain ⟨p, rfl⟩ := isName_ok hx
        exact cName_ok ok h
      · exact cVv_ok ok ih h
    | b =>
      simp only [cX] at h
      split at h
      · rename_i x hx
        obtain ⟨p, rfl⟩ := isName_ok hx
        exact cName_ok ok h
      · exact (cVv_ok ok ih h).b
end
end BP

/-! The compiler of statements, and what it promises. -/
namespace BP
open PySem PySem.Spec PyProof.Rows L2

/-! the slots that a term takes as they are -/
mutual
def vsE : Ex → List Nat
  | .k _ => []
  | .v i => [i]
  | .b _ => []
  | .tup es => vsEs es
  | .lst es => vsEs es
  | .bin _ x y => vsE x ++ vsE y
  | .cmp _ x y => vsE x ++ vsE y
  | .chain _ _ x y z => vsE x ++ vsE y ++ vsE z
  | .neg x => vsE x
  | .not x => vsE x
  | .and x y => vsE x ++ vsE y
  | .or x y => vsE x ++ vsE y
  | .ife c x y => vsE c ++ vsE x ++ vsE y
  | .call _ es => vsEs es
  | .bt _ es => vsEs es
  | .ix x i => vsE x ++ vsE i
  | .sl x lo hi => vsE x ++ vsEs lo ++ vsEs hi
  | .rev x => vsE x
  | .comp e own _ _ src conds => vsEs src ++ (vsE e ++ vsEs conds).filter fun i => !own.contains i
  | .dict0 => []
  | .dict1 x y => vsE x ++ vsE y
def vsEs : List Ex → List Nat
  | [] => []
  | e :: es => vsE e ++ vsEs es
end
def uniq : List Nat → List Nat
  | [] => []
  | x :: xs => if xs.contains x = true then uniq xs else x :: uniq xs
/-- those of the owned slots that are taken are frozen ahead -/
def fzs (ow : List Nat) (is : List Nat) : List Stm := match uniq (is.filter fun i => ow.contains i) with
  | [] => []
  | js => [.fz js]
def isLc : Expr → Bool
  | .ListComp .. => true
  | .SetComp .. => true
  | .DictComp .. => true
  | _ => false
/-- a comprehension's value goes straight into the name, or it doesn't -/
def lcIn (S : Sc) (y : Str) (py : Pos) (scope : Scope) (pos : Pos) : Bool :=
  decide (S.sc.names.lookup y = some .local) && (py.line == pos.line) && !(scope.names.any fun (n, k) => n == y && (k == .local || k == .cell))
def setC (N : List Str) (S : Sc) (fe : Md → Expr → Option Ex) (ow : List Nat) (y : Str) (e : Expr) : Option (List Stm) :=
  gd (locC S y) ((slotIn N y).bind fun i => (fe .s e).bind fun ir => some (fzs ow (vsE ir) ++ [if freshE ir = true then .own i ir else .set (.n i) ir]))
def mutC (N : List Str) (S : Sc) (fe : Md → Expr → Option Ex) (ow : List Nat) (y attr : Str) (apos cpos : Pos) (e : Expr) : Option (List Stm) :=
  gd (visC S y && plainN y && (apos.endLine == cpos.line) && notStar e) ((slotIn N y).bind fun i => (fe .s e).bind fun ir =>
    if attr = ("append" : Str) then some (fzs ow (vsE ir) ++ [.app i ir]) else if attr = ("extend" : Str) then some (fzs ow (vsE ir) ++ [.ext i ir]) else none)
def cSs1 (f : Stmt → Option (List Stm)) : List Stmt → Option (List Stm)
  | [] => some []
  | s :: ss => (f s).bind fun a => (cSs1 f ss).bind fun b => some (a ++ b)
def cSt (g : Gc) (S : Sc) (fe : Md → Expr → Option Ex) (ow : List Nat) : Nat → Stmt → Option (List Stm)
  | 0, _ => none
  | n + 1, s => match s with
    | .Return (some e) _ => (fe .s e).bind fun ir => some (fzs ow (vsE ir) ++ [.ret ir])
    | .Pass _ => some []
    | .Expr (.Constant (.str _) _ _) _ => some []
    | .Expr (.Call (.Attribute (.Name y _) attr apos) [e] [] cpos) _ => mutC g.N S fe ow y attr apos cpos e
    | .Assign [.Name y _] e _ => setC g.N S fe ow y e
    | .Assign [.Tuple es _ _] e _ => gd (!isTupE e) ((cNs g.N S es).bind fun is => (fe .s e).bind fun ir => some (fzs ow (vsE ir) ++ [.set (.t is) ir]))
    | .Assign [.Subscript (.Name y _) x _] e _ => gd (visC S y && plainN y) ((slotIn g.N y).bind fun i => (fe .s x).bind fun ix => (fe .s e).bind fun ir => some (fzs ow (vsE ix ++ vsE ir) ++ [.put i ix ir]))
    | .If c a b _ => (fe .t c).bind fun ic => (cSs1 (cSt g S fe ow n) a).bind fun a' => (cSs1 (cSt g S fe ow n) b).bind fun b' => some (fzs ow (vsE ic) ++ [.ite ic a' b'])
    | .For tg iter body [] _ => gd (!isSet iter) ((tgC g.N S tg).bind fun t => (srcC (fe .s) S tg iter).bind fun q => (cSs1 (cSt g S fe ow n) body).bind fun b => some (fzs ow (vsEs q.2) ++ [.loop t q.1 q.2 b]))
    | .While c body [] _ => (fe .t c).bind fun ic => (cSs1 (cSt g S fe ow n) body).bind fun b => some [.while ic b]
    | _ => none
section
variable {C : Nat → List D → Res D}
theorem Fl.next_nx (r : Fl) : (r.next .nx) = r := by cases r <;> rfl
theorem evalSs_app : ∀ (a b : List Stm) (ρ : Env), evalSs C (a ++ b) ρ = (evalSs C a ρ).next fun ρ' => evalSs C b ρ'
  | [], b, ρ => by simp [evalSs, Fl.next]
  | s :: a, b, ρ => by
    simp only [List.cons_append, evalSs]
    cases evalS C s ρ with
    | nx ρ' => exact evalSs_app a b ρ'
    | rt d => rfl
    | ex c => rfl
    | bad => rfl
theorem evalSs_one (s : Stm) : evalSs C [s] = evalS C s := by
  funext ρ
  simp only [evalSs]
  exact Fl.next_nx _
variable {X : Cx} {E : Nat → Hp → Prop}
theorem psd_eq {s : Stmt} {f f' : Env → Fl} (h : PSd X E s f) (e : f = f') : PSd X E s f' := by rw [← e]; exact h
theorem sd_fzs {s : Stmt} {st : Stm} (ow is : List Nat) (h : PSd X E s (evalS C st)) : PSd X E s (evalSs C (fzs ow is ++ [st])) := by
  unfold fzs
  split
  · rw [List.nil_append, evalSs_one]; exact h
  · rename_i js _
    have e : evalSs C ([Stm.fz (uniq (is.filter fun i => ow.contains i))] ++ [st]) = fun ρ => evalS C st (freezes ρ (uniq (is.filter fun i => ow.contains i))) := by
      funext ρ
      rw [List.cons_append, List.nil_append, evalSs, evalS]
      show evalSs C [st] _ = _
      rw [evalSs_one]
    rw [e]
    exact sd_fz1 _ h
end
section
variable {g : Gc} {S : Sc} {T : Nat → Option Fn} {m : Nat} {cls : Nat → Value} {EX : XK} {X : Cx}
theorem swaps_none {e : Expr} (h : isLc e = false) (t : Option Expr) (l : Nat) (env : PySem.Env) : swapsWith e t l env = pure false := by
  cases e <;> first | rfl | (cases h; done)
theorem swaps_tup (e : Expr) (es : List Expr) (k : Nat) (p : Pos) (l : Nat) (env : PySem.Env) : swapsWith e (some (.Tuple es k p)) l env = pure false := by
  cases e <;> rfl
theorem swaps_sub (e x i : Expr) (p : Pos) (l : Nat) (env : PySem.Env) : swapsWith e (some (.Subscript x i p)) l env = pure false := by
  cases e <;> rfl
theorem stores_none {es : List Expr} {k : Nat} {p : Pos} {e : Expr} (h : isTupE e = false) (env : PySem.Env) : swappedStores [.Tuple es k p] e env = pure none := by
  cases e <;> first | rfl | (cases h; done)
theorem swaps_lc {S : Sc} {y : Str} {py : Pos} {elt : Expr} {cs : List Comprehension} {scope : Scope} {pos : Pos} {l : Nat} {env : PySem.Env} (hk : env.scope.kind = .function) (hs : env.scope = S.sc) (h : lcIn S y py scope pos = false) :
    swapsWith (.ListComp elt cs scope pos) (some (.Name y py)) l env = pure false := by
  unfold swapsWith
  have hb : env.blockKind = .function := by unfold PySem.Env.blockKind; rw [hk]; rfl
  have hk' : env.kindOf y = S.sc.names.lookup y := by unfold PySem.Env.kindOf; rw [hs]
  have h' : (env.blockKind == .function && env.kindOf y == some .local && py.line == (Expr.ListComp elt cs scope pos).pos.line && !(scope.names.any fun (n, k) => n == y && (k == .local || k == .cell))) = false := by
    rw [hb, hk']
    unfold lcIn at h
    have e1 : (S.sc.names.lookup y == some NameKind.local) = decide (S.sc.names.lookup y = some .local) := by
      cases q : S.sc.names.lookup y with
      | none => rfl
      | some k => cases k <;> decide
    rw [e1]
    show ((true && decide (S.sc.names.lookup y = some .local)) && py.line == pos.line && _) = false
    rw [Bool.true_and]
    exact h
  show (pure (env.blockKind == .function && env.kindOf y == some .local && py.line == (Expr.ListComp elt cs scope pos).pos.line && !(scope.names.any fun (n, k) => n == y && (k == .local || k == .cell))) : Sem Bool) = pure false
  rw [h']
theorem loc_ok (ok : Cok g S T m cls EX X) {y : Str} (h : locC S y = true) : L2.Loc X.env.scope y ∧ (X.fn y = true ∨ X.env.scope.names.lookup y = some .local) := by
  unfold locC at h
  simp only [Bool.or_eq_true, Bool.and_eq_true, decide_eq_true_eq] at h
  unfold L2.Loc
  rw [ok.sc, ok.fn]
  rcases h with h | h
  · exact ⟨.inl h, .inr h⟩
  · exact ⟨.inr h.1, .inl h.2⟩
/-- name = e, in either way -/
theorem ps_setD (ok : Cok g S T m cls EX X) (hk : X.env.scope.kind = .function) {n : Nat} {y : Str} {i : Nat} {py pos : Pos} {e : Expr} {ir : Ex} (hl : locC S y = true) (hi : slotIn g.N y = some i) (he : cX g n S .s e = some ir) :
    PS X (.Assign [.Name y py] e pos) (tAsg (tS X.K (callF T m) (Ecl cls EX) ir) (gName i)) := by
  obtain ⟨l1, l2⟩ := loc_ok ok hl
  have hN := slot_ok ok hi
  have plain : ∀ (hs : swapsWith e (some (.Name y py)) pos.line X.env = pure false), PS X (.Assign [.Name y py] e pos) (tAsg (tS X.K (callF T m) (Ecl cls EX) ir) (gName i)) := fun hs => ps_set ok.nd hN l1 (cX_ok n S .s e ir EX X ok he) hs l2
  cases hc : isLc e with
  | false => exact plain (swaps_none hc _ _ _)
  | true =>
    cases e <;> first | (cases hc; done) | skip
    case ListComp elt cs scope pos2 =>
      cases hin : lcIn S y py scope pos2 with
      | false => exact plain (swaps_lc hk ok.sc hin)
      | true =>
        cases n with
        | zero => cases he
        | succ n =>
          have h : cComp g (cX g n) S elt scope cs = some ir := he
          unfold cComp at h
          split at h
          · rename_i tg iter ifs asy
            simp only [gd_some, Option.bind_eq_some_iff, Bool.and_eq_true, decide_eq_true_eq, Bool.not_eq_true'] at h
            obtain ⟨⟨⟨rfl, hblk⟩, hset⟩, t, ht, hall, q, hq, cs', hcs, ie, hie, e⟩ := h
            cases e
            have hf := cX_ok (g := g) (T := T) (m := m) (cls := cls) n
            have hblk' : BlkOk X.N X.env.scope scope (ownOf g.N scope) := by
              rw [ok.hN, ok.sc]
              exact blkOk_by hblk
            have hsrc : PIs false X (callF T m) (Ecl cls EX) tg iter q.1 q.2 := src_ok (st := false) (C := callF T m) (E := Ecl cls EX) ok (fun e i z => show PEb X (callF T m) (Ecl cls EX) e i from hf S .b e i EX X ok z) hq
            have htt : ∀ (s : Shared) (H : Hp) (Ca : Addr) (cl : List (Str × Addr)) (fp : List Addr), PTs (X.blk s H scope (compEnvC scope cl Ca X.env) fp) ifs (tAll X.K (callF T m) (Ecl cls fun _ _ _ => False) cs') := fun s H Ca cl fp => by
              split at hcs
              · cases hcs; exact pts_all0
              · simp only [Option.bind_eq_some_iff] at hcs
                obtain ⟨ic, hic, e⟩ := hcs
                cases e
                exact pts_all1 (hf _ .t _ _ _ _ (ok_blk ok) hic)
              · cases hcs
            have htg : ∀ (s : Shared) (H : Hp) (Ca : Addr) (cl : List (Str × Addr)) (fp : List Addr), PG (X.blk s H scope (compEnvC scope cl Ca X.env) fp) tg (gD X.K t) := fun s H Ca cl fp => tg_ok (X := X.blk s H scope (compEnvC scope cl Ca X.env) fp) (ok_blk ok) ht
            have hel : ∀ (s : Shared) (H : Hp) (Ca : Addr) (cl : List (Str × Addr)) (fp : List Addr), PE (X.blk s H scope (compEnvC scope cl Ca X.env) fp) elt (tS X.K (callF T m) (Ecl cls fun _ _ _ => False) ie) := fun s H Ca cl fp => hf _ .s _ _ _ (X.blk s H scope (compEnvC scope cl Ca X.env) fp) (ok_blk ok) hie
            unfold lcIn at hin
            simp only [Bool.and_eq_true, decide_eq_true_eq, Bool.not_eq_true'] at hin
            have hyl : X.env.scope.names.lookup y = some .local := by rw [ok.sc]; exact hin.1.1
            refine ps_imp (ps_setLc ok.calm ok.nd hN hyl (sw_true hk hyl hin.1.2 hin.2) hsrc hblk' htg htt hel (notSet_fold hset _)) fun D σ H w => ?_
            exact comp_ok (fun i hi => by
              have := List.all_eq_true.mp hall i hi
              exact of_decide_eq_true this) w
          · cases h
    all_goals (cases n with
      | zero => cases he
      | succ n => cases he)
/-- what stands around a body -/
structure Bok (g : Gc) (S : Sc) (T : Nat → Option Fn) (m : Nat) (cls : Nat → Value) (EX : XK) (X : Cx) : Prop where
  ok : Cok g S T m cls EX X
  kind : X.env.scope.kind = .function
  own : PassesOwn (model X.prog X.w) X.A X.env X.xe
theorem ss1_ok {f : Stmt → Option (List Stm)} {C : Nat → List D → Res D} {E : Nat → Hp → Prop} (h : ∀ s a, f s = some a → PSd X E s (evalSs C a)) : ∀ {ss : List Stmt} {a : List Stm}, cSs1 f ss = some a → PSsd X E ss (evalSs C a)
  | [], _, e => by cases e; exact sd_nil
  | s :: ss, _, e => by
    simp only [cSs1, Option.bind_eq_some_iff] at e
    obtain ⟨a, h1, b, h2, e⟩ := e
    cases e
    have := sd_cons (h s a h1) (ss1_ok h h2)
    have e : evalSs C (a ++ b) = fun ρ => (evalSs C a ρ).next (evalSs C b) := by
      funext ρ
      exact evalSs_app a b ρ
    rw [e]
    exact this
theorem cSt_ok (B : Bok g S T m cls EX X) {ne : Nat} {ow : List Nat} : ∀ (n : Nat) (s : Stmt) (a : List Stm), cSt g S (cX g ne S) ow n s = some a → PSd X (Ecl cls EX) s (evalSs (callF T m) a) := by
  have ok := B.ok
  have hs : ∀ e i, cX g ne S .s e = some i → PEs X (callF T m) (Ecl cls EX) e i := fun e i q => cX_ok ne S .s e i EX X ok q
  have ht : ∀ e i, cX g ne S .t e = some i → PTs' X (callF T m) (Ecl cls EX) e i := fun e i q => cX_ok ne S .t e i EX X ok q
  intro n
  induction n with
  | zero => intro s a h; cases h
  | succ n ih =>
    intro s a h
    unfold cSt at h
    split at h
    · -- return
      simp only [Option.bind_eq_some_iff] at h
      obtain ⟨ir, hi, e⟩ := h
      cases e
      exact sd_fzs _ _ (sd_ret (hs _ _ hi))
    · cases h; exact sd_pass
    · cases h; exact sd_doc
    · -- append, extend
      rename_i y p attr apos e cpos pos
      unfold mutC at h
      simp only [gd_some, Option.bind_eq_some_iff, Bool.and_eq_true] at h
      obtain ⟨⟨⟨⟨hv, hp⟩, hl⟩, hn⟩, i, hi, ir, hir, h⟩ := h
      obtain ⟨q1, q2, _⟩ := plainN_ok hp
      split at h
      · rename_i ea
        subst ea
        cases h
        exact sd_fzs _ _ (sd_app (slot_ok ok hi) (visC_ok ok hv) q1 q2 hl hn (hs _ _ hir))
      · split at h
        · rename_i ea
          subst ea
          cases h
          exact sd_fzs _ _ (sd_ext (slot_ok ok hi) (visC_ok ok hv) q1 q2 hl hn (hs _ _ hir))
        · cases h
    · -- name = e
      rename_i y py e pos
      unfold setC at h
      simp only [gd_some, Option.bind_eq_some_iff] at h
      obtain ⟨hl, i, hi, ir, hir, e⟩ := h
      cases e
      refine sd_fzs _ _ ?_
      have ps := ps_setD (pos := pos) (py := py) ok B.kind hl hi hir
      cases hf : freshE ir with
      | true =>
        rw [if_pos rfl]
        exact sd_own ps hf
      | false =>
        rw [if_neg (by decide)]
        refine sd_set (t := .n i) (ps_imp ps fun D σ H w => ?_)
        exact (show tS X.K (callF T m) (Ecl cls EX) ir σ H _ from by
          obtain ⟨O, ρ, so, q⟩ := w
          refine ⟨O, ρ, so, q.mono fun v H1 s1 ⟨O2, ρ2, d, ρ', so2, r2, e2, k2⟩ => ?_⟩
          cases e2
          exact k2 _ (so2.setV i r2) (fun vs hv => wipe_set (hv i (by simp [tgIx]))) (.setV _ _ _ _ _))
    · -- a, b = e
      rename_i es k p e pos
      simp only [gd_some, Option.bind_eq_some_iff, Bool.not_eq_true'] at h
      obtain ⟨htu, is, his, ir, hir, e⟩ := h
      cases e
      refine sd_fzs _ _ (sd_set (t := .t is) ?_)
      exact ps_asg (hs _ _ hir) (pg_many ok.calm ok.nd (names_ok ok his)) (show swapsWithSole [.Tuple es k p] e pos.line X.env = pure false from swaps_tup e es k p pos.line X.env) (stores_none htu _) rfl
    · -- y[x] = e
      simp only [gd_some, Option.bind_eq_some_iff, Bool.and_eq_true] at h
      obtain ⟨⟨hv, hp⟩, i, hi, ix, hix, ir, hir, e⟩ := h
      cases e
      obtain ⟨q1, q2, _⟩ := plainN_ok hp
      exact sd_fzs _ _ (sd_put (hu1 ok) (slot_ok ok hi) (visC_ok ok hv) q1 q2 (swaps_sub _ _ _ _ _ _) (hs _ _ hix) (hs _ _ hir))
    · -- if
      simp only [Option.bind_eq_some_iff] at h
      obtain ⟨ic, hc, a', ha, b', hb, e⟩ := h
      cases e
      refine sd_fzs _ _ ?_
      refine psd_eq (sd_if (E := Ecl cls EX) (ht _ _ hc) (ss1_ok (ih · ·) ha) (ss1_ok (ih · ·) hb)) ?_
      funext ρ
      simp only [evalS]
    · -- for
      simp only [gd_some, Option.bind_eq_some_iff, Bool.not_eq_true'] at h
      obtain ⟨hset, t, htg, q, hq, b, hb, e⟩ := h
      cases e
      refine sd_fzs _ _ ?_
      have hsrc := src_ok (st := true) (C := callF T m) (E := Ecl cls EX) ok (fun e i z => PEs.m (hs e i z)) hq
      refine psd_eq (sd_for (E := Ecl cls EX) B.own ok.calm hsrc (tg_ok ok htg) (ss1_ok (ih · ·) hb) (notSet_fold hset _)) ?_
      funext ρ
      simp only [evalS]
    · -- while
      simp only [Option.bind_eq_some_iff] at h
      obtain ⟨ic, hc, b, hb, e⟩ := h
      cases e
      rw [evalSs_one]
      refine psd_eq (sd_while (E := Ecl cls EX) B.own (ht _ _ hc) (ss1_ok (ih · ·) hb)) ?_
      funext ρ
      simp only [evalS]
    · cases h
end
end BP

/-! Defs; the whole module; the law. -/
namespace BP
open PySem PySem.Spec PyProof.Rows L2

/-! the slots that a body owns -/
mutual
def owS : Stm → List Nat
  | .own i _ => [i]
  | .ite _ a b => owSs a ++ owSs b
  | .loop _ _ _ b => owSs b
  | .while _ b => owSs b
  | _ => []
def owSs : List Stm → List Nat
  | [] => []
  | s :: ss => owS s ++ owSs ss
end
/-- a def's scope, looked at -/
def scOk (N ps : List Str) (sc : Scope) : Bool :=
  decide (sc.kind = .function) && (!sc.isCoroutine && (!sc.isGenerator && (decide N.Nodup && (decide (N.take ps.length = ps) && ((ps.all fun x => decide (sc.names.lookup x = some .local) || decide (sc.names.lookup x = some .cell)) && sc.names.all fun y => !decide (y.2 = .free))))))
theorem scope_of {N ps : List Str} {sc : Scope} (h : scOk N ps sc = true) : FnScope N ps sc := by
  unfold scOk at h
  simp only [Bool.and_eq_true, Bool.not_eq_true', decide_eq_true_eq, List.all_eq_true, Bool.or_eq_true, decide_eq_false_iff_not] at h
  exact ⟨h.1, h.2.1, h.2.2.1, h.2.2.2.1, h.2.2.2.2.1, h.2.2.2.2.2.1, h.2.2.2.2.2.2⟩
def topSc (sc : Scope) : Sc := ⟨sc, fun _ => true⟩
def cFn (g : Gc) (np : Nat) (st : Stmt) : Option Fn :=
  (cSs1 (cSt g (topSc (defScope st)) (cX g 40 (topSc (defScope st))) [] 30) (defBody st)).bind fun b0 =>
    (cSs1 (cSt g (topSc (defScope st)) (cX g 40 (topSc (defScope st))) (uniq (owSs b0)) 30) (defBody st)).bind fun b => some ⟨np, g.N.length, b⟩
section
variable {T : Nat → Option Fn} {cls : Nat → Value} {P : Program} {w : World} {K : PySem.W.Frag} {mg : Str → Option Value} {base : Heap}
theorem start_ok {H : Hp} {O : Addr → Prop} {N : List Str} {vs : List V} {ds : List D} {fn : Fn} (dm : Dom O H) (rs : Reps K O H vs ds) (hn : fn.ns = N.length) : Sok K O (start N vs) (startR fn ds) H := by
  have hl := rs.length
  have key : ∀ (i : Nat) (s : Slot), s ≠ .non → (startR fn ds)[i]? = some s → ∃ d, s = .val d ∧ ds[i]? = some d := fun i s hs e => by
    unfold startR at e
    by_cases hi : i < ds.length
    · rw [List.getElem?_append_left (by simpa using hi), List.getElem?_map] at e
      obtain ⟨d, h1, h2⟩ := Option.map_eq_some_iff.mp e
      exact ⟨d, h2.symm, h1⟩
    · rw [List.getElem?_append_right (by simpa using hi)] at e
      have := List.getElem?_eq_some_iff.mp e
      obtain ⟨_, h⟩ := this
      rw [List.getElem_replicate] at h
      exact absurd h.symm hs
  refine ⟨?_, fun i d e => ?_, fun i d e => ?_, fun i j d e a e1 e2 e3 e4 => ?_, dm⟩
  · unfold L2.start startR
    simp [hn, hl]
  · obtain ⟨d', e1, e2⟩ := key i _ (by intro z; cases z) e
    cases e1
    obtain ⟨v, h1, h2⟩ := rs.get e2
    refine ⟨v, ?_, h2⟩
    unfold L2.start
    have hi := (List.getElem?_eq_some_iff.mp h1).1
    rw [List.getElem?_append_left (by simpa using hi), List.getElem?_map, h1]
    rfl
  · obtain ⟨d', e1, e2⟩ := key i _ (by intro z; cases z) e
    cases e1
  · obtain ⟨d', q1, q2⟩ := key i _ (by intro z; cases z) e1
    cases q1
/-- a def, by what it compiles to -/
theorem fn_ok {g : Gc} {n id : Nat} {x : Str} {st : Stmt} {f : Addr} {fd : FuncData} {ps : List Str} {fn : Fn} (W : Wok g T n cls P w K mg base) (F : Fun K x x st f fd) (S : FnScope g.N ps (defScope st)) (hc : cFn g ps.length st = some fn) (hT : T id = some fn) :
    FnOk P w K mg base (L2.CX P w) (n + 1) f fd ps (spF T K cls (n + 1) id) := by
  unfold cFn at hc
  simp only [Option.bind_eq_some_iff] at hc
  obtain ⟨b0, h0, b, hb, e⟩ := hc
  cases e
  have hrun : ∀ ds, callF T (n + 1) id ds = runFn (callF T n) ⟨ps.length, g.N.length, b⟩ ds := fun ds => by rw [callF, hT]
  refine F.okX S (fun vs H Q E h => ?_) (fun cdv A outer s H vs Q E hr h => ?_)
  · obtain ⟨O, ds, dm, rs, q⟩ := h
    rw [hrun, runFn] at q
    split at q
    · rename_i hl; rw [rs.length]; exact hl
    · exact False.elim q
  · obtain ⟨O, ds, dm, rs, q⟩ := h
    rw [hrun, runFn] at q
    split at q
    · rename_i hl
      let X := cxOf (L2.CX P w) P w K mg base g.N x (defScope st) f cdv A outer s H E
      have cok : Cok g (topSc (defScope st)) T n cls E X := ⟨⟨W.blt, W.con, W.fns⟩, rfl, rfl, S.nd, rfl, rfl, hr, takes_of rfl rfl rfl rfl⟩
      have B : Bok g (topSc (defScope st)) T n cls E X := ⟨cok, S.kind, passes_of rfl⟩
      refine ⟨_, ss1_ok (fun s a z => cSt_ok B 30 s a z) hb, ⟨fun _ => False, O, O, H⟩, startR ⟨ps.length, g.N.length, b⟩ ds, fun _ z => z.elim, ⟨O, start_ok dm rs rfl, fun _ z => z, fun _ z => .inl z, fun b o _ e => e, fun i d a e e' => ?_⟩, ?_⟩
      · obtain ⟨a', e1, _⟩ := (start_ok (fn := ⟨ps.length, g.N.length, b⟩) dm rs rfl).own i d e
        exfalso
        unfold startR at e
        by_cases hi : i < ds.length
        · rw [List.getElem?_append_left (by simpa using hi), List.getElem?_map] at e
          obtain ⟨d, h1, h2⟩ := Option.map_eq_some_iff.mp e
          cases h2
        · rw [List.getElem?_append_right (by simpa using hi)] at e
          obtain ⟨_, h⟩ := List.getElem?_eq_some_iff.mp e
          rw [List.getElem_replicate] at h
          cases h
      · cases he : evalSs (callF T n) b (startR ⟨ps.length, g.N.length, b⟩ ds) with
        | nx ρ' =>
          rw [he] at q
          exact fun σ' H' ⟨O', st'⟩ => q .non H' (fun b o e => st'.kp b o (fun z => z) e) .non fun z => nomatch z
        | rt d =>
          rw [he] at q
          exact fun v H' k r => q v H' (fun b o e => k b o (fun z => z) e) r fun z => nomatch z
        | ex c =>
          rw [he] at q
          exact fun H' k => q H' fun b o e => k b o (fun z => z) e
        | bad => rw [he] at q; exact q
    · exact False.elim q
/-- what stands fast of a def of the module -/
structure SFn (g : Gc) (T : Nat → Option Fn) (K : PySem.W.Frag) (mg : Str → Option Value) (x : Str) (id : Nat) : Prop where
  ex : ∃ (a : Addr) (fd : FuncData) (ps : List Str) (st : Stmt) (N : List Str) (fn : Fn), mg x = some (.ref a) ∧ PySem.W.keepIn K (.ref a) = true ∧ L2.Binds K fd ps [] ∧ Fun K x x st a fd ∧ scOk N ps (defScope st) = true ∧ cFn { g with N := N } ps.length st = some fn ∧ T id = some fn
theorem wok_all {g : Gc} (blt : ∀ x ∈ bltNames, mg x = none) (con : ∀ p ∈ g.consts, ∃ v u, mg p.1 = some u ∧ RelV v u ∧ ∀ O H, Rep K O H v p.2) (fns : ∀ p ∈ g.fns, SFn g T K mg p.1 p.2) : ∀ n, Wok g T n cls P w K mg base
  | 0 => ⟨blt, con, fun p hp => by
      obtain ⟨a, fd, ps, st, N, fn, h1, h2, h3, h4, h5, h6, h7⟩ := (fns p hp).ex
      exact ⟨a, fd, ps, h1, h2, h3, fun vs H Q E ⟨O, ds, dm, rs, q⟩ => False.elim q, fun A outer s H args us vs Q E hr he hb hv ⟨O, ds, dm, rs, q⟩ => False.elim q⟩⟩
  | n + 1 => ⟨blt, con, fun p hp => by
      obtain ⟨a, fd, ps, st, N, fn, h1, h2, h3, h4, h5, h6, h7⟩ := (fns p hp).ex
      have W := wok_all blt con fns n
      exact ⟨a, fd, ps, h1, h2, h3, fn_ok (g := { g with N := N }) ⟨W.blt, W.con, W.fns⟩ h4 (scope_of h5) h6 h7⟩⟩
theorem law_sp {n id : Nat} {H : Hp} {a : Addr} {ns : List Int} (hS : SqL K H a (ns.map V.int)) (h : callF T n id [.list (ns.map .int)] = .ok (.bool true)) :
    spF T K cls n id [.ref a] H (fun v _ => v = .bl true) fun _ _ _ => False := by
  refine ⟨fun _ => False, [.list (ns.map .int)], fun _ z => z.elim, .cons (.lst (hS.elim (fun z => .inl ⟨fun q => q, z⟩) .inr) (Reps.of_ints ns)) .nil, ?_⟩
  rw [h]
  exact fun v H' _ r _ => by cases r; rfl
theorem cx_none {w : World} {P : Program} (H : Hp) (s : Shared) (e : Value) (s' : Shared) (h : L2.CX P w [] H s (fun _ _ _ => False) e s') : False := by
  obtain ⟨_, _, _, _, _, _, _, _, _, _, _, _, z⟩ := h
  exact z
end
end BP

/-! What a law's end is made of. -/
namespace BP
open PySem PySem.Spec PyProof.Rows L2
section
variable {g : Gc} {T : Nat → Option Fn} {K : PySem.W.Frag} {h : Heap} {mg : Str → Option Value}
theorem sfn_mk {x : Str} {id : Nat} {f : Addr} {st : Stmt} {N ps : List Str} {fn : Fn} {oc kV doc pm cdv ct : Value} {od an : Option Addr} {osl : Array (Option Value)} (X : K.In h) (G : h.Ns mainGlobals mg)
    (a : PySem.W.nsIn K mainGlobals x = some (some (.ref f))) (l : K.lookup f = some ⟨oc, od, .func (PySem.W.fnOf x x (defArgs st) (defBody st) (defScope st) .none kV doc pm an cdv ct), osl⟩) (c : PySem.W.codeIn K cdv x = true) (k : PySem.W.keepIn K (.ref f) = true)
    (hb : ∀ (kV doc pm : Value) (an : Option Addr) (cdv ct : Value) (us : List Value), us.length = ps.length → bindArgs (PySem.W.fnOf x x (defArgs st) (defBody st) (defScope st) .none kV doc pm an cdv ct) ⟨us, []⟩ = pure (ps.zip us))
    (hs : scOk N ps (defScope st) = true) (hc : cFn { g with N := N } ps.length st = some fn) (hT : T id = some fn) : SFn g T K mg x id :=
  ⟨f, _, ps, st, N, fn, PySem.W.mg_of X G a, k, (fun_mk l c k).binds hb, fun_mk l c k, hs, hc, hT⟩
theorem law_mk {P : Program} {w : World} {cls : Nat → Value} {x : Str} {id n : Nat} {f fa : Addr} {st : Stmt} {N ps : List Str} {fn : Fn} {oc kV doc pm cdv ct : Value} {od an : Option Addr} {osl : Array (Option Value)} (X : K.In h) (G : h.Ns mainGlobals mg) (hfa : mg x = some (.ref fa))
    (a : PySem.W.nsIn K mainGlobals x = some (some (.ref f))) (l : K.lookup f = some ⟨oc, od, .func (PySem.W.fnOf x x (defArgs st) (defBody st) (defScope st) .none kV doc pm an cdv ct), osl⟩) (c : PySem.W.codeIn K cdv x = true) (k : PySem.W.keepIn K (.ref f) = true)
    (hb : ∀ (s : Shared) (u : Value), BindsTo s (PySem.W.fnOf x x (defArgs st) (defBody st) (defScope st) .none kV doc pm an cdv ct) ⟨[u], []⟩ (ps.zip [u]))
    (hs : scOk N ps (defScope st) = true) (hc : cFn { g with N := N } ps.length st = some fn) (hT : T id = some fn)
    (blt : ∀ x ∈ bltNames, mg x = none) (con : ∀ p ∈ g.consts, ∃ v u, mg p.1 = some u ∧ RelV v u ∧ ∀ O H, Rep K O H v p.2) (fns : ∀ p ∈ g.fns, SFn g T K mg p.1 p.2) :
    ∃ fd : FuncData, (∀ (s : Shared) (u : Value), BindsTo s fd ⟨[u], []⟩ (ps.zip [u])) ∧ ∀ base : Heap, K.In base → base.Ns mainGlobals mg → FnOk P w K mg base (L2.CX P w) (n + 1) fa fd ps (spF T K cls (n + 1) id) := by
  have e := hfa.symm.trans (PySem.W.mg_of X G a)
  cases e
  refine ⟨_, hb, fun base _ _ => ?_⟩
  have W : Wok g T n cls P w K mg base := wok_all blt con fns n
  exact fn_ok (g := { g with N := N }) ⟨W.blt, W.con, W.fns⟩ (fun_mk l c k) (scope_of hs) hc hT
theorem blt_mk (X : K.In h) (G : h.Ns mainGlobals mg) (hs : ∀ x ∈ bltNames, PySem.W.nsIn K mainGlobals x = some none) : ∀ x ∈ bltNames, mg x = none := fun x hx => PySem.W.mg_none_of X G (hs x hx)
theorem con_int (X : K.In h) (G : h.Ns mainGlobals mg) {x : Str} {i : Int} {t : Tok} (a : PySem.W.nsIn K mainGlobals x = some (some (.int i t))) : ∃ v u, mg x = some u ∧ RelV v u ∧ ∀ O H, Rep K O H v (.int i) := ⟨.int i, _, PySem.W.mg_of X G a, ⟨t, rfl⟩, fun _ _ => .int i⟩
theorem con_str (X : K.In h) (G : h.Ns mainGlobals mg) {x : Str} {i : Str} {t : Tok} (a : PySem.W.nsIn K mainGlobals x = some (some (.str i t))) : ∃ v u, mg x = some u ∧ RelV v u ∧ ∀ O H, Rep K O H v (.str i) := ⟨.str i, _, PySem.W.mg_of X G a, ⟨t, rfl⟩, fun _ _ => .str i⟩
end
end BP

namespace BP
open PySem PySem.Spec PyProof.Rows L2
/-! ### the defs, compiled -/
def F_is_whole : Fn := ⟨3, 3, [.ret (.and (.bt .isInt [(.b 0)]) (.and (.not (.bt .isBool [(.b 0)])) (.chain .le .le (.b 1) (.b 0) (.b 2))))]⟩
def F_is_falling_row : Fn := ⟨1, 3, [.ret (.bt .all [(.comp (.cmp .ge (.b 1) (.b 2)) [1, 2] (.t [1, 2]) .zip2 [(.sl (.b 0) [] [(.neg (.k (.int 1)))]), (.sl (.b 0) [(.k (.int 1))] [])] [])])]⟩
def F_is_shape : Fn := ⟨1, 2, [.ite (.or (.not (.bt .isTuple [(.b 0)])) (.not (.bt .all [(.comp (.call 0 [(.v 1), (.k (.int 1)), (.k (.int 12))]) [1] (.n 1) .seq [(.b 0)] [])]))) [.ret (.k (.bool false))] [], .ret (.and (.call 1 [(.v 0)]) (.cmp .le (.bt .sum [(.b 0)]) (.k (.int 12))))]⟩
def F_is_row : Fn := ⟨1, 4, [.ite (.or (.not (.bt .isTuple [(.b 0)])) (.not (.bt .all [(.comp (.call 0 [(.v 1), (.k (.int 1)), (.k (.int 9))]) [1] (.n 1) .seq [(.b 0)] [])]))) [.ret (.k (.bool false))] [], .ret (.bt .all [(.comp (.cmp .le (.b 2) (.b 3)) [2, 3] (.t [2, 3]) .zip2 [(.sl (.b 0) [] [(.neg (.k (.int 1)))]), (.sl (.b 0) [(.k (.int 1))] [])] [])])]⟩
def F_is_filling : Fn := ⟨1, 4, [.ite (.or (.not (.bt .isTuple [(.b 0)])) (.or (.not (.bt .all [(.comp (.call 3 [(.v 1)]) [1] (.n 1) .seq [(.b 0)] [])])) (.not (.call 2 [(.call 7 [(.v 0)])])))) [.ret (.k (.bool false))] [], .ret (.bt .all [(.comp (.call 5 [(.v 2), (.v 3)]) [2, 3] (.t [2, 3]) .zip2 [(.sl (.b 0) [] [(.neg (.k (.int 1)))]), (.sl (.b 0) [(.k (.int 1))] [])] [])])]⟩
def F_are_columns : Fn := ⟨2, 4, [.ret (.bt .all [(.comp (.cmp .lt (.b 2) (.b 3)) [2, 3] (.t [2, 3]) .zip2 [(.b 0), (.b 1)] [])])]⟩
def F_is_word : Fn := ⟨1, 2, [.ite (.or (.not (.bt .isTuple [(.b 0)])) (.cmp .gt (.bt .len [(.b 0)]) (.k (.int 8)))) [.ret (.k (.bool false))] [], .ret (.bt .all [(.comp (.call 0 [(.v 1), (.k (.int 1)), (.k (.int 9))]) [1] (.n 1) .seq [(.b 0)] [])])]⟩
def F_shape_of : Fn := ⟨1, 2, [.ret (.bt .tuple [(.comp (.bt .len [(.b 1)]) [1] (.n 1) .seq [(.b 0)] [])])]⟩
def F_Lcell_at : Fn := ⟨2, 2, [.ite (.cmp .lt (.b 1) (.bt .len [(.b 0)])) [.ret (.ix (.b 0) (.b 1))] [], .ret (.k (.int 0))]⟩
def F_Lmixed : Fn := ⟨2, 3, [.own 2 (.bin .mod (.bin .mul (.bin .add (.bin .add (.call 8 [(.v 0), (.v 1)]) (.bin .mul (.k (.int 7919)) (.b 1))) (.k (.int 1))) (.k (.int 48271))) (.k (.int 2147483647))), .ret (.bin .mod (.bin .add (.bin .add (.bin .mul (.b 2) (.b 2)) (.bin .mul (.k (.int 7)) (.b 2))) (.b 1)) (.k (.int 2147483629)))]⟩
def F_Ldrawn : Fn := ⟨2, 3, [.own 2 (.bin .mod (.bin .mul (.bin .add (.bin .add (.b 0) (.bin .mul (.k (.int 104729)) (.b 1))) (.k (.int 17))) (.k (.int 69621))) (.k (.int 2147483647))), .ret (.bin .mod (.bin .add (.bin .add (.bin .mul (.b 2) (.b 2)) (.bin .mul (.k (.int 3)) (.b 2))) (.b 1)) (.k (.int 2147483629)))]⟩
def F_Lword : Fn := ⟨2, 5, [.set (.n 2) (.ix (.tup [(.k (.int 9)), (.k (.int 3)), (.k (.int 5)), (.k (.int 2))]) (.bin .mod (.bin .fdiv (.b 0) (.k (.int 16))) (.k (.int 4)))), .own 3 (.bin .add (.k (.int 1)) (.bin .mod (.bin .fdiv (.b 0) (.k (.int 64))) (.bin .sub (.k (.int 10)) (.b 2)))), .ret (.bt .tuple [(.comp (.bin .add (.b 3) (.bin .mod (.bin .fdiv (.call 10 [(.v 0), (.v 4)]) (.k (.int 4))) (.b 2))) [4] (.n 4) .range1 [(.bin .mod (.b 0) (.bin .add (.b 1) (.k (.int 1))))] [])])]⟩
def F_Lput : Fn := ⟨2, 8, [.ite (.cmp .eq (.b 0) (.tup [])) [.ret (.tup [(.tup [(.tup [(.v 1)])]), (.tup [(.k (.int 0))])])] [], .own 2 (.comp (.v 3) [3, 4] (.t [3, 4]) .enum [(.ix (.b 0) (.k (.int 0)))] [(.cmp .gt (.b 4) (.b 1))]), .ite (.cmp .eq (.b 2) (.lst [])) [.ret (.tup [(.bin .add (.tup [(.bin .add (.ix (.b 0) (.k (.int 0))) (.tup [(.v 1)]))]) (.sl (.b 0) [(.k (.int 1))] [])), (.tup [(.bt .len [(.ix (.b 0) (.k (.int 0)))])])])] [], .set (.n 5) (.ix (.b 2) (.k (.int 0))), .set (.t [6, 7]) (.call 12 [(.sl (.b 0) [(.k (.int 1))] []), (.ix (.ix (.b 0) (.k (.int 0))) (.b 5))]), .ret (.tup [(.bin .add (.tup [(.bin .add (.bin .add (.sl (.ix (.b 0) (.k (.int 0))) [] [(.b 5)]) (.tup [(.v 1)])) (.sl (.ix (.b 0) (.k (.int 0))) [(.bin .add (.b 5) (.k (.int 1)))] []))]) (.b 6)), (.bin .add (.tup [(.v 5)]) (.b 7))])]⟩
def F_Lmake : Fn := ⟨1, 3, [.set (.n 1) (.tup []), .loop (.n 2) .seq [(.v 0)] [.set (.n 1) (.ix (.call 12 [(.v 1), (.v 2)]) (.k (.int 0)))], .ret (.v 1)]⟩
def F_Lis_shape : Fn := ⟨1, 2, [.ite (.or (.not (.bt .isTuple [(.b 0)])) (.cmp .ne (.comp (.v 1) [1] (.n 1) .seq [(.b 0)] [(.not (.call 0 [(.v 1), (.k (.int 1)), (.k (.int 12))]))]) (.lst []))) [.ret (.k (.bool false))] [], .ret (.and (.cmp .eq (.bt .list [(.b 0)]) (.rev (.bt .sorted [(.b 0)]))) (.cmp .lt (.bt .sum [(.b 0)]) (.k (.int 13))))]⟩
def F_Lis_filling : Fn := ⟨1, 5, [.ite (.not (.bt .isTuple [(.b 0)])) [.ret (.k (.bool false))] [], .loop (.n 1) .seq [(.v 0)] [.ite (.or (.not (.bt .isTuple [(.b 1)])) (.cmp .ne (.comp (.v 2) [2] (.n 2) .seq [(.b 1)] [(.not (.call 0 [(.v 2), (.k (.int 1)), (.k (.int 9))]))]) (.lst []))) [.ret (.k (.bool false))] [], .ite (.cmp .ne (.bt .list [(.b 1)]) (.bt .sorted [(.b 1)])) [.ret (.k (.bool false))] []], .ite (.not (.call 14 [(.bt .tuple [(.comp (.bt .len [(.b 1)]) [1] (.n 1) .seq [(.b 0)] [])])])) [.ret (.k (.bool false))] [], .loop (.n 3) .range2 [(.k (.int 1)), (.bt .len [(.b 0)])] [.ite (.cmp .ne (.comp (.k (.int 1)) [4] (.n 4) .range1 [(.bt .len [(.ix (.b 0) (.b 3))])] [(.cmp .ge (.ix (.ix (.b 0) (.bin .sub (.b 3) (.k (.int 1)))) (.b 4)) (.ix (.ix (.b 0) (.b 3)) (.b 4)))]) (.lst [])) [.ret (.k (.bool false))] []], .ret (.k (.bool true))]⟩
def F_Lis_word : Fn := ⟨1, 2, [.ret (.and (.bt .isTuple [(.b 0)]) (.and (.cmp .lt (.bt .len [(.b 0)]) (.k (.int 9))) (.cmp .eq (.comp (.v 1) [1] (.n 1) .seq [(.b 0)] [(.not (.call 0 [(.v 1), (.k (.int 1)), (.k (.int 9))]))]) (.lst []))))]⟩
def F_Lspoilt : Fn := ⟨3, 6, [.ite (.and (.cmp .gt (.b 2) (.k (.int 0))) (.and (.bt .isTuple [(.b 0)]) (.and (.cmp .gt (.bt .len [(.b 0)]) (.k (.int 0))) (.cmp .gt (.bin .mod (.b 1) (.k (.int 6))) (.k (.int 0)))))) [.own 3 (.bin .mod (.bin .fdiv (.b 1) (.k (.int 6))) (.bt .len [(.b 0)])), .set (.n 4) (.call 17 [(.ix (.b 0) (.b 3)), (.bin .fdiv (.call 10 [(.v 1), (.v 2)]) (.k (.int 4))), (.bin .sub (.b 2) (.k (.int 1)))]), .ret (.bin .add (.bin .add (.sl (.b 0) [] [(.b 3)]) (.tup [(.v 4)])) (.sl (.b 0) [(.bin .add (.b 3) (.k (.int 1)))] []))] [], .ite (.and (.bt .isTuple [(.b 0)]) (.and (.cmp .gt (.bt .len [(.b 0)]) (.k (.int 0))) (.cmp .eq (.bin .mod (.bin .fdiv (.b 1) (.k (.int 6))) (.k (.int 2))) (.k (.int 0))))) [.ret (.ix (.lst [(.bt .list [(.b 0)]), (.sl (.b 0) [] [(.neg (.k (.int 1)))]), (.bin .add (.b 0) (.sl (.b 0) [(.neg (.k (.int 1)))] [])), (.sl (.b 0) [(.k (.int 1))] []), (.rev (.b 0)), (.bin .mul (.b 0) (.k (.int 2)))]) (.bin .mod (.bin .fdiv (.b 1) (.k (.int 12))) (.k (.int 6))))] [], .ite (.and (.bt .isInt [(.b 0)]) (.cmp .eq (.bin .mod (.bin .fdiv (.b 1) (.k (.int 6))) (.k (.int 2))) (.k (.int 0)))) [.ret (.ix (.lst [(.bt .toStr [(.bin .mod (.b 0) (.k (.int 100)))]), (.bin .sub (.k (.int 0)) (.b 0)), (.bin .add (.b 0) (.k (.int 1))), (.cmp .eq (.b 0) (.k (.int 1))), (.bin .sub (.b 0) (.k (.int 1))), (.k (.int 10))]) (.bin .mod (.bin .fdiv (.b 1) (.k (.int 12))) (.k (.int 6))))] [], .own 5 (.lst [(.k .none), (.k (.bool true)), (.k (.int 0)), (.k (.int 1)), (.k (.int 9)), (.k (.int 10)), (.k (.int 12)), (.k (.int 13)), (.neg (.k (.int 1))), (.k (.str (Str.ofString ""))), (.k (.str (Str.ofString "1"))), (.tup []), (.tup [(.k (.int 1))]), (.lst []), (.tup [(.k (.int 2)), (.k (.int 1))]), (.tup [(.k (.int 1)), (.k (.int 2))]), (.tup [(.tup [(.k (.int 1))])]), (.tup [(.k (.int 0))])]), .ret (.ix (.b 5) (.bin .mod (.bin .fdiv (.b 1) (.k (.int 6))) (.k (.int 18))))]⟩
def F_k01_law : Fn := ⟨1, 9, [.set (.n 1) (.call 9 [(.v 0), (.k (.int 0))]), .set (.n 2) (.call 11 [(.call 9 [(.v 0), (.k (.int 1))]), (.k (.int 8))]), .set (.n 3) (.call 13 [(.call 11 [(.call 9 [(.v 0), (.k (.int 2))]), (.k (.int 8))])]), .set (.n 4) (.bt .tuple [(.comp (.bt .len [(.b 5)]) [5] (.n 5) .seq [(.call 13 [(.call 11 [(.call 9 [(.v 0), (.k (.int 3))]), (.k (.int 8))])])] [])]), .ite (.cmp .gt (.bin .mod (.b 1) (.k (.int 3))) (.k (.int 0))) [.fz [2], .set (.n 2) (.call 17 [(.v 2), (.call 9 [(.v 0), (.k (.int 4))]), (.bin .mod (.bin .fdiv (.b 1) (.k (.int 3))) (.k (.int 2)))]), .fz [3], .set (.n 3) (.call 17 [(.v 3), (.call 9 [(.v 0), (.k (.int 5))]), (.bin .mod (.bin .fdiv (.b 1) (.k (.int 16))) (.k (.int 3)))]), .fz [4], .set (.n 4) (.call 17 [(.v 4), (.call 9 [(.v 0), (.k (.int 6))]), (.bin .mod (.bin .fdiv (.b 1) (.k (.int 64))) (.k (.int 2)))])] [], .ite (.cmp .eq (.bin .mod (.bin .fdiv (.b 1) (.k (.int 128))) (.k (.int 4))) (.k (.int 1))) [.own 6 (.bin .add (.k (.int 1)) (.bin .mod (.bin .fdiv (.b 1) (.k (.int 512))) (.k (.int 7)))), .fz [6], .own 4 (.bin .add (.bin .mul (.tup [(.v 6)]) (.k (.int 2))) (.bin .mul (.tup [(.bin .mod (.bin .fdiv (.b 1) (.k (.int 4096))) (.k (.int 3)))]) (.bin .mod (.bin .fdiv (.b 1) (.k (.int 16384))) (.k (.int 2))))), .own 3 (.sl (.tup [(.bin .mul (.tup [(.k (.int 1))]) (.b 6)), (.bin .mul (.tup [(.k (.int 2))]) (.b 6)), (.bin .mul (.tup [(.k (.int 3))]) (.bin .mod (.bin .fdiv (.b 1) (.k (.int 4096))) (.k (.int 3))))]) [] [(.bin .add (.k (.int 2)) (.bin .mod (.bin .fdiv (.b 1) (.k (.int 16384))) (.k (.int 2))))]), .own 2 (.bin .mul (.tup [(.k (.int 9))]) (.bin .add (.b 6) (.k (.int 3))))] [], .fz [2, 3, 4], .loop (.n 7) .seq [(.tup [(.v 2), (.v 3), (.v 4)])] [.set (.n 8) (.call 6 [(.v 7)]), .ite (.or (.not (.bt .isBool [(.b 8)])) (.cmp .ne (.b 8) (.call 16 [(.v 7)]))) [.ret (.k (.bool false))] [], .set (.n 8) (.call 4 [(.v 7)]), .ite (.or (.not (.bt .isBool [(.b 8)])) (.cmp .ne (.b 8) (.call 15 [(.v 7)]))) [.ret (.k (.bool false))] [], .set (.n 8) (.call 2 [(.v 7)]), .ite (.or (.not (.bt .isBool [(.b 8)])) (.cmp .ne (.b 8) (.call 14 [(.v 7)]))) [.ret (.k (.bool false))] []], .ret (.k (.bool true))]⟩
def T0 : Nat → Option Fn
  | 0 => some F_is_whole
  | 1 => some F_is_falling_row
  | 2 => some F_is_shape
  | 3 => some F_is_row
  | 4 => some F_is_filling
  | 5 => some F_are_columns
  | 6 => some F_is_word
  | 7 => some F_shape_of
  | 8 => some F_Lcell_at
  | 9 => some F_Lmixed
  | 10 => some F_Ldrawn
  | 11 => some F_Lword
  | 12 => some F_Lput
  | 13 => some F_Lmake
  | 14 => some F_Lis_shape
  | 15 => some F_Lis_filling
  | 16 => some F_Lis_word
  | 17 => some F_Lspoilt
  | 18 => some F_k01_law
  | _ => none
end BP

/-! Plain words on what terms are worth. -/
namespace BP
open PySem

/-! ### data that may be compared, and are small -/
mutual
def smD : Nat → D → Bool
  | _, .none => true
  | _, .bool _ => true
  | _, .int _ => true
  | _, .str x => PyData.canLay0 (.str x)
  | 0, .list _ => false
  | 0, .tuple _ => false
  | k + 1, .list xs => decide (xs.length ≤ 100) && smL k xs
  | k + 1, .tuple xs => decide (xs.length ≤ 100) && smL k xs
  | _, .dict _ => false
def smL : Nat → List D → Bool
  | _, [] => true
  | k, x :: xs => smD k x && smL k xs
end
theorem smL_iff {k : Nat} : ∀ {xs : List D}, smL k xs = true ↔ ∀ x ∈ xs, smD k x = true
  | [] => by simp [smL]
  | x :: xs => by
    rw [smL, Bool.and_eq_true, smL_iff]
    simp
theorem smD_tuple {k : Nat} {xs : List D} : smD (k + 1) (.tuple xs) = true ↔ xs.length ≤ 100 ∧ ∀ x ∈ xs, smD k x = true := by
  rw [smD, Bool.and_eq_true, decide_eq_true_eq, smL_iff]
theorem smD_list {k : Nat} {xs : List D} : smD (k + 1) (.list xs) = true ↔ xs.length ≤ 100 ∧ ∀ x ∈ xs, smD k x = true := by
  rw [smD, Bool.and_eq_true, decide_eq_true_eq, smL_iff]
mutual
theorem smD_lay : ∀ (k : Nat) (d : D), smD k d = true → d.canLay0 = true ∧ d.depth ≤ k
  | k, .none, _ => ⟨by simp [PyData.canLay0], by simp [PyData.depth]⟩
  | k, .bool _, _ => ⟨by simp [PyData.canLay0], by simp [PyData.depth]⟩
  | k, .int _, _ => ⟨by simp [PyData.canLay0], by simp [PyData.depth]⟩
  | k, .str x, h => ⟨by simpa [smD] using h, by simp [PyData.depth]⟩
  | 0, .list _, h => by simp [smD] at h
  | 0, .tuple _, h => by simp [smD] at h
  | k + 1, .list xs, h => by
    rw [smD, Bool.and_eq_true] at h
    obtain ⟨h1, h2⟩ := smL_lay k xs h.2
    exact ⟨by simpa [PyData.canLay0] using h1, by simp only [PyData.depth]; omega⟩
  | k + 1, .tuple xs, h => by
    rw [smD, Bool.and_eq_true] at h
    obtain ⟨h1, h2⟩ := smL_lay k xs h.2
    exact ⟨by simpa [PyData.canLay0] using h1, by simp only [PyData.depth]; omega⟩
  | k, .dict _, h => by cases k <;> simp [smD] at h
theorem smL_lay : ∀ (k : Nat) (ds : List D), smL k ds = true → PyData.canLayAll0 ds = true ∧ PyData.depthAll ds ≤ k
  | k, [], _ => ⟨by simp [PyData.canLayAll0], by simp [PyData.depthAll]⟩
  | k, d :: ds, h => by
    rw [smL, Bool.and_eq_true] at h
    obtain ⟨h1, h2⟩ := smD_lay k d h.1
    obtain ⟨h3, h4⟩ := smL_lay k ds h.2
    exact ⟨by simp [PyData.canLayAll0, h1, h3], by simp only [PyData.depthAll]; omega⟩
end
theorem smD_shaped {k : Nat} {d : D} (h : smD k d = true) (hk : k ≤ 64) : SeqAt.shaped d = true := by
  obtain ⟨h1, h2⟩ := smD_lay k d h
  unfold SeqAt.shaped
  rw [h1, Bool.true_and, decide_eq_true_eq]
  omega
mutual
theorem smD_mono {k l : Nat} (h : k ≤ l) : ∀ {d : D}, smD k d = true → smD l d = true
  | .none, _ => by cases l <;> rfl
  | .bool _, _ => by cases l <;> rfl
  | .int _, _ => by cases l <;> rfl
  | .str x, q => by cases k <;> cases l <;> exact q
  | .list xs, q => by
    cases k with
    | zero => simp [smD] at q
    | succ k =>
      obtain ⟨l, rfl⟩ : ∃ m, l = m + 1 := ⟨l - 1, by omega⟩
      rw [smD, Bool.and_eq_true] at q ⊢
      exact ⟨q.1, smL_mono (by omega) q.2⟩
  | .tuple xs, q => by
    cases k with
    | zero => simp [smD] at q
    | succ k =>
      obtain ⟨l, rfl⟩ : ∃ m, l = m + 1 := ⟨l - 1, by omega⟩
      rw [smD, Bool.and_eq_true] at q ⊢
      exact ⟨q.1, smL_mono (by omega) q.2⟩
  | .dict _, q => by cases k <;> simp [smD] at q
theorem smL_mono {k l : Nat} (h : k ≤ l) : ∀ {d : List D}, smL k d = true → smL l d = true
  | [], _ => rfl
  | d :: ds, q => by
    rw [smL, Bool.and_eq_true] at q ⊢
    exact ⟨smD_mono h q.1, smL_mono h q.2⟩
end
theorem shaped_list_of {xs : List D} (h : ∀ x ∈ xs, smD 60 x = true) (hl : xs.length ≤ 100) : SeqAt.shaped (.list xs) = true := smD_shaped (k := 61) (smD_list.mpr ⟨hl, h⟩) (by decide)
theorem shaped_int (i : Int) : SeqAt.shaped (.int i) = true := smD_shaped (k := 0) rfl (by decide)
theorem shaped_bool (i : Bool) : SeqAt.shaped (.bool i) = true := smD_shaped (k := 0) rfl (by decide)
theorem shaped_nil : SeqAt.shaped (.list []) = true := smD_shaped (k := 1) rfl (by decide)
theorem shaped_nilT : SeqAt.shaped (.tuple []) = true := smD_shaped (k := 1) rfl (by decide)
theorem shaped_none : SeqAt.shaped .none = true := smD_shaped (k := 1) rfl (by decide)
theorem smL_ints (k : Nat) : ∀ ns : List Int, smL k (ns.map PyData.int) = true
  | [] => rfl
  | n :: ns => by rw [List.map_cons, smL, smL_ints k ns]; cases k <;> rfl

/-! ### ints, rows of ints -/
abbrev tpI (ns : List Int) : D := .tuple (ns.map PyData.int)
abbrev tpR (rs : List (List Int)) : D := .tuple (rs.map tpI)
theorem eqvAll_ints' : ∀ ns ms : List Int, PyData.eqvAll (ns.map PyData.int) (ms.map PyData.int) = decide (ns = ms)
  | [], [] => rfl
  | [], m :: ms => rfl
  | n :: ns, [] => rfl
  | n :: ns, m :: ms => by
    simp only [List.map_cons, PyData.eqvAll, PyData.eqv, eqvAll_ints' ns ms]
    by_cases h1 : n = m
    · subst h1; simp
    · have : (n == m) = false := beq_eq_false_iff_ne.mpr h1
      simp [this, h1]
theorem eqv_tpI (ns ms : List Int) : PyData.eqv (tpI ns) (tpI ms) = decide (ns = ms) := by
  simp only [PyData.eqv]
  exact eqvAll_ints' ns ms
theorem eqv_lI (ns ms : List Int) : PyData.eqv (.list (ns.map PyData.int)) (.list (ms.map PyData.int)) = decide (ns = ms) := by
  simp only [PyData.eqv]
  exact eqvAll_ints' ns ms
theorem eqvAll_rows : ∀ rs ss : List (List Int), PyData.eqvAll (rs.map tpI) (ss.map tpI) = decide (rs = ss)
  | [], [] => rfl
  | [], m :: ms => rfl
  | n :: ns, [] => rfl
  | n :: ns, m :: ms => by
    rw [List.map_cons, List.map_cons, PyData.eqvAll, eqv_tpI, eqvAll_rows ns ms]
    by_cases h1 : n = m <;> simp [h1]
theorem eqv_tpR (rs ss : List (List Int)) : PyData.eqv (tpR rs) (tpR ss) = decide (rs = ss) := by
  simp only [PyData.eqv]
  exact eqvAll_rows rs ss
theorem smD_tpI {k : Nat} {ns : List Int} (h : ns.length ≤ 100) : smD (k + 1) (tpI ns) = true := by
  rw [smD, Bool.and_eq_true, decide_eq_true_eq, List.length_map]
  exact ⟨h, smL_ints k ns⟩
theorem smD_tpR {k : Nat} {rs : List (List Int)} (h : rs.length ≤ 100) (h2 : ∀ r ∈ rs, r.length ≤ 100) : smD (k + 2) (tpR rs) = true := by
  rw [smD_tuple, List.length_map]
  refine ⟨h, fun x hx => ?_⟩
  obtain ⟨r, hr, rfl⟩ := List.mem_map.mp hx
  exact smD_tpI (h2 r hr)
theorem eqv_nil_l (xs : List D) : PyData.eqv (.list xs) (.list []) = xs.isEmpty := by
  cases xs <;> rfl
theorem eqv_nil_t (xs : List D) : PyData.eqv (.tuple xs) (.tuple []) = xs.isEmpty := by
  cases xs <;> rfl

/-! ### comprehensions -/
theorem compL_map {turn : D → Res (Option D)} {f : D → D} : ∀ {xs : List D}, (∀ x ∈ xs, turn x = .ok (some (f x))) → compL turn xs = .ok (xs.map f)
  | [], _ => rfl
  | x :: xs, h => by
    rw [compL, h x List.mem_cons_self, Res.bind_ok, compL_map fun y hy => h y (List.mem_cons_of_mem _ hy)]
    rfl
theorem compL_filter {turn : D → Res (Option D)} {f : D → D} {p : D → Bool} : ∀ {xs : List D}, (∀ x ∈ xs, turn x = .ok (if p x = true then some (f x) else none)) → compL turn xs = .ok ((xs.filter p).map f)
  | [], _ => rfl
  | x :: xs, h => by
    rw [compL, h x List.mem_cons_self, Res.bind_ok, compL_filter fun y hy => h y (List.mem_cons_of_mem _ hy), Res.bind_ok]
    cases hp : p x <;> simp [hp]
variable {C : Nat → List D → Res D}
/-- one turn of a comprehension -/
def turnX (C : Nat → List D → Res D) (e : Ex) (own : List Nat) (t : Tg) (conds : List Ex) (ρ : Env) : D → Res (Option D) := fun d => match bindT (wipeR ρ own) t d with
  | some ρ' => (evalAll C conds ρ').bind fun ok => if ok = true then (evalE C e ρ').bind fun y => .ok (some y) else .ok none
  | none => .bad
theorem ev_comp {e : Ex} {own : List Nat} {t : Tg} {sk : Sk} {src conds : List Ex} {ρ : Env} {items r : List D} (hs : (evalEs C src ρ).bind (evalSrc sk) = .ok items) (hz : items.length ≤ 1000000)
    (hr : compL (turnX C e own t conds ρ) items = .ok r) : evalE C (.comp e own t sk src conds) ρ = .ok (.list r) := by
  rw [evalE]
  cases h1 : evalEs C src ρ with
  | exc c => rw [h1] at hs; cases hs
  | bad => rw [h1] at hs; cases hs
  | ok ds =>
    rw [h1] at hs
    have hs : evalSrc sk ds = .ok items := hs
    rw [Res.bind_ok, hs, Res.bind_ok]
    show (noExc (compL (turnX C e own t conds ρ) items)).bind (fun r => if items.length ≤ sizeLine then (.ok (.list r) : Res D) else .bad) = _
    rw [hr]
    show (if items.length ≤ sizeLine then (.ok (.list r) : Res D) else .bad) = _
    rw [if_pos (by rw [sizeLine_eq]; omega)]
theorem all_bools (xs : List Bool) : allD (.list (xs.map PyData.bool)) = .ok (.bool (xs.all id)) := by
  have : boolsOf (xs.map PyData.bool) = some xs := by
    induction xs with
    | nil => rfl
    | cons x xs ih => simp [boolsOf, ih]
  simp [allD, listOf, okO, this]
theorem any_bools (xs : List Bool) : anyD (.list (xs.map PyData.bool)) = .ok (.bool (xs.any id)) := by
  have : boolsOf (xs.map PyData.bool) = some xs := by
    induction xs with
    | nil => rfl
    | cons x xs ih => simp [boolsOf, ih]
  simp [anyD, listOf, okO, this]
theorem intsOf_map (ns : List Int) : intsOf (ns.map PyData.int) = some ns := by
  induction ns with
  | nil => rfl
  | cons x xs ih => simp [intsOf, ih]
theorem all_map_bool {α : Type} (xs : List α) (p : α → Bool) : allD (.list (xs.map fun x => PyData.bool (p x))) = .ok (.bool (xs.all p)) := by
  have := all_bools (xs.map p)
  rw [List.map_map] at this
  simp only [List.all_map] at this
  exact this
theorem any_map_bool {α : Type} (xs : List α) (p : α → Bool) : anyD (.list (xs.map fun x => PyData.bool (p x))) = .ok (.bool (xs.any p)) := by
  have := any_bools (xs.map p)
  rw [List.map_map] at this
  simp only [List.any_map] at this
  exact this
theorem sum_tpI (ns : List Int) : sumD (tpI ns) = .ok (.int ns.sum) := by simp [sumD, itemsOf, okO, intsOf_map]
theorem sum_lI (ns : List Int) : sumD (.list (ns.map PyData.int)) = .ok (.int ns.sum) := by simp [sumD, itemsOf, okO, intsOf_map]
theorem sorted_tpI (ns : List Int) : sortedD (tpI ns) = .ok (.list ((sortI ns).map .int)) := by simp [sortedD, itemsOf, okO, intsOf_map]
theorem sorted_lI (ns : List Int) : sortedD (.list (ns.map .int)) = .ok (.list ((sortI ns).map .int)) := by simp [sortedD, itemsOf, okO, intsOf_map]
end BP

/-! Plain words: cuts, pairs, items, small numbers. -/
namespace BP
open PySem
theorem sIx_i (n d : Nat) (i : Int) (h0 : 0 ≤ i) : HT.sIx n d (some i) = min i.toNat n := by
  obtain ⟨k, rfl⟩ : ∃ k : Nat, i = k := ⟨i.toNat, by omega⟩
  rw [HT.sIx_nat]; simp
theorem cut_init {α : Type} (xs : List α) : cutD xs none (some (-1)) = xs.dropLast := by
  unfold cutD
  rw [HT.sIx_none]
  have : HT.sIx xs.length xs.length (some (-1)) = xs.length - 1 := by
    unfold HT.sIx
    simp
    omega
  rw [this, List.dropLast_eq_take]
  simp
theorem cut_from {α : Type} (xs : List α) (i : Nat) : cutD xs (some (i : Int)) none = xs.drop i := by
  unfold cutD
  rw [HT.sIx_none, HT.sIx_nat]
  by_cases h : i ≤ xs.length
  · rw [Nat.min_eq_left h]
    exact List.take_of_length_le (by simp)
  · rw [Nat.min_eq_right (by omega), List.drop_of_length_le (Nat.le_refl _), List.drop_of_length_le (by omega)]
    simp
theorem cut_tail {α : Type} (xs : List α) : cutD xs (some 1) none = xs.drop 1 := cut_from xs 1
theorem cut_to {α : Type} (xs : List α) (i : Nat) : cutD xs none (some (i : Int)) = xs.take i := by
  unfold cutD
  rw [HT.sIx_none, HT.sIx_nat]
  by_cases h : i ≤ xs.length
  · rw [Nat.min_eq_left h]; simp
  · rw [Nat.min_eq_right (by omega)]
    simp
    rw [List.take_of_length_le (by omega)]
theorem cut_last {α : Type} (xs : List α) : cutD xs (some (-1)) none = xs.drop (xs.length - 1) := by
  unfold cutD
  rw [HT.sIx_none]
  have : HT.sIx xs.length 0 (some (-1)) = xs.length - 1 := by
    unfold HT.sIx
    simp
    omega
  rw [this]
  exact List.take_of_length_le (by simp)
def adj {α : Type} : List α → List (α × α)
  | x :: y :: r => (x, y) :: adj (y :: r)
  | _ => []
theorem zip_adj {α : Type} : ∀ xs : List α, xs.dropLast.zip (xs.drop 1) = adj xs
  | [] => rfl
  | [_] => rfl
  | x :: y :: r => by
    have := zip_adj (y :: r)
    simp only [List.dropLast_cons_cons, List.drop_succ_cons, List.drop_zero, List.zip_cons_cons, adj] at this ⊢
    rw [this]
theorem zip2D_map {α β : Type} (f : α → D) (g : β → D) : ∀ (xs : List α) (ys : List β), zip2D (xs.map f) (ys.map g) = (xs.zip ys).map fun p => PyData.tuple [f p.1, g p.2]
  | [], ys => by simp [zip2D]
  | x :: xs, [] => by simp [zip2D]
  | x :: xs, y :: ys => by simp [zip2D, zip2D_map f g xs ys]
theorem zip2D_eq (xs ys : List D) : zip2D xs ys = (xs.zip ys).map fun p => PyData.tuple [p.1, p.2] := by
  have := zip2D_map id id xs ys
  simpa using this
theorem enumD_map {α : Type} (f : α → D) : ∀ (k : Nat) (xs : List α), enumD k (xs.map f) = (xs.zipIdx k).map fun p => PyData.tuple [.int (p.2 : Nat), f p.1]
  | _, [] => rfl
  | k, x :: xs => by simp [enumD, enumD_map f (k + 1) xs]
theorem atI_of {α : Type} {xs : List α} {i : Nat} (h : i < xs.length) : L2.atI xs (i : Int) = some xs[i] := L2.atI_nat (List.getElem?_eq_getElem h)
theorem atI_int {α : Type} {xs : List α} {i : Int} (h0 : 0 ≤ i) (h : i < xs.length) : ∃ x, L2.atI xs i = some x ∧ x ∈ xs := by
  obtain ⟨k, rfl⟩ : ∃ k : Nat, i = k := ⟨i.toNat, by omega⟩
  exact ⟨xs[k]'(by omega), atI_of (by omega), List.getElem_mem _⟩
theorem small_lt {i : Int} (h : -(2 ^ 64) < i) (h' : i < 2 ^ 64) : smallI i = true := by
  unfold smallI
  rw [Bool.and_eq_true, decide_eq_true_eq, decide_eq_true_eq]
  exact ⟨h, h'⟩
theorem bnd_of {i : Int} (h : -(2 ^ 62) ≤ i) (h' : i < 2 ^ 62) : bnd i = true := by
  unfold bnd
  rw [Bool.and_eq_true, decide_eq_true_eq, decide_eq_true_eq]
  exact ⟨h, h'⟩
theorem rangeL_nat (k : Nat) : rangeL 0 (k : Int) = (List.range k).map fun i => PyData.int (i : Nat) := by
  unfold rangeL
  simp
theorem line_le {n : Nat} (h : n ≤ 1000000) : n ≤ sizeLine := by rw [sizeLine_eq]; omega
theorem line_lt {n : Nat} (h : n ≤ 1000000) : n < sizeLine := by rw [sizeLine_eq]; omega
end BP

/-! Steps of the small language, as equations. -/
namespace BP
open PySem
variable {C : Nat → List D → Res D} {ρ : Env}
theorem bnd_ok {α β : Type} (a : α) (f : α → Res β) : (Res.ok a).bind f = f a := Eq.trans rfl rfl
theorem ev_k {d : D} : evalE C (.k d) ρ = .ok d := by rw [evalE]
theorem ev_v {i : Nat} : evalE C (.v i) ρ = getV ρ i := by rw [evalE]
theorem ev_b {i : Nat} : evalE C (.b i) ρ = getB ρ i := by rw [evalE]
theorem gv_val {i : Nat} {d : D} (h : ρ[i]? = some (.val d)) : getV ρ i = .ok d := by unfold getV; rw [h]
theorem gb_val {i : Nat} {d : D} (h : ρ[i]? = some (.val d)) : getB ρ i = .ok d := by unfold getB; rw [h]
theorem gb_own {i : Nat} {d : D} (h : ρ[i]? = some (.own d)) : getB ρ i = .ok d := by unfold getB; rw [h]
def mkT (ds : List D) : Res D := if ds.length ≤ sizeLine then .ok (.tuple ds) else .bad
def mkL (ds : List D) : Res D := if ds.length ≤ sizeLine then .ok (.list ds) else .bad
theorem mkT_ok {ds : List D} (h : ds.length ≤ 1000000) : mkT ds = .ok (.tuple ds) := by unfold mkT; rw [if_pos (line_le h)]
theorem mkL_ok {ds : List D} (h : ds.length ≤ 1000000) : mkL ds = .ok (.list ds) := by unfold mkL; rw [if_pos (line_le h)]
theorem mkL_nil : mkL [] = .ok (.list []) := mkL_ok (Nat.zero_le _)
theorem mkT_nil : mkT [] = .ok (.tuple []) := mkT_ok (Nat.zero_le _)
theorem mkT_1 {a : D} : mkT [a] = .ok (.tuple [a]) := mkT_ok (by rw [List.length_cons, List.length_nil]; omega)
theorem mkT_2 {a b : D} : mkT [a, b] = .ok (.tuple [a, b]) := mkT_ok (by simp only [List.length_cons, List.length_nil]; omega)
theorem mkT_3 {a b c : D} : mkT [a, b, c] = .ok (.tuple [a, b, c]) := mkT_ok (by simp only [List.length_cons, List.length_nil]; omega)
theorem mkT_4 {a b c d : D} : mkT [a, b, c, d] = .ok (.tuple [a, b, c, d]) := mkT_ok (by simp only [List.length_cons, List.length_nil]; omega)
theorem mkL_6 {a b c d e f : D} : mkL [a, b, c, d, e, f] = .ok (.list [a, b, c, d, e, f]) := mkL_ok (by simp only [List.length_cons, List.length_nil]; omega)
theorem ev_tup {es : List Ex} : evalE C (.tup es) ρ = (evalEs C es ρ).bind mkT := by rw [evalE]; rfl
theorem ev_lst {es : List Ex} : evalE C (.lst es) ρ = (evalEs C es ρ).bind mkL := by rw [evalE]; rfl
theorem ev_bin {o : Bop} {x y : Ex} : evalE C (.bin o x y) ρ = (evalE C x ρ).bind fun a => (evalE C y ρ).bind fun b => evalBin o a b := by rw [evalE]
theorem ev_cmp {o : Cop} {x y : Ex} : evalE C (.cmp o x y) ρ = (evalE C x ρ).bind fun a => (evalE C y ρ).bind fun b => evalCmp o a b := by rw [evalE]
theorem ev_chain {o o' : Cop} {x y z : Ex} : evalE C (.chain o o' x y z) ρ = (evalE C x ρ).bind fun a => (evalE C y ρ).bind fun b => (evalCmp o a b).bind fun r => (asBool r).bind fun t =>
    if t = true then (evalE C z ρ).bind fun c => evalCmp o' b c else .ok (.bool false) := by rw [evalE]
theorem ev_neg1 {i : Int} : evalE C (.neg (.k (.int i))) ρ = .ok (.int (-i)) := by rw [evalE, evalE]; rfl
theorem ev_not {x : Ex} : evalE C (.not x) ρ = (evalE C x ρ).bind fun a => (asBool a).bind fun t => .ok (.bool (!t)) := by rw [evalE]
theorem ev_and {x y : Ex} : evalE C (.and x y) ρ = (evalE C x ρ).bind fun a => (asBool a).bind fun t => if t = true then evalE C y ρ else .ok (.bool false) := by rw [evalE]
theorem ev_or {x y : Ex} : evalE C (.or x y) ρ = (evalE C x ρ).bind fun a => (asBool a).bind fun t => if t = true then .ok (.bool true) else evalE C y ρ := by rw [evalE]
theorem ev_ife {c x y : Ex} : evalE C (.ife c x y) ρ = (evalE C c ρ).bind fun a => (asBool a).bind fun t => if t = true then evalE C x ρ else evalE C y ρ := by rw [evalE]
theorem ev_call {f : Nat} {es : List Ex} : evalE C (.call f es) ρ = (evalEs C es ρ).bind fun ds => C f ds := by rw [evalE]
theorem ev_bt {f : Bt} {es : List Ex} : evalE C (.bt f es) ρ = (evalEs C es ρ).bind fun ds => evalBt f ds := by rw [evalE]
theorem ev_ix {x i : Ex} : evalE C (.ix x i) ρ = (evalE C x ρ).bind fun a => (evalE C i ρ).bind fun b => evalIx a b := by rw [evalE]
theorem ev_sl {x : Ex} {lo hi : List Ex} : evalE C (.sl x lo hi) ρ = (evalE C x ρ).bind fun a => ((evalEs C lo ρ).bind partL).bind fun l => ((evalEs C hi ρ).bind partL).bind fun h => evalSl a l h := by rw [evalE]
theorem ev_rev {x : Ex} : evalE C (.rev x) ρ = (evalE C x ρ).bind evalRev := by rw [evalE]
theorem ev_dict0 : evalE C .dict0 ρ = .ok (.dict []) := by rw [evalE]
theorem evs_nil : evalEs C [] ρ = .ok [] := by rw [evalEs]
theorem evs_cons {e : Ex} {es : List Ex} : evalEs C (e :: es) ρ = (evalE C e ρ).bind fun d => (evalEs C es ρ).bind fun ds => .ok (d :: ds) := by rw [evalEs]
theorem eva_nil : evalAll C [] ρ = .ok true := by rw [evalAll]
theorem eva_cons {e : Ex} {es : List Ex} : evalAll C (e :: es) ρ = (evalE C e ρ).bind fun d => (asBool d).bind fun t => if t = true then evalAll C es ρ else .ok false := by rw [evalAll]
theorem asB {b : Bool} : asBool (.bool b) = .ok b := Eq.trans rfl rfl
theorem pl_nil : partL [] = .ok none := Eq.trans rfl rfl
theorem pl_int {i : Int} : partL [.int i] = .ok (some i) := Eq.trans rfl rfl
theorem sl_t {xs : List D} {l h : Option Int} : evalSl (.tuple xs) l h = .ok (.tuple (cutD xs l h)) := Eq.trans rfl rfl
theorem sl_l {xs : List D} {l h : Option Int} : evalSl (.list xs) l h = .ok (.list (cutD xs l h)) := Eq.trans rfl rfl
theorem rv_t {xs : List D} : evalRev (.tuple xs) = .ok (.tuple xs.reverse) := Eq.trans rfl rfl
theorem rv_l {xs : List D} : evalRev (.list xs) = .ok (.list xs.reverse) := Eq.trans rfl rfl
theorem b_add {i j : Int} : evalBin .add (.int i) (.int j) = .ok (.int (i + j)) := Eq.trans rfl rfl
theorem b_sub {i j : Int} : evalBin .sub (.int i) (.int j) = .ok (.int (i - j)) := Eq.trans rfl rfl
theorem b_mul {i j : Int} (h : smallI i = true ∨ smallI j = true) : evalBin .mul (.int i) (.int j) = .ok (.int (i * j)) := by
  simp only [evalBin, Bool.or_eq_true]
  rw [if_pos h]
theorem b_fdiv {i j : Int} (h : 0 < j) (h' : j < 1073741824) : evalBin .fdiv (.int i) (.int j) = .ok (.int (i / j)) := by
  simp only [evalBin]
  rw [if_pos ⟨h, h'⟩]
theorem b_mod {i j : Int} (h : 0 < j) : evalBin .mod (.int i) (.int j) = .ok (.int (i % j)) := by
  simp only [evalBin]
  rw [if_pos h]
theorem b_catT {xs ys : List D} (h : xs.length + ys.length ≤ 1000000) : evalBin .add (.tuple xs) (.tuple ys) = .ok (.tuple (xs ++ ys)) := by
  simp only [evalBin]
  rw [if_pos (line_le h)]
theorem b_catL {xs ys : List D} (h : xs.length + ys.length ≤ 1000000) : evalBin .add (.list xs) (.list ys) = .ok (.list (xs ++ ys)) := by
  simp only [evalBin]
  rw [if_pos (line_le h)]
theorem b_mulT {xs : List D} {k : Int} (h : -(2 ^ 63) ≤ k ∧ k ≤ 1000 ∧ xs.length ≤ 1000) : evalBin .mul (.tuple xs) (.int k) = .ok (.tuple (repL k xs)) := by
  simp only [evalBin]
  rw [if_pos h]
theorem b_mulL {xs : List D} {k : Int} (h : -(2 ^ 63) ≤ k ∧ k ≤ 1000 ∧ xs.length ≤ 1000) : evalBin .mul (.list xs) (.int k) = .ok (.list (repL k xs)) := by
  simp only [evalBin]
  rw [if_pos h]
theorem c_eq {x y : D} (h : SeqAt.shaped x = true) (h' : SeqAt.shaped y = true) : evalCmp .eq x y = .ok (.bool (PyData.eqv x y)) := by
  have e : evalCmp .eq x y = if SeqAt.shaped x = true ∧ SeqAt.shaped y = true then .ok (.bool (PyData.eqv x y)) else .bad := by cases x <;> rfl
  rw [e, if_pos ⟨h, h'⟩]
theorem c_ne {x y : D} (h : SeqAt.shaped x = true) (h' : SeqAt.shaped y = true) : evalCmp .ne x y = .ok (.bool (!PyData.eqv x y)) := by
  have e : evalCmp .ne x y = if SeqAt.shaped x = true ∧ SeqAt.shaped y = true then .ok (.bool (!PyData.eqv x y)) else .bad := by cases x <;> rfl
  rw [e, if_pos ⟨h, h'⟩]
theorem c_lt {i j : Int} : evalCmp .lt (.int i) (.int j) = .ok (.bool (decide (i < j))) := Eq.trans rfl rfl
theorem c_le {i j : Int} : evalCmp .le (.int i) (.int j) = .ok (.bool (decide (i ≤ j))) := Eq.trans rfl rfl
theorem c_gt {i j : Int} : evalCmp .gt (.int i) (.int j) = .ok (.bool (decide (j < i))) := Eq.trans rfl rfl
theorem c_ge {i j : Int} : evalCmp .ge (.int i) (.int j) = .ok (.bool (decide (j ≤ i))) := Eq.trans rfl rfl
theorem c_eqI {i j : Int} : evalCmp .eq (.int i) (.int j) = .ok (.bool (decide (i = j))) := by
  rw [c_eq (shaped_int i) (shaped_int j)]
  simp only [PyData.eqv]
  congr 2
theorem c_neI {i j : Int} : evalCmp .ne (.int i) (.int j) = .ok (.bool (!decide (i = j))) := by
  rw [c_ne (shaped_int i) (shaped_int j)]
  simp only [PyData.eqv]
  congr 2
theorem c_neB {i j : Bool} : evalCmp .ne (.bool i) (.bool j) = .ok (.bool (i != j)) := by
  rw [c_ne (shaped_bool i) (shaped_bool j)]
  simp only [PyData.eqv]
  rfl
theorem c_isN {x : D} : evalCmp .isN x .none = .ok (.bool (isNoneD x)) := by cases x <;> rfl
theorem c_notN {x : D} : evalCmp .notN x .none = .ok (.bool (!isNoneD x)) := by cases x <;> rfl
theorem c_isB {x y : Bool} : evalCmp .isB (.bool x) (.bool y) = .ok (.bool (decide (x = y))) := Eq.trans rfl rfl
theorem c_notB {x y : Bool} : evalCmp .notB (.bool x) (.bool y) = .ok (.bool (!decide (x = y))) := Eq.trans rfl rfl
theorem t_len {xs : List D} : evalBt .len [.tuple xs] = .ok (.int xs.length) := Eq.trans rfl rfl
theorem t_lenL {xs : List D} : evalBt .len [.list xs] = .ok (.int xs.length) := Eq.trans rfl rfl
theorem t_tup {xs : List D} : evalBt .tuple [.list xs] = .ok (.tuple xs) := Eq.trans rfl rfl
theorem t_tupT {xs : List D} : evalBt .tuple [.tuple xs] = .ok (.tuple xs) := Eq.trans rfl rfl
theorem t_lst {xs : List D} : evalBt .list [.tuple xs] = .ok (.list xs) := Eq.trans rfl rfl
theorem t_lstL {xs : List D} : evalBt .list [.list xs] = .ok (.list xs) := Eq.trans rfl rfl
theorem t_sum {d : D} : evalBt .sum [d] = sumD d := Eq.trans rfl rfl
theorem t_all {d : D} : evalBt .all [d] = allD d := Eq.trans rfl rfl
theorem t_any {d : D} : evalBt .any [d] = anyD d := Eq.trans rfl rfl
theorem t_sorted {d : D} : evalBt .sorted [d] = sortedD d := Eq.trans rfl rfl
theorem t_isT {d : D} : evalBt .isTuple [d] = .ok (.bool (isTupleD d)) := Eq.trans rfl rfl
theorem t_isI {d : D} : evalBt .isInt [d] = .ok (.bool (isIntD d)) := Eq.trans rfl rfl
theorem t_isB {d : D} : evalBt .isBool [d] = .ok (.bool (isBoolD d)) := Eq.trans rfl rfl
theorem t_isS {d : D} : evalBt .isStr [d] = .ok (.bool (isStrD d)) := Eq.trans rfl rfl
theorem t_max {i j : Int} : evalBt .max2 [.int i, .int j] = .ok (.int (if j > i then j else i)) := Eq.trans rfl rfl
theorem t_min {i j : Int} : evalBt .min2 [.int i, .int j] = .ok (.int (if j < i then j else i)) := Eq.trans rfl rfl
theorem t_int {i : Int} : evalBt .toInt [.int i] = .ok (.int i) := Eq.trans rfl rfl
theorem t_intB {b : Bool} : evalBt .toInt [.bool b] = .ok (.int (if b then 1 else 0)) := Eq.trans rfl rfl
theorem t_lr1 {j : Int} (h : 0 ≤ j) (h' : j ≤ 1000000) : evalBt .listRange1 [.int j] = .ok (.list (rangeL 0 j)) := by
  show (if rgOk 0 j = true then _ else _) = _
  rw [if_pos]
  unfold rgOk
  rw [bnd_of (by omega) (by omega), bnd_of (by omega) (by omega), Bool.true_and, Bool.true_and, decide_eq_true_eq]
  omega
theorem t_lr2 {i j : Int} (h : -1000000 ≤ i) (h' : j ≤ 1000000) (h2 : i ≤ 1000000) (h3 : -1000000 ≤ j) : evalBt .listRange2 [.int i, .int j] = .ok (.list (rangeL i j)) := by
  show (if rgOk i j = true then _ else _) = _
  rw [if_pos]
  unfold rgOk
  rw [bnd_of (by omega) (by omega), bnd_of (by omega) (by omega), Bool.true_and, Bool.true_and, decide_eq_true_eq]
  omega
theorem ixT {xs : List D} {i : Int} {d : D} (h : L2.atI xs i = some d) : evalIx (.tuple xs) (.int i) = .ok d := by
  simp only [evalIx, h]
theorem ixL {xs : List D} {i : Int} {d : D} (h : L2.atI xs i = some d) : evalIx (.list xs) (.int i) = .ok d := by
  simp only [evalIx, h]
theorem s_seqT {xs : List D} : evalSrc .seq [.tuple xs] = .ok xs := Eq.trans rfl rfl
theorem s_seqL {xs : List D} : evalSrc .seq [.list xs] = .ok xs := Eq.trans rfl rfl
theorem s_rg1 {j : Int} (h : -1000000 ≤ j) (h' : j ≤ 1000000) : evalSrc .range1 [.int j] = .ok (rangeL 0 j) := by
  show (if bnd j = true then _ else _) = _
  rw [if_pos (bnd_of (by omega) (by omega))]
theorem s_rg2 {i j : Int} (h : -1000000 ≤ j) (h' : j ≤ 1000000) (h2 : -1000000 ≤ i) (h3 : i ≤ 1000000) : evalSrc .range2 [.int i, .int j] = .ok (rangeL i j) := by
  show (if bnd i = true ∧ bnd j = true then _ else _) = _
  rw [if_pos ⟨bnd_of (by omega) (by omega), bnd_of (by omega) (by omega)⟩]
theorem s_enT {xs : List D} : evalSrc .enum [.tuple xs] = .ok (enumD 0 xs) := Eq.trans rfl rfl
theorem s_enL {xs : List D} : evalSrc .enum [.list xs] = .ok (enumD 0 xs) := Eq.trans rfl rfl
theorem s_zipT {xs ys : List D} : evalSrc .zip2 [.tuple xs, .tuple ys] = .ok (zip2D xs ys) := Eq.trans rfl rfl
/-! statements -/
theorem ss_nil : evalSs C [] ρ = .nx ρ := by rw [evalSs]
theorem ss_cons {s : Stm} {ss : List Stm} : evalSs C (s :: ss) ρ = (evalS C s ρ).next fun ρ' => evalSs C ss ρ' := by rw [evalSs]
theorem nx_nx {f : Env → Fl} : (Fl.nx ρ).next f = f ρ := Eq.trans rfl rfl
theorem nx_rt {f : Env → Fl} {d : D} : (Fl.rt d).next f = .rt d := Eq.trans rfl rfl
theorem nx_ex {f : Env → Fl} {c : Nat} : (Fl.ex c).next f = .ex c := Eq.trans rfl rfl
theorem fl_ok {α : Type} {f : α → Fl} {a : α} : (Res.ok a).fl f = f a := Eq.trans rfl rfl
def ownS (d : D) : Slot := if ownD d = true then .own d else .val d
theorem ownS_i {i : Int} : ownS (.int i) = .val (.int i) := Eq.trans rfl rfl
theorem ownS_t {i : List D} : ownS (.tuple i) = .val (.tuple i) := Eq.trans rfl rfl
theorem ownS_l {i : List D} : ownS (.list i) = .own (.list i) := Eq.trans rfl rfl
theorem ownS_b {i : Bool} : ownS (.bool i) = .val (.bool i) := Eq.trans rfl rfl
theorem ownS_s {i : Str} : ownS (.str i) = .val (.str i) := Eq.trans rfl rfl
theorem ownS_n : ownS .none = .val .none := Eq.trans rfl rfl
theorem ownS_d {i : List (D × D)} : ownS (.dict i) = .own (.dict i) := Eq.trans rfl rfl
theorem s_fz {is : List Nat} : evalS C (.fz is) ρ = .nx (freezes ρ is) := by rw [evalS]
theorem s_set {i : Nat} {e : Ex} : evalS C (.set (.n i) e) ρ = (evalE C e ρ).fl fun d => .nx (ρ.set i (.val d)) := by rw [evalS]; rfl
theorem s_setT {is : List Nat} {e : Ex} : evalS C (.set (.t is) e) ρ = (evalE C e ρ).fl fun d => optFl (bindT ρ (.t is) d) .nx := by rw [evalS]
theorem s_own {i : Nat} {e : Ex} : evalS C (.own i e) ρ = (evalE C e ρ).fl fun d => .nx (ρ.set i (ownS d)) := by
  rw [evalS]
  congr 1
  funext d
  unfold ownS
  split <;> rfl
theorem s_ite {c : Ex} {a b : List Stm} : evalS C (.ite c a b) ρ = ((evalE C c ρ).bind asBool).fl fun t => if t = true then evalSs C a ρ else evalSs C b ρ := by rw [evalS]
theorem s_ret {e : Ex} : evalS C (.ret e) ρ = (evalE C e ρ).fl .rt := by rw [evalS]
theorem s_loop {t : Tg} {sk : Sk} {src : List Ex} {body : List Stm} : evalS C (.loop t sk src body) ρ = ((evalEs C src ρ).bind (evalSrc sk)).fl fun items => loopL (fun ρ d => optFl (bindT ρ t d) fun ρ' => evalSs C body ρ') items ρ := by rw [evalS]
theorem s_while {c : Ex} {body : List Stm} : evalS C (.while c body) ρ = whileL (evalE C c) (evalSs C body) whileTurns ρ := by rw [evalS]
def resF : Fl → Res D
  | .rt d => .ok d
  | .nx _ => .ok .none
  | .ex c => .exc c
  | .bad => .bad
theorem resF_rt {d : D} : resF (.rt d) = .ok d := Eq.trans rfl rfl
theorem call_eq {T : Nat → Option Fn} {n f : Nat} {fn : Fn} {ds : List D} (h : T f = some fn) (hl : ds.length = fn.np) : callF T (n + 1) f ds = resF (evalSs (callF T n) fn.body (startR fn ds)) := by
  rw [callF, h]
  show runFn _ fn ds = _
  unfold runFn
  rw [if_pos hl]
  cases evalSs (callF T n) fn.body (startR fn ds) <;> rfl
theorem bindT_n {i : Nat} {d : D} : bindT ρ (.n i) d = some (ρ.set i (.val d)) := Eq.trans rfl rfl
theorem bindT_2 {i j : Nat} {a b : D} : bindT ρ (.t [i, j]) (.tuple [a, b]) = some ((ρ.set i (.val a)).set j (.val b)) := Eq.trans rfl rfl
theorem bindT_2l {i j : Nat} {a b : D} : bindT ρ (.t [i, j]) (.list [a, b]) = some ((ρ.set i (.val a)).set j (.val b)) := Eq.trans rfl rfl
theorem bindT_3 {i j k : Nat} {a b c : D} : bindT ρ (.t [i, j, k]) (.tuple [a, b, c]) = some (((ρ.set i (.val a)).set j (.val b)).set k (.val c)) := Eq.trans rfl rfl
theorem optFl_some {α : Type} {a : α} {f : α → Fl} : optFl (some a) f = f a := Eq.trans rfl rfl
theorem turn_eq {e : Ex} {own : List Nat} {t : Tg} {conds : List Ex} {d : D} {ρ' : Env} (h : bindT (wipeR ρ own) t d = some ρ') :
    turnX C e own t conds ρ d = (evalAll C conds ρ').bind fun ok => if ok = true then (evalE C e ρ').bind fun y => .ok (some y) else .ok none := by
  unfold turnX
  rw [h]
theorem loop_nil {turn : Env → D → Fl} : loopL turn [] ρ = .nx ρ := Eq.trans rfl rfl
theorem loop_cons {turn : Env → D → Fl} {x : D} {xs : List D} : loopL turn (x :: xs) ρ = (turn ρ x).next fun ρ' => loopL turn xs ρ' := Eq.trans rfl rfl
def slotB : Option Slot → Res D
  | some (.val d) => .ok d
  | some (.own d) => .ok d
  | _ => .bad
def slotV : Option Slot → Res D
  | some (.val d) => .ok d
  | _ => .bad
theorem gb_eq {i : Nat} : getB ρ i = slotB ρ[i]? := by unfold getB slotB; split <;> simp_all
theorem gv_eq {i : Nat} : getV ρ i = slotV ρ[i]? := by unfold getV slotV; split <;> simp_all
theorem slb_v {d : D} : slotB (some (.val d)) = .ok d := Eq.trans rfl rfl
theorem slb_o {d : D} : slotB (some (.own d)) = .ok d := Eq.trans rfl rfl
theorem slv_v {d : D} : slotV (some (.val d)) = .ok d := Eq.trans rfl rfl
theorem frz_cons {i : Nat} {is : List Nat} : freezes ρ (i :: is) = freezes (freeze ρ i) is := Eq.trans rfl rfl
theorem frz_nil : freezes ρ [] = ρ := Eq.trans rfl rfl
theorem wipe_cons {i : Nat} {is : List Nat} : wipeR ρ (i :: is) = (wipeR ρ is).set i .non := Eq.trans rfl rfl
theorem wipe_nil : wipeR ρ [] = ρ := Eq.trans rfl rfl
end BP

namespace BP
open PySem
def wholeB (lo hi : Int) (d : D) : Bool := match d with
  | .int i => decide (lo ≤ i) && decide (i ≤ hi)
  | _ => false
theorem m_is_whole (n : Nat) (d : D) (lo hi : Int) : callF T0 (n + 1) 0 [d, .int lo, .int hi] = .ok (.bool (wholeB lo hi d)) := by
  rw [call_eq (fn := F_is_whole) rfl rfl]
  cases d <;> simp [F_is_whole, isIntD, isBoolD, wholeB, startR, ev_k, ev_v, ev_b, gb_eq, gv_eq, slb_v, slb_o, slv_v, ev_tup, ev_lst, ev_bin, ev_cmp, ev_chain, ev_neg1, ev_not, ev_and, ev_or, ev_ife, ev_call, ev_bt, ev_ix, ev_sl, ev_rev, ev_dict0, evs_nil, evs_cons, eva_nil, eva_cons, bnd_ok, asB, pl_nil, pl_int, sl_t, sl_l, rv_t, rv_l, b_add, b_sub, b_fdiv, b_mod, c_lt, c_le, c_gt, c_ge, c_eqI, c_neI, c_neB, c_isN, c_notN, c_isB, c_notB, t_len, t_lenL, t_tup, t_tupT, t_lst, t_lstL, t_sum, t_all, t_any, t_sorted, t_isT, t_isI, t_isB, t_isS, t_max, t_min, t_int, t_intB, s_seqT, s_seqL, s_enT, s_enL, s_zipT, ss_nil, ss_cons, nx_nx, nx_rt, nx_ex, fl_ok, ownS_i, ownS_t, ownS_l, ownS_b, ownS_s, ownS_n, ownS_d, s_fz, s_set, s_setT, s_own, s_ite, s_ret, resF_rt, bindT_n, bindT_2, bindT_2l, bindT_3, optFl_some, frz_cons, frz_nil, wipe_cons, wipe_nil, mkT_nil, mkL_nil, mkT_1, mkT_2, mkT_3, mkT_4, mkL_6, List.getElem?_cons_zero, List.getElem?_cons_succ, List.set_cons_zero, List.set_cons_succ, List.map_cons, List.map_nil, List.cons_append, List.nil_append, List.replicate_succ, List.replicate_zero, List.length_cons, List.length_nil]
  rename_i i
  by_cases h : lo ≤ i <;> simp [h, startR, ev_k, ev_v, ev_b, gb_eq, gv_eq, slb_v, slb_o, slv_v, ev_tup, ev_lst, ev_bin, ev_cmp, ev_chain, ev_neg1, ev_not, ev_and, ev_or, ev_ife, ev_call, ev_bt, ev_ix, ev_sl, ev_rev, ev_dict0, evs_nil, evs_cons, eva_nil, eva_cons, bnd_ok, asB, pl_nil, pl_int, sl_t, sl_l, rv_t, rv_l, b_add, b_sub, b_fdiv, b_mod, c_lt, c_le, c_gt, c_ge, c_eqI, c_neI, c_neB, c_isN, c_notN, c_isB, c_notB, t_len, t_lenL, t_tup, t_tupT, t_lst, t_lstL, t_sum, t_all, t_any, t_sorted, t_isT, t_isI, t_isB, t_isS, t_max, t_min, t_int, t_intB, s_seqT, s_seqL, s_enT, s_enL, s_zipT, ss_nil, ss_cons, nx_nx, nx_rt, nx_ex, fl_ok, ownS_i, ownS_t, ownS_l, ownS_b, ownS_s, ownS_n, ownS_d, s_fz, s_set, s_setT, s_own, s_ite, s_ret, resF_rt, bindT_n, bindT_2, bindT_2l, bindT_3, optFl_some, frz_cons, frz_nil, wipe_cons, wipe_nil, mkT_nil, mkL_nil, mkT_1, mkT_2, mkT_3, mkT_4, mkL_6, List.getElem?_cons_zero, List.getElem?_cons_succ, List.set_cons_zero, List.set_cons_succ, List.map_cons, List.map_nil, List.cons_append, List.nil_append, List.replicate_succ, List.replicate_zero, List.length_cons, List.length_nil]
theorem whole_ints {lo hi : Int} : ∀ {xs : List D}, xs.all (wholeB lo hi) = true → ∃ ns : List Int, xs = ns.map PyData.int ∧ ∀ n ∈ ns, lo ≤ n ∧ n ≤ hi
  | [], _ => ⟨[], rfl, by simp⟩
  | x :: xs, h => by
    rw [List.all_cons, Bool.and_eq_true] at h
    obtain ⟨ns, rfl, hn⟩ := whole_ints h.2
    cases x with
    | int i =>
      refine ⟨i :: ns, rfl, fun n hm => ?_⟩
      rcases List.mem_cons.mp hm with rfl | hm
      · have := h.1
        simp only [wholeB, Bool.and_eq_true, decide_eq_true_eq] at this
        exact this
      · exact hn n hm
    | _ => cases h.1
/-! ### rows that fall, rise -/
def fallB (ns : List Int) : Bool := (adj ns).all fun p => decide (p.2 ≤ p.1)
def riseB (ns : List Int) : Bool := (adj ns).all fun p => decide (p.1 ≤ p.2)
theorem len_adj {α : Type} (xs : List α) : (adj xs).length ≤ xs.length := by rw [← zip_adj]; simp <;> omega
theorem m_falling (n : Nat) (ns : List Int) (hl : ns.length ≤ 1000) : callF T0 (n + 1) 1 [tpI ns] = .ok (.bool (fallB ns)) := by
  have hc : evalE (callF T0 n) (.comp (.cmp .ge (.b 1) (.b 2)) [1, 2] (.t [1, 2]) .zip2 [(.sl (.b 0) [] [(.neg (.k (.int 1)))]), (.sl (.b 0) [(.k (.int 1))] [])] []) [.val (tpI ns), .non, .non] =
      .ok (.list ((adj ns).map fun p => .bool (decide (p.2 ≤ p.1)))) := by
    refine ev_comp (items := (adj ns).map fun p => .tuple [.int p.1, .int p.2]) ?_ ?_ ?_
    · simp [startR, ev_k, ev_v, ev_b, gb_eq, gv_eq, slb_v, slb_o, slv_v, ev_tup, ev_lst, ev_bin, ev_cmp, ev_chain, ev_neg1, ev_not, ev_and, ev_or, ev_ife, ev_call, ev_bt, ev_ix, ev_sl, ev_rev, ev_dict0, evs_nil, evs_cons, eva_nil, eva_cons, bnd_ok, asB, pl_nil, pl_int, sl_t, sl_l, rv_t, rv_l, b_add, b_sub, b_fdiv, b_mod, c_lt, c_le, c_gt, c_ge, c_eqI, c_neI, c_neB, c_isN, c_notN, c_isB, c_notB, t_len, t_lenL, t_tup, t_tupT, t_lst, t_lstL, t_sum, t_all, t_any, t_sorted, t_isT, t_isI, t_isB, t_isS, t_max, t_min, t_int, t_intB, s_seqT, s_seqL, s_enT, s_enL, s_zipT, ss_nil, ss_cons, nx_nx, nx_rt, nx_ex, fl_ok, ownS_i, ownS_t, ownS_l, ownS_b, ownS_s, ownS_n, ownS_d, s_fz, s_set, s_setT, s_own, s_ite, s_ret, resF_rt, bindT_n, bindT_2, bindT_2l, bindT_3, optFl_some, frz_cons, frz_nil, wipe_cons, wipe_nil, mkT_nil, mkL_nil, mkT_1, mkT_2, mkT_3, mkT_4, mkL_6, List.getElem?_cons_zero, List.getElem?_cons_succ, List.set_cons_zero, List.set_cons_succ, List.map_cons, List.map_nil, List.cons_append, List.nil_append, List.replicate_succ, List.replicate_zero, List.length_cons, List.length_nil]
      rw [cut_init, cut_tail, ← List.map_dropLast, ← List.map_drop, zip2D_map, zip_adj]
    · rw [List.length_map]; have := len_adj ns; omega
    · refine (compL_map (f := fun d => match d with | .tuple [.int a, .int b] => .bool (decide (b ≤ a)) | _ => .none) ?_).trans ?_
      · intro x hx
        obtain ⟨p, _, rfl⟩ := List.mem_map.mp hx
        rw [turn_eq bindT_2]
        simp [startR, ev_k, ev_v, ev_b, gb_eq, gv_eq, slb_v, slb_o, slv_v, ev_tup, ev_lst, ev_bin, ev_cmp, ev_chain, ev_neg1, ev_not, ev_and, ev_or, ev_ife, ev_call, ev_bt, ev_ix, ev_sl, ev_rev, ev_dict0, evs_nil, evs_cons, eva_nil, eva_cons, bnd_ok, asB, pl_nil, pl_int, sl_t, sl_l, rv_t, rv_l, b_add, b_sub, b_fdiv, b_mod, c_lt, c_le, c_gt, c_ge, c_eqI, c_neI, c_neB, c_isN, c_notN, c_isB, c_notB, t_len, t_lenL, t_tup, t_tupT, t_lst, t_lstL, t_sum, t_all, t_any, t_sorted, t_isT, t_isI, t_isB, t_isS, t_max, t_min, t_int, t_intB, s_seqT, s_seqL, s_enT, s_enL, s_zipT, ss_nil, ss_cons, nx_nx, nx_rt, nx_ex, fl_ok, ownS_i, ownS_t, ownS_l, ownS_b, ownS_s, ownS_n, ownS_d, s_fz, s_set, s_setT, s_own, s_ite, s_ret, resF_rt, bindT_n, bindT_2, bindT_2l, bindT_3, optFl_some, frz_cons, frz_nil, wipe_cons, wipe_nil, mkT_nil, mkL_nil, mkT_1, mkT_2, mkT_3, mkT_4, mkL_6, List.getElem?_cons_zero, List.getElem?_cons_succ, List.set_cons_zero, List.set_cons_succ, List.map_cons, List.map_nil, List.cons_append, List.nil_append, List.replicate_succ, List.replicate_zero, List.length_cons, List.length_nil]
      · rw [List.map_map]; rfl
  rw [call_eq (fn := F_is_falling_row) rfl rfl]
  simp [F_is_falling_row, hc, all_map_bool, fallB, startR, ev_k, ev_v, ev_b, gb_eq, gv_eq, slb_v, slb_o, slv_v, ev_tup, ev_lst, ev_bin, ev_cmp, ev_chain, ev_neg1, ev_not, ev_and, ev_or, ev_ife, ev_call, ev_bt, ev_ix, ev_sl, ev_rev, ev_dict0, evs_nil, evs_cons, eva_nil, eva_cons, bnd_ok, asB, pl_nil, pl_int, sl_t, sl_l, rv_t, rv_l, b_add, b_sub, b_fdiv, b_mod, c_lt, c_le, c_gt, c_ge, c_eqI, c_neI, c_neB, c_isN, c_notN, c_isB, c_notB, t_len, t_lenL, t_tup, t_tupT, t_lst, t_lstL, t_sum, t_all, t_any, t_sorted, t_isT, t_isI, t_isB, t_isS, t_max, t_min, t_int, t_intB, s_seqT, s_seqL, s_enT, s_enL, s_zipT, ss_nil, ss_cons, nx_nx, nx_rt, nx_ex, fl_ok, ownS_i, ownS_t, ownS_l, ownS_b, ownS_s, ownS_n, ownS_d, s_fz, s_set, s_setT, s_own, s_ite, s_ret, resF_rt, bindT_n, bindT_2, bindT_2l, bindT_3, optFl_some, frz_cons, frz_nil, wipe_cons, wipe_nil, mkT_nil, mkL_nil, mkT_1, mkT_2, mkT_3, mkT_4, mkL_6, List.getElem?_cons_zero, List.getElem?_cons_succ, List.set_cons_zero, List.set_cons_succ, List.map_cons, List.map_nil, List.cons_append, List.nil_append, List.replicate_succ, List.replicate_zero, List.length_cons, List.length_nil]
/-- one comprehension over the items of a slot, each handed to a def -/
theorem comp_call {C : Nat → List D → Res D} {e : Ex} {ρ : Env} {i j : Nat} {d : D} {xs : List D} {f : D → D} (hρ : ρ[j]? = some (.val d)) (hd : seqS d = .ok xs) (hz : xs.length ≤ 1000000)
    (hf : ∀ x ∈ xs, evalE C e ((ρ.set i .non).set i (.val x)) = .ok (f x)) : evalE C (.comp e [i] (.n i) .seq [.b j] []) ρ = .ok (.list (xs.map f)) := by
  refine ev_comp (items := xs) ?_ hz (compL_map fun x hx => ?_)
  · rw [evs_cons, ev_b, gb_eq, hρ, slb_v, Res.bind_ok, evs_nil, Res.bind_ok, Res.bind_ok]
    exact hd
  · rw [turn_eq bindT_n]
    simp only [wipe_cons, wipe_nil]
    rw [eva_nil, Res.bind_ok, if_pos rfl, hf x hx, Res.bind_ok]
theorem comp_filt {C : Nat → List D → Res D} {e c : Ex} {ρ : Env} {i j : Nat} {d : D} {xs : List D} {f : D → D} {p : D → Bool} (hρ : ρ[j]? = some (.val d)) (hd : seqS d = .ok xs) (hz : xs.length ≤ 1000000)
    (hc : ∀ x ∈ xs, evalE C c ((ρ.set i .non).set i (.val x)) = .ok (.bool (p x))) (hf : ∀ x ∈ xs, p x = true → evalE C e ((ρ.set i .non).set i (.val x)) = .ok (f x)) :
    evalE C (.comp e [i] (.n i) .seq [.b j] [c]) ρ = .ok (.list ((xs.filter p).map f)) := by
  refine ev_comp (items := xs) ?_ hz (compL_filter fun x hx => ?_)
  · rw [evs_cons, ev_b, gb_eq, hρ, slb_v, Res.bind_ok, evs_nil, Res.bind_ok, Res.bind_ok]
    exact hd
  · rw [turn_eq bindT_n]
    simp only [wipe_cons, wipe_nil]
    rw [eva_cons, hc x hx, Res.bind_ok, asB, Res.bind_ok]
    cases hp : p x with
    | false => simp [startR, ev_k, ev_v, ev_b, gb_eq, gv_eq, slb_v, slb_o, slv_v, ev_tup, ev_lst, ev_bin, ev_cmp, ev_chain, ev_neg1, ev_not, ev_and, ev_or, ev_ife, ev_call, ev_bt, ev_ix, ev_sl, ev_rev, ev_dict0, evs_nil, evs_cons, eva_nil, eva_cons, bnd_ok, asB, pl_nil, pl_int, sl_t, sl_l, rv_t, rv_l, b_add, b_sub, b_fdiv, b_mod, c_lt, c_le, c_gt, c_ge, c_eqI, c_neI, c_neB, c_isN, c_notN, c_isB, c_notB, t_len, t_lenL, t_tup, t_tupT, t_lst, t_lstL, t_sum, t_all, t_any, t_sorted, t_isT, t_isI, t_isB, t_isS, t_max, t_min, t_int, t_intB, s_seqT, s_seqL, s_enT, s_enL, s_zipT, ss_nil, ss_cons, nx_nx, nx_rt, nx_ex, fl_ok, ownS_i, ownS_t, ownS_l, ownS_b, ownS_s, ownS_n, ownS_d, s_fz, s_set, s_setT, s_own, s_ite, s_ret, resF_rt, bindT_n, bindT_2, bindT_2l, bindT_3, optFl_some, frz_cons, frz_nil, wipe_cons, wipe_nil, mkT_nil, mkL_nil, mkT_1, mkT_2, mkT_3, mkT_4, mkL_6, List.getElem?_cons_zero, List.getElem?_cons_succ, List.set_cons_zero, List.set_cons_succ, List.map_cons, List.map_nil, List.cons_append, List.nil_append, List.replicate_succ, List.replicate_zero, List.length_cons, List.length_nil]
    | true => rw [if_pos rfl, eva_nil, Res.bind_ok, if_pos rfl, hf x hx hp, Res.bind_ok, if_pos rfl]
/-- a loop that leaves at the first item that fails -/
theorem loop_guard {turn : Env → D → Fl} {P : Env → Prop} {g : D → Bool} {d : D} : ∀ {xs : List D} {ρ : Env}, (∀ ρ x, P ρ → x ∈ xs → (g x = true → ∃ ρ', turn ρ x = .nx ρ' ∧ P ρ') ∧ (g x = false → turn ρ x = .rt d)) → P ρ →
    (xs.all g = true → ∃ ρ', loopL turn xs ρ = .nx ρ' ∧ P ρ') ∧ (xs.all g = false → loopL turn xs ρ = .rt d)
  | [], ρ, _, hp => ⟨fun _ => ⟨ρ, rfl, hp⟩, fun h => (by cases h)⟩
  | x :: xs, ρ, ht, hp => by
    obtain ⟨h1, h2⟩ := ht ρ x hp List.mem_cons_self
    rw [List.all_cons, loop_cons]
    cases hg : g x with
    | false =>
      rw [h2 hg]
      exact ⟨fun h => (by cases h), fun _ => rfl⟩
    | true =>
      obtain ⟨ρ', e, p'⟩ := h1 hg
      rw [e]
      exact loop_guard (fun ρ y hρ hy => ht ρ y hρ (List.mem_cons_of_mem _ hy)) p'
theorem filter_empty {p : D → Bool} (xs : List D) : ((xs.filter p).map id).isEmpty = xs.all fun x => !p x := by
  induction xs with
  | nil => rfl
  | cons x xs ih => cases h : p x <;> simp_all
def shapeB (d : D) : Bool := match d with
  | .tuple xs => xs.all (wholeB 1 12) && (fallB ((intsOf xs).getD []) && decide (((intsOf xs).getD []).sum ≤ 12))
  | _ => false
def Few (d : D) : Prop := ∀ xs, d = .tuple xs → xs.length ≤ 1000
def rowB (d : D) : Bool := match d with
  | .tuple xs => xs.all (wholeB 1 9) && riseB ((intsOf xs).getD [])
  | _ => false
theorem m_is_row (n : Nat) (d : D) (h : Few d) : callF T0 (n + 2) 3 [d] = .ok (.bool (rowB d)) := by
  rw [call_eq (fn := F_is_row) rfl rfl]
  cases d <;> simp [F_is_row, isTupleD, rowB, startR, ev_k, ev_v, ev_b, gb_eq, gv_eq, slb_v, slb_o, slv_v, ev_tup, ev_lst, ev_bin, ev_cmp, ev_chain, ev_neg1, ev_not, ev_and, ev_or, ev_ife, ev_call, ev_bt, ev_ix, ev_sl, ev_rev, ev_dict0, evs_nil, evs_cons, eva_nil, eva_cons, bnd_ok, asB, pl_nil, pl_int, sl_t, sl_l, rv_t, rv_l, b_add, b_sub, b_fdiv, b_mod, c_lt, c_le, c_gt, c_ge, c_eqI, c_neI, c_neB, c_isN, c_notN, c_isB, c_notB, t_len, t_lenL, t_tup, t_tupT, t_lst, t_lstL, t_sum, t_all, t_any, t_sorted, t_isT, t_isI, t_isB, t_isS, t_max, t_min, t_int, t_intB, s_seqT, s_seqL, s_enT, s_enL, s_zipT, ss_nil, ss_cons, nx_nx, nx_rt, nx_ex, fl_ok, ownS_i, ownS_t, ownS_l, ownS_b, ownS_s, ownS_n, ownS_d, s_fz, s_set, s_setT, s_own, s_ite, s_ret, resF_rt, bindT_n, bindT_2, bindT_2l, bindT_3, optFl_some, frz_cons, frz_nil, wipe_cons, wipe_nil, mkT_nil, mkL_nil, mkT_1, mkT_2, mkT_3, mkT_4, mkL_6, List.getElem?_cons_zero, List.getElem?_cons_succ, List.set_cons_zero, List.set_cons_succ, List.map_cons, List.map_nil, List.cons_append, List.nil_append, List.replicate_succ, List.replicate_zero, List.length_cons, List.length_nil]
  rename_i xs
  have hl := h xs rfl
  have hc : evalE (callF T0 (n + 1)) (.comp (.call 0 [(.v 1), (.k (.int 1)), (.k (.int 9))]) [1] (.n 1) .seq [(.b 0)] []) [.val (.tuple xs), .non, .non, .non] = .ok (.list (xs.map fun x => .bool (wholeB 1 9 x))) :=
    comp_call rfl rfl (by omega) fun x _ => by simp [m_is_whole, startR, ev_k, ev_v, ev_b, gb_eq, gv_eq, slb_v, slb_o, slv_v, ev_tup, ev_lst, ev_bin, ev_cmp, ev_chain, ev_neg1, ev_not, ev_and, ev_or, ev_ife, ev_call, ev_bt, ev_ix, ev_sl, ev_rev, ev_dict0, evs_nil, evs_cons, eva_nil, eva_cons, bnd_ok, asB, pl_nil, pl_int, sl_t, sl_l, rv_t, rv_l, b_add, b_sub, b_fdiv, b_mod, c_lt, c_le, c_gt, c_ge, c_eqI, c_neI, c_neB, c_isN, c_notN, c_isB, c_notB, t_len, t_lenL, t_tup, t_tupT, t_lst, t_lstL, t_sum, t_all, t_any, t_sorted, t_isT, t_isI, t_isB, t_isS, t_max, t_min, t_int, t_intB, s_seqT, s_seqL, s_enT, s_enL, s_zipT, ss_nil, ss_cons, nx_nx, nx_rt, nx_ex, fl_ok, ownS_i, ownS_t, ownS_l, ownS_b, ownS_s, ownS_n, ownS_d, s_fz, s_set, s_setT, s_own, s_ite, s_ret, resF_rt, bindT_n, bindT_2, bindT_2l, bindT_3, optFl_some, frz_cons, frz_nil, wipe_cons, wipe_nil, mkT_nil, mkL_nil, mkT_1, mkT_2, mkT_3, mkT_4, mkL_6, List.getElem?_cons_zero, List.getElem?_cons_succ, List.set_cons_zero, List.set_cons_succ, List.map_cons, List.map_nil, List.cons_append, List.nil_append, List.replicate_succ, List.replicate_zero, List.length_cons, List.length_nil]
  simp only [hc, Res.bind_ok, t_all, all_map_bool, asB]
  cases ha : xs.all (wholeB 1 9) with
  | false => simp [startR, ev_k, ev_v, ev_b, gb_eq, gv_eq, slb_v, slb_o, slv_v, ev_tup, ev_lst, ev_bin, ev_cmp, ev_chain, ev_neg1, ev_not, ev_and, ev_or, ev_ife, ev_call, ev_bt, ev_ix, ev_sl, ev_rev, ev_dict0, evs_nil, evs_cons, eva_nil, eva_cons, bnd_ok, asB, pl_nil, pl_int, sl_t, sl_l, rv_t, rv_l, b_add, b_sub, b_fdiv, b_mod, c_lt, c_le, c_gt, c_ge, c_eqI, c_neI, c_neB, c_isN, c_notN, c_isB, c_notB, t_len, t_lenL, t_tup, t_tupT, t_lst, t_lstL, t_sum, t_all, t_any, t_sorted, t_isT, t_isI, t_isB, t_isS, t_max, t_min, t_int, t_intB, s_seqT, s_seqL, s_enT, s_enL, s_zipT, ss_nil, ss_cons, nx_nx, nx_rt, nx_ex, fl_ok, ownS_i, ownS_t, ownS_l, ownS_b, ownS_s, ownS_n, ownS_d, s_fz, s_set, s_setT, s_own, s_ite, s_ret, resF_rt, bindT_n, bindT_2, bindT_2l, bindT_3, optFl_some, frz_cons, frz_nil, wipe_cons, wipe_nil, mkT_nil, mkL_nil, mkT_1, mkT_2, mkT_3, mkT_4, mkL_6, List.getElem?_cons_zero, List.getElem?_cons_succ, List.set_cons_zero, List.set_cons_succ, List.map_cons, List.map_nil, List.cons_append, List.nil_append, List.replicate_succ, List.replicate_zero, List.length_cons, List.length_nil]
  | true =>
    obtain ⟨ns, rfl, hn⟩ := whole_ints ha
    rw [List.length_map] at hl
    have hc : evalE (callF T0 (n + 1)) (.comp (.cmp .le (.b 2) (.b 3)) [2, 3] (.t [2, 3]) .zip2 [(.sl (.b 0) [] [(.neg (.k (.int 1)))]), (.sl (.b 0) [(.k (.int 1))] [])] []) [.val (tpI ns), .non, .non, .non] =
        .ok (.list ((adj ns).map fun p => .bool (decide (p.1 ≤ p.2)))) := by
      refine ev_comp (items := (adj ns).map fun p => .tuple [.int p.1, .int p.2]) ?_ ?_ ?_
      · simp [startR, ev_k, ev_v, ev_b, gb_eq, gv_eq, slb_v, slb_o, slv_v, ev_tup, ev_lst, ev_bin, ev_cmp, ev_chain, ev_neg1, ev_not, ev_and, ev_or, ev_ife, ev_call, ev_bt, ev_ix, ev_sl, ev_rev, ev_dict0, evs_nil, evs_cons, eva_nil, eva_cons, bnd_ok, asB, pl_nil, pl_int, sl_t, sl_l, rv_t, rv_l, b_add, b_sub, b_fdiv, b_mod, c_lt, c_le, c_gt, c_ge, c_eqI, c_neI, c_neB, c_isN, c_notN, c_isB, c_notB, t_len, t_lenL, t_tup, t_tupT, t_lst, t_lstL, t_sum, t_all, t_any, t_sorted, t_isT, t_isI, t_isB, t_isS, t_max, t_min, t_int, t_intB, s_seqT, s_seqL, s_enT, s_enL, s_zipT, ss_nil, ss_cons, nx_nx, nx_rt, nx_ex, fl_ok, ownS_i, ownS_t, ownS_l, ownS_b, ownS_s, ownS_n, ownS_d, s_fz, s_set, s_setT, s_own, s_ite, s_ret, resF_rt, bindT_n, bindT_2, bindT_2l, bindT_3, optFl_some, frz_cons, frz_nil, wipe_cons, wipe_nil, mkT_nil, mkL_nil, mkT_1, mkT_2, mkT_3, mkT_4, mkL_6, List.getElem?_cons_zero, List.getElem?_cons_succ, List.set_cons_zero, List.set_cons_succ, List.map_cons, List.map_nil, List.cons_append, List.nil_append, List.replicate_succ, List.replicate_zero, List.length_cons, List.length_nil]
        rw [cut_init, cut_tail, ← List.map_dropLast, ← List.map_drop, zip2D_map, zip_adj]
      · rw [List.length_map]; have := len_adj ns; omega
      · refine (compL_map (f := fun d => match d with | .tuple [.int a, .int b] => .bool (decide (a ≤ b)) | _ => .none) ?_).trans ?_
        · intro x hx
          obtain ⟨p, _, rfl⟩ := List.mem_map.mp hx
          rw [turn_eq bindT_2]
          simp [startR, ev_k, ev_v, ev_b, gb_eq, gv_eq, slb_v, slb_o, slv_v, ev_tup, ev_lst, ev_bin, ev_cmp, ev_chain, ev_neg1, ev_not, ev_and, ev_or, ev_ife, ev_call, ev_bt, ev_ix, ev_sl, ev_rev, ev_dict0, evs_nil, evs_cons, eva_nil, eva_cons, bnd_ok, asB, pl_nil, pl_int, sl_t, sl_l, rv_t, rv_l, b_add, b_sub, b_fdiv, b_mod, c_lt, c_le, c_gt, c_ge, c_eqI, c_neI, c_neB, c_isN, c_notN, c_isB, c_notB, t_len, t_lenL, t_tup, t_tupT, t_lst, t_lstL, t_sum, t_all, t_any, t_sorted, t_isT, t_isI, t_isB, t_isS, t_max, t_min, t_int, t_intB, s_seqT, s_seqL, s_enT, s_enL, s_zipT, ss_nil, ss_cons, nx_nx, nx_rt, nx_ex, fl_ok, ownS_i, ownS_t, ownS_l, ownS_b, ownS_s, ownS_n, ownS_d, s_fz, s_set, s_setT, s_own, s_ite, s_ret, resF_rt, bindT_n, bindT_2, bindT_2l, bindT_3, optFl_some, frz_cons, frz_nil, wipe_cons, wipe_nil, mkT_nil, mkL_nil, mkT_1, mkT_2, mkT_3, mkT_4, mkL_6, List.getElem?_cons_zero, List.getElem?_cons_succ, List.set_cons_zero, List.set_cons_succ, List.map_cons, List.map_nil, List.cons_append, List.nil_append, List.replicate_succ, List.replicate_zero, List.length_cons, List.length_nil]
        · rw [List.map_map]; rfl
    simp [hc, all_map_bool, riseB, intsOf_map, startR, ev_k, ev_v, ev_b, gb_eq, gv_eq, slb_v, slb_o, slv_v, ev_tup, ev_lst, ev_bin, ev_cmp, ev_chain, ev_neg1, ev_not, ev_and, ev_or, ev_ife, ev_call, ev_bt, ev_ix, ev_sl, ev_rev, ev_dict0, evs_nil, evs_cons, eva_nil, eva_cons, bnd_ok, asB, pl_nil, pl_int, sl_t, sl_l, rv_t, rv_l, b_add, b_sub, b_fdiv, b_mod, c_lt, c_le, c_gt, c_ge, c_eqI, c_neI, c_neB, c_isN, c_notN, c_isB, c_notB, t_len, t_lenL, t_tup, t_tupT, t_lst, t_lstL, t_sum, t_all, t_any, t_sorted, t_isT, t_isI, t_isB, t_isS, t_max, t_min, t_int, t_intB, s_seqT, s_seqL, s_enT, s_enL, s_zipT, ss_nil, ss_cons, nx_nx, nx_rt, nx_ex, fl_ok, ownS_i, ownS_t, ownS_l, ownS_b, ownS_s, ownS_n, ownS_d, s_fz, s_set, s_setT, s_own, s_ite, s_ret, resF_rt, bindT_n, bindT_2, bindT_2l, bindT_3, optFl_some, frz_cons, frz_nil, wipe_cons, wipe_nil, mkT_nil, mkL_nil, mkT_1, mkT_2, mkT_3, mkT_4, mkL_6, List.getElem?_cons_zero, List.getElem?_cons_succ, List.set_cons_zero, List.set_cons_succ, List.map_cons, List.map_nil, List.cons_append, List.nil_append, List.replicate_succ, List.replicate_zero, List.length_cons, List.length_nil]
theorem row_of {d : D} (h : rowB d = true) : ∃ ns : List Int, d = tpI ns ∧ (∀ n ∈ ns, 1 ≤ n ∧ n ≤ 9) ∧ riseB ns = true := by
  cases d <;> simp [rowB] at h
  rename_i xs
  obtain ⟨ns, rfl, hn⟩ := whole_ints (lo := 1) (hi := 9) (xs := xs) (by simpa using h.1)
  rw [intsOf_map] at h
  exact ⟨ns, rfl, hn, h.2⟩
theorem rows_of : ∀ {xs : List D}, xs.all rowB = true → ∃ rs : List (List Int), xs = rs.map tpI ∧ (∀ r ∈ rs, (∀ n ∈ r, 1 ≤ n ∧ n ≤ 9) ∧ riseB r = true)
  | [], _ => ⟨[], rfl, by simp⟩
  | x :: xs, h => by
    rw [List.all_cons, Bool.and_eq_true] at h
    obtain ⟨ns, rfl, h1⟩ := row_of h.1
    obtain ⟨rs, rfl, h2⟩ := rows_of h.2
    refine ⟨ns :: rs, rfl, fun r hr => ?_⟩
    rcases List.mem_cons.mp hr with rfl | hr
    · exact h1
    · exact h2 r hr
def colsB (r b : List Int) : Bool := (r.zip b).all fun p => decide (p.1 < p.2)
theorem m_columns (n : Nat) (r b : List Int) (hl : r.length ≤ 1000) : callF T0 (n + 1) 5 [tpI r, tpI b] = .ok (.bool (colsB r b)) := by
  have hc : evalE (callF T0 n) (.comp (.cmp .lt (.b 2) (.b 3)) [2, 3] (.t [2, 3]) .zip2 [(.b 0), (.b 1)] []) [.val (tpI r), .val (tpI b), .non, .non] = .ok (.list ((r.zip b).map fun p => .bool (decide (p.1 < p.2)))) := by
    refine ev_comp (items := (r.zip b).map fun p => .tuple [.int p.1, .int p.2]) ?_ ?_ ?_
    · simp [startR, ev_k, ev_v, ev_b, gb_eq, gv_eq, slb_v, slb_o, slv_v, ev_tup, ev_lst, ev_bin, ev_cmp, ev_chain, ev_neg1, ev_not, ev_and, ev_or, ev_ife, ev_call, ev_bt, ev_ix, ev_sl, ev_rev, ev_dict0, evs_nil, evs_cons, eva_nil, eva_cons, bnd_ok, asB, pl_nil, pl_int, sl_t, sl_l, rv_t, rv_l, b_add, b_sub, b_fdiv, b_mod, c_lt, c_le, c_gt, c_ge, c_eqI, c_neI, c_neB, c_isN, c_notN, c_isB, c_notB, t_len, t_lenL, t_tup, t_tupT, t_lst, t_lstL, t_sum, t_all, t_any, t_sorted, t_isT, t_isI, t_isB, t_isS, t_max, t_min, t_int, t_intB, s_seqT, s_seqL, s_enT, s_enL, s_zipT, ss_nil, ss_cons, nx_nx, nx_rt, nx_ex, fl_ok, ownS_i, ownS_t, ownS_l, ownS_b, ownS_s, ownS_n, ownS_d, s_fz, s_set, s_setT, s_own, s_ite, s_ret, resF_rt, bindT_n, bindT_2, bindT_2l, bindT_3, optFl_some, frz_cons, frz_nil, wipe_cons, wipe_nil, mkT_nil, mkL_nil, mkT_1, mkT_2, mkT_3, mkT_4, mkL_6, List.getElem?_cons_zero, List.getElem?_cons_succ, List.set_cons_zero, List.set_cons_succ, List.map_cons, List.map_nil, List.cons_append, List.nil_append, List.replicate_succ, List.replicate_zero, List.length_cons, List.length_nil]
      rw [zip2D_map]
    · rw [List.length_map, List.length_zip]; omega
    · refine (compL_map (f := fun d => match d with | .tuple [.int a, .int b] => .bool (decide (a < b)) | _ => .none) ?_).trans ?_
      · intro x hx
        obtain ⟨p, _, rfl⟩ := List.mem_map.mp hx
        rw [turn_eq bindT_2]
        simp [startR, ev_k, ev_v, ev_b, gb_eq, gv_eq, slb_v, slb_o, slv_v, ev_tup, ev_lst, ev_bin, ev_cmp, ev_chain, ev_neg1, ev_not, ev_and, ev_or, ev_ife, ev_call, ev_bt, ev_ix, ev_sl, ev_rev, ev_dict0, evs_nil, evs_cons, eva_nil, eva_cons, bnd_ok, asB, pl_nil, pl_int, sl_t, sl_l, rv_t, rv_l, b_add, b_sub, b_fdiv, b_mod, c_lt, c_le, c_gt, c_ge, c_eqI, c_neI, c_neB, c_isN, c_notN, c_isB, c_notB, t_len, t_lenL, t_tup, t_tupT, t_lst, t_lstL, t_sum, t_all, t_any, t_sorted, t_isT, t_isI, t_isB, t_isS, t_max, t_min, t_int, t_intB, s_seqT, s_seqL, s_enT, s_enL, s_zipT, ss_nil, ss_cons, nx_nx, nx_rt, nx_ex, fl_ok, ownS_i, ownS_t, ownS_l, ownS_b, ownS_s, ownS_n, ownS_d, s_fz, s_set, s_setT, s_own, s_ite, s_ret, resF_rt, bindT_n, bindT_2, bindT_2l, bindT_3, optFl_some, frz_cons, frz_nil, wipe_cons, wipe_nil, mkT_nil, mkL_nil, mkT_1, mkT_2, mkT_3, mkT_4, mkL_6, List.getElem?_cons_zero, List.getElem?_cons_succ, List.set_cons_zero, List.set_cons_succ, List.map_cons, List.map_nil, List.cons_append, List.nil_append, List.replicate_succ, List.replicate_zero, List.length_cons, List.length_nil]
      · rw [List.map_map]; rfl
  rw [call_eq (fn := F_are_columns) rfl rfl]
  simp [F_are_columns, hc, all_map_bool, colsB, startR, ev_k, ev_v, ev_b, gb_eq, gv_eq, slb_v, slb_o, slv_v, ev_tup, ev_lst, ev_bin, ev_cmp, ev_chain, ev_neg1, ev_not, ev_and, ev_or, ev_ife, ev_call, ev_bt, ev_ix, ev_sl, ev_rev, ev_dict0, evs_nil, evs_cons, eva_nil, eva_cons, bnd_ok, asB, pl_nil, pl_int, sl_t, sl_l, rv_t, rv_l, b_add, b_sub, b_fdiv, b_mod, c_lt, c_le, c_gt, c_ge, c_eqI, c_neI, c_neB, c_isN, c_notN, c_isB, c_notB, t_len, t_lenL, t_tup, t_tupT, t_lst, t_lstL, t_sum, t_all, t_any, t_sorted, t_isT, t_isI, t_isB, t_isS, t_max, t_min, t_int, t_intB, s_seqT, s_seqL, s_enT, s_enL, s_zipT, ss_nil, ss_cons, nx_nx, nx_rt, nx_ex, fl_ok, ownS_i, ownS_t, ownS_l, ownS_b, ownS_s, ownS_n, ownS_d, s_fz, s_set, s_setT, s_own, s_ite, s_ret, resF_rt, bindT_n, bindT_2, bindT_2l, bindT_3, optFl_some, frz_cons, frz_nil, wipe_cons, wipe_nil, mkT_nil, mkL_nil, mkT_1, mkT_2, mkT_3, mkT_4, mkL_6, List.getElem?_cons_zero, List.getElem?_cons_succ, List.set_cons_zero, List.set_cons_succ, List.map_cons, List.map_nil, List.cons_append, List.nil_append, List.replicate_succ, List.replicate_zero, List.length_cons, List.length_nil]
def lensI (rs : List (List Int)) : List Int := rs.map fun r => (r.length : Int)
theorem m_shape_of (n : Nat) (rs : List (List Int)) (hl : rs.length ≤ 1000) : callF T0 (n + 1) 7 [tpR rs] = .ok (tpI (lensI rs)) := by
  have hc : evalE (callF T0 n) (.comp (.bt .len [(.b 1)]) [1] (.n 1) .seq [(.b 0)] []) [.val (tpR rs), .non] = .ok (.list ((rs.map tpI).map fun d => match d with | .tuple xs => .int xs.length | _ => .none)) :=
    comp_call rfl rfl (by rw [List.length_map]; omega) fun x hx => by
      obtain ⟨r, _, rfl⟩ := List.mem_map.mp hx
      simp [startR, ev_k, ev_v, ev_b, gb_eq, gv_eq, slb_v, slb_o, slv_v, ev_tup, ev_lst, ev_bin, ev_cmp, ev_chain, ev_neg1, ev_not, ev_and, ev_or, ev_ife, ev_call, ev_bt, ev_ix, ev_sl, ev_rev, ev_dict0, evs_nil, evs_cons, eva_nil, eva_cons, bnd_ok, asB, pl_nil, pl_int, sl_t, sl_l, rv_t, rv_l, b_add, b_sub, b_fdiv, b_mod, c_lt, c_le, c_gt, c_ge, c_eqI, c_neI, c_neB, c_isN, c_notN, c_isB, c_notB, t_len, t_lenL, t_tup, t_tupT, t_lst, t_lstL, t_sum, t_all, t_any, t_sorted, t_isT, t_isI, t_isB, t_isS, t_max, t_min, t_int, t_intB, s_seqT, s_seqL, s_enT, s_enL, s_zipT, ss_nil, ss_cons, nx_nx, nx_rt, nx_ex, fl_ok, ownS_i, ownS_t, ownS_l, ownS_b, ownS_s, ownS_n, ownS_d, s_fz, s_set, s_setT, s_own, s_ite, s_ret, resF_rt, bindT_n, bindT_2, bindT_2l, bindT_3, optFl_some, frz_cons, frz_nil, wipe_cons, wipe_nil, mkT_nil, mkL_nil, mkT_1, mkT_2, mkT_3, mkT_4, mkL_6, List.getElem?_cons_zero, List.getElem?_cons_succ, List.set_cons_zero, List.set_cons_succ, List.map_cons, List.map_nil, List.cons_append, List.nil_append, List.replicate_succ, List.replicate_zero, List.length_cons, List.length_nil]
  rw [call_eq (fn := F_shape_of) rfl rfl]
  simp [F_shape_of, hc, startR, ev_k, ev_v, ev_b, gb_eq, gv_eq, slb_v, slb_o, slv_v, ev_tup, ev_lst, ev_bin, ev_cmp, ev_chain, ev_neg1, ev_not, ev_and, ev_or, ev_ife, ev_call, ev_bt, ev_ix, ev_sl, ev_rev, ev_dict0, evs_nil, evs_cons, eva_nil, eva_cons, bnd_ok, asB, pl_nil, pl_int, sl_t, sl_l, rv_t, rv_l, b_add, b_sub, b_fdiv, b_mod, c_lt, c_le, c_gt, c_ge, c_eqI, c_neI, c_neB, c_isN, c_notN, c_isB, c_notB, t_len, t_lenL, t_tup, t_tupT, t_lst, t_lstL, t_sum, t_all, t_any, t_sorted, t_isT, t_isI, t_isB, t_isS, t_max, t_min, t_int, t_intB, s_seqT, s_seqL, s_enT, s_enL, s_zipT, ss_nil, ss_cons, nx_nx, nx_rt, nx_ex, fl_ok, ownS_i, ownS_t, ownS_l, ownS_b, ownS_s, ownS_n, ownS_d, s_fz, s_set, s_setT, s_own, s_ite, s_ret, resF_rt, bindT_n, bindT_2, bindT_2l, bindT_3, optFl_some, frz_cons, frz_nil, wipe_cons, wipe_nil, mkT_nil, mkL_nil, mkT_1, mkT_2, mkT_3, mkT_4, mkL_6, List.getElem?_cons_zero, List.getElem?_cons_succ, List.set_cons_zero, List.set_cons_succ, List.map_cons, List.map_nil, List.cons_append, List.nil_append, List.replicate_succ, List.replicate_zero, List.length_cons, List.length_nil, lensI]
def rowsOr (xs : List D) : List (List Int) := xs.map fun d => match d with
  | .tuple ys => (intsOf ys).getD []
  | _ => []
theorem rowsOr_map (rs : List (List Int)) : rowsOr (rs.map tpI) = rs := by
  unfold rowsOr
  rw [List.map_map]
  conv => rhs; rw [← List.map_id rs]
  apply List.map_congr_left
  intro r _
  simp [intsOf_map]
def fillB (d : D) : Bool := match d with
  | .tuple xs => xs.all rowB && (shapeB (tpI (lensI (rowsOr xs))) && (adj (rowsOr xs)).all fun p => colsB p.1 p.2)
  | _ => false
def Few2 (d : D) : Prop := ∀ xs, d = .tuple xs → xs.length ≤ 1000 ∧ ∀ x ∈ xs, Few x
theorem m_is_shape (n : Nat) (d : D) (h : Few d) : callF T0 (n + 2) 2 [d] = .ok (.bool (shapeB d)) := by
  rw [call_eq (fn := F_is_shape) rfl rfl]
  cases d <;> simp [F_is_shape, isTupleD, shapeB, startR, ev_k, ev_v, ev_b, gb_eq, gv_eq, slb_v, slb_o, slv_v, ev_tup, ev_lst, ev_bin, ev_cmp, ev_chain, ev_neg1, ev_not, ev_and, ev_or, ev_ife, ev_call, ev_bt, ev_ix, ev_sl, ev_rev, ev_dict0, evs_nil, evs_cons, eva_nil, eva_cons, bnd_ok, asB, pl_nil, pl_int, sl_t, sl_l, rv_t, rv_l, b_add, b_sub, b_fdiv, b_mod, c_lt, c_le, c_gt, c_ge, c_eqI, c_neI, c_neB, c_isN, c_notN, c_isB, c_notB, t_len, t_lenL, t_tup, t_tupT, t_lst, t_lstL, t_sum, t_all, t_any, t_sorted, t_isT, t_isI, t_isB, t_isS, t_max, t_min, t_int, t_intB, s_seqT, s_seqL, s_enT, s_enL, s_zipT, ss_nil, ss_cons, nx_nx, nx_rt, nx_ex, fl_ok, ownS_i, ownS_t, ownS_l, ownS_b, ownS_s, ownS_n, ownS_d, s_fz, s_set, s_setT, s_own, s_ite, s_ret, resF_rt, bindT_n, bindT_2, bindT_2l, bindT_3, optFl_some, frz_cons, frz_nil, wipe_cons, wipe_nil, mkT_nil, mkL_nil, mkT_1, mkT_2, mkT_3, mkT_4, mkL_6, List.getElem?_cons_zero, List.getElem?_cons_succ, List.set_cons_zero, List.set_cons_succ, List.map_cons, List.map_nil, List.cons_append, List.nil_append, List.replicate_succ, List.replicate_zero, List.length_cons, List.length_nil]
  rename_i xs
  have hl := h xs rfl
  have hc : evalE (callF T0 (n + 1)) (.comp (.call 0 [(.v 1), (.k (.int 1)), (.k (.int 12))]) [1] (.n 1) .seq [(.b 0)] []) [.val (.tuple xs), .non] = .ok (.list (xs.map fun x => .bool (wholeB 1 12 x))) :=
    comp_call rfl rfl (by omega) fun x _ => by simp [m_is_whole, startR, ev_k, ev_v, ev_b, gb_eq, gv_eq, slb_v, slb_o, slv_v, ev_tup, ev_lst, ev_bin, ev_cmp, ev_chain, ev_neg1, ev_not, ev_and, ev_or, ev_ife, ev_call, ev_bt, ev_ix, ev_sl, ev_rev, ev_dict0, evs_nil, evs_cons, eva_nil, eva_cons, bnd_ok, asB, pl_nil, pl_int, sl_t, sl_l, rv_t, rv_l, b_add, b_sub, b_fdiv, b_mod, c_lt, c_le, c_gt, c_ge, c_eqI, c_neI, c_neB, c_isN, c_notN, c_isB, c_notB, t_len, t_lenL, t_tup, t_tupT, t_lst, t_lstL, t_sum, t_all, t_any, t_sorted, t_isT, t_isI, t_isB, t_isS, t_max, t_min, t_int, t_intB, s_seqT, s_seqL, s_enT, s_enL, s_zipT, ss_nil, ss_cons, nx_nx, nx_rt, nx_ex, fl_ok, ownS_i, ownS_t, ownS_l, ownS_b, ownS_s, ownS_n, ownS_d, s_fz, s_set, s_setT, s_own, s_ite, s_ret, resF_rt, bindT_n, bindT_2, bindT_2l, bindT_3, optFl_some, frz_cons, frz_nil, wipe_cons, wipe_nil, mkT_nil, mkL_nil, mkT_1, mkT_2, mkT_3, mkT_4, mkL_6, List.getElem?_cons_zero, List.getElem?_cons_succ, List.set_cons_zero, List.set_cons_succ, List.map_cons, List.map_nil, List.cons_append, List.nil_append, List.replicate_succ, List.replicate_zero, List.length_cons, List.length_nil]
  simp only [hc, Res.bind_ok, t_all, all_map_bool, asB]
  cases ha : xs.all (wholeB 1 12) with
  | false => simp [startR, ev_k, ev_v, ev_b, gb_eq, gv_eq, slb_v, slb_o, slv_v, ev_tup, ev_lst, ev_bin, ev_cmp, ev_chain, ev_neg1, ev_not, ev_and, ev_or, ev_ife, ev_call, ev_bt, ev_ix, ev_sl, ev_rev, ev_dict0, evs_nil, evs_cons, eva_nil, eva_cons, bnd_ok, asB, pl_nil, pl_int, sl_t, sl_l, rv_t, rv_l, b_add, b_sub, b_fdiv, b_mod, c_lt, c_le, c_gt, c_ge, c_eqI, c_neI, c_neB, c_isN, c_notN, c_isB, c_notB, t_len, t_lenL, t_tup, t_tupT, t_lst, t_lstL, t_sum, t_all, t_any, t_sorted, t_isT, t_isI, t_isB, t_isS, t_max, t_min, t_int, t_intB, s_seqT, s_seqL, s_enT, s_enL, s_zipT, ss_nil, ss_cons, nx_nx, nx_rt, nx_ex, fl_ok, ownS_i, ownS_t, ownS_l, ownS_b, ownS_s, ownS_n, ownS_d, s_fz, s_set, s_setT, s_own, s_ite, s_ret, resF_rt, bindT_n, bindT_2, bindT_2l, bindT_3, optFl_some, frz_cons, frz_nil, wipe_cons, wipe_nil, mkT_nil, mkL_nil, mkT_1, mkT_2, mkT_3, mkT_4, mkL_6, List.getElem?_cons_zero, List.getElem?_cons_succ, List.set_cons_zero, List.set_cons_succ, List.map_cons, List.map_nil, List.cons_append, List.nil_append, List.replicate_succ, List.replicate_zero, List.length_cons, List.length_nil]
  | true =>
    obtain ⟨ns, rfl, hn⟩ := whole_ints ha
    rw [List.length_map] at hl
    simp [m_falling n ns hl, intsOf_map, sum_tpI, startR, ev_k, ev_v, ev_b, gb_eq, gv_eq, slb_v, slb_o, slv_v, ev_tup, ev_lst, ev_bin, ev_cmp, ev_chain, ev_neg1, ev_not, ev_and, ev_or, ev_ife, ev_call, ev_bt, ev_ix, ev_sl, ev_rev, ev_dict0, evs_nil, evs_cons, eva_nil, eva_cons, bnd_ok, asB, pl_nil, pl_int, sl_t, sl_l, rv_t, rv_l, b_add, b_sub, b_fdiv, b_mod, c_lt, c_le, c_gt, c_ge, c_eqI, c_neI, c_neB, c_isN, c_notN, c_isB, c_notB, t_len, t_lenL, t_tup, t_tupT, t_lst, t_lstL, t_sum, t_all, t_any, t_sorted, t_isT, t_isI, t_isB, t_isS, t_max, t_min, t_int, t_intB, s_seqT, s_seqL, s_enT, s_enL, s_zipT, ss_nil, ss_cons, nx_nx, nx_rt, nx_ex, fl_ok, ownS_i, ownS_t, ownS_l, ownS_b, ownS_s, ownS_n, ownS_d, s_fz, s_set, s_setT, s_own, s_ite, s_ret, resF_rt, bindT_n, bindT_2, bindT_2l, bindT_3, optFl_some, frz_cons, frz_nil, wipe_cons, wipe_nil, mkT_nil, mkL_nil, mkT_1, mkT_2, mkT_3, mkT_4, mkL_6, List.getElem?_cons_zero, List.getElem?_cons_succ, List.set_cons_zero, List.set_cons_succ, List.map_cons, List.map_nil, List.cons_append, List.nil_append, List.replicate_succ, List.replicate_zero, List.length_cons, List.length_nil]
    cases fallB ns <;> simp [startR, ev_k, ev_v, ev_b, gb_eq, gv_eq, slb_v, slb_o, slv_v, ev_tup, ev_lst, ev_bin, ev_cmp, ev_chain, ev_neg1, ev_not, ev_and, ev_or, ev_ife, ev_call, ev_bt, ev_ix, ev_sl, ev_rev, ev_dict0, evs_nil, evs_cons, eva_nil, eva_cons, bnd_ok, asB, pl_nil, pl_int, sl_t, sl_l, rv_t, rv_l, b_add, b_sub, b_fdiv, b_mod, c_lt, c_le, c_gt, c_ge, c_eqI, c_neI, c_neB, c_isN, c_notN, c_isB, c_notB, t_len, t_lenL, t_tup, t_tupT, t_lst, t_lstL, t_sum, t_all, t_any, t_sorted, t_isT, t_isI, t_isB, t_isS, t_max, t_min, t_int, t_intB, s_seqT, s_seqL, s_enT, s_enL, s_zipT, ss_nil, ss_cons, nx_nx, nx_rt, nx_ex, fl_ok, ownS_i, ownS_t, ownS_l, ownS_b, ownS_s, ownS_n, ownS_d, s_fz, s_set, s_setT, s_own, s_ite, s_ret, resF_rt, bindT_n, bindT_2, bindT_2l, bindT_3, optFl_some, frz_cons, frz_nil, wipe_cons, wipe_nil, mkT_nil, mkL_nil, mkT_1, mkT_2, mkT_3, mkT_4, mkL_6, List.getElem?_cons_zero, List.getElem?_cons_succ, List.set_cons_zero, List.set_cons_succ, List.map_cons, List.map_nil, List.cons_append, List.nil_append, List.replicate_succ, List.replicate_zero, List.length_cons, List.length_nil]
theorem few_ints (ns : List Int) (h : ns.length ≤ 1000) : Few (tpI ns) := fun xs e => by cases e; rw [List.length_map]; exact h
theorem m_is_filling (n : Nat) (d : D) (h : Few2 d) : callF T0 (n + 3) 4 [d] = .ok (.bool (fillB d)) := by
  rw [call_eq (fn := F_is_filling) rfl rfl]
  cases d <;> simp [F_is_filling, isTupleD, fillB, startR, ev_k, ev_v, ev_b, gb_eq, gv_eq, slb_v, slb_o, slv_v, ev_tup, ev_lst, ev_bin, ev_cmp, ev_chain, ev_neg1, ev_not, ev_and, ev_or, ev_ife, ev_call, ev_bt, ev_ix, ev_sl, ev_rev, ev_dict0, evs_nil, evs_cons, eva_nil, eva_cons, bnd_ok, asB, pl_nil, pl_int, sl_t, sl_l, rv_t, rv_l, b_add, b_sub, b_fdiv, b_mod, c_lt, c_le, c_gt, c_ge, c_eqI, c_neI, c_neB, c_isN, c_notN, c_isB, c_notB, t_len, t_lenL, t_tup, t_tupT, t_lst, t_lstL, t_sum, t_all, t_any, t_sorted, t_isT, t_isI, t_isB, t_isS, t_max, t_min, t_int, t_intB, s_seqT, s_seqL, s_enT, s_enL, s_zipT, ss_nil, ss_cons, nx_nx, nx_rt, nx_ex, fl_ok, ownS_i, ownS_t, ownS_l, ownS_b, ownS_s, ownS_n, ownS_d, s_fz, s_set, s_setT, s_own, s_ite, s_ret, resF_rt, bindT_n, bindT_2, bindT_2l, bindT_3, optFl_some, frz_cons, frz_nil, wipe_cons, wipe_nil, mkT_nil, mkL_nil, mkT_1, mkT_2, mkT_3, mkT_4, mkL_6, List.getElem?_cons_zero, List.getElem?_cons_succ, List.set_cons_zero, List.set_cons_succ, List.map_cons, List.map_nil, List.cons_append, List.nil_append, List.replicate_succ, List.replicate_zero, List.length_cons, List.length_nil]
  rename_i xs
  obtain ⟨hl, hx⟩ := h xs rfl
  have hc : evalE (callF T0 (n + 2)) (.comp (.call 3 [(.v 1)]) [1] (.n 1) .seq [(.b 0)] []) [.val (.tuple xs), .non, .non, .non] = .ok (.list (xs.map fun x => .bool (rowB x))) :=
    comp_call rfl rfl (by omega) fun x hm => by simp [m_is_row n x (hx x hm), startR, ev_k, ev_v, ev_b, gb_eq, gv_eq, slb_v, slb_o, slv_v, ev_tup, ev_lst, ev_bin, ev_cmp, ev_chain, ev_neg1, ev_not, ev_and, ev_or, ev_ife, ev_call, ev_bt, ev_ix, ev_sl, ev_rev, ev_dict0, evs_nil, evs_cons, eva_nil, eva_cons, bnd_ok, asB, pl_nil, pl_int, sl_t, sl_l, rv_t, rv_l, b_add, b_sub, b_fdiv, b_mod, c_lt, c_le, c_gt, c_ge, c_eqI, c_neI, c_neB, c_isN, c_notN, c_isB, c_notB, t_len, t_lenL, t_tup, t_tupT, t_lst, t_lstL, t_sum, t_all, t_any, t_sorted, t_isT, t_isI, t_isB, t_isS, t_max, t_min, t_int, t_intB, s_seqT, s_seqL, s_enT, s_enL, s_zipT, ss_nil, ss_cons, nx_nx, nx_rt, nx_ex, fl_ok, ownS_i, ownS_t, ownS_l, ownS_b, ownS_s, ownS_n, ownS_d, s_fz, s_set, s_setT, s_own, s_ite, s_ret, resF_rt, bindT_n, bindT_2, bindT_2l, bindT_3, optFl_some, frz_cons, frz_nil, wipe_cons, wipe_nil, mkT_nil, mkL_nil, mkT_1, mkT_2, mkT_3, mkT_4, mkL_6, List.getElem?_cons_zero, List.getElem?_cons_succ, List.set_cons_zero, List.set_cons_succ, List.map_cons, List.map_nil, List.cons_append, List.nil_append, List.replicate_succ, List.replicate_zero, List.length_cons, List.length_nil]
  simp only [hc, Res.bind_ok, t_all, all_map_bool, asB]
  cases ha : xs.all rowB with
  | false => simp [startR, ev_k, ev_v, ev_b, gb_eq, gv_eq, slb_v, slb_o, slv_v, ev_tup, ev_lst, ev_bin, ev_cmp, ev_chain, ev_neg1, ev_not, ev_and, ev_or, ev_ife, ev_call, ev_bt, ev_ix, ev_sl, ev_rev, ev_dict0, evs_nil, evs_cons, eva_nil, eva_cons, bnd_ok, asB, pl_nil, pl_int, sl_t, sl_l, rv_t, rv_l, b_add, b_sub, b_fdiv, b_mod, c_lt, c_le, c_gt, c_ge, c_eqI, c_neI, c_neB, c_isN, c_notN, c_isB, c_notB, t_len, t_lenL, t_tup, t_tupT, t_lst, t_lstL, t_sum, t_all, t_any, t_sorted, t_isT, t_isI, t_isB, t_isS, t_max, t_min, t_int, t_intB, s_seqT, s_seqL, s_enT, s_enL, s_zipT, ss_nil, ss_cons, nx_nx, nx_rt, nx_ex, fl_ok, ownS_i, ownS_t, ownS_l, ownS_b, ownS_s, ownS_n, ownS_d, s_fz, s_set, s_setT, s_own, s_ite, s_ret, resF_rt, bindT_n, bindT_2, bindT_2l, bindT_3, optFl_some, frz_cons, frz_nil, wipe_cons, wipe_nil, mkT_nil, mkL_nil, mkT_1, mkT_2, mkT_3, mkT_4, mkL_6, List.getElem?_cons_zero, List.getElem?_cons_succ, List.set_cons_zero, List.set_cons_succ, List.map_cons, List.map_nil, List.cons_append, List.nil_append, List.replicate_succ, List.replicate_zero, List.length_cons, List.length_nil]
  | true =>
    obtain ⟨rs, rfl, hn⟩ := rows_of ha
    rw [List.length_map] at hl
    have hr : ∀ r ∈ rs, r.length ≤ 1000 := fun r hr => by
      have := hx (tpI r) (List.mem_map_of_mem hr) _ rfl
      rwa [List.length_map] at this
    have hc : evalE (callF T0 (n + 2)) (.comp (.call 5 [(.v 2), (.v 3)]) [2, 3] (.t [2, 3]) .zip2 [(.sl (.b 0) [] [(.neg (.k (.int 1)))]), (.sl (.b 0) [(.k (.int 1))] [])] []) [.val (.tuple (rs.map tpI)), .non, .non, .non] =
        .ok (.list ((adj rs).map fun p => .bool (colsB p.1 p.2))) := by
      refine ev_comp (items := (adj rs).map fun p => .tuple [tpI p.1, tpI p.2]) ?_ ?_ ?_
      · simp [startR, ev_k, ev_v, ev_b, gb_eq, gv_eq, slb_v, slb_o, slv_v, ev_tup, ev_lst, ev_bin, ev_cmp, ev_chain, ev_neg1, ev_not, ev_and, ev_or, ev_ife, ev_call, ev_bt, ev_ix, ev_sl, ev_rev, ev_dict0, evs_nil, evs_cons, eva_nil, eva_cons, bnd_ok, asB, pl_nil, pl_int, sl_t, sl_l, rv_t, rv_l, b_add, b_sub, b_fdiv, b_mod, c_lt, c_le, c_gt, c_ge, c_eqI, c_neI, c_neB, c_isN, c_notN, c_isB, c_notB, t_len, t_lenL, t_tup, t_tupT, t_lst, t_lstL, t_sum, t_all, t_any, t_sorted, t_isT, t_isI, t_isB, t_isS, t_max, t_min, t_int, t_intB, s_seqT, s_seqL, s_enT, s_enL, s_zipT, ss_nil, ss_cons, nx_nx, nx_rt, nx_ex, fl_ok, ownS_i, ownS_t, ownS_l, ownS_b, ownS_s, ownS_n, ownS_d, s_fz, s_set, s_setT, s_own, s_ite, s_ret, resF_rt, bindT_n, bindT_2, bindT_2l, bindT_3, optFl_some, frz_cons, frz_nil, wipe_cons, wipe_nil, mkT_nil, mkL_nil, mkT_1, mkT_2, mkT_3, mkT_4, mkL_6, List.getElem?_cons_zero, List.getElem?_cons_succ, List.set_cons_zero, List.set_cons_succ, List.map_cons, List.map_nil, List.cons_append, List.nil_append, List.replicate_succ, List.replicate_zero, List.length_cons, List.length_nil]
        rw [cut_init, cut_tail, ← List.map_dropLast, ← List.map_drop, zip2D_map, zip_adj]
      · rw [List.length_map]; have := len_adj rs; omega
      · refine (compL_map (f := fun d => match d with | .tuple [.tuple a, .tuple b] => .bool (colsB ((intsOf a).getD []) ((intsOf b).getD [])) | _ => .none) ?_).trans ?_
        · intro x hx
          obtain ⟨p, hp, rfl⟩ := List.mem_map.mp hx
          rw [turn_eq bindT_2]
          have h1 : p.1 ∈ rs := by
            rw [← zip_adj] at hp
            exact List.dropLast_subset _ (List.of_mem_zip (a := p.1) (b := p.2) hp).1
          simp [m_columns (n + 1) p.1 p.2 (hr _ h1), intsOf_map, startR, ev_k, ev_v, ev_b, gb_eq, gv_eq, slb_v, slb_o, slv_v, ev_tup, ev_lst, ev_bin, ev_cmp, ev_chain, ev_neg1, ev_not, ev_and, ev_or, ev_ife, ev_call, ev_bt, ev_ix, ev_sl, ev_rev, ev_dict0, evs_nil, evs_cons, eva_nil, eva_cons, bnd_ok, asB, pl_nil, pl_int, sl_t, sl_l, rv_t, rv_l, b_add, b_sub, b_fdiv, b_mod, c_lt, c_le, c_gt, c_ge, c_eqI, c_neI, c_neB, c_isN, c_notN, c_isB, c_notB, t_len, t_lenL, t_tup, t_tupT, t_lst, t_lstL, t_sum, t_all, t_any, t_sorted, t_isT, t_isI, t_isB, t_isS, t_max, t_min, t_int, t_intB, s_seqT, s_seqL, s_enT, s_enL, s_zipT, ss_nil, ss_cons, nx_nx, nx_rt, nx_ex, fl_ok, ownS_i, ownS_t, ownS_l, ownS_b, ownS_s, ownS_n, ownS_d, s_fz, s_set, s_setT, s_own, s_ite, s_ret, resF_rt, bindT_n, bindT_2, bindT_2l, bindT_3, optFl_some, frz_cons, frz_nil, wipe_cons, wipe_nil, mkT_nil, mkL_nil, mkT_1, mkT_2, mkT_3, mkT_4, mkL_6, List.getElem?_cons_zero, List.getElem?_cons_succ, List.set_cons_zero, List.set_cons_succ, List.map_cons, List.map_nil, List.cons_append, List.nil_append, List.replicate_succ, List.replicate_zero, List.length_cons, List.length_nil]
        · rw [List.map_map]
          refine congrArg Res.ok (List.map_congr_left fun p _ => ?_)
          simp only [Function.comp, intsOf_map, Option.getD_some]
    have hs := m_is_shape n (tpI (lensI rs)) (few_ints _ (by unfold lensI; rw [List.length_map]; omega))
    simp only [m_shape_of (n + 1) rs hl, hs, rowsOr_map, hc, all_map_bool, startR, ev_k, ev_v, ev_b, gb_eq, gv_eq, slb_v, slb_o, slv_v, ev_tup, ev_lst, ev_bin, ev_cmp, ev_chain, ev_neg1, ev_not, ev_and, ev_or, ev_ife, ev_call, ev_bt, ev_ix, ev_sl, ev_rev, ev_dict0, evs_nil, evs_cons, eva_nil, eva_cons, bnd_ok, asB, pl_nil, pl_int, sl_t, sl_l, rv_t, rv_l, b_add, b_sub, b_fdiv, b_mod, c_lt, c_le, c_gt, c_ge, c_eqI, c_neI, c_neB, c_isN, c_notN, c_isB, c_notB, t_len, t_lenL, t_tup, t_tupT, t_lst, t_lstL, t_sum, t_all, t_any, t_sorted, t_isT, t_isI, t_isB, t_isS, t_max, t_min, t_int, t_intB, s_seqT, s_seqL, s_enT, s_enL, s_zipT, ss_nil, ss_cons, nx_nx, nx_rt, nx_ex, fl_ok, ownS_i, ownS_t, ownS_l, ownS_b, ownS_s, ownS_n, ownS_d, s_fz, s_set, s_setT, s_own, s_ite, s_ret, resF_rt, bindT_n, bindT_2, bindT_2l, bindT_3, optFl_some, frz_cons, frz_nil, wipe_cons, wipe_nil, mkT_nil, mkL_nil, mkT_1, mkT_2, mkT_3, mkT_4, mkL_6, List.getElem?_cons_zero, List.getElem?_cons_succ, List.set_cons_zero, List.set_cons_succ, List.map_cons, List.map_nil, List.cons_append, List.nil_append, List.replicate_succ, List.replicate_zero, List.length_cons, List.length_nil]
    cases shapeB (tpI (lensI rs)) with
    | false => simp [startR, ev_k, ev_v, ev_b, gb_eq, gv_eq, slb_v, slb_o, slv_v, ev_tup, ev_lst, ev_bin, ev_cmp, ev_chain, ev_neg1, ev_not, ev_and, ev_or, ev_ife, ev_call, ev_bt, ev_ix, ev_sl, ev_rev, ev_dict0, evs_nil, evs_cons, eva_nil, eva_cons, bnd_ok, asB, pl_nil, pl_int, sl_t, sl_l, rv_t, rv_l, b_add, b_sub, b_fdiv, b_mod, c_lt, c_le, c_gt, c_ge, c_eqI, c_neI, c_neB, c_isN, c_notN, c_isB, c_notB, t_len, t_lenL, t_tup, t_tupT, t_lst, t_lstL, t_sum, t_all, t_any, t_sorted, t_isT, t_isI, t_isB, t_isS, t_max, t_min, t_int, t_intB, s_seqT, s_seqL, s_enT, s_enL, s_zipT, ss_nil, ss_cons, nx_nx, nx_rt, nx_ex, fl_ok, ownS_i, ownS_t, ownS_l, ownS_b, ownS_s, ownS_n, ownS_d, s_fz, s_set, s_setT, s_own, s_ite, s_ret, resF_rt, bindT_n, bindT_2, bindT_2l, bindT_3, optFl_some, frz_cons, frz_nil, wipe_cons, wipe_nil, mkT_nil, mkL_nil, mkT_1, mkT_2, mkT_3, mkT_4, mkL_6, List.getElem?_cons_zero, List.getElem?_cons_succ, List.set_cons_zero, List.set_cons_succ, List.map_cons, List.map_nil, List.cons_append, List.nil_append, List.replicate_succ, List.replicate_zero, List.length_cons, List.length_nil]
    | true =>
      simp [startR, ev_k, ev_v, ev_b, gb_eq, gv_eq, slb_v, slb_o, slv_v, ev_tup, ev_lst, ev_bin, ev_cmp, ev_chain, ev_neg1, ev_not, ev_and, ev_or, ev_ife, ev_call, ev_bt, ev_ix, ev_sl, ev_rev, ev_dict0, evs_nil, evs_cons, eva_nil, eva_cons, bnd_ok, asB, pl_nil, pl_int, sl_t, sl_l, rv_t, rv_l, b_add, b_sub, b_fdiv, b_mod, c_lt, c_le, c_gt, c_ge, c_eqI, c_neI, c_neB, c_isN, c_notN, c_isB, c_notB, t_len, t_lenL, t_tup, t_tupT, t_lst, t_lstL, t_sum, t_all, t_any, t_sorted, t_isT, t_isI, t_isB, t_isS, t_max, t_min, t_int, t_intB, s_seqT, s_seqL, s_enT, s_enL, s_zipT, ss_nil, ss_cons, nx_nx, nx_rt, nx_ex, fl_ok, ownS_i, ownS_t, ownS_l, ownS_b, ownS_s, ownS_n, ownS_d, s_fz, s_set, s_setT, s_own, s_ite, s_ret, resF_rt, bindT_n, bindT_2, bindT_2l, bindT_3, optFl_some, frz_cons, frz_nil, wipe_cons, wipe_nil, mkT_nil, mkL_nil, mkT_1, mkT_2, mkT_3, mkT_4, mkL_6, List.getElem?_cons_zero, List.getElem?_cons_succ, List.set_cons_zero, List.set_cons_succ, List.map_cons, List.map_nil, List.cons_append, List.nil_append, List.replicate_succ, List.replicate_zero, List.length_cons, List.length_nil]
      rw [hc]
      simp [all_map_bool, startR, ev_k, ev_v, ev_b, gb_eq, gv_eq, slb_v, slb_o, slv_v, ev_tup, ev_lst, ev_bin, ev_cmp, ev_chain, ev_neg1, ev_not, ev_and, ev_or, ev_ife, ev_call, ev_bt, ev_ix, ev_sl, ev_rev, ev_dict0, evs_nil, evs_cons, eva_nil, eva_cons, bnd_ok, asB, pl_nil, pl_int, sl_t, sl_l, rv_t, rv_l, b_add, b_sub, b_fdiv, b_mod, c_lt, c_le, c_gt, c_ge, c_eqI, c_neI, c_neB, c_isN, c_notN, c_isB, c_notB, t_len, t_lenL, t_tup, t_tupT, t_lst, t_lstL, t_sum, t_all, t_any, t_sorted, t_isT, t_isI, t_isB, t_isS, t_max, t_min, t_int, t_intB, s_seqT, s_seqL, s_enT, s_enL, s_zipT, ss_nil, ss_cons, nx_nx, nx_rt, nx_ex, fl_ok, ownS_i, ownS_t, ownS_l, ownS_b, ownS_s, ownS_n, ownS_d, s_fz, s_set, s_setT, s_own, s_ite, s_ret, resF_rt, bindT_n, bindT_2, bindT_2l, bindT_3, optFl_some, frz_cons, frz_nil, wipe_cons, wipe_nil, mkT_nil, mkL_nil, mkT_1, mkT_2, mkT_3, mkT_4, mkL_6, List.getElem?_cons_zero, List.getElem?_cons_succ, List.set_cons_zero, List.set_cons_succ, List.map_cons, List.map_nil, List.cons_append, List.nil_append, List.replicate_succ, List.replicate_zero, List.length_cons, List.length_nil]
def wordB (d : D) : Bool := match d with
  | .tuple xs => decide (xs.length ≤ 8) && xs.all (wholeB 1 9)
  | _ => false
theorem m_is_word (n : Nat) (d : D) : callF T0 (n + 2) 6 [d] = .ok (.bool (wordB d)) := by
  rw [call_eq (fn := F_is_word) rfl rfl]
  cases d <;> simp [F_is_word, isTupleD, wordB, startR, ev_k, ev_v, ev_b, gb_eq, gv_eq, slb_v, slb_o, slv_v, ev_tup, ev_lst, ev_bin, ev_cmp, ev_chain, ev_neg1, ev_not, ev_and, ev_or, ev_ife, ev_call, ev_bt, ev_ix, ev_sl, ev_rev, ev_dict0, evs_nil, evs_cons, eva_nil, eva_cons, bnd_ok, asB, pl_nil, pl_int, sl_t, sl_l, rv_t, rv_l, b_add, b_sub, b_fdiv, b_mod, c_lt, c_le, c_gt, c_ge, c_eqI, c_neI, c_neB, c_isN, c_notN, c_isB, c_notB, t_len, t_lenL, t_tup, t_tupT, t_lst, t_lstL, t_sum, t_all, t_any, t_sorted, t_isT, t_isI, t_isB, t_isS, t_max, t_min, t_int, t_intB, s_seqT, s_seqL, s_enT, s_enL, s_zipT, ss_nil, ss_cons, nx_nx, nx_rt, nx_ex, fl_ok, ownS_i, ownS_t, ownS_l, ownS_b, ownS_s, ownS_n, ownS_d, s_fz, s_set, s_setT, s_own, s_ite, s_ret, resF_rt, bindT_n, bindT_2, bindT_2l, bindT_3, optFl_some, frz_cons, frz_nil, wipe_cons, wipe_nil, mkT_nil, mkL_nil, mkT_1, mkT_2, mkT_3, mkT_4, mkL_6, List.getElem?_cons_zero, List.getElem?_cons_succ, List.set_cons_zero, List.set_cons_succ, List.map_cons, List.map_nil, List.cons_append, List.nil_append, List.replicate_succ, List.replicate_zero, List.length_cons, List.length_nil]
  rename_i xs
  by_cases hl : xs.length ≤ 8
  · have hc : evalE (callF T0 (n + 1)) (.comp (.call 0 [(.v 1), (.k (.int 1)), (.k (.int 9))]) [1] (.n 1) .seq [(.b 0)] []) [.val (.tuple xs), .non] = .ok (.list (xs.map fun x => .bool (wholeB 1 9 x))) :=
      comp_call rfl rfl (by omega) fun x _ => by simp [m_is_whole, startR, ev_k, ev_v, ev_b, gb_eq, gv_eq, slb_v, slb_o, slv_v, ev_tup, ev_lst, ev_bin, ev_cmp, ev_chain, ev_neg1, ev_not, ev_and, ev_or, ev_ife, ev_call, ev_bt, ev_ix, ev_sl, ev_rev, ev_dict0, evs_nil, evs_cons, eva_nil, eva_cons, bnd_ok, asB, pl_nil, pl_int, sl_t, sl_l, rv_t, rv_l, b_add, b_sub, b_fdiv, b_mod, c_lt, c_le, c_gt, c_ge, c_eqI, c_neI, c_neB, c_isN, c_notN, c_isB, c_notB, t_len, t_lenL, t_tup, t_tupT, t_lst, t_lstL, t_sum, t_all, t_any, t_sorted, t_isT, t_isI, t_isB, t_isS, t_max, t_min, t_int, t_intB, s_seqT, s_seqL, s_enT, s_enL, s_zipT, ss_nil, ss_cons, nx_nx, nx_rt, nx_ex, fl_ok, ownS_i, ownS_t, ownS_l, ownS_b, ownS_s, ownS_n, ownS_d, s_fz, s_set, s_setT, s_own, s_ite, s_ret, resF_rt, bindT_n, bindT_2, bindT_2l, bindT_3, optFl_some, frz_cons, frz_nil, wipe_cons, wipe_nil, mkT_nil, mkL_nil, mkT_1, mkT_2, mkT_3, mkT_4, mkL_6, List.getElem?_cons_zero, List.getElem?_cons_succ, List.set_cons_zero, List.set_cons_succ, List.map_cons, List.map_nil, List.cons_append, List.nil_append, List.replicate_succ, List.replicate_zero, List.length_cons, List.length_nil]
    have : ¬ (8 : Int) < xs.length := by omega
    simp [hl, this, hc, all_map_bool, startR, ev_k, ev_v, ev_b, gb_eq, gv_eq, slb_v, slb_o, slv_v, ev_tup, ev_lst, ev_bin, ev_cmp, ev_chain, ev_neg1, ev_not, ev_and, ev_or, ev_ife, ev_call, ev_bt, ev_ix, ev_sl, ev_rev, ev_dict0, evs_nil, evs_cons, eva_nil, eva_cons, bnd_ok, asB, pl_nil, pl_int, sl_t, sl_l, rv_t, rv_l, b_add, b_sub, b_fdiv, b_mod, c_lt, c_le, c_gt, c_ge, c_eqI, c_neI, c_neB, c_isN, c_notN, c_isB, c_notB, t_len, t_lenL, t_tup, t_tupT, t_lst, t_lstL, t_sum, t_all, t_any, t_sorted, t_isT, t_isI, t_isB, t_isS, t_max, t_min, t_int, t_intB, s_seqT, s_seqL, s_enT, s_enL, s_zipT, ss_nil, ss_cons, nx_nx, nx_rt, nx_ex, fl_ok, ownS_i, ownS_t, ownS_l, ownS_b, ownS_s, ownS_n, ownS_d, s_fz, s_set, s_setT, s_own, s_ite, s_ret, resF_rt, bindT_n, bindT_2, bindT_2l, bindT_3, optFl_some, frz_cons, frz_nil, wipe_cons, wipe_nil, mkT_nil, mkL_nil, mkT_1, mkT_2, mkT_3, mkT_4, mkL_6, List.getElem?_cons_zero, List.getElem?_cons_succ, List.set_cons_zero, List.set_cons_succ, List.map_cons, List.map_nil, List.cons_append, List.nil_append, List.replicate_succ, List.replicate_zero, List.length_cons, List.length_nil]
  · have : (8 : Int) < xs.length := by omega
    simp [hl, this, startR, ev_k, ev_v, ev_b, gb_eq, gv_eq, slb_v, slb_o, slv_v, ev_tup, ev_lst, ev_bin, ev_cmp, ev_chain, ev_neg1, ev_not, ev_and, ev_or, ev_ife, ev_call, ev_bt, ev_ix, ev_sl, ev_rev, ev_dict0, evs_nil, evs_cons, eva_nil, eva_cons, bnd_ok, asB, pl_nil, pl_int, sl_t, sl_l, rv_t, rv_l, b_add, b_sub, b_fdiv, b_mod, c_lt, c_le, c_gt, c_ge, c_eqI, c_neI, c_neB, c_isN, c_notN, c_isB, c_notB, t_len, t_lenL, t_tup, t_tupT, t_lst, t_lstL, t_sum, t_all, t_any, t_sorted, t_isT, t_isI, t_isB, t_isS, t_max, t_min, t_int, t_intB, s_seqT, s_seqL, s_enT, s_enL, s_zipT, ss_nil, ss_cons, nx_nx, nx_rt, nx_ex, fl_ok, ownS_i, ownS_t, ownS_l, ownS_b, ownS_s, ownS_n, ownS_d, s_fz, s_set, s_setT, s_own, s_ite, s_ret, resF_rt, bindT_n, bindT_2, bindT_2l, bindT_3, optFl_some, frz_cons, frz_nil, wipe_cons, wipe_nil, mkT_nil, mkL_nil, mkT_1, mkT_2, mkT_3, mkT_4, mkL_6, List.getElem?_cons_zero, List.getElem?_cons_succ, List.set_cons_zero, List.set_cons_succ, List.map_cons, List.map_nil, List.cons_append, List.nil_append, List.replicate_succ, List.replicate_zero, List.length_cons, List.length_nil]
end BP

namespace BP
open PySem
theorem adj_pair {α : Type} {R : α → α → Prop} (tr : ∀ a b c, R a b → R b c → R a c) : ∀ xs : List α, (∀ p ∈ adj xs, R p.1 p.2) ↔ xs.Pairwise R
  | [] => by simp [adj]
  | [x] => by simp [adj]
  | x :: y :: r => by
    have ih := adj_pair tr (y :: r)
    constructor
    · intro h
      have h1 : R x y := h (x, y) (by simp [adj])
      have h2 := ih.mp fun p hp => h p (by simp [adj, hp])
      refine List.pairwise_cons.mpr ⟨fun z hz => ?_, h2⟩
      rcases List.mem_cons.mp hz with rfl | hz
      · exact h1
      · exact tr _ _ _ h1 ((List.pairwise_cons.mp h2).1 z hz)
    · intro h p hp
      simp only [adj, List.mem_cons] at hp
      have h' := List.pairwise_cons.mp h
      rcases hp with rfl | hp
      · exact h'.1 y List.mem_cons_self
      · exact ih.mpr h'.2 p hp
theorem rise_pair (ns : List Int) : riseB ns = true ↔ ns.Pairwise (· ≤ ·) := by
  unfold riseB
  rw [List.all_eq_true, ← adj_pair (R := fun a b : Int => a ≤ b) (fun a b c h h' => Int.le_trans h h')]
  constructor
  · intro h p hp; exact of_decide_eq_true (h p hp)
  · intro h p hp; exact decide_eq_true (h p hp)
theorem fall_pair (ns : List Int) : fallB ns = true ↔ ns.Pairwise (fun a b => b ≤ a) := by
  unfold fallB
  rw [List.all_eq_true, ← adj_pair (R := fun a b : Int => b ≤ a) (fun a b c h h' => Int.le_trans h' h)]
  constructor
  · intro h p hp; exact of_decide_eq_true (h p hp)
  · intro h p hp; exact decide_eq_true (h p hp)
theorem rise_sort (ns : List Int) : riseB ns = decide (ns = sortI ns) := by
  rw [Bool.eq_iff_iff, rise_pair, decide_eq_true_eq]
  constructor
  · exact fun h => sortI_uniq (.refl _) h
  · intro h; rw [h]; exact sortI_sorted ns
theorem fall_sort (ns : List Int) : fallB ns = decide (ns = (sortI ns).reverse) := by
  rw [Bool.eq_iff_iff, fall_pair, decide_eq_true_eq]
  constructor
  · intro h
    have h1 : ns.reverse.Pairwise (· ≤ ·) := List.pairwise_reverse.mpr h
    have h2 := sortI_uniq (ns.reverse_perm) h1
    rw [← h2, List.reverse_reverse]
  · intro h
    have := List.pairwise_reverse.mpr (show (sortI ns).reverse.reverse.Pairwise (· ≤ ·) by rw [List.reverse_reverse]; exact sortI_sorted ns)
    rw [h]
    exact List.pairwise_reverse.mpr (sortI_sorted ns)
theorem len_sortI (ns : List Int) : (sortI ns).length = ns.length := (sortI_perm ns).length_eq
theorem shaped_ints (ns : List Int) (h : ns.length ≤ 100) : SeqAt.shaped (.list (ns.map PyData.int)) = true := smD_shaped (k := 1) (smD_list.mpr ⟨by rw [List.length_map]; exact h, smL_iff.mp (smL_ints 0 ns)⟩) (by decide)
theorem sm_tuple {d : D} {xs : List D} {k : Nat} (h : smD k d = true) (e : d = .tuple xs) : xs.length ≤ 100 ∧ ∀ x ∈ xs, smD (k - 1) x = true := by
  subst e
  cases k with
  | zero => simp [smD] at h
  | succ k => exact smD_tuple.mp h
theorem few_sm {d : D} (h : smD 60 d = true) : Few d := fun xs e => by have := (sm_tuple h e).1; omega
theorem few2_sm {d : D} (h : smD 60 d = true) : Few2 d := fun xs e => by
  obtain ⟨h1, h2⟩ := sm_tuple h e
  exact ⟨by omega, fun x hx => few_sm (smD_mono (by decide) (h2 x hx))⟩
theorem not_all {α : Type} (p : α → Bool) (xs : List α) : (xs.all fun x => !!p x) = xs.all p := by simp
theorem m_Lis_shape (n : Nat) (d : D) (h : smD 60 d = true) : callF T0 (n + 2) 14 [d] = .ok (.bool (shapeB d)) := by
  rw [call_eq (fn := F_Lis_shape) rfl rfl]
  cases d <;> simp [F_Lis_shape, isTupleD, shapeB, startR, ev_k, ev_v, ev_b, gb_eq, gv_eq, slb_v, slb_o, slv_v, ev_tup, ev_lst, ev_bin, ev_cmp, ev_chain, ev_neg1, ev_not, ev_and, ev_or, ev_ife, ev_call, ev_bt, ev_ix, ev_sl, ev_rev, ev_dict0, evs_nil, evs_cons, eva_nil, eva_cons, bnd_ok, asB, pl_nil, pl_int, sl_t, sl_l, rv_t, rv_l, b_add, b_sub, b_fdiv, b_mod, c_lt, c_le, c_gt, c_ge, c_eqI, c_neI, c_neB, c_isN, c_notN, c_isB, c_notB, t_len, t_lenL, t_tup, t_tupT, t_lst, t_lstL, t_sum, t_all, t_any, t_sorted, t_isT, t_isI, t_isB, t_isS, t_max, t_min, t_int, t_intB, s_seqT, s_seqL, s_enT, s_enL, s_zipT, ss_nil, ss_cons, nx_nx, nx_rt, nx_ex, fl_ok, ownS_i, ownS_t, ownS_l, ownS_b, ownS_s, ownS_n, ownS_d, s_fz, s_set, s_setT, s_own, s_ite, s_ret, resF_rt, bindT_n, bindT_2, bindT_2l, bindT_3, optFl_some, frz_cons, frz_nil, wipe_cons, wipe_nil, mkT_nil, mkL_nil, mkT_1, mkT_2, mkT_3, mkT_4, mkL_6, List.getElem?_cons_zero, List.getElem?_cons_succ, List.set_cons_zero, List.set_cons_succ, List.map_cons, List.map_nil, List.cons_append, List.nil_append, List.replicate_succ, List.replicate_zero, List.length_cons, List.length_nil]
  rename_i xs
  obtain ⟨hl, hx⟩ := sm_tuple h rfl
  have hc : evalE (callF T0 (n + 1)) (.comp (.v 1) [1] (.n 1) .seq [(.b 0)] [(.not (.call 0 [(.v 1), (.k (.int 1)), (.k (.int 12))]))]) [.val (.tuple xs), .non] = .ok (.list ((xs.filter fun x => !wholeB 1 12 x).map id)) :=
    comp_filt rfl rfl (by omega) (fun x _ => by simp [m_is_whole, startR, ev_k, ev_v, ev_b, gb_eq, gv_eq, slb_v, slb_o, slv_v, ev_tup, ev_lst, ev_bin, ev_cmp, ev_chain, ev_neg1, ev_not, ev_and, ev_or, ev_ife, ev_call, ev_bt, ev_ix, ev_sl, ev_rev, ev_dict0, evs_nil, evs_cons, eva_nil, eva_cons, bnd_ok, asB, pl_nil, pl_int, sl_t, sl_l, rv_t, rv_l, b_add, b_sub, b_fdiv, b_mod, c_lt, c_le, c_gt, c_ge, c_eqI, c_neI, c_neB, c_isN, c_notN, c_isB, c_notB, t_len, t_lenL, t_tup, t_tupT, t_lst, t_lstL, t_sum, t_all, t_any, t_sorted, t_isT, t_isI, t_isB, t_isS, t_max, t_min, t_int, t_intB, s_seqT, s_seqL, s_enT, s_enL, s_zipT, ss_nil, ss_cons, nx_nx, nx_rt, nx_ex, fl_ok, ownS_i, ownS_t, ownS_l, ownS_b, ownS_s, ownS_n, ownS_d, s_fz, s_set, s_setT, s_own, s_ite, s_ret, resF_rt, bindT_n, bindT_2, bindT_2l, bindT_3, optFl_some, frz_cons, frz_nil, wipe_cons, wipe_nil, mkT_nil, mkL_nil, mkT_1, mkT_2, mkT_3, mkT_4, mkL_6, List.getElem?_cons_zero, List.getElem?_cons_succ, List.set_cons_zero, List.set_cons_succ, List.map_cons, List.map_nil, List.cons_append, List.nil_append, List.replicate_succ, List.replicate_zero, List.length_cons, List.length_nil]) fun x _ _ => by simp [startR, ev_k, ev_v, ev_b, gb_eq, gv_eq, slb_v, slb_o, slv_v, ev_tup, ev_lst, ev_bin, ev_cmp, ev_chain, ev_neg1, ev_not, ev_and, ev_or, ev_ife, ev_call, ev_bt, ev_ix, ev_sl, ev_rev, ev_dict0, evs_nil, evs_cons, eva_nil, eva_cons, bnd_ok, asB, pl_nil, pl_int, sl_t, sl_l, rv_t, rv_l, b_add, b_sub, b_fdiv, b_mod, c_lt, c_le, c_gt, c_ge, c_eqI, c_neI, c_neB, c_isN, c_notN, c_isB, c_notB, t_len, t_lenL, t_tup, t_tupT, t_lst, t_lstL, t_sum, t_all, t_any, t_sorted, t_isT, t_isI, t_isB, t_isS, t_max, t_min, t_int, t_intB, s_seqT, s_seqL, s_enT, s_enL, s_zipT, ss_nil, ss_cons, nx_nx, nx_rt, nx_ex, fl_ok, ownS_i, ownS_t, ownS_l, ownS_b, ownS_s, ownS_n, ownS_d, s_fz, s_set, s_setT, s_own, s_ite, s_ret, resF_rt, bindT_n, bindT_2, bindT_2l, bindT_3, optFl_some, frz_cons, frz_nil, wipe_cons, wipe_nil, mkT_nil, mkL_nil, mkT_1, mkT_2, mkT_3, mkT_4, mkL_6, List.getElem?_cons_zero, List.getElem?_cons_succ, List.set_cons_zero, List.set_cons_succ, List.map_cons, List.map_nil, List.cons_append, List.nil_append, List.replicate_succ, List.replicate_zero, List.length_cons, List.length_nil]
  rw [hc]
  have hsh : SeqAt.shaped (.list ((xs.filter fun x => !wholeB 1 12 x).map id)) = true := shaped_list_of (fun x hm => by
    rw [List.map_id, List.mem_filter] at hm
    exact smD_mono (by decide) (hx x hm.1)) (by rw [List.map_id]; exact Nat.le_trans (List.length_filter_le _ _) hl)
  simp only [Res.bind_ok, c_ne hsh shaped_nil, asB, eqv_nil_l, filter_empty, Bool.not_not, startR, ev_k, ev_v, ev_b, gb_eq, gv_eq, slb_v, slb_o, slv_v, ev_tup, ev_lst, ev_bin, ev_cmp, ev_chain, ev_neg1, ev_not, ev_and, ev_or, ev_ife, ev_call, ev_bt, ev_ix, ev_sl, ev_rev, ev_dict0, evs_nil, evs_cons, eva_nil, eva_cons, bnd_ok, asB, pl_nil, pl_int, sl_t, sl_l, rv_t, rv_l, b_add, b_sub, b_fdiv, b_mod, c_lt, c_le, c_gt, c_ge, c_eqI, c_neI, c_neB, c_isN, c_notN, c_isB, c_notB, t_len, t_lenL, t_tup, t_tupT, t_lst, t_lstL, t_sum, t_all, t_any, t_sorted, t_isT, t_isI, t_isB, t_isS, t_max, t_min, t_int, t_intB, s_seqT, s_seqL, s_enT, s_enL, s_zipT, ss_nil, ss_cons, nx_nx, nx_rt, nx_ex, fl_ok, ownS_i, ownS_t, ownS_l, ownS_b, ownS_s, ownS_n, ownS_d, s_fz, s_set, s_setT, s_own, s_ite, s_ret, resF_rt, bindT_n, bindT_2, bindT_2l, bindT_3, optFl_some, frz_cons, frz_nil, wipe_cons, wipe_nil, mkT_nil, mkL_nil, mkT_1, mkT_2, mkT_3, mkT_4, mkL_6, List.getElem?_cons_zero, List.getElem?_cons_succ, List.set_cons_zero, List.set_cons_succ, List.map_cons, List.map_nil, List.cons_append, List.nil_append, List.replicate_succ, List.replicate_zero, List.length_cons, List.length_nil]
  cases ha : xs.all (wholeB 1 12) with
  | false => simp [startR, ev_k, ev_v, ev_b, gb_eq, gv_eq, slb_v, slb_o, slv_v, ev_tup, ev_lst, ev_bin, ev_cmp, ev_chain, ev_neg1, ev_not, ev_and, ev_or, ev_ife, ev_call, ev_bt, ev_ix, ev_sl, ev_rev, ev_dict0, evs_nil, evs_cons, eva_nil, eva_cons, bnd_ok, asB, pl_nil, pl_int, sl_t, sl_l, rv_t, rv_l, b_add, b_sub, b_fdiv, b_mod, c_lt, c_le, c_gt, c_ge, c_eqI, c_neI, c_neB, c_isN, c_notN, c_isB, c_notB, t_len, t_lenL, t_tup, t_tupT, t_lst, t_lstL, t_sum, t_all, t_any, t_sorted, t_isT, t_isI, t_isB, t_isS, t_max, t_min, t_int, t_intB, s_seqT, s_seqL, s_enT, s_enL, s_zipT, ss_nil, ss_cons, nx_nx, nx_rt, nx_ex, fl_ok, ownS_i, ownS_t, ownS_l, ownS_b, ownS_s, ownS_n, ownS_d, s_fz, s_set, s_setT, s_own, s_ite, s_ret, resF_rt, bindT_n, bindT_2, bindT_2l, bindT_3, optFl_some, frz_cons, frz_nil, wipe_cons, wipe_nil, mkT_nil, mkL_nil, mkT_1, mkT_2, mkT_3, mkT_4, mkL_6, List.getElem?_cons_zero, List.getElem?_cons_succ, List.set_cons_zero, List.set_cons_succ, List.map_cons, List.map_nil, List.cons_append, List.nil_append, List.replicate_succ, List.replicate_zero, List.length_cons, List.length_nil]
  | true =>
    obtain ⟨ns, rfl, hn⟩ := whole_ints ha
    rw [List.length_map] at hl
    have h2 := sorted_tpI ns
    simp [h2, sum_tpI, intsOf_map, startR, ev_k, ev_v, ev_b, gb_eq, gv_eq, slb_v, slb_o, slv_v, ev_tup, ev_lst, ev_bin, ev_cmp, ev_chain, ev_neg1, ev_not, ev_and, ev_or, ev_ife, ev_call, ev_bt, ev_ix, ev_sl, ev_rev, ev_dict0, evs_nil, evs_cons, eva_nil, eva_cons, bnd_ok, asB, pl_nil, pl_int, sl_t, sl_l, rv_t, rv_l, b_add, b_sub, b_fdiv, b_mod, c_lt, c_le, c_gt, c_ge, c_eqI, c_neI, c_neB, c_isN, c_notN, c_isB, c_notB, t_len, t_lenL, t_tup, t_tupT, t_lst, t_lstL, t_sum, t_all, t_any, t_sorted, t_isT, t_isI, t_isB, t_isS, t_max, t_min, t_int, t_intB, s_seqT, s_seqL, s_enT, s_enL, s_zipT, ss_nil, ss_cons, nx_nx, nx_rt, nx_ex, fl_ok, ownS_i, ownS_t, ownS_l, ownS_b, ownS_s, ownS_n, ownS_d, s_fz, s_set, s_setT, s_own, s_ite, s_ret, resF_rt, bindT_n, bindT_2, bindT_2l, bindT_3, optFl_some, frz_cons, frz_nil, wipe_cons, wipe_nil, mkT_nil, mkL_nil, mkT_1, mkT_2, mkT_3, mkT_4, mkL_6, List.getElem?_cons_zero, List.getElem?_cons_succ, List.set_cons_zero, List.set_cons_succ, List.map_cons, List.map_nil, List.cons_append, List.nil_append, List.replicate_succ, List.replicate_zero, List.length_cons, List.length_nil]
    rw [← List.map_reverse, c_eq (shaped_ints ns hl) (shaped_ints _ (by rw [List.length_reverse, len_sortI]; exact hl)), eqv_lI, ← fall_sort]
    simp [startR, ev_k, ev_v, ev_b, gb_eq, gv_eq, slb_v, slb_o, slv_v, ev_tup, ev_lst, ev_bin, ev_cmp, ev_chain, ev_neg1, ev_not, ev_and, ev_or, ev_ife, ev_call, ev_bt, ev_ix, ev_sl, ev_rev, ev_dict0, evs_nil, evs_cons, eva_nil, eva_cons, bnd_ok, asB, pl_nil, pl_int, sl_t, sl_l, rv_t, rv_l, b_add, b_sub, b_fdiv, b_mod, c_lt, c_le, c_gt, c_ge, c_eqI, c_neI, c_neB, c_isN, c_notN, c_isB, c_notB, t_len, t_lenL, t_tup, t_tupT, t_lst, t_lstL, t_sum, t_all, t_any, t_sorted, t_isT, t_isI, t_isB, t_isS, t_max, t_min, t_int, t_intB, s_seqT, s_seqL, s_enT, s_enL, s_zipT, ss_nil, ss_cons, nx_nx, nx_rt, nx_ex, fl_ok, ownS_i, ownS_t, ownS_l, ownS_b, ownS_s, ownS_n, ownS_d, s_fz, s_set, s_setT, s_own, s_ite, s_ret, resF_rt, bindT_n, bindT_2, bindT_2l, bindT_3, optFl_some, frz_cons, frz_nil, wipe_cons, wipe_nil, mkT_nil, mkL_nil, mkT_1, mkT_2, mkT_3, mkT_4, mkL_6, List.getElem?_cons_zero, List.getElem?_cons_succ, List.set_cons_zero, List.set_cons_succ, List.map_cons, List.map_nil, List.cons_append, List.nil_append, List.replicate_succ, List.replicate_zero, List.length_cons, List.length_nil]
    cases fallB ns <;> simp [startR, ev_k, ev_v, ev_b, gb_eq, gv_eq, slb_v, slb_o, slv_v, ev_tup, ev_lst, ev_bin, ev_cmp, ev_chain, ev_neg1, ev_not, ev_and, ev_or, ev_ife, ev_call, ev_bt, ev_ix, ev_sl, ev_rev, ev_dict0, evs_nil, evs_cons, eva_nil, eva_cons, bnd_ok, asB, pl_nil, pl_int, sl_t, sl_l, rv_t, rv_l, b_add, b_sub, b_fdiv, b_mod, c_lt, c_le, c_gt, c_ge, c_eqI, c_neI, c_neB, c_isN, c_notN, c_isB, c_notB, t_len, t_lenL, t_tup, t_tupT, t_lst, t_lstL, t_sum, t_all, t_any, t_sorted, t_isT, t_isI, t_isB, t_isS, t_max, t_min, t_int, t_intB, s_seqT, s_seqL, s_enT, s_enL, s_zipT, ss_nil, ss_cons, nx_nx, nx_rt, nx_ex, fl_ok, ownS_i, ownS_t, ownS_l, ownS_b, ownS_s, ownS_n, ownS_d, s_fz, s_set, s_setT, s_own, s_ite, s_ret, resF_rt, bindT_n, bindT_2, bindT_2l, bindT_3, optFl_some, frz_cons, frz_nil, wipe_cons, wipe_nil, mkT_nil, mkL_nil, mkT_1, mkT_2, mkT_3, mkT_4, mkL_6, List.getElem?_cons_zero, List.getElem?_cons_succ, List.set_cons_zero, List.set_cons_succ, List.map_cons, List.map_nil, List.cons_append, List.nil_append, List.replicate_succ, List.replicate_zero, List.length_cons, List.length_nil]
    omega
theorem m_Lis_word (n : Nat) (d : D) (h : smD 60 d = true) : callF T0 (n + 2) 16 [d] = .ok (.bool (wordB d)) := by
  rw [call_eq (fn := F_Lis_word) rfl rfl]
  cases d <;> simp [F_Lis_word, isTupleD, wordB, startR, ev_k, ev_v, ev_b, gb_eq, gv_eq, slb_v, slb_o, slv_v, ev_tup, ev_lst, ev_bin, ev_cmp, ev_chain, ev_neg1, ev_not, ev_and, ev_or, ev_ife, ev_call, ev_bt, ev_ix, ev_sl, ev_rev, ev_dict0, evs_nil, evs_cons, eva_nil, eva_cons, bnd_ok, asB, pl_nil, pl_int, sl_t, sl_l, rv_t, rv_l, b_add, b_sub, b_fdiv, b_mod, c_lt, c_le, c_gt, c_ge, c_eqI, c_neI, c_neB, c_isN, c_notN, c_isB, c_notB, t_len, t_lenL, t_tup, t_tupT, t_lst, t_lstL, t_sum, t_all, t_any, t_sorted, t_isT, t_isI, t_isB, t_isS, t_max, t_min, t_int, t_intB, s_seqT, s_seqL, s_enT, s_enL, s_zipT, ss_nil, ss_cons, nx_nx, nx_rt, nx_ex, fl_ok, ownS_i, ownS_t, ownS_l, ownS_b, ownS_s, ownS_n, ownS_d, s_fz, s_set, s_setT, s_own, s_ite, s_ret, resF_rt, bindT_n, bindT_2, bindT_2l, bindT_3, optFl_some, frz_cons, frz_nil, wipe_cons, wipe_nil, mkT_nil, mkL_nil, mkT_1, mkT_2, mkT_3, mkT_4, mkL_6, List.getElem?_cons_zero, List.getElem?_cons_succ, List.set_cons_zero, List.set_cons_succ, List.map_cons, List.map_nil, List.cons_append, List.nil_append, List.replicate_succ, List.replicate_zero, List.length_cons, List.length_nil]
  rename_i xs
  obtain ⟨hl, hx⟩ := sm_tuple h rfl
  have hc : evalE (callF T0 (n + 1)) (.comp (.v 1) [1] (.n 1) .seq [(.b 0)] [(.not (.call 0 [(.v 1), (.k (.int 1)), (.k (.int 9))]))]) [.val (.tuple xs), .non] = .ok (.list ((xs.filter fun x => !wholeB 1 9 x).map id)) :=
    comp_filt rfl rfl (by omega) (fun x _ => by simp [m_is_whole, startR, ev_k, ev_v, ev_b, gb_eq, gv_eq, slb_v, slb_o, slv_v, ev_tup, ev_lst, ev_bin, ev_cmp, ev_chain, ev_neg1, ev_not, ev_and, ev_or, ev_ife, ev_call, ev_bt, ev_ix, ev_sl, ev_rev, ev_dict0, evs_nil, evs_cons, eva_nil, eva_cons, bnd_ok, asB, pl_nil, pl_int, sl_t, sl_l, rv_t, rv_l, b_add, b_sub, b_fdiv, b_mod, c_lt, c_le, c_gt, c_ge, c_eqI, c_neI, c_neB, c_isN, c_notN, c_isB, c_notB, t_len, t_lenL, t_tup, t_tupT, t_lst, t_lstL, t_sum, t_all, t_any, t_sorted, t_isT, t_isI, t_isB, t_isS, t_max, t_min, t_int, t_intB, s_seqT, s_seqL, s_enT, s_enL, s_zipT, ss_nil, ss_cons, nx_nx, nx_rt, nx_ex, fl_ok, ownS_i, ownS_t, ownS_l, ownS_b, ownS_s, ownS_n, ownS_d, s_fz, s_set, s_setT, s_own, s_ite, s_ret, resF_rt, bindT_n, bindT_2, bindT_2l, bindT_3, optFl_some, frz_cons, frz_nil, wipe_cons, wipe_nil, mkT_nil, mkL_nil, mkT_1, mkT_2, mkT_3, mkT_4, mkL_6, List.getElem?_cons_zero, List.getElem?_cons_succ, List.set_cons_zero, List.set_cons_succ, List.map_cons, List.map_nil, List.cons_append, List.nil_append, List.replicate_succ, List.replicate_zero, List.length_cons, List.length_nil]) fun x _ _ => by simp [startR, ev_k, ev_v, ev_b, gb_eq, gv_eq, slb_v, slb_o, slv_v, ev_tup, ev_lst, ev_bin, ev_cmp, ev_chain, ev_neg1, ev_not, ev_and, ev_or, ev_ife, ev_call, ev_bt, ev_ix, ev_sl, ev_rev, ev_dict0, evs_nil, evs_cons, eva_nil, eva_cons, bnd_ok, asB, pl_nil, pl_int, sl_t, sl_l, rv_t, rv_l, b_add, b_sub, b_fdiv, b_mod, c_lt, c_le, c_gt, c_ge, c_eqI, c_neI, c_neB, c_isN, c_notN, c_isB, c_notB, t_len, t_lenL, t_tup, t_tupT, t_lst, t_lstL, t_sum, t_all, t_any, t_sorted, t_isT, t_isI, t_isB, t_isS, t_max, t_min, t_int, t_intB, s_seqT, s_seqL, s_enT, s_enL, s_zipT, ss_nil, ss_cons, nx_nx, nx_rt, nx_ex, fl_ok, ownS_i, ownS_t, ownS_l, ownS_b, ownS_s, ownS_n, ownS_d, s_fz, s_set, s_setT, s_own, s_ite, s_ret, resF_rt, bindT_n, bindT_2, bindT_2l, bindT_3, optFl_some, frz_cons, frz_nil, wipe_cons, wipe_nil, mkT_nil, mkL_nil, mkT_1, mkT_2, mkT_3, mkT_4, mkL_6, List.getElem?_cons_zero, List.getElem?_cons_succ, List.set_cons_zero, List.set_cons_succ, List.map_cons, List.map_nil, List.cons_append, List.nil_append, List.replicate_succ, List.replicate_zero, List.length_cons, List.length_nil]
  have hsh : SeqAt.shaped (.list ((xs.filter fun x => !wholeB 1 9 x).map id)) = true := shaped_list_of (fun x hm => by
    rw [List.map_id, List.mem_filter] at hm
    exact smD_mono (by decide) (hx x hm.1)) (by rw [List.map_id]; exact Nat.le_trans (List.length_filter_le _ _) hl)
  rw [hc]
  have he := filter_empty (p := fun x => !wholeB 1 9 x) xs
  rw [List.map_id] at hsh he
  simp only [Bool.not_not] at he
  by_cases h8 : xs.length ≤ 8
  · have : (xs.length : Int) < 9 := by omega
    simp [h8, this, c_eq hsh shaped_nil, eqv_nil_l, he, startR, ev_k, ev_v, ev_b, gb_eq, gv_eq, slb_v, slb_o, slv_v, ev_tup, ev_lst, ev_bin, ev_cmp, ev_chain, ev_neg1, ev_not, ev_and, ev_or, ev_ife, ev_call, ev_bt, ev_ix, ev_sl, ev_rev, ev_dict0, evs_nil, evs_cons, eva_nil, eva_cons, bnd_ok, asB, pl_nil, pl_int, sl_t, sl_l, rv_t, rv_l, b_add, b_sub, b_fdiv, b_mod, c_lt, c_le, c_gt, c_ge, c_eqI, c_neI, c_neB, c_isN, c_notN, c_isB, c_notB, t_len, t_lenL, t_tup, t_tupT, t_lst, t_lstL, t_sum, t_all, t_any, t_sorted, t_isT, t_isI, t_isB, t_isS, t_max, t_min, t_int, t_intB, s_seqT, s_seqL, s_enT, s_enL, s_zipT, ss_nil, ss_cons, nx_nx, nx_rt, nx_ex, fl_ok, ownS_i, ownS_t, ownS_l, ownS_b, ownS_s, ownS_n, ownS_d, s_fz, s_set, s_setT, s_own, s_ite, s_ret, resF_rt, bindT_n, bindT_2, bindT_2l, bindT_3, optFl_some, frz_cons, frz_nil, wipe_cons, wipe_nil, mkT_nil, mkL_nil, mkT_1, mkT_2, mkT_3, mkT_4, mkL_6, List.getElem?_cons_zero, List.getElem?_cons_succ, List.set_cons_zero, List.set_cons_succ, List.map_cons, List.map_nil, List.cons_append, List.nil_append, List.replicate_succ, List.replicate_zero, List.length_cons, List.length_nil]
  · have : ¬ (xs.length : Int) < 9 := by omega
    simp [h8, this, startR, ev_k, ev_v, ev_b, gb_eq, gv_eq, slb_v, slb_o, slv_v, ev_tup, ev_lst, ev_bin, ev_cmp, ev_chain, ev_neg1, ev_not, ev_and, ev_or, ev_ife, ev_call, ev_bt, ev_ix, ev_sl, ev_rev, ev_dict0, evs_nil, evs_cons, eva_nil, eva_cons, bnd_ok, asB, pl_nil, pl_int, sl_t, sl_l, rv_t, rv_l, b_add, b_sub, b_fdiv, b_mod, c_lt, c_le, c_gt, c_ge, c_eqI, c_neI, c_neB, c_isN, c_notN, c_isB, c_notB, t_len, t_lenL, t_tup, t_tupT, t_lst, t_lstL, t_sum, t_all, t_any, t_sorted, t_isT, t_isI, t_isB, t_isS, t_max, t_min, t_int, t_intB, s_seqT, s_seqL, s_enT, s_enL, s_zipT, ss_nil, ss_cons, nx_nx, nx_rt, nx_ex, fl_ok, ownS_i, ownS_t, ownS_l, ownS_b, ownS_s, ownS_n, ownS_d, s_fz, s_set, s_setT, s_own, s_ite, s_ret, resF_rt, bindT_n, bindT_2, bindT_2l, bindT_3, optFl_some, frz_cons, frz_nil, wipe_cons, wipe_nil, mkT_nil, mkL_nil, mkT_1, mkT_2, mkT_3, mkT_4, mkL_6, List.getElem?_cons_zero, List.getElem?_cons_succ, List.set_cons_zero, List.set_cons_succ, List.map_cons, List.map_nil, List.cons_append, List.nil_append, List.replicate_succ, List.replicate_zero, List.length_cons, List.length_nil]
end BP

namespace BP
open PySem
theorem atI_map {α : Type} (f : α → D) {xs : List α} {i : Nat} {x : α} (h : xs[i]? = some x) : L2.atI (xs.map f) (i : Int) = some (f x) := L2.atI_nat (by rw [List.getElem?_map, h]; rfl)
theorem all_range {α : Type} (rs : List α) (q : α → α → Bool) : ((List.range (rs.length - 1)).all fun i => match rs[i]?, rs[i + 1]? with | some a, some b => q a b | _, _ => true) = (adj rs).all fun p => q p.1 p.2 := by
  induction rs with
  | nil => rfl
  | cons x rs ih =>
    cases rs with
    | nil => rfl
    | cons y r =>
      simp only [List.length_cons, Nat.add_sub_cancel, adj, List.all_cons] at ih ⊢
      rw [← ih, List.range_succ_eq_map, List.all_cons, List.all_map]
      rfl
theorem cols_range (a b : List Int) (h : b.length ≤ a.length) : ((List.range b.length).all fun i => match a[i]?, b[i]? with | some x, some y => decide (x < y) | _, _ => true) = colsB a b := by
  unfold colsB
  induction b generalizing a with
  | nil => simp
  | cons y b ih =>
    cases a with
    | nil => simp at h
    | cons x a =>
      rw [List.length_cons, List.range_succ_eq_map, List.all_cons, List.all_map, List.zip_cons_cons, List.all_cons, ← ih a (by simpa using h)]
      rfl
theorem fall_lens {rs : List (List Int)} (h : fallB (lensI rs) = true) : ∀ p ∈ adj rs, p.2.length ≤ p.1.length := by
  unfold fallB lensI at h
  induction rs with
  | nil => simp [adj]
  | cons x rs ih =>
    cases rs with
    | nil => simp [adj]
    | cons y r =>
      simp only [List.map_cons, adj, List.all_cons, Bool.and_eq_true, decide_eq_true_eq] at h
      intro p hp
      simp only [adj, List.mem_cons] at hp
      rcases hp with rfl | hp
      · have := h.1
        show y.length ≤ x.length
        omega
      · exact ih (by simpa using h.2) p hp
theorem mem_adj {α : Type} {rs : List α} {i : Nat} {a b : α} (h : rs[i]? = some a) (h' : rs[i + 1]? = some b) : (a, b) ∈ adj rs := by
  induction rs generalizing i with
  | nil => simp at h
  | cons x rs ih =>
    cases rs with
    | nil => simp at h'
    | cons y r =>
      cases i with
      | zero => simp at h h'; subst h h'; simp [adj]
      | succ i => simp only [adj, List.mem_cons]; exact .inr (ih (by simpa using h) (by simpa using h'))
/-- the turns of the last loop -/
theorem fill_cols (n : Nat) (rs : List (List Int)) (s s' : Slot) (hl : rs.length ≤ 100) (hr : ∀ r ∈ rs, r.length ≤ 100) {i : Nat} {a b : List Int} (ha : rs[i]? = some a) (hb : rs[i + 1]? = some b) (hab : b.length ≤ a.length) :
    evalE (callF T0 n) (.comp (.k (.int 1)) [4] (.n 4) .range1 [(.bt .len [(.ix (.b 0) (.b 3))])] [(.cmp .ge (.ix (.ix (.b 0) (.bin .sub (.b 3) (.k (.int 1)))) (.b 4)) (.ix (.ix (.b 0) (.b 3)) (.b 4)))])
      [.val (.tuple (rs.map tpI)), s, s', .val (.int (1 + (i : Nat))), .non] = .ok (.list ((((List.range b.length).map fun j => PyData.int (j : Nat)).filter fun d => match d with | .int j => (match a[j.toNat]?, b[j.toNat]? with | some x, some y => decide (y ≤ x) | _, _ => false) | _ => false).map fun _ => .int 1)) := by
  have hk : ((1 : Int) + (i : Nat)) = ((i + 1 : Nat) : Int) := by omega
  have hk' : ((i + 1 : Nat) : Int) - 1 = (i : Nat) := by omega
  have i1 := atI_map tpI hb
  have i2 := atI_map tpI ha
  have hbl : b.length ≤ 100 := hr b (List.mem_of_getElem? hb)
  refine ev_comp (items := (List.range b.length).map fun j => PyData.int (j : Nat)) ?_ (by simp; omega) (compL_filter fun x hx => ?_)
  · simp only [hk, ixT i1, startR, ev_k, ev_v, ev_b, gb_eq, gv_eq, slb_v, slb_o, slv_v, ev_tup, ev_lst, ev_bin, ev_cmp, ev_chain, ev_neg1, ev_not, ev_and, ev_or, ev_ife, ev_call, ev_bt, ev_ix, ev_sl, ev_rev, ev_dict0, evs_nil, evs_cons, eva_nil, eva_cons, bnd_ok, asB, pl_nil, pl_int, sl_t, sl_l, rv_t, rv_l, b_add, b_sub, b_fdiv, b_mod, c_lt, c_le, c_gt, c_ge, c_eqI, c_neI, c_neB, c_isN, c_notN, c_isB, c_notB, t_len, t_lenL, t_tup, t_tupT, t_lst, t_lstL, t_sum, t_all, t_any, t_sorted, t_isT, t_isI, t_isB, t_isS, t_max, t_min, t_int, t_intB, s_seqT, s_seqL, s_enT, s_enL, s_zipT, ss_nil, ss_cons, nx_nx, nx_rt, nx_ex, fl_ok, ownS_i, ownS_t, ownS_l, ownS_b, ownS_s, ownS_n, ownS_d, s_fz, s_set, s_setT, s_own, s_ite, s_ret, resF_rt, bindT_n, bindT_2, bindT_2l, bindT_3, optFl_some, frz_cons, frz_nil, wipe_cons, wipe_nil, mkT_nil, mkL_nil, mkT_1, mkT_2, mkT_3, mkT_4, mkL_6, List.getElem?_cons_zero, List.getElem?_cons_succ, List.set_cons_zero, List.set_cons_succ, List.map_cons, List.map_nil, List.cons_append, List.nil_append, List.replicate_succ, List.replicate_zero, List.length_cons, List.length_nil, List.getElem?_cons_zero, List.getElem?_cons_succ, List.length_map]
    rw [s_rg1 (by omega) (by omega), rangeL_nat]
  · obtain ⟨j, hj, rfl⟩ := List.mem_map.mp hx
    have hj : j < b.length := List.mem_range.mp hj
    have a1 : (a.map PyData.int)[j]? = some (.int (a[j]'(by omega))) := by rw [List.getElem?_map, List.getElem?_eq_getElem (by omega)]; rfl
    have b1 : (b.map PyData.int)[j]? = some (.int b[j]) := by rw [List.getElem?_map, List.getElem?_eq_getElem hj]; rfl
    rw [turn_eq bindT_n]
    simp only [hk, hk', ixT i1, ixT i2, ixT (L2.atI_nat a1), ixT (L2.atI_nat b1), startR, ev_k, ev_v, ev_b, gb_eq, gv_eq, slb_v, slb_o, slv_v, ev_tup, ev_lst, ev_bin, ev_cmp, ev_chain, ev_neg1, ev_not, ev_and, ev_or, ev_ife, ev_call, ev_bt, ev_ix, ev_sl, ev_rev, ev_dict0, evs_nil, evs_cons, eva_nil, eva_cons, bnd_ok, asB, pl_nil, pl_int, sl_t, sl_l, rv_t, rv_l, b_add, b_sub, b_fdiv, b_mod, c_lt, c_le, c_gt, c_ge, c_eqI, c_neI, c_neB, c_isN, c_notN, c_isB, c_notB, t_len, t_lenL, t_tup, t_tupT, t_lst, t_lstL, t_sum, t_all, t_any, t_sorted, t_isT, t_isI, t_isB, t_isS, t_max, t_min, t_int, t_intB, s_seqT, s_seqL, s_enT, s_enL, s_zipT, ss_nil, ss_cons, nx_nx, nx_rt, nx_ex, fl_ok, ownS_i, ownS_t, ownS_l, ownS_b, ownS_s, ownS_n, ownS_d, s_fz, s_set, s_setT, s_own, s_ite, s_ret, resF_rt, bindT_n, bindT_2, bindT_2l, bindT_3, optFl_some, frz_cons, frz_nil, wipe_cons, wipe_nil, mkT_nil, mkL_nil, mkT_1, mkT_2, mkT_3, mkT_4, mkL_6, List.getElem?_cons_zero, List.getElem?_cons_succ, List.set_cons_zero, List.set_cons_succ, List.map_cons, List.map_nil, List.cons_append, List.nil_append, List.replicate_succ, List.replicate_zero, List.length_cons, List.length_nil, List.getElem?_cons_zero, List.getElem?_cons_succ, List.length_map, List.set_cons_zero, List.set_cons_succ]
    have e1 : a[j]? = some (a[j]'(by omega)) := List.getElem?_eq_getElem (by omega)
    have e2 : b[j]? = some b[j] := List.getElem?_eq_getElem hj
    simp only [Int.toNat_natCast, e1, e2]
    by_cases h : b[j] ≤ a[j]'(by omega) <;> simp [h, startR, ev_k, ev_v, ev_b, gb_eq, gv_eq, slb_v, slb_o, slv_v, ev_tup, ev_lst, ev_bin, ev_cmp, ev_chain, ev_neg1, ev_not, ev_and, ev_or, ev_ife, ev_call, ev_bt, ev_ix, ev_sl, ev_rev, ev_dict0, evs_nil, evs_cons, eva_nil, eva_cons, bnd_ok, asB, pl_nil, pl_int, sl_t, sl_l, rv_t, rv_l, b_add, b_sub, b_fdiv, b_mod, c_lt, c_le, c_gt, c_ge, c_eqI, c_neI, c_neB, c_isN, c_notN, c_isB, c_notB, t_len, t_lenL, t_tup, t_tupT, t_lst, t_lstL, t_sum, t_all, t_any, t_sorted, t_isT, t_isI, t_isB, t_isS, t_max, t_min, t_int, t_intB, s_seqT, s_seqL, s_enT, s_enL, s_zipT, ss_nil, ss_cons, nx_nx, nx_rt, nx_ex, fl_ok, ownS_i, ownS_t, ownS_l, ownS_b, ownS_s, ownS_n, ownS_d, s_fz, s_set, s_setT, s_own, s_ite, s_ret, resF_rt, bindT_n, bindT_2, bindT_2l, bindT_3, optFl_some, frz_cons, frz_nil, wipe_cons, wipe_nil, mkT_nil, mkL_nil, mkT_1, mkT_2, mkT_3, mkT_4, mkL_6, List.getElem?_cons_zero, List.getElem?_cons_succ, List.set_cons_zero, List.set_cons_succ, List.map_cons, List.map_nil, List.cons_append, List.nil_append, List.replicate_succ, List.replicate_zero, List.length_cons, List.length_nil]
theorem len5 {ρ : Env} {a b c d e : Slot} (h : ρ = [a, b, c, d, e]) : ρ = [a, b, c, d, e] := h
theorem shaped_ones {α : Type} (xs : List α) (h : xs.length ≤ 100) : SeqAt.shaped (.list (xs.map fun _ => PyData.int 1)) = true := shaped_list_of (fun x hx => by
  obtain ⟨_, _, rfl⟩ := List.mem_map.mp hx
  rfl) (by rw [List.length_map]; exact h)
theorem all_congr {α : Type} {p q : α → Bool} : ∀ {xs : List α}, (∀ x ∈ xs, p x = q x) → xs.all p = xs.all q
  | [], _ => rfl
  | x :: xs, h => by rw [List.all_cons, List.all_cons, h x List.mem_cons_self, all_congr fun y hy => h y (List.mem_cons_of_mem _ hy)]
/-- the turn of the first loop -/
theorem fill_row (n : Nat) (xs : List D) (s : Slot) (x : D) (hx : smD 59 x = true) :
    let ρ : Env := [.val (.tuple xs), .val x, .non, .non, .non]
    evalSs (callF T0 (n + 1)) [.ite (.or (.not (.bt .isTuple [(.b 1)])) (.cmp .ne (.comp (.v 2) [2] (.n 2) .seq [(.b 1)] [(.not (.call 0 [(.v 2), (.k (.int 1)), (.k (.int 9))]))]) (.lst []))) [.ret (.k (.bool false))] [],
      .ite (.cmp .ne (.bt .list [(.b 1)]) (.bt .sorted [(.b 1)])) [.ret (.k (.bool false))] []] ρ = if rowB x = true then .nx ρ else .rt (.bool false) := by
  intro ρ
  cases x with
  | tuple ys =>
    obtain ⟨hl, hy⟩ := smD_tuple.mp hx
    have hrow : rowB (.tuple ys) = (ys.all (wholeB 1 9) && riseB ((intsOf ys).getD [])) := rfl
    have hc : evalE (callF T0 (n + 1)) (.comp (.v 2) [2] (.n 2) .seq [(.b 1)] [(.not (.call 0 [(.v 2), (.k (.int 1)), (.k (.int 9))]))]) [.val (.tuple xs), .val (.tuple ys), .non, .non, .non] = .ok (.list ((ys.filter fun x => !wholeB 1 9 x).map id)) :=
      comp_filt rfl rfl (by omega) (fun x _ => by simp [m_is_whole, startR, ev_k, ev_v, ev_b, gb_eq, gv_eq, slb_v, slb_o, slv_v, ev_tup, ev_lst, ev_bin, ev_cmp, ev_chain, ev_neg1, ev_not, ev_and, ev_or, ev_ife, ev_call, ev_bt, ev_ix, ev_sl, ev_rev, ev_dict0, evs_nil, evs_cons, eva_nil, eva_cons, bnd_ok, asB, pl_nil, pl_int, sl_t, sl_l, rv_t, rv_l, b_add, b_sub, b_fdiv, b_mod, c_lt, c_le, c_gt, c_ge, c_eqI, c_neI, c_neB, c_isN, c_notN, c_isB, c_notB, t_len, t_lenL, t_tup, t_tupT, t_lst, t_lstL, t_sum, t_all, t_any, t_sorted, t_isT, t_isI, t_isB, t_isS, t_max, t_min, t_int, t_intB, s_seqT, s_seqL, s_enT, s_enL, s_zipT, ss_nil, ss_cons, nx_nx, nx_rt, nx_ex, fl_ok, ownS_i, ownS_t, ownS_l, ownS_b, ownS_s, ownS_n, ownS_d, s_fz, s_set, s_setT, s_own, s_ite, s_ret, resF_rt, bindT_n, bindT_2, bindT_2l, bindT_3, optFl_some, frz_cons, frz_nil, wipe_cons, wipe_nil, mkT_nil, mkL_nil, mkT_1, mkT_2, mkT_3, mkT_4, mkL_6, List.getElem?_cons_zero, List.getElem?_cons_succ, List.set_cons_zero, List.set_cons_succ, List.map_cons, List.map_nil, List.cons_append, List.nil_append, List.replicate_succ, List.replicate_zero, List.length_cons, List.length_nil]) fun x _ _ => by simp [startR, ev_k, ev_v, ev_b, gb_eq, gv_eq, slb_v, slb_o, slv_v, ev_tup, ev_lst, ev_bin, ev_cmp, ev_chain, ev_neg1, ev_not, ev_and, ev_or, ev_ife, ev_call, ev_bt, ev_ix, ev_sl, ev_rev, ev_dict0, evs_nil, evs_cons, eva_nil, eva_cons, bnd_ok, asB, pl_nil, pl_int, sl_t, sl_l, rv_t, rv_l, b_add, b_sub, b_fdiv, b_mod, c_lt, c_le, c_gt, c_ge, c_eqI, c_neI, c_neB, c_isN, c_notN, c_isB, c_notB, t_len, t_lenL, t_tup, t_tupT, t_lst, t_lstL, t_sum, t_all, t_any, t_sorted, t_isT, t_isI, t_isB, t_isS, t_max, t_min, t_int, t_intB, s_seqT, s_seqL, s_enT, s_enL, s_zipT, ss_nil, ss_cons, nx_nx, nx_rt, nx_ex, fl_ok, ownS_i, ownS_t, ownS_l, ownS_b, ownS_s, ownS_n, ownS_d, s_fz, s_set, s_setT, s_own, s_ite, s_ret, resF_rt, bindT_n, bindT_2, bindT_2l, bindT_3, optFl_some, frz_cons, frz_nil, wipe_cons, wipe_nil, mkT_nil, mkL_nil, mkT_1, mkT_2, mkT_3, mkT_4, mkL_6, List.getElem?_cons_zero, List.getElem?_cons_succ, List.set_cons_zero, List.set_cons_succ, List.map_cons, List.map_nil, List.cons_append, List.nil_append, List.replicate_succ, List.replicate_zero, List.length_cons, List.length_nil]
    have hsh : SeqAt.shaped (.list ((ys.filter fun x => !wholeB 1 9 x).map id)) = true := shaped_list_of (fun x hm => by
      rw [List.map_id, List.mem_filter] at hm
      exact smD_mono (by decide) (hy x hm.1)) (by rw [List.map_id]; exact Nat.le_trans (List.length_filter_le _ _) hl)
    have he := filter_empty (p := fun x => !wholeB 1 9 x) ys
    rw [List.map_id] at hsh he hc
    simp only [Bool.not_not] at he
    have he' : (ys.all fun x => wholeB 1 9 x) = ys.all (wholeB 1 9) := rfl
    rw [hrow]
    simp only [ρ, isTupleD, hc, c_ne hsh shaped_nil, eqv_nil_l, he, he', startR, ev_k, ev_v, ev_b, gb_eq, gv_eq, slb_v, slb_o, slv_v, ev_tup, ev_lst, ev_bin, ev_cmp, ev_chain, ev_neg1, ev_not, ev_and, ev_or, ev_ife, ev_call, ev_bt, ev_ix, ev_sl, ev_rev, ev_dict0, evs_nil, evs_cons, eva_nil, eva_cons, bnd_ok, asB, pl_nil, pl_int, sl_t, sl_l, rv_t, rv_l, b_add, b_sub, b_fdiv, b_mod, c_lt, c_le, c_gt, c_ge, c_eqI, c_neI, c_neB, c_isN, c_notN, c_isB, c_notB, t_len, t_lenL, t_tup, t_tupT, t_lst, t_lstL, t_sum, t_all, t_any, t_sorted, t_isT, t_isI, t_isB, t_isS, t_max, t_min, t_int, t_intB, s_seqT, s_seqL, s_enT, s_enL, s_zipT, ss_nil, ss_cons, nx_nx, nx_rt, nx_ex, fl_ok, ownS_i, ownS_t, ownS_l, ownS_b, ownS_s, ownS_n, ownS_d, s_fz, s_set, s_setT, s_own, s_ite, s_ret, resF_rt, bindT_n, bindT_2, bindT_2l, bindT_3, optFl_some, frz_cons, frz_nil, wipe_cons, wipe_nil, mkT_nil, mkL_nil, mkT_1, mkT_2, mkT_3, mkT_4, mkL_6, List.getElem?_cons_zero, List.getElem?_cons_succ, List.set_cons_zero, List.set_cons_succ, List.map_cons, List.map_nil, List.cons_append, List.nil_append, List.replicate_succ, List.replicate_zero, List.length_cons, List.length_nil, Bool.not_true, if_neg Bool.false_ne_true]
    cases ha : ys.all (wholeB 1 9) with
    | false => simp [startR, ev_k, ev_v, ev_b, gb_eq, gv_eq, slb_v, slb_o, slv_v, ev_tup, ev_lst, ev_bin, ev_cmp, ev_chain, ev_neg1, ev_not, ev_and, ev_or, ev_ife, ev_call, ev_bt, ev_ix, ev_sl, ev_rev, ev_dict0, evs_nil, evs_cons, eva_nil, eva_cons, bnd_ok, asB, pl_nil, pl_int, sl_t, sl_l, rv_t, rv_l, b_add, b_sub, b_fdiv, b_mod, c_lt, c_le, c_gt, c_ge, c_eqI, c_neI, c_neB, c_isN, c_notN, c_isB, c_notB, t_len, t_lenL, t_tup, t_tupT, t_lst, t_lstL, t_sum, t_all, t_any, t_sorted, t_isT, t_isI, t_isB, t_isS, t_max, t_min, t_int, t_intB, s_seqT, s_seqL, s_enT, s_enL, s_zipT, ss_nil, ss_cons, nx_nx, nx_rt, nx_ex, fl_ok, ownS_i, ownS_t, ownS_l, ownS_b, ownS_s, ownS_n, ownS_d, s_fz, s_set, s_setT, s_own, s_ite, s_ret, resF_rt, bindT_n, bindT_2, bindT_2l, bindT_3, optFl_some, frz_cons, frz_nil, wipe_cons, wipe_nil, mkT_nil, mkL_nil, mkT_1, mkT_2, mkT_3, mkT_4, mkL_6, List.getElem?_cons_zero, List.getElem?_cons_succ, List.set_cons_zero, List.set_cons_succ, List.map_cons, List.map_nil, List.cons_append, List.nil_append, List.replicate_succ, List.replicate_zero, List.length_cons, List.length_nil]
    | true =>
      obtain ⟨ns, rfl, hn⟩ := whole_ints ha
      rw [List.length_map] at hl
      have h2 := sorted_tpI ns
      simp only [h2, intsOf_map, c_ne (shaped_ints ns hl) (shaped_ints _ (show (sortI ns).length ≤ 100 by rw [len_sortI]; exact hl)), eqv_lI, Option.getD_some, rise_sort, startR, ev_k, ev_v, ev_b, gb_eq, gv_eq, slb_v, slb_o, slv_v, ev_tup, ev_lst, ev_bin, ev_cmp, ev_chain, ev_neg1, ev_not, ev_and, ev_or, ev_ife, ev_call, ev_bt, ev_ix, ev_sl, ev_rev, ev_dict0, evs_nil, evs_cons, eva_nil, eva_cons, bnd_ok, asB, pl_nil, pl_int, sl_t, sl_l, rv_t, rv_l, b_add, b_sub, b_fdiv, b_mod, c_lt, c_le, c_gt, c_ge, c_eqI, c_neI, c_neB, c_isN, c_notN, c_isB, c_notB, t_len, t_lenL, t_tup, t_tupT, t_lst, t_lstL, t_sum, t_all, t_any, t_sorted, t_isT, t_isI, t_isB, t_isS, t_max, t_min, t_int, t_intB, s_seqT, s_seqL, s_enT, s_enL, s_zipT, ss_nil, ss_cons, nx_nx, nx_rt, nx_ex, fl_ok, ownS_i, ownS_t, ownS_l, ownS_b, ownS_s, ownS_n, ownS_d, s_fz, s_set, s_setT, s_own, s_ite, s_ret, resF_rt, bindT_n, bindT_2, bindT_2l, bindT_3, optFl_some, frz_cons, frz_nil, wipe_cons, wipe_nil, mkT_nil, mkL_nil, mkT_1, mkT_2, mkT_3, mkT_4, mkL_6, List.getElem?_cons_zero, List.getElem?_cons_succ, List.set_cons_zero, List.set_cons_succ, List.map_cons, List.map_nil, List.cons_append, List.nil_append, List.replicate_succ, List.replicate_zero, List.length_cons, List.length_nil, Bool.not_true, if_neg Bool.false_ne_true]
      by_cases h : ns = sortI ns
      · rw [decide_eq_true h]; simp [startR, ev_k, ev_v, ev_b, gb_eq, gv_eq, slb_v, slb_o, slv_v, ev_tup, ev_lst, ev_bin, ev_cmp, ev_chain, ev_neg1, ev_not, ev_and, ev_or, ev_ife, ev_call, ev_bt, ev_ix, ev_sl, ev_rev, ev_dict0, evs_nil, evs_cons, eva_nil, eva_cons, bnd_ok, asB, pl_nil, pl_int, sl_t, sl_l, rv_t, rv_l, b_add, b_sub, b_fdiv, b_mod, c_lt, c_le, c_gt, c_ge, c_eqI, c_neI, c_neB, c_isN, c_notN, c_isB, c_notB, t_len, t_lenL, t_tup, t_tupT, t_lst, t_lstL, t_sum, t_all, t_any, t_sorted, t_isT, t_isI, t_isB, t_isS, t_max, t_min, t_int, t_intB, s_seqT, s_seqL, s_enT, s_enL, s_zipT, ss_nil, ss_cons, nx_nx, nx_rt, nx_ex, fl_ok, ownS_i, ownS_t, ownS_l, ownS_b, ownS_s, ownS_n, ownS_d, s_fz, s_set, s_setT, s_own, s_ite, s_ret, resF_rt, bindT_n, bindT_2, bindT_2l, bindT_3, optFl_some, frz_cons, frz_nil, wipe_cons, wipe_nil, mkT_nil, mkL_nil, mkT_1, mkT_2, mkT_3, mkT_4, mkL_6, List.getElem?_cons_zero, List.getElem?_cons_succ, List.set_cons_zero, List.set_cons_succ, List.map_cons, List.map_nil, List.cons_append, List.nil_append, List.replicate_succ, List.replicate_zero, List.length_cons, List.length_nil]
      · rw [decide_eq_false h]; simp [startR, ev_k, ev_v, ev_b, gb_eq, gv_eq, slb_v, slb_o, slv_v, ev_tup, ev_lst, ev_bin, ev_cmp, ev_chain, ev_neg1, ev_not, ev_and, ev_or, ev_ife, ev_call, ev_bt, ev_ix, ev_sl, ev_rev, ev_dict0, evs_nil, evs_cons, eva_nil, eva_cons, bnd_ok, asB, pl_nil, pl_int, sl_t, sl_l, rv_t, rv_l, b_add, b_sub, b_fdiv, b_mod, c_lt, c_le, c_gt, c_ge, c_eqI, c_neI, c_neB, c_isN, c_notN, c_isB, c_notB, t_len, t_lenL, t_tup, t_tupT, t_lst, t_lstL, t_sum, t_all, t_any, t_sorted, t_isT, t_isI, t_isB, t_isS, t_max, t_min, t_int, t_intB, s_seqT, s_seqL, s_enT, s_enL, s_zipT, ss_nil, ss_cons, nx_nx, nx_rt, nx_ex, fl_ok, ownS_i, ownS_t, ownS_l, ownS_b, ownS_s, ownS_n, ownS_d, s_fz, s_set, s_setT, s_own, s_ite, s_ret, resF_rt, bindT_n, bindT_2, bindT_2l, bindT_3, optFl_some, frz_cons, frz_nil, wipe_cons, wipe_nil, mkT_nil, mkL_nil, mkT_1, mkT_2, mkT_3, mkT_4, mkL_6, List.getElem?_cons_zero, List.getElem?_cons_succ, List.set_cons_zero, List.set_cons_succ, List.map_cons, List.map_nil, List.cons_append, List.nil_append, List.replicate_succ, List.replicate_zero, List.length_cons, List.length_nil]
  | _ => simp [ρ, isTupleD, rowB, startR, ev_k, ev_v, ev_b, gb_eq, gv_eq, slb_v, slb_o, slv_v, ev_tup, ev_lst, ev_bin, ev_cmp, ev_chain, ev_neg1, ev_not, ev_and, ev_or, ev_ife, ev_call, ev_bt, ev_ix, ev_sl, ev_rev, ev_dict0, evs_nil, evs_cons, eva_nil, eva_cons, bnd_ok, asB, pl_nil, pl_int, sl_t, sl_l, rv_t, rv_l, b_add, b_sub, b_fdiv, b_mod, c_lt, c_le, c_gt, c_ge, c_eqI, c_neI, c_neB, c_isN, c_notN, c_isB, c_notB, t_len, t_lenL, t_tup, t_tupT, t_lst, t_lstL, t_sum, t_all, t_any, t_sorted, t_isT, t_isI, t_isB, t_isS, t_max, t_min, t_int, t_intB, s_seqT, s_seqL, s_enT, s_enL, s_zipT, ss_nil, ss_cons, nx_nx, nx_rt, nx_ex, fl_ok, ownS_i, ownS_t, ownS_l, ownS_b, ownS_s, ownS_n, ownS_d, s_fz, s_set, s_setT, s_own, s_ite, s_ret, resF_rt, bindT_n, bindT_2, bindT_2l, bindT_3, optFl_some, frz_cons, frz_nil, wipe_cons, wipe_nil, mkT_nil, mkL_nil, mkT_1, mkT_2, mkT_3, mkT_4, mkL_6, List.getElem?_cons_zero, List.getElem?_cons_succ, List.set_cons_zero, List.set_cons_succ, List.map_cons, List.map_nil, List.cons_append, List.nil_append, List.replicate_succ, List.replicate_zero, List.length_cons, List.length_nil]
abbrev bA_Lfill : List Stm := [.ite (.or (.not (.bt .isTuple [(.b 1)])) (.cmp .ne (.comp (.v 2) [2] (.n 2) .seq [(.b 1)] [(.not (.call 0 [(.v 2), (.k (.int 1)), (.k (.int 9))]))]) (.lst []))) [.ret (.k (.bool false))] [], .ite (.cmp .ne (.bt .list [(.b 1)]) (.bt .sorted [(.b 1)])) [.ret (.k (.bool false))] []]
abbrev bB_Lfill : List Stm := [.ite (.cmp .ne (.comp (.k (.int 1)) [4] (.n 4) .range1 [(.bt .len [(.ix (.b 0) (.b 3))])] [(.cmp .ge (.ix (.ix (.b 0) (.bin .sub (.b 3) (.k (.int 1)))) (.b 4)) (.ix (.ix (.b 0) (.b 3)) (.b 4)))]) (.lst [])) [.ret (.k (.bool false))] []]
theorem loop_A (n : Nat) (xs : List D) (hx : ∀ x ∈ xs, smD 59 x = true) : (xs.all rowB = true → ∃ s, evalS (callF T0 (n + 1)) (.loop (.n 1) .seq [(.v 0)] bA_Lfill) [.val (.tuple xs), .non, .non, .non, .non] = .nx [.val (.tuple xs), s, .non, .non, .non]) ∧
    (xs.all rowB = false → evalS (callF T0 (n + 1)) (.loop (.n 1) .seq [(.v 0)] bA_Lfill) [.val (.tuple xs), .non, .non, .non, .non] = .rt (.bool false)) := by
  have src : (evalEs (callF T0 (n + 1)) [(.v 0)] [.val (.tuple xs), .non, .non, .non, .non]).bind (evalSrc .seq) = .ok xs := by simp only [startR, ev_k, ev_v, ev_b, gb_eq, gv_eq, slb_v, slb_o, slv_v, ev_tup, ev_lst, ev_bin, ev_cmp, ev_chain, ev_neg1, ev_not, ev_and, ev_or, ev_ife, ev_call, ev_bt, ev_ix, ev_sl, ev_rev, ev_dict0, evs_nil, evs_cons, eva_nil, eva_cons, bnd_ok, asB, pl_nil, pl_int, sl_t, sl_l, rv_t, rv_l, b_add, b_sub, b_fdiv, b_mod, c_lt, c_le, c_gt, c_ge, c_eqI, c_neI, c_neB, c_isN, c_notN, c_isB, c_notB, t_len, t_lenL, t_tup, t_tupT, t_lst, t_lstL, t_sum, t_all, t_any, t_sorted, t_isT, t_isI, t_isB, t_isS, t_max, t_min, t_int, t_intB, s_seqT, s_seqL, s_enT, s_enL, s_zipT, ss_nil, ss_cons, nx_nx, nx_rt, nx_ex, fl_ok, ownS_i, ownS_t, ownS_l, ownS_b, ownS_s, ownS_n, ownS_d, s_fz, s_set, s_setT, s_own, s_ite, s_ret, resF_rt, bindT_n, bindT_2, bindT_2l, bindT_3, optFl_some, frz_cons, frz_nil, wipe_cons, wipe_nil, mkT_nil, mkL_nil, mkT_1, mkT_2, mkT_3, mkT_4, mkL_6, List.getElem?_cons_zero, List.getElem?_cons_succ, List.set_cons_zero, List.set_cons_succ, List.map_cons, List.map_nil, List.cons_append, List.nil_append, List.replicate_succ, List.replicate_zero, List.length_cons, List.length_nil]
  rw [s_loop, src, fl_ok]
  obtain ⟨g1, g2⟩ := loop_guard (turn := fun ρ d => optFl (bindT ρ (Tg.n 1) d) fun ρ' => evalSs (callF T0 (n + 1)) bA_Lfill ρ') (P := fun ρ => ∃ s, ρ = [.val (.tuple xs), s, .non, .non, .non]) (g := rowB) (d := .bool false) (xs := xs) (ρ := [.val (.tuple xs), .non, .non, .non, .non]) (fun ρ x hp hm => by
    obtain ⟨s, rfl⟩ := hp
    have := fill_row n xs s x (hx x hm)
    simp only [bindT_n, optFl_some, List.set_cons_succ, List.set_cons_zero]
    rw [this]
    exact ⟨fun hg => ⟨_, by rw [if_pos hg], _, rfl⟩, fun hg => by rw [if_neg (by rw [hg]; decide)]⟩) ⟨_, rfl⟩
  refine ⟨fun ha => ?_, fun ha => g2 ha⟩
  obtain ⟨ρ', e, s, rfl⟩ := g1 ha
  exact ⟨s, e⟩
theorem filter_none {p : D → Bool} {f : D → D} (xs : List D) : ((xs.filter p).map f).isEmpty = xs.all fun x => !p x := by
  induction xs with
  | nil => rfl
  | cons x xs ih => cases h : p x <;> simp_all
theorem loop_B (n : Nat) (rs : List (List Int)) (s : Slot) (hl : rs.length ≤ 100) (hr : ∀ r ∈ rs, r.length ≤ 100) (hf : fallB (lensI rs) = true) :
    (((adj rs).all fun p => colsB p.1 p.2) = true → ∃ s', evalS (callF T0 (n + 1)) (.loop (.n 3) .range2 [(.k (.int 1)), (.bt .len [(.b 0)])] bB_Lfill) [.val (.tuple (rs.map tpI)), s, .non, .non, .non] = .nx [.val (.tuple (rs.map tpI)), s, .non, s', .non]) ∧
    (((adj rs).all fun p => colsB p.1 p.2) = false → evalS (callF T0 (n + 1)) (.loop (.n 3) .range2 [(.k (.int 1)), (.bt .len [(.b 0)])] bB_Lfill) [.val (.tuple (rs.map tpI)), s, .non, .non, .non] = .rt (.bool false)) := by
  have src : (evalEs (callF T0 (n + 1)) [(.k (.int 1)), (.bt .len [(.b 0)])] [.val (.tuple (rs.map tpI)), s, .non, .non, .non]).bind (evalSrc .range2) = .ok ((List.range (rs.length - 1)).map fun i => PyData.int (1 + (i : Nat))) := by
    simp only [startR, ev_k, ev_v, ev_b, gb_eq, gv_eq, slb_v, slb_o, slv_v, ev_tup, ev_lst, ev_bin, ev_cmp, ev_chain, ev_neg1, ev_not, ev_and, ev_or, ev_ife, ev_call, ev_bt, ev_ix, ev_sl, ev_rev, ev_dict0, evs_nil, evs_cons, eva_nil, eva_cons, bnd_ok, asB, pl_nil, pl_int, sl_t, sl_l, rv_t, rv_l, b_add, b_sub, b_fdiv, b_mod, c_lt, c_le, c_gt, c_ge, c_eqI, c_neI, c_neB, c_isN, c_notN, c_isB, c_notB, t_len, t_lenL, t_tup, t_tupT, t_lst, t_lstL, t_sum, t_all, t_any, t_sorted, t_isT, t_isI, t_isB, t_isS, t_max, t_min, t_int, t_intB, s_seqT, s_seqL, s_enT, s_enL, s_zipT, ss_nil, ss_cons, nx_nx, nx_rt, nx_ex, fl_ok, ownS_i, ownS_t, ownS_l, ownS_b, ownS_s, ownS_n, ownS_d, s_fz, s_set, s_setT, s_own, s_ite, s_ret, resF_rt, bindT_n, bindT_2, bindT_2l, bindT_3, optFl_some, frz_cons, frz_nil, wipe_cons, wipe_nil, mkT_nil, mkL_nil, mkT_1, mkT_2, mkT_3, mkT_4, mkL_6, List.getElem?_cons_zero, List.getElem?_cons_succ, List.set_cons_zero, List.set_cons_succ, List.map_cons, List.map_nil, List.cons_append, List.nil_append, List.replicate_succ, List.replicate_zero, List.length_cons, List.length_nil, List.length_map]
    rw [s_rg2 (by omega) (by omega) (by omega) (by omega)]
    unfold rangeL
    have : ((rs.length : Int) - 1).toNat = rs.length - 1 := by omega
    rw [this]
  rw [s_loop, src, fl_ok]
  let g : D → Bool := fun d => match d with
    | .int k => (match rs[(k - 1).toNat]?, rs[(k - 1).toNat + 1]? with | some a, some b => colsB a b | _, _ => true)
    | _ => true
  have hg : (((List.range (rs.length - 1)).map fun i => PyData.int (1 + (i : Nat))).all g) = (adj rs).all fun p => colsB p.1 p.2 := by
    rw [← all_range rs colsB, List.all_map]
    apply all_congr
    intro i _
    show g (PyData.int (1 + (i : Nat))) = _
    have : ((1 : Int) + (i : Nat) - 1).toNat = i := by omega
    simp only [g, this]
    cases rs[i]? <;> cases rs[i + 1]? <;> rfl
  obtain ⟨g1, g2⟩ := loop_guard (turn := fun ρ d => optFl (bindT ρ (Tg.n 3) d) fun ρ' => evalSs (callF T0 (n + 1)) bB_Lfill ρ') (P := fun ρ => ∃ s', ρ = [.val (.tuple (rs.map tpI)), s, .non, s', .non]) (g := g) (d := .bool false)
    (xs := (List.range (rs.length - 1)).map fun i => PyData.int (1 + (i : Nat))) (ρ := [.val (.tuple (rs.map tpI)), s, .non, .non, .non]) (fun ρ x hp hm => by
    obtain ⟨s', rfl⟩ := hp
    obtain ⟨i, hi, rfl⟩ := List.mem_map.mp hm
    have hi : i < rs.length - 1 := List.mem_range.mp hi
    have ha : rs[i]? = some (rs[i]'(by omega)) := List.getElem?_eq_getElem (by omega)
    have hb : rs[i + 1]? = some (rs[i + 1]'(by omega)) := List.getElem?_eq_getElem (by omega)
    have hab := fall_lens hf _ (mem_adj ha hb)
    have hc := fill_cols (n + 1) rs s .non hl hr ha hb hab
    have hbl : (rs[i + 1]'(by omega)).length ≤ 100 := hr _ (List.mem_of_getElem? hb)
    have hsh := shaped_ones (((List.range (rs[i + 1]'(by omega)).length).map fun j => PyData.int (j : Nat)).filter fun d => match d with | .int j => (match (rs[i]'(by omega))[j.toNat]?, (rs[i + 1]'(by omega))[j.toNat]? with | some x, some y => decide (y ≤ x) | _, _ => false) | _ => false)
      (Nat.le_trans (List.length_filter_le _ _) (by rw [List.length_map, List.length_range]; exact hbl))
    have hgi : g (PyData.int (1 + (i : Nat))) = colsB (rs[i]'(by omega)) (rs[i + 1]'(by omega)) := by
      have : ((1 : Int) + (i : Nat) - 1).toNat = i := by omega
      simp only [g, this, ha, hb]
    have hemp : (PyData.eqv (.list ((((List.range (rs[i + 1]'(by omega)).length).map fun j => PyData.int (j : Nat)).filter fun d => match d with | .int j => (match (rs[i]'(by omega))[j.toNat]?, (rs[i + 1]'(by omega))[j.toNat]? with | some x, some y => decide (y ≤ x) | _, _ => false) | _ => false).map fun _ => .int 1)) (.list [])) = colsB (rs[i]'(by omega)) (rs[i + 1]'(by omega)) := by
      rw [eqv_nil_l, filter_none, List.all_map, ← cols_range _ _ hab]
      apply all_congr
      intro j hj
      have hj : j < (rs[i + 1]'(by omega)).length := List.mem_range.mp hj
      have e1 : (rs[i]'(by omega))[j]? = some ((rs[i]'(by omega))[j]'(Nat.lt_of_lt_of_le hj hab)) := List.getElem?_eq_getElem _
      have e2 : (rs[i + 1]'(by omega))[j]? = some ((rs[i + 1]'(by omega))[j]'hj) := List.getElem?_eq_getElem _
      simp only [Function.comp, Int.toNat_natCast, e1, e2]
      rw [← decide_not]
      exact decide_eq_decide.mpr (Int.not_le)
    rw [hgi]
    simp only [bindT_n, optFl_some, startR, ev_k, ev_v, ev_b, gb_eq, gv_eq, slb_v, slb_o, slv_v, ev_tup, ev_lst, ev_bin, ev_cmp, ev_chain, ev_neg1, ev_not, ev_and, ev_or, ev_ife, ev_call, ev_bt, ev_ix, ev_sl, ev_rev, ev_dict0, evs_nil, evs_cons, eva_nil, eva_cons, bnd_ok, asB, pl_nil, pl_int, sl_t, sl_l, rv_t, rv_l, b_add, b_sub, b_fdiv, b_mod, c_lt, c_le, c_gt, c_ge, c_eqI, c_neI, c_neB, c_isN, c_notN, c_isB, c_notB, t_len, t_lenL, t_tup, t_tupT, t_lst, t_lstL, t_sum, t_all, t_any, t_sorted, t_isT, t_isI, t_isB, t_isS, t_max, t_min, t_int, t_intB, s_seqT, s_seqL, s_enT, s_enL, s_zipT, ss_nil, ss_cons, nx_nx, nx_rt, nx_ex, fl_ok, ownS_i, ownS_t, ownS_l, ownS_b, ownS_s, ownS_n, ownS_d, s_fz, s_set, s_setT, s_own, s_ite, s_ret, resF_rt, bindT_n, bindT_2, bindT_2l, bindT_3, optFl_some, frz_cons, frz_nil, wipe_cons, wipe_nil, mkT_nil, mkL_nil, mkT_1, mkT_2, mkT_3, mkT_4, mkL_6, List.getElem?_cons_zero, List.getElem?_cons_succ, List.set_cons_zero, List.set_cons_succ, List.map_cons, List.map_nil, List.cons_append, List.nil_append, List.replicate_succ, List.replicate_zero, List.length_cons, List.length_nil]
    rw [hc]
    simp only [bnd_ok, c_ne hsh shaped_nil, asB, fl_ok, hemp]
    refine ⟨fun hg => ⟨_, ?_, .val (.int (1 + (i : Nat))), rfl⟩, fun hg => ?_⟩
    · rw [hg]; simp only [Bool.not_true, if_neg Bool.false_ne_true, nx_nx]
    · rw [hg]; simp only [Bool.not_false, if_true, nx_rt]) ⟨_, rfl⟩
  rw [hg] at g1 g2
  refine ⟨fun ha => ?_, fun ha => g2 ha⟩
  obtain ⟨ρ', e, s', rfl⟩ := g1 ha
  exact ⟨s', e⟩
theorem m_Lis_filling (n : Nat) (d : D) (h : smD 60 d = true) : callF T0 (n + 3) 15 [d] = .ok (.bool (fillB d)) := by
  rw [call_eq (fn := F_Lis_filling) rfl rfl]
  by_cases hd : ∃ xs, d = .tuple xs
  case neg => cases d <;> first | (exact absurd ⟨_, rfl⟩ hd) | simp [F_Lis_filling, isTupleD, fillB, startR, ev_k, ev_v, ev_b, gb_eq, gv_eq, slb_v, slb_o, slv_v, ev_tup, ev_lst, ev_bin, ev_cmp, ev_chain, ev_neg1, ev_not, ev_and, ev_or, ev_ife, ev_call, ev_bt, ev_ix, ev_sl, ev_rev, ev_dict0, evs_nil, evs_cons, eva_nil, eva_cons, bnd_ok, asB, pl_nil, pl_int, sl_t, sl_l, rv_t, rv_l, b_add, b_sub, b_fdiv, b_mod, c_lt, c_le, c_gt, c_ge, c_eqI, c_neI, c_neB, c_isN, c_notN, c_isB, c_notB, t_len, t_lenL, t_tup, t_tupT, t_lst, t_lstL, t_sum, t_all, t_any, t_sorted, t_isT, t_isI, t_isB, t_isS, t_max, t_min, t_int, t_intB, s_seqT, s_seqL, s_enT, s_enL, s_zipT, ss_nil, ss_cons, nx_nx, nx_rt, nx_ex, fl_ok, ownS_i, ownS_t, ownS_l, ownS_b, ownS_s, ownS_n, ownS_d, s_fz, s_set, s_setT, s_own, s_ite, s_ret, resF_rt, bindT_n, bindT_2, bindT_2l, bindT_3, optFl_some, frz_cons, frz_nil, wipe_cons, wipe_nil, mkT_nil, mkL_nil, mkT_1, mkT_2, mkT_3, mkT_4, mkL_6, List.getElem?_cons_zero, List.getElem?_cons_succ, List.set_cons_zero, List.set_cons_succ, List.map_cons, List.map_nil, List.cons_append, List.nil_append, List.replicate_succ, List.replicate_zero, List.length_cons, List.length_nil]
  obtain ⟨xs, rfl⟩ := hd
  obtain ⟨hl, hx⟩ := smD_tuple.mp h
  have hfill : fillB (.tuple xs) = (xs.all rowB && (shapeB (tpI (lensI (rowsOr xs))) && (adj (rowsOr xs)).all fun p => colsB p.1 p.2)) := rfl
  rw [hfill]
  obtain ⟨l1, l2⟩ := loop_A (n + 1) xs hx
  simp only [F_Lis_filling, isTupleD, startR, ev_k, ev_v, ev_b, gb_eq, gv_eq, slb_v, slb_o, slv_v, ev_tup, ev_lst, ev_bin, ev_cmp, ev_chain, ev_neg1, ev_not, ev_and, ev_or, ev_ife, ev_call, ev_bt, ev_ix, ev_sl, ev_rev, ev_dict0, evs_nil, evs_cons, eva_nil, eva_cons, bnd_ok, asB, pl_nil, pl_int, sl_t, sl_l, rv_t, rv_l, b_add, b_sub, b_fdiv, b_mod, c_lt, c_le, c_gt, c_ge, c_eqI, c_neI, c_neB, c_isN, c_notN, c_isB, c_notB, t_len, t_lenL, t_tup, t_tupT, t_lst, t_lstL, t_sum, t_all, t_any, t_sorted, t_isT, t_isI, t_isB, t_isS, t_max, t_min, t_int, t_intB, s_seqT, s_seqL, s_enT, s_enL, s_zipT, ss_nil, ss_cons, nx_nx, nx_rt, nx_ex, fl_ok, ownS_i, ownS_t, ownS_l, ownS_b, ownS_s, ownS_n, ownS_d, s_fz, s_set, s_setT, s_own, s_ite, s_ret, resF_rt, bindT_n, bindT_2, bindT_2l, bindT_3, optFl_some, frz_cons, frz_nil, wipe_cons, wipe_nil, mkT_nil, mkL_nil, mkT_1, mkT_2, mkT_3, mkT_4, mkL_6, List.getElem?_cons_zero, List.getElem?_cons_succ, List.set_cons_zero, List.set_cons_succ, List.map_cons, List.map_nil, List.cons_append, List.nil_append, List.replicate_succ, List.replicate_zero, List.length_cons, List.length_nil, Bool.not_true, if_neg Bool.false_ne_true]
  cases ha : xs.all rowB with
  | false =>
    rw [l2 ha]
    simp [startR, ev_k, ev_v, ev_b, gb_eq, gv_eq, slb_v, slb_o, slv_v, ev_tup, ev_lst, ev_bin, ev_cmp, ev_chain, ev_neg1, ev_not, ev_and, ev_or, ev_ife, ev_call, ev_bt, ev_ix, ev_sl, ev_rev, ev_dict0, evs_nil, evs_cons, eva_nil, eva_cons, bnd_ok, asB, pl_nil, pl_int, sl_t, sl_l, rv_t, rv_l, b_add, b_sub, b_fdiv, b_mod, c_lt, c_le, c_gt, c_ge, c_eqI, c_neI, c_neB, c_isN, c_notN, c_isB, c_notB, t_len, t_lenL, t_tup, t_tupT, t_lst, t_lstL, t_sum, t_all, t_any, t_sorted, t_isT, t_isI, t_isB, t_isS, t_max, t_min, t_int, t_intB, s_seqT, s_seqL, s_enT, s_enL, s_zipT, ss_nil, ss_cons, nx_nx, nx_rt, nx_ex, fl_ok, ownS_i, ownS_t, ownS_l, ownS_b, ownS_s, ownS_n, ownS_d, s_fz, s_set, s_setT, s_own, s_ite, s_ret, resF_rt, bindT_n, bindT_2, bindT_2l, bindT_3, optFl_some, frz_cons, frz_nil, wipe_cons, wipe_nil, mkT_nil, mkL_nil, mkT_1, mkT_2, mkT_3, mkT_4, mkL_6, List.getElem?_cons_zero, List.getElem?_cons_succ, List.set_cons_zero, List.set_cons_succ, List.map_cons, List.map_nil, List.cons_append, List.nil_append, List.replicate_succ, List.replicate_zero, List.length_cons, List.length_nil]
  | true =>
    obtain ⟨s1, e1⟩ := l1 ha
    rw [e1]
    obtain ⟨rs, rfl, hn⟩ := rows_of ha
    rw [List.length_map] at hl
    have hr : ∀ r ∈ rs, r.length ≤ 100 := fun r hr => by
      have := (smD_tuple.mp (hx (tpI r) (List.mem_map_of_mem hr))).1
      rwa [List.length_map] at this
    have hc : evalE (callF T0 (n + 2)) (.comp (.bt .len [(.b 1)]) [1] (.n 1) .seq [(.b 0)] []) [.val (.tuple (rs.map tpI)), s1, .non, .non, .non] = .ok (.list ((rs.map tpI).map fun d => match d with | .tuple xs => .int xs.length | _ => .none)) :=
      comp_call rfl rfl (by rw [List.length_map]; omega) fun x hx => by
        obtain ⟨r, _, rfl⟩ := List.mem_map.mp hx
        simp [startR, ev_k, ev_v, ev_b, gb_eq, gv_eq, slb_v, slb_o, slv_v, ev_tup, ev_lst, ev_bin, ev_cmp, ev_chain, ev_neg1, ev_not, ev_and, ev_or, ev_ife, ev_call, ev_bt, ev_ix, ev_sl, ev_rev, ev_dict0, evs_nil, evs_cons, eva_nil, eva_cons, bnd_ok, asB, pl_nil, pl_int, sl_t, sl_l, rv_t, rv_l, b_add, b_sub, b_fdiv, b_mod, c_lt, c_le, c_gt, c_ge, c_eqI, c_neI, c_neB, c_isN, c_notN, c_isB, c_notB, t_len, t_lenL, t_tup, t_tupT, t_lst, t_lstL, t_sum, t_all, t_any, t_sorted, t_isT, t_isI, t_isB, t_isS, t_max, t_min, t_int, t_intB, s_seqT, s_seqL, s_enT, s_enL, s_zipT, ss_nil, ss_cons, nx_nx, nx_rt, nx_ex, fl_ok, ownS_i, ownS_t, ownS_l, ownS_b, ownS_s, ownS_n, ownS_d, s_fz, s_set, s_setT, s_own, s_ite, s_ret, resF_rt, bindT_n, bindT_2, bindT_2l, bindT_3, optFl_some, frz_cons, frz_nil, wipe_cons, wipe_nil, mkT_nil, mkL_nil, mkT_1, mkT_2, mkT_3, mkT_4, mkL_6, List.getElem?_cons_zero, List.getElem?_cons_succ, List.set_cons_zero, List.set_cons_succ, List.map_cons, List.map_nil, List.cons_append, List.nil_append, List.replicate_succ, List.replicate_zero, List.length_cons, List.length_nil]
    have hlens : ((rs.map tpI).map fun d => match d with | .tuple xs => PyData.int xs.length | _ => .none) = (lensI rs).map PyData.int := by
      unfold lensI
      rw [List.map_map, List.map_map]
      apply List.map_congr_left
      intro r _
      simp
    rw [hlens] at hc
    have hs := m_Lis_shape n (tpI (lensI rs)) (smD_tpI (by unfold lensI; rw [List.length_map]; exact hl))
    simp only [nx_nx, hc, hs, rowsOr_map, startR, ev_k, ev_v, ev_b, gb_eq, gv_eq, slb_v, slb_o, slv_v, ev_tup, ev_lst, ev_bin, ev_cmp, ev_chain, ev_neg1, ev_not, ev_and, ev_or, ev_ife, ev_call, ev_bt, ev_ix, ev_sl, ev_rev, ev_dict0, evs_nil, evs_cons, eva_nil, eva_cons, bnd_ok, asB, pl_nil, pl_int, sl_t, sl_l, rv_t, rv_l, b_add, b_sub, b_fdiv, b_mod, c_lt, c_le, c_gt, c_ge, c_eqI, c_neI, c_neB, c_isN, c_notN, c_isB, c_notB, t_len, t_lenL, t_tup, t_tupT, t_lst, t_lstL, t_sum, t_all, t_any, t_sorted, t_isT, t_isI, t_isB, t_isS, t_max, t_min, t_int, t_intB, s_seqT, s_seqL, s_enT, s_enL, s_zipT, ss_nil, ss_cons, nx_nx, nx_rt, nx_ex, fl_ok, ownS_i, ownS_t, ownS_l, ownS_b, ownS_s, ownS_n, ownS_d, s_fz, s_set, s_setT, s_own, s_ite, s_ret, resF_rt, bindT_n, bindT_2, bindT_2l, bindT_3, optFl_some, frz_cons, frz_nil, wipe_cons, wipe_nil, mkT_nil, mkL_nil, mkT_1, mkT_2, mkT_3, mkT_4, mkL_6, List.getElem?_cons_zero, List.getElem?_cons_succ, List.set_cons_zero, List.set_cons_succ, List.map_cons, List.map_nil, List.cons_append, List.nil_append, List.replicate_succ, List.replicate_zero, List.length_cons, List.length_nil, Bool.true_and]
    cases hsh : shapeB (tpI (lensI rs)) with
    | false => simp [startR, ev_k, ev_v, ev_b, gb_eq, gv_eq, slb_v, slb_o, slv_v, ev_tup, ev_lst, ev_bin, ev_cmp, ev_chain, ev_neg1, ev_not, ev_and, ev_or, ev_ife, ev_call, ev_bt, ev_ix, ev_sl, ev_rev, ev_dict0, evs_nil, evs_cons, eva_nil, eva_cons, bnd_ok, asB, pl_nil, pl_int, sl_t, sl_l, rv_t, rv_l, b_add, b_sub, b_fdiv, b_mod, c_lt, c_le, c_gt, c_ge, c_eqI, c_neI, c_neB, c_isN, c_notN, c_isB, c_notB, t_len, t_lenL, t_tup, t_tupT, t_lst, t_lstL, t_sum, t_all, t_any, t_sorted, t_isT, t_isI, t_isB, t_isS, t_max, t_min, t_int, t_intB, s_seqT, s_seqL, s_enT, s_enL, s_zipT, ss_nil, ss_cons, nx_nx, nx_rt, nx_ex, fl_ok, ownS_i, ownS_t, ownS_l, ownS_b, ownS_s, ownS_n, ownS_d, s_fz, s_set, s_setT, s_own, s_ite, s_ret, resF_rt, bindT_n, bindT_2, bindT_2l, bindT_3, optFl_some, frz_cons, frz_nil, wipe_cons, wipe_nil, mkT_nil, mkL_nil, mkT_1, mkT_2, mkT_3, mkT_4, mkL_6, List.getElem?_cons_zero, List.getElem?_cons_succ, List.set_cons_zero, List.set_cons_succ, List.map_cons, List.map_nil, List.cons_append, List.nil_append, List.replicate_succ, List.replicate_zero, List.length_cons, List.length_nil]
    | true =>
      have hf : fallB (lensI rs) = true := by
        simp only [shapeB, Bool.and_eq_true, intsOf_map, Option.getD_some] at hsh
        exact hsh.2.1
      obtain ⟨k1, k2⟩ := loop_B (n + 1) rs s1 hl hr hf
      simp only [startR, ev_k, ev_v, ev_b, gb_eq, gv_eq, slb_v, slb_o, slv_v, ev_tup, ev_lst, ev_bin, ev_cmp, ev_chain, ev_neg1, ev_not, ev_and, ev_or, ev_ife, ev_call, ev_bt, ev_ix, ev_sl, ev_rev, ev_dict0, evs_nil, evs_cons, eva_nil, eva_cons, bnd_ok, asB, pl_nil, pl_int, sl_t, sl_l, rv_t, rv_l, b_add, b_sub, b_fdiv, b_mod, c_lt, c_le, c_gt, c_ge, c_eqI, c_neI, c_neB, c_isN, c_notN, c_isB, c_notB, t_len, t_lenL, t_tup, t_tupT, t_lst, t_lstL, t_sum, t_all, t_any, t_sorted, t_isT, t_isI, t_isB, t_isS, t_max, t_min, t_int, t_intB, s_seqT, s_seqL, s_enT, s_enL, s_zipT, ss_nil, ss_cons, nx_nx, nx_rt, nx_ex, fl_ok, ownS_i, ownS_t, ownS_l, ownS_b, ownS_s, ownS_n, ownS_d, s_fz, s_set, s_setT, s_own, s_ite, s_ret, resF_rt, bindT_n, bindT_2, bindT_2l, bindT_3, optFl_some, frz_cons, frz_nil, wipe_cons, wipe_nil, mkT_nil, mkL_nil, mkT_1, mkT_2, mkT_3, mkT_4, mkL_6, List.getElem?_cons_zero, List.getElem?_cons_succ, List.set_cons_zero, List.set_cons_succ, List.map_cons, List.map_nil, List.cons_append, List.nil_append, List.replicate_succ, List.replicate_zero, List.length_cons, List.length_nil, Bool.not_true, Bool.true_and, if_neg Bool.false_ne_true]
      cases hc2 : (adj rs).all fun p => colsB p.1 p.2 with
      | false => rw [k2 hc2]; simp [startR, ev_k, ev_v, ev_b, gb_eq, gv_eq, slb_v, slb_o, slv_v, ev_tup, ev_lst, ev_bin, ev_cmp, ev_chain, ev_neg1, ev_not, ev_and, ev_or, ev_ife, ev_call, ev_bt, ev_ix, ev_sl, ev_rev, ev_dict0, evs_nil, evs_cons, eva_nil, eva_cons, bnd_ok, asB, pl_nil, pl_int, sl_t, sl_l, rv_t, rv_l, b_add, b_sub, b_fdiv, b_mod, c_lt, c_le, c_gt, c_ge, c_eqI, c_neI, c_neB, c_isN, c_notN, c_isB, c_notB, t_len, t_lenL, t_tup, t_tupT, t_lst, t_lstL, t_sum, t_all, t_any, t_sorted, t_isT, t_isI, t_isB, t_isS, t_max, t_min, t_int, t_intB, s_seqT, s_seqL, s_enT, s_enL, s_zipT, ss_nil, ss_cons, nx_nx, nx_rt, nx_ex, fl_ok, ownS_i, ownS_t, ownS_l, ownS_b, ownS_s, ownS_n, ownS_d, s_fz, s_set, s_setT, s_own, s_ite, s_ret, resF_rt, bindT_n, bindT_2, bindT_2l, bindT_3, optFl_some, frz_cons, frz_nil, wipe_cons, wipe_nil, mkT_nil, mkL_nil, mkT_1, mkT_2, mkT_3, mkT_4, mkL_6, List.getElem?_cons_zero, List.getElem?_cons_succ, List.set_cons_zero, List.set_cons_succ, List.map_cons, List.map_nil, List.cons_append, List.nil_append, List.replicate_succ, List.replicate_zero, List.length_cons, List.length_nil]
      | true =>
        obtain ⟨s', e⟩ := k1 hc2
        rw [e]; simp [startR, ev_k, ev_v, ev_b, gb_eq, gv_eq, slb_v, slb_o, slv_v, ev_tup, ev_lst, ev_bin, ev_cmp, ev_chain, ev_neg1, ev_not, ev_and, ev_or, ev_ife, ev_call, ev_bt, ev_ix, ev_sl, ev_rev, ev_dict0, evs_nil, evs_cons, eva_nil, eva_cons, bnd_ok, asB, pl_nil, pl_int, sl_t, sl_l, rv_t, rv_l, b_add, b_sub, b_fdiv, b_mod, c_lt, c_le, c_gt, c_ge, c_eqI, c_neI, c_neB, c_isN, c_notN, c_isB, c_notB, t_len, t_lenL, t_tup, t_tupT, t_lst, t_lstL, t_sum, t_all, t_any, t_sorted, t_isT, t_isI, t_isB, t_isS, t_max, t_min, t_int, t_intB, s_seqT, s_seqL, s_enT, s_enL, s_zipT, ss_nil, ss_cons, nx_nx, nx_rt, nx_ex, fl_ok, ownS_i, ownS_t, ownS_l, ownS_b, ownS_s, ownS_n, ownS_d, s_fz, s_set, s_setT, s_own, s_ite, s_ret, resF_rt, bindT_n, bindT_2, bindT_2l, bindT_3, optFl_some, frz_cons, frz_nil, wipe_cons, wipe_nil, mkT_nil, mkL_nil, mkT_1, mkT_2, mkT_3, mkT_4, mkL_6, List.getElem?_cons_zero, List.getElem?_cons_succ, List.set_cons_zero, List.set_cons_succ, List.map_cons, List.map_nil, List.cons_append, List.nil_append, List.replicate_succ, List.replicate_zero, List.length_cons, List.length_nil]
end BP

namespace BP
open PySem
theorem atI_ints {ns : List Int} {k : Nat} (h : k < ns.length) : L2.atI (ns.map PyData.int) (k : Int) = some (.int ns[k]) := L2.atI_nat (by rw [List.getElem?_map, List.getElem?_eq_getElem h]; rfl)
theorem m_cell (n : Nat) (ns : List Int) (k : Nat) : callF T0 (n + 1) 8 [.list (ns.map .int), .int (k : Nat)] = .ok (.int (ns.getD k 0)) := by
  rw [call_eq (fn := F_Lcell_at) rfl rfl]
  by_cases h : k < ns.length
  · have h' : (k : Int) < (ns.length : Int) := by omega
    simp [F_Lcell_at, h', ixL (atI_ints h), startR, ev_k, ev_v, ev_b, gb_eq, gv_eq, slb_v, slb_o, slv_v, ev_tup, ev_lst, ev_bin, ev_cmp, ev_chain, ev_neg1, ev_not, ev_and, ev_or, ev_ife, ev_call, ev_bt, ev_ix, ev_sl, ev_rev, ev_dict0, evs_nil, evs_cons, eva_nil, eva_cons, bnd_ok, asB, pl_nil, pl_int, sl_t, sl_l, rv_t, rv_l, b_add, b_sub, b_fdiv, b_mod, c_lt, c_le, c_gt, c_ge, c_eqI, c_neI, c_neB, c_isN, c_notN, c_isB, c_notB, t_len, t_lenL, t_tup, t_tupT, t_lst, t_lstL, t_sum, t_all, t_any, t_sorted, t_isT, t_isI, t_isB, t_isS, t_max, t_min, t_int, t_intB, s_seqT, s_seqL, s_enT, s_enL, s_zipT, ss_nil, ss_cons, nx_nx, nx_rt, nx_ex, fl_ok, ownS_i, ownS_t, ownS_l, ownS_b, ownS_s, ownS_n, ownS_d, s_fz, s_set, s_setT, s_own, s_ite, s_ret, resF_rt, bindT_n, bindT_2, bindT_2l, bindT_3, optFl_some, frz_cons, frz_nil, wipe_cons, wipe_nil, mkT_nil, mkL_nil, mkT_1, mkT_2, mkT_3, mkT_4, mkL_6, List.getElem?_cons_zero, List.getElem?_cons_succ, List.set_cons_zero, List.set_cons_succ, List.map_cons, List.map_nil, List.cons_append, List.nil_append, List.replicate_succ, List.replicate_zero, List.length_cons, List.length_nil]
    rw [List.getElem?_eq_getElem h]
    rfl
  · have h' : ¬ (k : Int) < (ns.length : Int) := by omega
    simp [F_Lcell_at, h', startR, ev_k, ev_v, ev_b, gb_eq, gv_eq, slb_v, slb_o, slv_v, ev_tup, ev_lst, ev_bin, ev_cmp, ev_chain, ev_neg1, ev_not, ev_and, ev_or, ev_ife, ev_call, ev_bt, ev_ix, ev_sl, ev_rev, ev_dict0, evs_nil, evs_cons, eva_nil, eva_cons, bnd_ok, asB, pl_nil, pl_int, sl_t, sl_l, rv_t, rv_l, b_add, b_sub, b_fdiv, b_mod, c_lt, c_le, c_gt, c_ge, c_eqI, c_neI, c_neB, c_isN, c_notN, c_isB, c_notB, t_len, t_lenL, t_tup, t_tupT, t_lst, t_lstL, t_sum, t_all, t_any, t_sorted, t_isT, t_isI, t_isB, t_isS, t_max, t_min, t_int, t_intB, s_seqT, s_seqL, s_enT, s_enL, s_zipT, ss_nil, ss_cons, nx_nx, nx_rt, nx_ex, fl_ok, ownS_i, ownS_t, ownS_l, ownS_b, ownS_s, ownS_n, ownS_d, s_fz, s_set, s_setT, s_own, s_ite, s_ret, resF_rt, bindT_n, bindT_2, bindT_2l, bindT_3, optFl_some, frz_cons, frz_nil, wipe_cons, wipe_nil, mkT_nil, mkL_nil, mkT_1, mkT_2, mkT_3, mkT_4, mkL_6, List.getElem?_cons_zero, List.getElem?_cons_succ, List.set_cons_zero, List.set_cons_succ, List.map_cons, List.map_nil, List.cons_append, List.nil_append, List.replicate_succ, List.replicate_zero, List.length_cons, List.length_nil]
    rw [List.getElem?_eq_none (by omega)]
    rfl
def mixD (ns : List Int) (k : Nat) : Int := (ns.getD k 0 + 7919 * (k : Nat) + 1) * 48271 % 2147483647
def mixI (ns : List Int) (k : Nat) : Int := (mixD ns k * mixD ns k + 7 * mixD ns k + (k : Nat)) % 2147483629
theorem mixI_lo (ns : List Int) (k : Nat) : 0 ≤ mixI ns k := Int.emod_nonneg _ (by decide)
theorem mixI_hi (ns : List Int) (k : Nat) : mixI ns k < 2147483629 := Int.emod_lt_of_pos _ (by decide)
theorem m_mixed (n : Nat) (ns : List Int) (k : Nat) (hk : k ≤ 1000) : callF T0 (n + 2) 9 [.list (ns.map .int), .int (k : Nat)] = .ok (.int (mixI ns k)) := by
  have m1 : ∀ i : Int, evalBin .mul (.int 7919) (.int i) = .ok (.int (7919 * i)) := fun i => b_mul (.inl (by decide))
  have m2 : ∀ i : Int, evalBin .mul (.int i) (.int 48271) = .ok (.int (i * 48271)) := fun i => b_mul (.inr (by decide))
  have m3 : ∀ i : Int, evalBin .mul (.int 7) (.int i) = .ok (.int (7 * i)) := fun i => b_mul (.inl (by decide))
  have d1 : 0 ≤ mixD ns k := Int.emod_nonneg _ (by decide)
  have d2 : mixD ns k < 2147483647 := Int.emod_lt_of_pos _ (by decide)
  have m4 : evalBin .mul (.int (mixD ns k)) (.int (mixD ns k)) = .ok (.int (mixD ns k * mixD ns k)) := b_mul (.inl (small_lt (by omega) (by omega)))
  have md1 : ∀ i : Int, evalBin .mod (.int i) (.int 2147483647) = .ok (.int (i % 2147483647)) := fun i => b_mod (by decide)
  have md2 : ∀ i : Int, evalBin .mod (.int i) (.int 2147483629) = .ok (.int (i % 2147483629)) := fun i => b_mod (by decide)
  rw [call_eq (fn := F_Lmixed) rfl rfl]
  simp only [F_Lmixed, m_cell n ns k, m1, m2, md1, startR, ev_k, ev_v, ev_b, gb_eq, gv_eq, slb_v, slb_o, slv_v, ev_tup, ev_lst, ev_bin, ev_cmp, ev_chain, ev_neg1, ev_not, ev_and, ev_or, ev_ife, ev_call, ev_bt, ev_ix, ev_sl, ev_rev, ev_dict0, evs_nil, evs_cons, eva_nil, eva_cons, bnd_ok, asB, pl_nil, pl_int, sl_t, sl_l, rv_t, rv_l, b_add, b_sub, b_fdiv, b_mod, c_lt, c_le, c_gt, c_ge, c_eqI, c_neI, c_neB, c_isN, c_notN, c_isB, c_notB, t_len, t_lenL, t_tup, t_tupT, t_lst, t_lstL, t_sum, t_all, t_any, t_sorted, t_isT, t_isI, t_isB, t_isS, t_max, t_min, t_int, t_intB, s_seqT, s_seqL, s_enT, s_enL, s_zipT, ss_nil, ss_cons, nx_nx, nx_rt, nx_ex, fl_ok, ownS_i, ownS_t, ownS_l, ownS_b, ownS_s, ownS_n, ownS_d, s_fz, s_set, s_setT, s_own, s_ite, s_ret, resF_rt, bindT_n, bindT_2, bindT_2l, bindT_3, optFl_some, frz_cons, frz_nil, wipe_cons, wipe_nil, mkT_nil, mkL_nil, mkT_1, mkT_2, mkT_3, mkT_4, mkL_6, List.getElem?_cons_zero, List.getElem?_cons_succ, List.set_cons_zero, List.set_cons_succ, List.map_cons, List.map_nil, List.cons_append, List.nil_append, List.replicate_succ, List.replicate_zero, List.length_cons, List.length_nil]
  show resF _ = _
  rw [show (ns.getD k 0 + 7919 * (k : Nat) + 1) * 48271 % 2147483647 = mixD ns k from rfl]
  simp only [m3, m4, md2, startR, ev_k, ev_v, ev_b, gb_eq, gv_eq, slb_v, slb_o, slv_v, ev_tup, ev_lst, ev_bin, ev_cmp, ev_chain, ev_neg1, ev_not, ev_and, ev_or, ev_ife, ev_call, ev_bt, ev_ix, ev_sl, ev_rev, ev_dict0, evs_nil, evs_cons, eva_nil, eva_cons, bnd_ok, asB, pl_nil, pl_int, sl_t, sl_l, rv_t, rv_l, b_add, b_sub, b_fdiv, b_mod, c_lt, c_le, c_gt, c_ge, c_eqI, c_neI, c_neB, c_isN, c_notN, c_isB, c_notB, t_len, t_lenL, t_tup, t_tupT, t_lst, t_lstL, t_sum, t_all, t_any, t_sorted, t_isT, t_isI, t_isB, t_isS, t_max, t_min, t_int, t_intB, s_seqT, s_seqL, s_enT, s_enL, s_zipT, ss_nil, ss_cons, nx_nx, nx_rt, nx_ex, fl_ok, ownS_i, ownS_t, ownS_l, ownS_b, ownS_s, ownS_n, ownS_d, s_fz, s_set, s_setT, s_own, s_ite, s_ret, resF_rt, bindT_n, bindT_2, bindT_2l, bindT_3, optFl_some, frz_cons, frz_nil, wipe_cons, wipe_nil, mkT_nil, mkL_nil, mkT_1, mkT_2, mkT_3, mkT_4, mkL_6, List.getElem?_cons_zero, List.getElem?_cons_succ, List.set_cons_zero, List.set_cons_succ, List.map_cons, List.map_nil, List.cons_append, List.nil_append, List.replicate_succ, List.replicate_zero, List.length_cons, List.length_nil]
  rfl
def drwD (a k : Int) : Int := (a + 104729 * k + 17) * 69621 % 2147483647
def drwI (a k : Int) : Int := (drwD a k * drwD a k + 3 * drwD a k + k) % 2147483629
theorem drwI_lo (a k : Int) : 0 ≤ drwI a k := Int.emod_nonneg _ (by decide)
theorem m_drawn (n : Nat) (a k : Int) : callF T0 (n + 1) 10 [.int a, .int k] = .ok (.int (drwI a k)) := by
  have m1 : ∀ i : Int, evalBin .mul (.int 104729) (.int i) = .ok (.int (104729 * i)) := fun i => b_mul (.inl (by decide))
  have m2 : ∀ i : Int, evalBin .mul (.int i) (.int 69621) = .ok (.int (i * 69621)) := fun i => b_mul (.inr (by decide))
  have m3 : ∀ i : Int, evalBin .mul (.int 3) (.int i) = .ok (.int (3 * i)) := fun i => b_mul (.inl (by decide))
  have d1 : 0 ≤ drwD a k := Int.emod_nonneg _ (by decide)
  have d2 : drwD a k < 2147483647 := Int.emod_lt_of_pos _ (by decide)
  have m4 : evalBin .mul (.int (drwD a k)) (.int (drwD a k)) = .ok (.int (drwD a k * drwD a k)) := b_mul (.inl (small_lt (by omega) (by omega)))
  have md1 : ∀ i : Int, evalBin .mod (.int i) (.int 2147483647) = .ok (.int (i % 2147483647)) := fun i => b_mod (by decide)
  have md2 : ∀ i : Int, evalBin .mod (.int i) (.int 2147483629) = .ok (.int (i % 2147483629)) := fun i => b_mod (by decide)
  rw [call_eq (fn := F_Ldrawn) rfl rfl]
  simp only [F_Ldrawn, m1, m2, md1, startR, ev_k, ev_v, ev_b, gb_eq, gv_eq, slb_v, slb_o, slv_v, ev_tup, ev_lst, ev_bin, ev_cmp, ev_chain, ev_neg1, ev_not, ev_and, ev_or, ev_ife, ev_call, ev_bt, ev_ix, ev_sl, ev_rev, ev_dict0, evs_nil, evs_cons, eva_nil, eva_cons, bnd_ok, asB, pl_nil, pl_int, sl_t, sl_l, rv_t, rv_l, b_add, b_sub, b_fdiv, b_mod, c_lt, c_le, c_gt, c_ge, c_eqI, c_neI, c_neB, c_isN, c_notN, c_isB, c_notB, t_len, t_lenL, t_tup, t_tupT, t_lst, t_lstL, t_sum, t_all, t_any, t_sorted, t_isT, t_isI, t_isB, t_isS, t_max, t_min, t_int, t_intB, s_seqT, s_seqL, s_enT, s_enL, s_zipT, ss_nil, ss_cons, nx_nx, nx_rt, nx_ex, fl_ok, ownS_i, ownS_t, ownS_l, ownS_b, ownS_s, ownS_n, ownS_d, s_fz, s_set, s_setT, s_own, s_ite, s_ret, resF_rt, bindT_n, bindT_2, bindT_2l, bindT_3, optFl_some, frz_cons, frz_nil, wipe_cons, wipe_nil, mkT_nil, mkL_nil, mkT_1, mkT_2, mkT_3, mkT_4, mkL_6, List.getElem?_cons_zero, List.getElem?_cons_succ, List.set_cons_zero, List.set_cons_succ, List.map_cons, List.map_nil, List.cons_append, List.nil_append, List.replicate_succ, List.replicate_zero, List.length_cons, List.length_nil]
  show resF _ = _
  rw [show (a + 104729 * k + 17) * 69621 % 2147483647 = drwD a k from rfl]
  simp only [m3, m4, md2, startR, ev_k, ev_v, ev_b, gb_eq, gv_eq, slb_v, slb_o, slv_v, ev_tup, ev_lst, ev_bin, ev_cmp, ev_chain, ev_neg1, ev_not, ev_and, ev_or, ev_ife, ev_call, ev_bt, ev_ix, ev_sl, ev_rev, ev_dict0, evs_nil, evs_cons, eva_nil, eva_cons, bnd_ok, asB, pl_nil, pl_int, sl_t, sl_l, rv_t, rv_l, b_add, b_sub, b_fdiv, b_mod, c_lt, c_le, c_gt, c_ge, c_eqI, c_neI, c_neB, c_isN, c_notN, c_isB, c_notB, t_len, t_lenL, t_tup, t_tupT, t_lst, t_lstL, t_sum, t_all, t_any, t_sorted, t_isT, t_isI, t_isB, t_isS, t_max, t_min, t_int, t_intB, s_seqT, s_seqL, s_enT, s_enL, s_zipT, ss_nil, ss_cons, nx_nx, nx_rt, nx_ex, fl_ok, ownS_i, ownS_t, ownS_l, ownS_b, ownS_s, ownS_n, ownS_d, s_fz, s_set, s_setT, s_own, s_ite, s_ret, resF_rt, bindT_n, bindT_2, bindT_2l, bindT_3, optFl_some, frz_cons, frz_nil, wipe_cons, wipe_nil, mkT_nil, mkL_nil, mkT_1, mkT_2, mkT_3, mkT_4, mkL_6, List.getElem?_cons_zero, List.getElem?_cons_succ, List.set_cons_zero, List.set_cons_succ, List.map_cons, List.map_nil, List.cons_append, List.nil_append, List.replicate_succ, List.replicate_zero, List.length_cons, List.length_nil]
  rfl
/-! ### a word -/
def wordOf (a : Int) : Int := match a / 16 % 4 with
  | 0 => 9
  | 1 => 3
  | 2 => 5
  | _ => 2
def wordLow (a : Int) : Int := 1 + a / 64 % (10 - wordOf a)
def wordI (a : Int) (m : Nat) : List Int := (List.range (a % ((m : Int) + 1)).toNat).map fun k => wordLow a + drwI a (k : Nat) / 4 % wordOf a
theorem wordOf_in (a : Int) : wordOf a = 9 ∨ wordOf a = 3 ∨ wordOf a = 5 ∨ wordOf a = 2 := by
  unfold wordOf
  split <;> simp
theorem wordI_len (a : Int) (m : Nat) : (wordI a m).length ≤ m := by
  unfold wordI
  rw [List.length_map, List.length_range]
  have h1 := Int.emod_lt_of_pos a (show (0 : Int) < (m : Int) + 1 by omega)
  have h2 := Int.emod_nonneg a (show ((m : Int) + 1) ≠ 0 by omega)
  omega
theorem wordI_in (a : Int) (m : Nat) : ∀ x ∈ wordI a m, 1 ≤ x ∧ x ≤ 9 := fun x hx => by
  obtain ⟨k, _, rfl⟩ := List.mem_map.mp hx
  unfold wordLow
  rcases wordOf_in a with h | h | h | h <;> rw [h] <;> omega
theorem m_word (n : Nat) (a : Int) (m : Nat) (hm : m ≤ 1000) : callF T0 (n + 2) 11 [.int a, .int (m : Nat)] = .ok (tpI (wordI a m)) := by
  have f1 : ∀ i : Int, evalBin .fdiv (.int i) (.int 16) = .ok (.int (i / 16)) := fun i => b_fdiv (by decide) (by decide)
  have f2 : ∀ i : Int, evalBin .fdiv (.int i) (.int 64) = .ok (.int (i / 64)) := fun i => b_fdiv (by decide) (by decide)
  have f3 : ∀ i : Int, evalBin .fdiv (.int i) (.int 4) = .ok (.int (i / 4)) := fun i => b_fdiv (by decide) (by decide)
  have md : ∀ i : Int, evalBin .mod (.int i) (.int 4) = .ok (.int (i % 4)) := fun i => b_mod (by decide)
  have pos : 0 < wordOf a ∧ 0 < 10 - wordOf a := by rcases wordOf_in a with h | h | h | h <;> rw [h] <;> decide
  have hix : evalIx (.tuple [.int 9, .int 3, .int 5, .int 2]) (.int (a / 16 % 4)) = .ok (.int (wordOf a)) := by
    unfold wordOf
    have h1 := Int.emod_lt_of_pos (a / 16) (show (0 : Int) < 4 by decide)
    have h2 := Int.emod_nonneg (a / 16) (show (4 : Int) ≠ 0 by decide)
    rcases (by omega : a / 16 % 4 = 0 ∨ a / 16 % 4 = 1 ∨ a / 16 % 4 = 2 ∨ a / 16 % 4 = 3) with h | h | h | h <;> rw [h] <;> rfl
  have h1 := Int.emod_lt_of_pos a (show (0 : Int) < (m : Int) + 1 by omega)
  have h2 := Int.emod_nonneg a (show ((m : Int) + 1) ≠ 0 by omega)
  rw [call_eq (fn := F_Lword) rfl rfl]
  have hc : evalE (callF T0 (n + 1)) (.comp (.bin .add (.b 3) (.bin .mod (.bin .fdiv (.call 10 [(.v 0), (.v 4)]) (.k (.int 4))) (.b 2))) [4] (.n 4) .range1 [(.bin .mod (.b 0) (.bin .add (.b 1) (.k (.int 1))))] [])
      [.val (.int a), .val (.int (m : Nat)), .val (.int (wordOf a)), .val (.int (wordLow a)), .non] = .ok (.list ((wordI a m).map .int)) := by
    refine ev_comp (items := (List.range (a % ((m : Int) + 1)).toNat).map fun i => PyData.int (i : Nat)) ?_ (by rw [List.length_map, List.length_range]; omega) ((compL_map (f := fun d => match d with | .int k => .int (wordLow a + drwI a k / 4 % wordOf a) | _ => .none) fun x hx => ?_).trans ?_)
    · simp only [b_mod (show (0 : Int) < (m : Int) + 1 by omega), startR, ev_k, ev_v, ev_b, gb_eq, gv_eq, slb_v, slb_o, slv_v, ev_tup, ev_lst, ev_bin, ev_cmp, ev_chain, ev_neg1, ev_not, ev_and, ev_or, ev_ife, ev_call, ev_bt, ev_ix, ev_sl, ev_rev, ev_dict0, evs_nil, evs_cons, eva_nil, eva_cons, bnd_ok, asB, pl_nil, pl_int, sl_t, sl_l, rv_t, rv_l, b_add, b_sub, b_fdiv, b_mod, c_lt, c_le, c_gt, c_ge, c_eqI, c_neI, c_neB, c_isN, c_notN, c_isB, c_notB, t_len, t_lenL, t_tup, t_tupT, t_lst, t_lstL, t_sum, t_all, t_any, t_sorted, t_isT, t_isI, t_isB, t_isS, t_max, t_min, t_int, t_intB, s_seqT, s_seqL, s_enT, s_enL, s_zipT, ss_nil, ss_cons, nx_nx, nx_rt, nx_ex, fl_ok, ownS_i, ownS_t, ownS_l, ownS_b, ownS_s, ownS_n, ownS_d, s_fz, s_set, s_setT, s_own, s_ite, s_ret, resF_rt, bindT_n, bindT_2, bindT_2l, bindT_3, optFl_some, frz_cons, frz_nil, wipe_cons, wipe_nil, mkT_nil, mkL_nil, mkT_1, mkT_2, mkT_3, mkT_4, mkL_6, List.getElem?_cons_zero, List.getElem?_cons_succ, List.set_cons_zero, List.set_cons_succ, List.map_cons, List.map_nil, List.cons_append, List.nil_append, List.replicate_succ, List.replicate_zero, List.length_cons, List.length_nil]
      rw [s_rg1 (by omega) (by omega)]
      unfold rangeL
      simp
    · obtain ⟨k, _, rfl⟩ := List.mem_map.mp hx
      rw [turn_eq bindT_n]
      simp only [m_drawn, f3, b_mod pos.1, startR, ev_k, ev_v, ev_b, gb_eq, gv_eq, slb_v, slb_o, slv_v, ev_tup, ev_lst, ev_bin, ev_cmp, ev_chain, ev_neg1, ev_not, ev_and, ev_or, ev_ife, ev_call, ev_bt, ev_ix, ev_sl, ev_rev, ev_dict0, evs_nil, evs_cons, eva_nil, eva_cons, bnd_ok, asB, pl_nil, pl_int, sl_t, sl_l, rv_t, rv_l, b_add, b_sub, b_fdiv, b_mod, c_lt, c_le, c_gt, c_ge, c_eqI, c_neI, c_neB, c_isN, c_notN, c_isB, c_notB, t_len, t_lenL, t_tup, t_tupT, t_lst, t_lstL, t_sum, t_all, t_any, t_sorted, t_isT, t_isI, t_isB, t_isS, t_max, t_min, t_int, t_intB, s_seqT, s_seqL, s_enT, s_enL, s_zipT, ss_nil, ss_cons, nx_nx, nx_rt, nx_ex, fl_ok, ownS_i, ownS_t, ownS_l, ownS_b, ownS_s, ownS_n, ownS_d, s_fz, s_set, s_setT, s_own, s_ite, s_ret, resF_rt, bindT_n, bindT_2, bindT_2l, bindT_3, optFl_some, frz_cons, frz_nil, wipe_cons, wipe_nil, mkT_nil, mkL_nil, mkT_1, mkT_2, mkT_3, mkT_4, mkL_6, List.getElem?_cons_zero, List.getElem?_cons_succ, List.set_cons_zero, List.set_cons_succ, List.map_cons, List.map_nil, List.cons_append, List.nil_append, List.replicate_succ, List.replicate_zero, List.length_cons, List.length_nil]
      simp
    · unfold wordI
      rw [List.map_map, List.map_map]
      rfl
  simp only [F_Lword, f1, f2, md, hix, b_mod pos.2, startR, ev_k, ev_v, ev_b, gb_eq, gv_eq, slb_v, slb_o, slv_v, ev_tup, ev_lst, ev_bin, ev_cmp, ev_chain, ev_neg1, ev_not, ev_and, ev_or, ev_ife, ev_call, ev_bt, ev_ix, ev_sl, ev_rev, ev_dict0, evs_nil, evs_cons, eva_nil, eva_cons, bnd_ok, asB, pl_nil, pl_int, sl_t, sl_l, rv_t, rv_l, b_add, b_sub, b_fdiv, b_mod, c_lt, c_le, c_gt, c_ge, c_eqI, c_neI, c_neB, c_isN, c_notN, c_isB, c_notB, t_len, t_lenL, t_tup, t_tupT, t_lst, t_lstL, t_sum, t_all, t_any, t_sorted, t_isT, t_isI, t_isB, t_isS, t_max, t_min, t_int, t_intB, s_seqT, s_seqL, s_enT, s_enL, s_zipT, ss_nil, ss_cons, nx_nx, nx_rt, nx_ex, fl_ok, ownS_i, ownS_t, ownS_l, ownS_b, ownS_s, ownS_n, ownS_d, s_fz, s_set, s_setT, s_own, s_ite, s_ret, resF_rt, bindT_n, bindT_2, bindT_2l, bindT_3, optFl_some, frz_cons, frz_nil, wipe_cons, wipe_nil, mkT_nil, mkL_nil, mkT_1, mkT_2, mkT_3, mkT_4, mkL_6, List.getElem?_cons_zero, List.getElem?_cons_succ, List.set_cons_zero, List.set_cons_succ, List.map_cons, List.map_nil, List.cons_append, List.nil_append, List.replicate_succ, List.replicate_zero, List.length_cons, List.length_nil]
  rw [show (1 + a / 64 % (10 - wordOf a)) = wordLow a from rfl, hc]
  simp only [startR, ev_k, ev_v, ev_b, gb_eq, gv_eq, slb_v, slb_o, slv_v, ev_tup, ev_lst, ev_bin, ev_cmp, ev_chain, ev_neg1, ev_not, ev_and, ev_or, ev_ife, ev_call, ev_bt, ev_ix, ev_sl, ev_rev, ev_dict0, evs_nil, evs_cons, eva_nil, eva_cons, bnd_ok, asB, pl_nil, pl_int, sl_t, sl_l, rv_t, rv_l, b_add, b_sub, b_fdiv, b_mod, c_lt, c_le, c_gt, c_ge, c_eqI, c_neI, c_neB, c_isN, c_notN, c_isB, c_notB, t_len, t_lenL, t_tup, t_tupT, t_lst, t_lstL, t_sum, t_all, t_any, t_sorted, t_isT, t_isI, t_isB, t_isS, t_max, t_min, t_int, t_intB, s_seqT, s_seqL, s_enT, s_enL, s_zipT, ss_nil, ss_cons, nx_nx, nx_rt, nx_ex, fl_ok, ownS_i, ownS_t, ownS_l, ownS_b, ownS_s, ownS_n, ownS_d, s_fz, s_set, s_setT, s_own, s_ite, s_ret, resF_rt, bindT_n, bindT_2, bindT_2l, bindT_3, optFl_some, frz_cons, frz_nil, wipe_cons, wipe_nil, mkT_nil, mkL_nil, mkT_1, mkT_2, mkT_3, mkT_4, mkL_6, List.getElem?_cons_zero, List.getElem?_cons_succ, List.set_cons_zero, List.set_cons_succ, List.map_cons, List.map_nil, List.cons_append, List.nil_append, List.replicate_succ, List.replicate_zero, List.length_cons, List.length_nil]
end BP

namespace BP
open PySem
def lput : List (List Int) → Int → List (List Int) × List Int
  | [], x => ([[x]], [0])
  | r :: rs, x => match r.findIdx? fun y => decide (x < y) with
    | none => ((r ++ [x]) :: rs, [(r.length : Int)])
    | some i => ((r.take i ++ [x] ++ r.drop (i + 1)) :: (lput rs (r.getD i 0)).1, (i : Int) :: (lput rs (r.getD i 0)).2)
theorem greater_head (x : Int) : ∀ (r : List Int) (k : Nat), ((r.zipIdx k).filter fun p => decide (x < p.1)).map (fun p => (p.2 : Int)) =
    match r.findIdx? fun y => decide (x < y) with
    | none => []
    | some i => ((k + i : Nat) : Int) :: (((r.drop (i + 1)).zipIdx (k + i + 1)).filter fun p => decide (x < p.1)).map fun p => (p.2 : Int)
  | [], k => rfl
  | y :: r, k => by
    rw [List.zipIdx_cons, List.findIdx?_cons]
    by_cases h : x < y
    · simp [h]
    · have ih := greater_head x r (k + 1)
      simp only [List.filter_cons, h, decide_false, if_false, Bool.false_eq_true] at ih ⊢
      rw [ih]
      cases r.findIdx? fun y => decide (x < y) with
      | none => rfl
      | some i =>
        simp only [Option.map_some, List.drop_succ_cons]
        have : k + 1 + i = k + (i + 1) := by omega
        rw [this]
theorem lput_len : ∀ (rs : List (List Int)) (x : Int), (lput rs x).1.length ≤ rs.length + 1 ∧ (lput rs x).2.length ≤ rs.length + 1
  | [], x => by simp [lput]
  | r :: rs, x => by
    rw [lput]
    split
    · simp
    · rename_i i _
      have := lput_len rs (r.getD i 0)
      simp only [List.length_cons]
      omega
theorem m_Lput : ∀ (rs : List (List Int)) (x : Int) (n : Nat), rs.length ≤ 50 → (∀ r ∈ rs, r.length ≤ 50) → callF T0 (n + rs.length + 1) 12 [tpR rs, .int x] = .ok (.tuple [tpR (lput rs x).1, tpI (lput rs x).2])
  | [], x, n, _, _ => by
    rw [call_eq (fn := F_Lput) rfl rfl]
    have h0 : evalCmp .eq (tpR []) (.tuple []) = .ok (.bool true) := by
      show evalCmp .eq (.tuple []) (.tuple []) = _
      rw [c_eq shaped_nilT shaped_nilT]; rfl
    simp [F_Lput, h0, lput, startR, ev_k, ev_v, ev_b, gb_eq, gv_eq, slb_v, slb_o, slv_v, ev_tup, ev_lst, ev_bin, ev_cmp, ev_chain, ev_neg1, ev_not, ev_and, ev_or, ev_ife, ev_call, ev_bt, ev_ix, ev_sl, ev_rev, ev_dict0, evs_nil, evs_cons, eva_nil, eva_cons, bnd_ok, asB, pl_nil, pl_int, sl_t, sl_l, rv_t, rv_l, b_add, b_sub, b_fdiv, b_mod, c_lt, c_le, c_gt, c_ge, c_eqI, c_neI, c_neB, c_isN, c_notN, c_isB, c_notB, t_len, t_lenL, t_tup, t_tupT, t_lst, t_lstL, t_sum, t_all, t_any, t_sorted, t_isT, t_isI, t_isB, t_isS, t_max, t_min, t_int, t_intB, s_seqT, s_seqL, s_enT, s_enL, s_zipT, ss_nil, ss_cons, nx_nx, nx_rt, nx_ex, fl_ok, ownS_i, ownS_t, ownS_l, ownS_b, ownS_s, ownS_n, ownS_d, s_fz, s_set, s_setT, s_own, s_ite, s_ret, resF_rt, bindT_n, bindT_2, bindT_2l, bindT_3, optFl_some, frz_cons, frz_nil, wipe_cons, wipe_nil, mkT_nil, mkL_nil, mkT_1, mkT_2, mkT_3, mkT_4, mkL_6, List.getElem?_cons_zero, List.getElem?_cons_succ, List.set_cons_zero, List.set_cons_succ, List.map_cons, List.map_nil, List.cons_append, List.nil_append, List.replicate_succ, List.replicate_zero, List.length_cons, List.length_nil]
  | r :: rs, x, n, hl, hr => by
    rw [List.length_cons] at hl
    have hr0 : r.length ≤ 50 := hr r List.mem_cons_self
    have hne : evalCmp .eq (tpR (r :: rs)) (.tuple []) = .ok (.bool false) := by
      rw [c_eq (smD_shaped (k := 2) (smD_tpR (by rw [List.length_cons]; omega) fun a ha => by have := hr a ha; omega) (by decide)) shaped_nilT, eqv_nil_t]
      rfl
    have h0 : L2.atI ((r :: rs).map tpI) 0 = some (tpI r) := atI_map (i := 0) tpI rfl
    have e1 : evalIx (tpR (r :: rs)) (.int 0) = .ok (tpI r) := ixT h0
    rw [call_eq (fn := F_Lput) rfl rfl]
    have hc : ∀ C : Nat → List D → Res D, evalE C (.comp (.v 3) [3, 4] (.t [3, 4]) .enum [(.ix (.b 0) (.k (.int 0)))] [(.cmp .gt (.b 4) (.b 1))]) [.val (tpR (r :: rs)), .val (.int x), .non, .non, .non, .non, .non, .non] =
        .ok (.list ((((r.zipIdx 0).filter fun p => decide (x < p.1)).map fun p => (p.2 : Int)).map .int)) := by
      intro C
      refine ev_comp (items := (r.zipIdx 0).map fun p => PyData.tuple [.int (p.2 : Nat), .int p.1]) ?_ (by rw [List.length_map, List.length_zipIdx]; omega) ((compL_filter (f := fun d => match d with | .tuple [a, b] => a | _ => .none) (p := fun d => match d with | .tuple [_, .int b] => decide (x < b) | _ => false) fun d hd => ?_).trans ?_)
      · simp only [startR, ev_k, ev_v, ev_b, gb_eq, gv_eq, slb_v, slb_o, slv_v, ev_tup, ev_lst, ev_bin, ev_cmp, ev_chain, ev_neg1, ev_not, ev_and, ev_or, ev_ife, ev_call, ev_bt, ev_ix, ev_sl, ev_rev, ev_dict0, evs_nil, evs_cons, eva_nil, eva_cons, bnd_ok, asB, pl_nil, pl_int, sl_t, sl_l, rv_t, rv_l, b_add, b_sub, b_fdiv, b_mod, c_lt, c_le, c_gt, c_ge, c_eqI, c_neI, c_neB, c_isN, c_notN, c_isB, c_notB, t_len, t_lenL, t_tup, t_tupT, t_lst, t_lstL, t_sum, t_all, t_any, t_sorted, t_isT, t_isI, t_isB, t_isS, t_max, t_min, t_int, t_intB, s_seqT, s_seqL, s_enT, s_enL, s_zipT, ss_nil, ss_cons, nx_nx, nx_rt, nx_ex, fl_ok, ownS_i, ownS_t, ownS_l, ownS_b, ownS_s, ownS_n, ownS_d, s_fz, s_set, s_setT, s_own, s_ite, s_ret, resF_rt, bindT_n, bindT_2, bindT_2l, bindT_3, optFl_some, frz_cons, frz_nil, wipe_cons, wipe_nil, mkT_nil, mkL_nil, mkT_1, mkT_2, mkT_3, mkT_4, mkL_6, List.getElem?_cons_zero, List.getElem?_cons_succ, List.set_cons_zero, List.set_cons_succ, List.map_cons, List.map_nil, List.cons_append, List.nil_append, List.replicate_succ, List.replicate_zero, List.length_cons, List.length_nil]
        rw [e1]
        simp only [startR, ev_k, ev_v, ev_b, gb_eq, gv_eq, slb_v, slb_o, slv_v, ev_tup, ev_lst, ev_bin, ev_cmp, ev_chain, ev_neg1, ev_not, ev_and, ev_or, ev_ife, ev_call, ev_bt, ev_ix, ev_sl, ev_rev, ev_dict0, evs_nil, evs_cons, eva_nil, eva_cons, bnd_ok, asB, pl_nil, pl_int, sl_t, sl_l, rv_t, rv_l, b_add, b_sub, b_fdiv, b_mod, c_lt, c_le, c_gt, c_ge, c_eqI, c_neI, c_neB, c_isN, c_notN, c_isB, c_notB, t_len, t_lenL, t_tup, t_tupT, t_lst, t_lstL, t_sum, t_all, t_any, t_sorted, t_isT, t_isI, t_isB, t_isS, t_max, t_min, t_int, t_intB, s_seqT, s_seqL, s_enT, s_enL, s_zipT, ss_nil, ss_cons, nx_nx, nx_rt, nx_ex, fl_ok, ownS_i, ownS_t, ownS_l, ownS_b, ownS_s, ownS_n, ownS_d, s_fz, s_set, s_setT, s_own, s_ite, s_ret, resF_rt, bindT_n, bindT_2, bindT_2l, bindT_3, optFl_some, frz_cons, frz_nil, wipe_cons, wipe_nil, mkT_nil, mkL_nil, mkT_1, mkT_2, mkT_3, mkT_4, mkL_6, List.getElem?_cons_zero, List.getElem?_cons_succ, List.set_cons_zero, List.set_cons_succ, List.map_cons, List.map_nil, List.cons_append, List.nil_append, List.replicate_succ, List.replicate_zero, List.length_cons, List.length_nil, enumD_map]
      · obtain ⟨p, _, rfl⟩ := List.mem_map.mp hd
        rw [turn_eq bindT_2]
        simp only [startR, ev_k, ev_v, ev_b, gb_eq, gv_eq, slb_v, slb_o, slv_v, ev_tup, ev_lst, ev_bin, ev_cmp, ev_chain, ev_neg1, ev_not, ev_and, ev_or, ev_ife, ev_call, ev_bt, ev_ix, ev_sl, ev_rev, ev_dict0, evs_nil, evs_cons, eva_nil, eva_cons, bnd_ok, asB, pl_nil, pl_int, sl_t, sl_l, rv_t, rv_l, b_add, b_sub, b_fdiv, b_mod, c_lt, c_le, c_gt, c_ge, c_eqI, c_neI, c_neB, c_isN, c_notN, c_isB, c_notB, t_len, t_lenL, t_tup, t_tupT, t_lst, t_lstL, t_sum, t_all, t_any, t_sorted, t_isT, t_isI, t_isB, t_isS, t_max, t_min, t_int, t_intB, s_seqT, s_seqL, s_enT, s_enL, s_zipT, ss_nil, ss_cons, nx_nx, nx_rt, nx_ex, fl_ok, ownS_i, ownS_t, ownS_l, ownS_b, ownS_s, ownS_n, ownS_d, s_fz, s_set, s_setT, s_own, s_ite, s_ret, resF_rt, bindT_n, bindT_2, bindT_2l, bindT_3, optFl_some, frz_cons, frz_nil, wipe_cons, wipe_nil, mkT_nil, mkL_nil, mkT_1, mkT_2, mkT_3, mkT_4, mkL_6, List.getElem?_cons_zero, List.getElem?_cons_succ, List.set_cons_zero, List.set_cons_succ, List.map_cons, List.map_nil, List.cons_append, List.nil_append, List.replicate_succ, List.replicate_zero, List.length_cons, List.length_nil]
        by_cases hx : x < p.1 <;> simp [hx, startR, ev_k, ev_v, ev_b, gb_eq, gv_eq, slb_v, slb_o, slv_v, ev_tup, ev_lst, ev_bin, ev_cmp, ev_chain, ev_neg1, ev_not, ev_and, ev_or, ev_ife, ev_call, ev_bt, ev_ix, ev_sl, ev_rev, ev_dict0, evs_nil, evs_cons, eva_nil, eva_cons, bnd_ok, asB, pl_nil, pl_int, sl_t, sl_l, rv_t, rv_l, b_add, b_sub, b_fdiv, b_mod, c_lt, c_le, c_gt, c_ge, c_eqI, c_neI, c_neB, c_isN, c_notN, c_isB, c_notB, t_len, t_lenL, t_tup, t_tupT, t_lst, t_lstL, t_sum, t_all, t_any, t_sorted, t_isT, t_isI, t_isB, t_isS, t_max, t_min, t_int, t_intB, s_seqT, s_seqL, s_enT, s_enL, s_zipT, ss_nil, ss_cons, nx_nx, nx_rt, nx_ex, fl_ok, ownS_i, ownS_t, ownS_l, ownS_b, ownS_s, ownS_n, ownS_d, s_fz, s_set, s_setT, s_own, s_ite, s_ret, resF_rt, bindT_n, bindT_2, bindT_2l, bindT_3, optFl_some, frz_cons, frz_nil, wipe_cons, wipe_nil, mkT_nil, mkL_nil, mkT_1, mkT_2, mkT_3, mkT_4, mkL_6, List.getElem?_cons_zero, List.getElem?_cons_succ, List.set_cons_zero, List.set_cons_succ, List.map_cons, List.map_nil, List.cons_append, List.nil_append, List.replicate_succ, List.replicate_zero, List.length_cons, List.length_nil]
      · rw [List.filter_map, List.map_map, List.map_map]
        rfl
    have gh := greater_head x r 0
    simp only [gh] at hc
    have hlut : lput (r :: rs) x = match r.findIdx? fun y => decide (x < y) with
      | none => ((r ++ [x]) :: rs, [(r.length : Int)])
      | some i => ((r.take i ++ [x] ++ r.drop (i + 1)) :: (lput rs (r.getD i 0)).1, (i : Int) :: (lput rs (r.getD i 0)).2) := by rw [lput]
    rw [hlut]
    have sl1 : evalSl (tpR (r :: rs)) (some 1) none = .ok (tpR rs) := by
      show (Res.ok (.tuple (cutD _ _ _)) : Res D) = _
      rw [cut_tail]
      rfl
    cases hf : r.findIdx? fun y => decide (x < y) with
    | none =>
      simp only [hf] at hc
      simp only [F_Lput, hne, hc, e1, sl1, c_eq shaped_nil shaped_nil, eqv_nil_l, List.isEmpty_nil, startR, ev_k, ev_v, ev_b, gb_eq, gv_eq, slb_v, slb_o, slv_v, ev_tup, ev_lst, ev_bin, ev_cmp, ev_chain, ev_neg1, ev_not, ev_and, ev_or, ev_ife, ev_call, ev_bt, ev_ix, ev_sl, ev_rev, ev_dict0, evs_nil, evs_cons, eva_nil, eva_cons, bnd_ok, asB, pl_nil, pl_int, sl_t, sl_l, rv_t, rv_l, b_add, b_sub, b_fdiv, b_mod, c_lt, c_le, c_gt, c_ge, c_eqI, c_neI, c_neB, c_isN, c_notN, c_isB, c_notB, t_len, t_lenL, t_tup, t_tupT, t_lst, t_lstL, t_sum, t_all, t_any, t_sorted, t_isT, t_isI, t_isB, t_isS, t_max, t_min, t_int, t_intB, s_seqT, s_seqL, s_enT, s_enL, s_zipT, ss_nil, ss_cons, nx_nx, nx_rt, nx_ex, fl_ok, ownS_i, ownS_t, ownS_l, ownS_b, ownS_s, ownS_n, ownS_d, s_fz, s_set, s_setT, s_own, s_ite, s_ret, resF_rt, bindT_n, bindT_2, bindT_2l, bindT_3, optFl_some, frz_cons, frz_nil, wipe_cons, wipe_nil, mkT_nil, mkL_nil, mkT_1, mkT_2, mkT_3, mkT_4, mkL_6, List.getElem?_cons_zero, List.getElem?_cons_succ, List.set_cons_zero, List.set_cons_succ, List.map_cons, List.map_nil, List.cons_append, List.nil_append, List.replicate_succ, List.replicate_zero, List.length_cons, List.length_nil, if_true, if_neg Bool.false_ne_true]
      have c1 : evalBin .add (tpI r) (.tuple [.int x]) = .ok (tpI (r ++ [x])) := by
        rw [b_catT (by simp; omega)]
        simp
      have c2 : evalBin .add (.tuple [tpI (r ++ [x])]) (tpR rs) = .ok (tpR ((r ++ [x]) :: rs)) := by
        rw [b_catT (by simp; omega)]
        rfl
      simp only [c1, c2, startR, ev_k, ev_v, ev_b, gb_eq, gv_eq, slb_v, slb_o, slv_v, ev_tup, ev_lst, ev_bin, ev_cmp, ev_chain, ev_neg1, ev_not, ev_and, ev_or, ev_ife, ev_call, ev_bt, ev_ix, ev_sl, ev_rev, ev_dict0, evs_nil, evs_cons, eva_nil, eva_cons, bnd_ok, asB, pl_nil, pl_int, sl_t, sl_l, rv_t, rv_l, b_add, b_sub, b_fdiv, b_mod, c_lt, c_le, c_gt, c_ge, c_eqI, c_neI, c_neB, c_isN, c_notN, c_isB, c_notB, t_len, t_lenL, t_tup, t_tupT, t_lst, t_lstL, t_sum, t_all, t_any, t_sorted, t_isT, t_isI, t_isB, t_isS, t_max, t_min, t_int, t_intB, s_seqT, s_seqL, s_enT, s_enL, s_zipT, ss_nil, ss_cons, nx_nx, nx_rt, nx_ex, fl_ok, ownS_i, ownS_t, ownS_l, ownS_b, ownS_s, ownS_n, ownS_d, s_fz, s_set, s_setT, s_own, s_ite, s_ret, resF_rt, bindT_n, bindT_2, bindT_2l, bindT_3, optFl_some, frz_cons, frz_nil, wipe_cons, wipe_nil, mkT_nil, mkL_nil, mkT_1, mkT_2, mkT_3, mkT_4, mkL_6, List.getElem?_cons_zero, List.getElem?_cons_succ, List.set_cons_zero, List.set_cons_succ, List.map_cons, List.map_nil, List.cons_append, List.nil_append, List.replicate_succ, List.replicate_zero, List.length_cons, List.length_nil, List.length_map]
      rfl
    | some i =>
      simp only [hf] at hc
      have hi : i < r.length := by
        rw [List.findIdx?_eq_some_iff_findIdx_eq] at hf
        exact hf.1
      have hcall : callF T0 (n + (rs.length + 1)) 12 [tpR rs, .int r[i]] = .ok (.tuple [tpR (lput rs r[i]).1, tpI (lput rs r[i]).2]) := m_Lput rs r[i] n (by omega) fun a ha => hr a (List.mem_cons_of_mem _ ha)
      have e2 : evalIx (tpI r) (.int (i : Nat)) = .ok (.int r[i]) := ixT (atI_ints hi)
      have hg : r.getD i 0 = r[i] := by rw [List.getD_eq_getElem?_getD, List.getElem?_eq_getElem hi]; rfl
      have hd : (r.drop (i + 1)).length ≤ 50 := by rw [List.length_drop]; omega
      simp only [hg]
      generalize hL : ((((List.drop (i + 1) r).zipIdx (0 + i + 1)).filter fun p => decide (x < p.1)).map fun p => (p.2 : Int)) = L at hc
      have hLl : L.length ≤ 50 := by
        rw [← hL, List.length_map]
        exact Nat.le_trans (List.length_filter_le _ _) (by rw [List.length_zipIdx]; exact hd)
      have hsh : SeqAt.shaped (.list ((((0 + i : Nat) : Int) :: L).map .int)) = true := shaped_ints _ (by rw [List.length_cons]; omega)
      have e3 : evalIx (.list ((((0 + i : Nat) : Int) :: L).map .int)) (.int 0) = .ok (.int (i : Nat)) := by
        refine (ixL (L2.atI_nat (j := 0) rfl)).trans ?_
        simp
      have hne2 : PyData.eqv (.list ((((0 + i : Nat) : Int) :: L).map .int)) (.list []) = false := by rw [eqv_nil_l]; rfl
      have hto : evalSl (tpI r) none (some (i : Nat)) = .ok (tpI (r.take i)) := by
        show (Res.ok (.tuple (cutD _ _ _)) : Res D) = _
        rw [cut_to, ← List.map_take]
      have hfrom : evalSl (tpI r) (some ((i : Nat) + 1)) none = .ok (tpI (r.drop (i + 1))) := by
        show (Res.ok (.tuple (cutD _ (some ((i + 1 : Nat) : Int)) none)) : Res D) = _
        rw [cut_from, ← List.map_drop]
      have ht : (r.take i).length ≤ 50 := by rw [List.length_take]; omega
      have c1 : evalBin .add (tpI (r.take i)) (.tuple [.int x]) = .ok (tpI (r.take i ++ [x])) := by
        rw [b_catT (by rw [List.length_map]; simp only [List.length_cons, List.length_nil]; omega), tpI, List.map_append]
        rfl
      have c2 : evalBin .add (tpI (r.take i ++ [x])) (tpI (r.drop (i + 1))) = .ok (tpI (r.take i ++ [x] ++ r.drop (i + 1))) := by
        rw [b_catT (by rw [List.length_map, List.length_map, List.length_append]; simp only [List.length_cons, List.length_nil]; omega), ← List.map_append]
      obtain ⟨w1, w2⟩ := lput_len rs r[i]
      have c3 : evalBin .add (.tuple [tpI (r.take i ++ [x] ++ r.drop (i + 1))]) (tpR (lput rs r[i]).1) = .ok (tpR ((r.take i ++ [x] ++ r.drop (i + 1)) :: (lput rs r[i]).1)) := by
        rw [b_catT (by rw [List.length_map]; simp only [List.length_cons, List.length_nil]; omega)]
        rfl
      have c4 : evalBin .add (.tuple [.int (i : Nat)]) (tpI (lput rs r[i]).2) = .ok (tpI ((i : Int) :: (lput rs r[i]).2)) := by
        rw [b_catT (by rw [List.length_map]; simp only [List.length_cons, List.length_nil]; omega)]
        rfl
      generalize hG : (((0 + i : Nat) : Int) :: L) = G at hc hsh e3 hne2
      simp only [F_Lput, hne, hc, e1, sl1, e2, e3, hcall, hto, hfrom, c_eq hsh shaped_nil, hne2, c1, c2, c3, c4, startR, ev_k, ev_v, ev_b, gb_eq, gv_eq, slb_v, slb_o, slv_v, ev_tup, ev_lst, ev_bin, ev_cmp, ev_chain, ev_neg1, ev_not, ev_and, ev_or, ev_ife, ev_call, ev_bt, ev_ix, ev_sl, ev_rev, ev_dict0, evs_nil, evs_cons, eva_nil, eva_cons, bnd_ok, asB, pl_nil, pl_int, sl_t, sl_l, rv_t, rv_l, b_add, b_sub, b_fdiv, b_mod, c_lt, c_le, c_gt, c_ge, c_eqI, c_neI, c_neB, c_isN, c_notN, c_isB, c_notB, t_len, t_lenL, t_tup, t_tupT, t_lst, t_lstL, t_sum, t_all, t_any, t_sorted, t_isT, t_isI, t_isB, t_isS, t_max, t_min, t_int, t_intB, s_seqT, s_seqL, s_enT, s_enL, s_zipT, ss_nil, ss_cons, nx_nx, nx_rt, nx_ex, fl_ok, ownS_i, ownS_t, ownS_l, ownS_b, ownS_s, ownS_n, ownS_d, s_fz, s_set, s_setT, s_own, s_ite, s_ret, resF_rt, bindT_n, bindT_2, bindT_2l, bindT_3, optFl_some, frz_cons, frz_nil, wipe_cons, wipe_nil, mkT_nil, mkL_nil, mkT_1, mkT_2, mkT_3, mkT_4, mkL_6, List.getElem?_cons_zero, List.getElem?_cons_succ, List.set_cons_zero, List.set_cons_succ, List.map_cons, List.map_nil, List.cons_append, List.nil_append, List.replicate_succ, List.replicate_zero, List.length_cons, List.length_nil, if_neg Bool.false_ne_true]
end BP

namespace BP
open PySem
theorem m_Lput' (rs : List (List Int)) (x : Int) (N : Nat) (hN : rs.length + 1 ≤ N) (hl : rs.length ≤ 50) (hr : ∀ r ∈ rs, r.length ≤ 50) : callF T0 N 12 [tpR rs, .int x] = .ok (.tuple [tpR (lput rs x).1, tpI (lput rs x).2]) := by
  have := m_Lput rs x (N - rs.length - 1) hl hr
  rwa [show N - rs.length - 1 + rs.length + 1 = N by omega] at this
theorem lput_rows {m : Nat} : ∀ (rs : List (List Int)) (x : Int), (∀ r ∈ rs, r.length ≤ m) → ∀ r ∈ (lput rs x).1, r.length ≤ m + 1
  | [], x, _, r, hr => by
    simp [lput] at hr
    subst hr
    simp
  | r :: rs, x, h, q, hq => by
    have h0 := h r List.mem_cons_self
    have h1 := lput_rows (m := m) rs
    rw [lput] at hq
    split at hq
    · simp only [List.mem_cons] at hq
      rcases hq with rfl | hq
      · simp; omega
      · have := h q (List.mem_cons_of_mem _ hq); omega
    · rename_i i hf
      have hi : i < r.length := by
        rw [List.findIdx?_eq_some_iff_findIdx_eq] at hf
        exact hf.1
      simp only [List.mem_cons] at hq
      rcases hq with rfl | hq
      · simp; omega
      · exact h1 _ (fun a ha => h a (List.mem_cons_of_mem _ ha)) q hq
def lmake (ws : List Int) : List (List Int) := ws.foldl (fun rs x => (lput rs x).1) []
theorem make_len : ∀ (ws : List Int) (rs : List (List Int)), (ws.foldl (fun rs x => (lput rs x).1) rs).length ≤ rs.length + ws.length
  | [], rs => by simp
  | w :: ws, rs => by
    have := make_len ws (lput rs w).1
    have := (lput_len rs w).1
    simp only [List.foldl_cons, List.length_cons]
    omega
theorem make_rows : ∀ (ws : List Int) (rs : List (List Int)) (m : Nat), (∀ r ∈ rs, r.length ≤ m) → ∀ r ∈ ws.foldl (fun rs x => (lput rs x).1) rs, r.length ≤ m + ws.length
  | [], rs, m, h => by simpa using h
  | w :: ws, rs, m, h => fun r hr => by
    have := make_rows ws (lput rs w).1 (m + 1) (lput_rows rs w h) r hr
    simp only [List.length_cons]
    omega
theorem make_loop (N : Nat) (all : D) : ∀ (ws : List Int) (rs : List (List Int)) (s : Slot) (m : Nat), rs.length + ws.length + 1 ≤ N → rs.length + ws.length ≤ 50 → (∀ r ∈ rs, r.length ≤ m) → m + ws.length ≤ 50 →
    ∃ s', loopL (fun ρ d => optFl (bindT ρ (Tg.n 2) d) fun ρ' => evalSs (callF T0 N) [.set (.n 1) (.ix (.call 12 [(.v 1), (.v 2)]) (.k (.int 0)))] ρ') (ws.map .int) [.val all, .val (tpR rs), s] = .nx [.val all, .val (tpR (ws.foldl (fun rs x => (lput rs x).1) rs)), s']
  | [], rs, s, m, _, _, _, _ => ⟨s, rfl⟩
  | w :: ws, rs, s, m, h1, h2, h3, h4 => by
    simp only [List.length_cons] at h1 h2 h4
    have hp := m_Lput' rs w N (by omega) (by omega) fun r hr => by have := h3 r hr; omega
    have hx : evalIx (.tuple [tpR (lput rs w).1, tpI (lput rs w).2]) (.int 0) = .ok (tpR (lput rs w).1) := ixT (L2.atI_nat (j := 0) rfl)
    have hl := (lput_len rs w).1
    obtain ⟨s', e⟩ := make_loop N all ws (lput rs w).1 (.val (.int w)) (m + 1) (by omega) (by omega) (lput_rows rs w h3) (by omega)
    refine ⟨s', ?_⟩
    rw [List.map_cons, loop_cons]
    simp only [hp, hx, startR, ev_k, ev_v, ev_b, gb_eq, gv_eq, slb_v, slb_o, slv_v, ev_tup, ev_lst, ev_bin, ev_cmp, ev_chain, ev_neg1, ev_not, ev_and, ev_or, ev_ife, ev_call, ev_bt, ev_ix, ev_sl, ev_rev, ev_dict0, evs_nil, evs_cons, eva_nil, eva_cons, bnd_ok, asB, pl_nil, pl_int, sl_t, sl_l, rv_t, rv_l, b_add, b_sub, b_fdiv, b_mod, c_lt, c_le, c_gt, c_ge, c_eqI, c_neI, c_neB, c_isN, c_notN, c_isB, c_notB, t_len, t_lenL, t_tup, t_tupT, t_lst, t_lstL, t_sum, t_all, t_any, t_sorted, t_isT, t_isI, t_isB, t_isS, t_max, t_min, t_int, t_intB, s_seqT, s_seqL, s_enT, s_enL, s_zipT, ss_nil, ss_cons, nx_nx, nx_rt, nx_ex, fl_ok, ownS_i, ownS_t, ownS_l, ownS_b, ownS_s, ownS_n, ownS_d, s_fz, s_set, s_setT, s_own, s_ite, s_ret, resF_rt, bindT_n, bindT_2, bindT_2l, bindT_3, optFl_some, frz_cons, frz_nil, wipe_cons, wipe_nil, mkT_nil, mkL_nil, mkT_1, mkT_2, mkT_3, mkT_4, mkL_6, List.getElem?_cons_zero, List.getElem?_cons_succ, List.set_cons_zero, List.set_cons_succ, List.map_cons, List.map_nil, List.cons_append, List.nil_append, List.replicate_succ, List.replicate_zero, List.length_cons, List.length_nil]
    rw [List.foldl_cons]
    exact e
theorem m_Lmake (N : Nat) (ws : List Int) (h : ws.length ≤ 20) (hN : ws.length + 1 ≤ N) : callF T0 (N + 1) 13 [tpI ws] = .ok (tpR (lmake ws)) := by
  obtain ⟨s', e⟩ := make_loop N (tpI ws) ws [] .non 0 (by simpa using hN) (by simp; omega) (by simp) (by omega)
  rw [call_eq (fn := F_Lmake) rfl rfl]
  have src : (evalEs (callF T0 N) [(.v 0)] [.val (tpI ws), .val (.tuple []), .non]).bind (evalSrc .seq) = .ok (ws.map .int) := by simp only [startR, ev_k, ev_v, ev_b, gb_eq, gv_eq, slb_v, slb_o, slv_v, ev_tup, ev_lst, ev_bin, ev_cmp, ev_chain, ev_neg1, ev_not, ev_and, ev_or, ev_ife, ev_call, ev_bt, ev_ix, ev_sl, ev_rev, ev_dict0, evs_nil, evs_cons, eva_nil, eva_cons, bnd_ok, asB, pl_nil, pl_int, sl_t, sl_l, rv_t, rv_l, b_add, b_sub, b_fdiv, b_mod, c_lt, c_le, c_gt, c_ge, c_eqI, c_neI, c_neB, c_isN, c_notN, c_isB, c_notB, t_len, t_lenL, t_tup, t_tupT, t_lst, t_lstL, t_sum, t_all, t_any, t_sorted, t_isT, t_isI, t_isB, t_isS, t_max, t_min, t_int, t_intB, s_seqT, s_seqL, s_enT, s_enL, s_zipT, ss_nil, ss_cons, nx_nx, nx_rt, nx_ex, fl_ok, ownS_i, ownS_t, ownS_l, ownS_b, ownS_s, ownS_n, ownS_d, s_fz, s_set, s_setT, s_own, s_ite, s_ret, resF_rt, bindT_n, bindT_2, bindT_2l, bindT_3, optFl_some, frz_cons, frz_nil, wipe_cons, wipe_nil, mkT_nil, mkL_nil, mkT_1, mkT_2, mkT_3, mkT_4, mkL_6, List.getElem?_cons_zero, List.getElem?_cons_succ, List.set_cons_zero, List.set_cons_succ, List.map_cons, List.map_nil, List.cons_append, List.nil_append, List.replicate_succ, List.replicate_zero, List.length_cons, List.length_nil]
  have hl : evalS (callF T0 N) (.loop (.n 2) .seq [(.v 0)] [.set (.n 1) (.ix (.call 12 [(.v 1), (.v 2)]) (.k (.int 0)))]) [.val (tpI ws), .val (.tuple []), .non] = .nx [.val (tpI ws), .val (tpR (lmake ws)), s'] := by
    rw [s_loop, src, fl_ok]
    exact e
  simp only [F_Lmake, hl, startR, ev_k, ev_v, ev_b, gb_eq, gv_eq, slb_v, slb_o, slv_v, ev_tup, ev_lst, ev_bin, ev_cmp, ev_chain, ev_neg1, ev_not, ev_and, ev_or, ev_ife, ev_call, ev_bt, ev_ix, ev_sl, ev_rev, ev_dict0, evs_nil, evs_cons, eva_nil, eva_cons, bnd_ok, asB, pl_nil, pl_int, sl_t, sl_l, rv_t, rv_l, b_add, b_sub, b_fdiv, b_mod, c_lt, c_le, c_gt, c_ge, c_eqI, c_neI, c_neB, c_isN, c_notN, c_isB, c_notB, t_len, t_lenL, t_tup, t_tupT, t_lst, t_lstL, t_sum, t_all, t_any, t_sorted, t_isT, t_isI, t_isB, t_isS, t_max, t_min, t_int, t_intB, s_seqT, s_seqL, s_enT, s_enL, s_zipT, ss_nil, ss_cons, nx_nx, nx_rt, nx_ex, fl_ok, ownS_i, ownS_t, ownS_l, ownS_b, ownS_s, ownS_n, ownS_d, s_fz, s_set, s_setT, s_own, s_ite, s_ret, resF_rt, bindT_n, bindT_2, bindT_2l, bindT_3, optFl_some, frz_cons, frz_nil, wipe_cons, wipe_nil, mkT_nil, mkL_nil, mkT_1, mkT_2, mkT_3, mkT_4, mkL_6, List.getElem?_cons_zero, List.getElem?_cons_succ, List.set_cons_zero, List.set_cons_succ, List.map_cons, List.map_nil, List.cons_append, List.nil_append, List.replicate_succ, List.replicate_zero, List.length_cons, List.length_nil]
/-! ### things, and what becomes of them -/
/-- a number, or things in a tuple, so deep -/
def Th : Nat → D → Prop
  | 0, d => ∃ i, d = .int i
  | k + 1, d => (∃ i, d = .int i) ∨ ∃ xs, d = .tuple xs ∧ xs.length ≤ 40 ∧ ∀ x ∈ xs, Th k x
theorem Th.sm : ∀ {k : Nat} {d : D}, Th k d → smD k d = true
  | 0, d, ⟨i, e⟩ => by subst e; rfl
  | k + 1, d, .inl ⟨i, e⟩ => by subst e; rfl
  | k + 1, d, .inr ⟨xs, e, h1, h2⟩ => by
    subst e
    rw [smD_tuple]
    exact ⟨by omega, fun x hx => Th.sm (h2 x hx)⟩
theorem Th.word {ns : List Int} (h : ns.length ≤ 40) : Th 1 (tpI ns) := .inr ⟨_, rfl, by rw [List.length_map]; exact h, fun x hx => by
  obtain ⟨i, _, rfl⟩ := List.mem_map.mp hx
  exact ⟨i, rfl⟩⟩
theorem Th.rows {rs : List (List Int)} (h : rs.length ≤ 40) (h2 : ∀ r ∈ rs, r.length ≤ 40) : Th 2 (tpR rs) := .inr ⟨_, rfl, by rw [List.length_map]; exact h, fun x hx => by
  obtain ⟨r, hr, rfl⟩ := List.mem_map.mp hx
  exact Th.word (h2 r hr)⟩
end BP

namespace BP
open PySem
theorem str_small : ∀ j : Fin 100, PyData.canLay0 (.str (toString ((j : Nat) : Int))) = true ∧ ((j : Nat) : Int).natAbs.log2 < 1920 := by decide +kernel
theorem t_str {i : Int} (h0 : 0 ≤ i) (h : i < 100) : evalBt .toStr [.int i] = .ok (.str (toString i)) ∧ smD 0 (.str (toString i)) = true := by
  obtain ⟨h1, h2⟩ := str_small ⟨i.toNat, by omega⟩
  have e : (((⟨i.toNat, by omega⟩ : Fin 100) : Nat) : Int) = i := by show ((i.toNat : Nat) : Int) = i; omega
  rw [e] at h1 h2
  refine ⟨?_, h1⟩
  show (if i.natAbs.log2 < 1920 then _ else _) = _
  rw [if_pos h2]
abbrev spEnd : List Stm := [.own 5 (.lst [(.k .none), (.k (.bool true)), (.k (.int 0)), (.k (.int 1)), (.k (.int 9)), (.k (.int 10)), (.k (.int 12)), (.k (.int 13)), (.neg (.k (.int 1))), (.k (.str (Str.ofString ""))), (.k (.str (Str.ofString "1"))), (.tup []), (.tup [(.k (.int 1))]), (.lst []), (.tup [(.k (.int 2)), (.k (.int 1))]), (.tup [(.k (.int 1)), (.k (.int 2))]), (.tup [(.tup [(.k (.int 1))])]), (.tup [(.k (.int 0))])]), .ret (.ix (.b 5) (.bin .mod (.bin .fdiv (.b 1) (.k (.int 6))) (.k (.int 18))))]
def spL : List D := [.none, .bool true, .int 0, .int 1, .int 9, .int 10, .int 12, .int 13, .int (-1), .str (Str.ofString ""), .str (Str.ofString "1"), .tuple [], .tuple [.int 1], .list [], .tuple [.int 2, .int 1], .tuple [.int 1, .int 2], .tuple [.tuple [.int 1]], .tuple [.int 0]]
theorem spL_ok : ∀ x ∈ spL, smD 2 x = true := by decide +kernel
theorem sp_end (C : Nat → List D → Res D) (d : D) (a j : Int) : ∃ d', evalSs C spEnd [.val d, .val (.int a), .val (.int j), .non, .non, .non] = .rt d' ∧ smD 2 d' = true := by
  have hl : mkL spL = .ok (.list spL) := mkL_ok (by decide)
  have f6 : ∀ i : Int, evalBin .fdiv (.int i) (.int 6) = .ok (.int (i / 6)) := fun i => b_fdiv (by decide) (by decide)
  have m18 : ∀ i : Int, evalBin .mod (.int i) (.int 18) = .ok (.int (i % 18)) := fun i => b_mod (by decide)
  obtain ⟨x, hx, hm⟩ := atI_int (xs := spL) (i := a / 6 % 18) (Int.emod_nonneg _ (by decide)) (by
    have := Int.emod_lt_of_pos (a / 6) (show (0 : Int) < 18 by decide)
    show a / 6 % 18 < ((18 : Nat) : Int)
    omega)
  refine ⟨x, ?_, spL_ok x hm⟩
  simp only [spEnd, startR, ev_k, ev_v, ev_b, gb_eq, gv_eq, slb_v, slb_o, slv_v, ev_tup, ev_lst, ev_bin, ev_cmp, ev_chain, ev_neg1, ev_not, ev_and, ev_or, ev_ife, ev_call, ev_bt, ev_ix, ev_sl, ev_rev, ev_dict0, evs_nil, evs_cons, eva_nil, eva_cons, bnd_ok, asB, pl_nil, pl_int, sl_t, sl_l, rv_t, rv_l, b_add, b_sub, b_fdiv, b_mod, c_lt, c_le, c_gt, c_ge, c_eqI, c_neI, c_neB, c_isN, c_notN, c_isB, c_notB, t_len, t_lenL, t_tup, t_tupT, t_lst, t_lstL, t_sum, t_all, t_any, t_sorted, t_isT, t_isI, t_isB, t_isS, t_max, t_min, t_int, t_intB, s_seqT, s_seqL, s_enT, s_enL, s_zipT, ss_nil, ss_cons, nx_nx, nx_rt, nx_ex, fl_ok, ownS_i, ownS_t, ownS_l, ownS_b, ownS_s, ownS_n, ownS_d, s_fz, s_set, s_setT, s_own, s_ite, s_ret, resF_rt, bindT_n, bindT_2, bindT_2l, bindT_3, optFl_some, frz_cons, frz_nil, wipe_cons, wipe_nil, mkT_nil, mkL_nil, mkT_1, mkT_2, mkT_3, mkT_4, mkL_6, List.getElem?_cons_zero, List.getElem?_cons_succ, List.set_cons_zero, List.set_cons_succ, List.map_cons, List.map_nil, List.cons_append, List.nil_append, List.replicate_succ, List.replicate_zero, List.length_cons, List.length_nil]
  rw [show ([.none, .bool true, .int 0, .int 1, .int 9, .int 10, .int 12, .int 13, .int (-1), .str (Str.ofString ""), .str (Str.ofString "1"), .tuple [], .tuple [.int 1], .list [], .tuple [.int 2, .int 1], .tuple [.int 1, .int 2], .tuple [.tuple [.int 1]], .tuple [.int 0]] : List D) = spL from rfl, hl]
  simp only [f6, m18, ixL hx, startR, ev_k, ev_v, ev_b, gb_eq, gv_eq, slb_v, slb_o, slv_v, ev_tup, ev_lst, ev_bin, ev_cmp, ev_chain, ev_neg1, ev_not, ev_and, ev_or, ev_ife, ev_call, ev_bt, ev_ix, ev_sl, ev_rev, ev_dict0, evs_nil, evs_cons, eva_nil, eva_cons, bnd_ok, asB, pl_nil, pl_int, sl_t, sl_l, rv_t, rv_l, b_add, b_sub, b_fdiv, b_mod, c_lt, c_le, c_gt, c_ge, c_eqI, c_neI, c_neB, c_isN, c_notN, c_isB, c_notB, t_len, t_lenL, t_tup, t_tupT, t_lst, t_lstL, t_sum, t_all, t_any, t_sorted, t_isT, t_isI, t_isB, t_isS, t_max, t_min, t_int, t_intB, s_seqT, s_seqL, s_enT, s_enL, s_zipT, ss_nil, ss_cons, nx_nx, nx_rt, nx_ex, fl_ok, ownS_i, ownS_t, ownS_l, ownS_b, ownS_s, ownS_n, ownS_d, s_fz, s_set, s_setT, s_own, s_ite, s_ret, resF_rt, bindT_n, bindT_2, bindT_2l, bindT_3, optFl_some, frz_cons, frz_nil, wipe_cons, wipe_nil, mkT_nil, mkL_nil, mkT_1, mkT_2, mkT_3, mkT_4, mkL_6, List.getElem?_cons_zero, List.getElem?_cons_succ, List.set_cons_zero, List.set_cons_succ, List.map_cons, List.map_nil, List.cons_append, List.nil_append, List.replicate_succ, List.replicate_zero, List.length_cons, List.length_nil]
theorem ix6 {l : List D} {a : Int} (hl : l.length = 6) : ∃ x, evalIx (.list l) (.int (a / 12 % 6)) = .ok x ∧ x ∈ l := by
  obtain ⟨x, hx, hm⟩ := atI_int (xs := l) (i := a / 12 % 6) (Int.emod_nonneg _ (by decide)) (by
    have := Int.emod_lt_of_pos (a / 12) (show (0 : Int) < 6 by decide)
    rw [hl]; omega)
  exact ⟨x, ixL hx, hm⟩
theorem sp_int (n : Nat) (i a j : Int) : ∃ d', callF T0 (n + 1) 17 [.int i, .int a, .int j] = .ok d' ∧ smD 2 d' = true := by
  have f6 : ∀ i : Int, evalBin .fdiv (.int i) (.int 6) = .ok (.int (i / 6)) := fun i => b_fdiv (by decide) (by decide)
  have f12 : ∀ i : Int, evalBin .fdiv (.int i) (.int 12) = .ok (.int (i / 12)) := fun i => b_fdiv (by decide) (by decide)
  have m2 : ∀ i : Int, evalBin .mod (.int i) (.int 2) = .ok (.int (i % 2)) := fun i => b_mod (by decide)
  have m6 : ∀ i : Int, evalBin .mod (.int i) (.int 6) = .ok (.int (i % 6)) := fun i => b_mod (by decide)
  have m100 : ∀ i : Int, evalBin .mod (.int i) (.int 100) = .ok (.int (i % 100)) := fun i => b_mod (by decide)
  obtain ⟨e, he, hs⟩ := sp_end (callF T0 n) (.int i) a j
  obtain ⟨t1, t2⟩ := t_str (i := i % 100) (Int.emod_nonneg _ (by decide)) (Int.emod_lt_of_pos _ (by decide))
  generalize hz : Str.ofString (toString (i % 100)) = z at t1 t2
  rw [call_eq (fn := F_Lspoilt) rfl rfl]
  have hbody : F_Lspoilt.body = F_Lspoilt.body.take 3 ++ spEnd := rfl
  by_cases hc : a / 6 % 2 = 0
  · obtain ⟨x, hx, hm⟩ := ix6 (l := [.str z, .int (-i), .int (i + 1), .bool (decide (i = 1)), .int (i - 1), .int 10]) (a := a) rfl
    refine ⟨x, ?_, ?_⟩
    · by_cases hj : 0 < j
      · simp [F_Lspoilt, isTupleD, isIntD, hj, hc, f6, f12, m2, m6, m100, t1, hx, startR, ev_k, ev_v, ev_b, gb_eq, gv_eq, slb_v, slb_o, slv_v, ev_tup, ev_lst, ev_bin, ev_cmp, ev_chain, ev_neg1, ev_not, ev_and, ev_or, ev_ife, ev_call, ev_bt, ev_ix, ev_sl, ev_rev, ev_dict0, evs_nil, evs_cons, eva_nil, eva_cons, bnd_ok, asB, pl_nil, pl_int, sl_t, sl_l, rv_t, rv_l, b_add, b_sub, b_fdiv, b_mod, c_lt, c_le, c_gt, c_ge, c_eqI, c_neI, c_neB, c_isN, c_notN, c_isB, c_notB, t_len, t_lenL, t_tup, t_tupT, t_lst, t_lstL, t_sum, t_all, t_any, t_sorted, t_isT, t_isI, t_isB, t_isS, t_max, t_min, t_int, t_intB, s_seqT, s_seqL, s_enT, s_enL, s_zipT, ss_nil, ss_cons, nx_nx, nx_rt, nx_ex, fl_ok, ownS_i, ownS_t, ownS_l, ownS_b, ownS_s, ownS_n, ownS_d, s_fz, s_set, s_setT, s_own, s_ite, s_ret, resF_rt, bindT_n, bindT_2, bindT_2l, bindT_3, optFl_some, frz_cons, frz_nil, wipe_cons, wipe_nil, mkT_nil, mkL_nil, mkT_1, mkT_2, mkT_3, mkT_4, mkL_6, List.getElem?_cons_zero, List.getElem?_cons_succ, List.set_cons_zero, List.set_cons_succ, List.map_cons, List.map_nil, List.cons_append, List.nil_append, List.replicate_succ, List.replicate_zero, List.length_cons, List.length_nil]
      · simp [F_Lspoilt, isTupleD, isIntD, hj, hc, f6, f12, m2, m6, m100, t1, hx, startR, ev_k, ev_v, ev_b, gb_eq, gv_eq, slb_v, slb_o, slv_v, ev_tup, ev_lst, ev_bin, ev_cmp, ev_chain, ev_neg1, ev_not, ev_and, ev_or, ev_ife, ev_call, ev_bt, ev_ix, ev_sl, ev_rev, ev_dict0, evs_nil, evs_cons, eva_nil, eva_cons, bnd_ok, asB, pl_nil, pl_int, sl_t, sl_l, rv_t, rv_l, b_add, b_sub, b_fdiv, b_mod, c_lt, c_le, c_gt, c_ge, c_eqI, c_neI, c_neB, c_isN, c_notN, c_isB, c_notB, t_len, t_lenL, t_tup, t_tupT, t_lst, t_lstL, t_sum, t_all, t_any, t_sorted, t_isT, t_isI, t_isB, t_isS, t_max, t_min, t_int, t_intB, s_seqT, s_seqL, s_enT, s_enL, s_zipT, ss_nil, ss_cons, nx_nx, nx_rt, nx_ex, fl_ok, ownS_i, ownS_t, ownS_l, ownS_b, ownS_s, ownS_n, ownS_d, s_fz, s_set, s_setT, s_own, s_ite, s_ret, resF_rt, bindT_n, bindT_2, bindT_2l, bindT_3, optFl_some, frz_cons, frz_nil, wipe_cons, wipe_nil, mkT_nil, mkL_nil, mkT_1, mkT_2, mkT_3, mkT_4, mkL_6, List.getElem?_cons_zero, List.getElem?_cons_succ, List.set_cons_zero, List.set_cons_succ, List.map_cons, List.map_nil, List.cons_append, List.nil_append, List.replicate_succ, List.replicate_zero, List.length_cons, List.length_nil]
    · simp only [List.mem_cons, List.not_mem_nil, or_false] at hm
      rcases hm with rfl | rfl | rfl | rfl | rfl | rfl
      · exact smD_mono (by decide) t2
      all_goals rfl
  · refine ⟨e, ?_, hs⟩
    rw [hbody, evalSs_app]
    have h1 : evalSs (callF T0 n) (F_Lspoilt.body.take 3) (startR F_Lspoilt [.int i, .int a, .int j]) = .nx [.val (.int i), .val (.int a), .val (.int j), .non, .non, .non] := by
      by_cases hj : 0 < j
      · simp [F_Lspoilt, isTupleD, isIntD, hj, hc, f6, f12, m2, m6, m100, startR, ev_k, ev_v, ev_b, gb_eq, gv_eq, slb_v, slb_o, slv_v, ev_tup, ev_lst, ev_bin, ev_cmp, ev_chain, ev_neg1, ev_not, ev_and, ev_or, ev_ife, ev_call, ev_bt, ev_ix, ev_sl, ev_rev, ev_dict0, evs_nil, evs_cons, eva_nil, eva_cons, bnd_ok, asB, pl_nil, pl_int, sl_t, sl_l, rv_t, rv_l, b_add, b_sub, b_fdiv, b_mod, c_lt, c_le, c_gt, c_ge, c_eqI, c_neI, c_neB, c_isN, c_notN, c_isB, c_notB, t_len, t_lenL, t_tup, t_tupT, t_lst, t_lstL, t_sum, t_all, t_any, t_sorted, t_isT, t_isI, t_isB, t_isS, t_max, t_min, t_int, t_intB, s_seqT, s_seqL, s_enT, s_enL, s_zipT, ss_nil, ss_cons, nx_nx, nx_rt, nx_ex, fl_ok, ownS_i, ownS_t, ownS_l, ownS_b, ownS_s, ownS_n, ownS_d, s_fz, s_set, s_setT, s_own, s_ite, s_ret, resF_rt, bindT_n, bindT_2, bindT_2l, bindT_3, optFl_some, frz_cons, frz_nil, wipe_cons, wipe_nil, mkT_nil, mkL_nil, mkT_1, mkT_2, mkT_3, mkT_4, mkL_6, List.getElem?_cons_zero, List.getElem?_cons_succ, List.set_cons_zero, List.set_cons_succ, List.map_cons, List.map_nil, List.cons_append, List.nil_append, List.replicate_succ, List.replicate_zero, List.length_cons, List.length_nil]
      · simp [F_Lspoilt, isTupleD, isIntD, hj, hc, f6, f12, m2, m6, m100, startR, ev_k, ev_v, ev_b, gb_eq, gv_eq, slb_v, slb_o, slv_v, ev_tup, ev_lst, ev_bin, ev_cmp, ev_chain, ev_neg1, ev_not, ev_and, ev_or, ev_ife, ev_call, ev_bt, ev_ix, ev_sl, ev_rev, ev_dict0, evs_nil, evs_cons, eva_nil, eva_cons, bnd_ok, asB, pl_nil, pl_int, sl_t, sl_l, rv_t, rv_l, b_add, b_sub, b_fdiv, b_mod, c_lt, c_le, c_gt, c_ge, c_eqI, c_neI, c_neB, c_isN, c_notN, c_isB, c_notB, t_len, t_lenL, t_tup, t_tupT, t_lst, t_lstL, t_sum, t_all, t_any, t_sorted, t_isT, t_isI, t_isB, t_isS, t_max, t_min, t_int, t_intB, s_seqT, s_seqL, s_enT, s_enL, s_zipT, ss_nil, ss_cons, nx_nx, nx_rt, nx_ex, fl_ok, ownS_i, ownS_t, ownS_l, ownS_b, ownS_s, ownS_n, ownS_d, s_fz, s_set, s_setT, s_own, s_ite, s_ret, resF_rt, bindT_n, bindT_2, bindT_2l, bindT_3, optFl_some, frz_cons, frz_nil, wipe_cons, wipe_nil, mkT_nil, mkL_nil, mkT_1, mkT_2, mkT_3, mkT_4, mkL_6, List.getElem?_cons_zero, List.getElem?_cons_succ, List.set_cons_zero, List.set_cons_succ, List.map_cons, List.map_nil, List.cons_append, List.nil_append, List.replicate_succ, List.replicate_zero, List.length_cons, List.length_nil]
    rw [h1, nx_nx, he, resF_rt]
end BP

namespace BP
open PySem
abbrev spA : Stm := .ite (.and (.cmp .gt (.b 2) (.k (.int 0))) (.and (.bt .isTuple [(.b 0)]) (.and (.cmp .gt (.bt .len [(.b 0)]) (.k (.int 0))) (.cmp .gt (.bin .mod (.b 1) (.k (.int 6))) (.k (.int 0)))))) [.own 3 (.bin .mod (.bin .fdiv (.b 1) (.k (.int 6))) (.bt .len [(.b 0)])), .set (.n 4) (.call 17 [(.ix (.b 0) (.b 3)), (.bin .fdiv (.call 10 [(.v 1), (.v 2)]) (.k (.int 4))), (.bin .sub (.b 2) (.k (.int 1)))]), .ret (.bin .add (.bin .add (.sl (.b 0) [] [(.b 3)]) (.tup [(.v 4)])) (.sl (.b 0) [(.bin .add (.b 3) (.k (.int 1)))] []))] []
abbrev spB : Stm := .ite (.and (.bt .isTuple [(.b 0)]) (.and (.cmp .gt (.bt .len [(.b 0)]) (.k (.int 0))) (.cmp .eq (.bin .mod (.bin .fdiv (.b 1) (.k (.int 6))) (.k (.int 2))) (.k (.int 0))))) [.ret (.ix (.lst [(.bt .list [(.b 0)]), (.sl (.b 0) [] [(.neg (.k (.int 1)))]), (.bin .add (.b 0) (.sl (.b 0) [(.neg (.k (.int 1)))] [])), (.sl (.b 0) [(.k (.int 1))] []), (.rev (.b 0)), (.bin .mul (.b 0) (.k (.int 2)))]) (.bin .mod (.bin .fdiv (.b 1) (.k (.int 12))) (.k (.int 6))))] []
abbrev spC : Stm := .ite (.and (.bt .isInt [(.b 0)]) (.cmp .eq (.bin .mod (.bin .fdiv (.b 1) (.k (.int 6))) (.k (.int 2))) (.k (.int 0)))) [.ret (.ix (.lst [(.bt .toStr [(.bin .mod (.b 0) (.k (.int 100)))]), (.bin .sub (.k (.int 0)) (.b 0)), (.bin .add (.b 0) (.k (.int 1))), (.cmp .eq (.b 0) (.k (.int 1))), (.bin .sub (.b 0) (.k (.int 1))), (.k (.int 10))]) (.bin .mod (.bin .fdiv (.b 1) (.k (.int 12))) (.k (.int 6))))] []
theorem sp_body : F_Lspoilt.body = [spA, spB, spC] ++ spEnd := rfl
theorem sm_tup {k : Nat} {xs : List D} (h : xs.length ≤ 100) (hx : ∀ x ∈ xs, smD k x = true) : smD (k + 1) (.tuple xs) = true := smD_tuple.mpr ⟨h, hx⟩
theorem spB_ok (C : Nat → List D → Res D) (xs : List D) (a j : Int) (k : Nat) (hl : xs.length ≤ 40) (hx : ∀ x ∈ xs, smD k x = true) :
    (∃ d', evalS C spB [.val (.tuple xs), .val (.int a), .val (.int j), .non, .non, .non] = .rt d' ∧ smD (k + 1) d' = true) ∨
      evalS C spB [.val (.tuple xs), .val (.int a), .val (.int j), .non, .non, .non] = .nx [.val (.tuple xs), .val (.int a), .val (.int j), .non, .non, .non] := by
  have f6 : ∀ i : Int, evalBin .fdiv (.int i) (.int 6) = .ok (.int (i / 6)) := fun i => b_fdiv (by decide) (by decide)
  have f12 : ∀ i : Int, evalBin .fdiv (.int i) (.int 12) = .ok (.int (i / 12)) := fun i => b_fdiv (by decide) (by decide)
  have m2 : ∀ i : Int, evalBin .mod (.int i) (.int 2) = .ok (.int (i % 2)) := fun i => b_mod (by decide)
  have m6 : ∀ i : Int, evalBin .mod (.int i) (.int 6) = .ok (.int (i % 6)) := fun i => b_mod (by decide)
  by_cases h0 : 0 < xs.length
  · have h0' : (0 : Int) < (xs.length : Int) := by omega
    by_cases hc : a / 6 % 2 = 0
    · left
      have c1 : evalBin .add (.tuple xs) (.tuple (xs.drop (xs.length - 1))) = .ok (.tuple (xs ++ xs.drop (xs.length - 1))) := b_catT (by rw [List.length_drop]; omega)
      have c2 : evalBin .mul (.tuple xs) (.int 2) = .ok (.tuple (xs ++ xs)) := by
        rw [b_mulT ⟨by decide, by decide, by omega⟩]
        simp [repL, List.replicate]
      obtain ⟨x, he, hm⟩ := ix6 (l := [.list xs, .tuple xs.dropLast, .tuple (xs ++ xs.drop (xs.length - 1)), .tuple (xs.drop 1), .tuple xs.reverse, .tuple (xs ++ xs)]) (a := a) rfl
      refine ⟨x, ?_, ?_⟩
      · simp only [isTupleD, h0', hc, f6, f12, m2, m6, cut_init, cut_last, cut_tail, c1, c2, he, decide_true, startR, ev_k, ev_v, ev_b, gb_eq, gv_eq, slb_v, slb_o, slv_v, ev_tup, ev_lst, ev_bin, ev_cmp, ev_chain, ev_neg1, ev_not, ev_and, ev_or, ev_ife, ev_call, ev_bt, ev_ix, ev_sl, ev_rev, ev_dict0, evs_nil, evs_cons, eva_nil, eva_cons, bnd_ok, asB, pl_nil, pl_int, sl_t, sl_l, rv_t, rv_l, b_add, b_sub, b_fdiv, b_mod, c_lt, c_le, c_gt, c_ge, c_eqI, c_neI, c_neB, c_isN, c_notN, c_isB, c_notB, t_len, t_lenL, t_tup, t_tupT, t_lst, t_lstL, t_sum, t_all, t_any, t_sorted, t_isT, t_isI, t_isB, t_isS, t_max, t_min, t_int, t_intB, s_seqT, s_seqL, s_enT, s_enL, s_zipT, ss_nil, ss_cons, nx_nx, nx_rt, nx_ex, fl_ok, ownS_i, ownS_t, ownS_l, ownS_b, ownS_s, ownS_n, ownS_d, s_fz, s_set, s_setT, s_own, s_ite, s_ret, resF_rt, bindT_n, bindT_2, bindT_2l, bindT_3, optFl_some, frz_cons, frz_nil, wipe_cons, wipe_nil, mkT_nil, mkL_nil, mkT_1, mkT_2, mkT_3, mkT_4, mkL_6, List.getElem?_cons_zero, List.getElem?_cons_succ, List.set_cons_zero, List.set_cons_succ, List.map_cons, List.map_nil, List.cons_append, List.nil_append, List.replicate_succ, List.replicate_zero, List.length_cons, List.length_nil, if_true]
      · simp only [List.mem_cons, List.not_mem_nil, or_false] at hm
        rcases hm with rfl | rfl | rfl | rfl | rfl | rfl
        · exact smD_list.mpr ⟨by omega, hx⟩
        · exact sm_tup (by rw [List.length_dropLast]; omega) fun x h => hx x (List.dropLast_subset _ h)
        · exact sm_tup (by rw [List.length_append, List.length_drop]; omega) fun x h => (List.mem_append.mp h).elim (hx x) fun h => hx x (List.mem_of_mem_drop h)
        · exact sm_tup (by rw [List.length_drop]; omega) fun x h => hx x (List.mem_of_mem_drop h)
        · exact sm_tup (by rw [List.length_reverse]; omega) fun x h => hx x (List.mem_reverse.mp h)
        · exact sm_tup (by rw [List.length_append]; omega) fun x h => (List.mem_append.mp h).elim (hx x) (hx x)
    · right
      simp only [isTupleD, h0', hc, f6, f12, m2, m6, decide_true, decide_false, startR, ev_k, ev_v, ev_b, gb_eq, gv_eq, slb_v, slb_o, slv_v, ev_tup, ev_lst, ev_bin, ev_cmp, ev_chain, ev_neg1, ev_not, ev_and, ev_or, ev_ife, ev_call, ev_bt, ev_ix, ev_sl, ev_rev, ev_dict0, evs_nil, evs_cons, eva_nil, eva_cons, bnd_ok, asB, pl_nil, pl_int, sl_t, sl_l, rv_t, rv_l, b_add, b_sub, b_fdiv, b_mod, c_lt, c_le, c_gt, c_ge, c_eqI, c_neI, c_neB, c_isN, c_notN, c_isB, c_notB, t_len, t_lenL, t_tup, t_tupT, t_lst, t_lstL, t_sum, t_all, t_any, t_sorted, t_isT, t_isI, t_isB, t_isS, t_max, t_min, t_int, t_intB, s_seqT, s_seqL, s_enT, s_enL, s_zipT, ss_nil, ss_cons, nx_nx, nx_rt, nx_ex, fl_ok, ownS_i, ownS_t, ownS_l, ownS_b, ownS_s, ownS_n, ownS_d, s_fz, s_set, s_setT, s_own, s_ite, s_ret, resF_rt, bindT_n, bindT_2, bindT_2l, bindT_3, optFl_some, frz_cons, frz_nil, wipe_cons, wipe_nil, mkT_nil, mkL_nil, mkT_1, mkT_2, mkT_3, mkT_4, mkL_6, List.getElem?_cons_zero, List.getElem?_cons_succ, List.set_cons_zero, List.set_cons_succ, List.map_cons, List.map_nil, List.cons_append, List.nil_append, List.replicate_succ, List.replicate_zero, List.length_cons, List.length_nil, if_true, if_neg Bool.false_ne_true]
  · right
    have h0' : ¬ (0 : Int) < (xs.length : Int) := by omega
    simp only [isTupleD, h0', decide_false, startR, ev_k, ev_v, ev_b, gb_eq, gv_eq, slb_v, slb_o, slv_v, ev_tup, ev_lst, ev_bin, ev_cmp, ev_chain, ev_neg1, ev_not, ev_and, ev_or, ev_ife, ev_call, ev_bt, ev_ix, ev_sl, ev_rev, ev_dict0, evs_nil, evs_cons, eva_nil, eva_cons, bnd_ok, asB, pl_nil, pl_int, sl_t, sl_l, rv_t, rv_l, b_add, b_sub, b_fdiv, b_mod, c_lt, c_le, c_gt, c_ge, c_eqI, c_neI, c_neB, c_isN, c_notN, c_isB, c_notB, t_len, t_lenL, t_tup, t_tupT, t_lst, t_lstL, t_sum, t_all, t_any, t_sorted, t_isT, t_isI, t_isB, t_isS, t_max, t_min, t_int, t_intB, s_seqT, s_seqL, s_enT, s_enL, s_zipT, ss_nil, ss_cons, nx_nx, nx_rt, nx_ex, fl_ok, ownS_i, ownS_t, ownS_l, ownS_b, ownS_s, ownS_n, ownS_d, s_fz, s_set, s_setT, s_own, s_ite, s_ret, resF_rt, bindT_n, bindT_2, bindT_2l, bindT_3, optFl_some, frz_cons, frz_nil, wipe_cons, wipe_nil, mkT_nil, mkL_nil, mkT_1, mkT_2, mkT_3, mkT_4, mkL_6, List.getElem?_cons_zero, List.getElem?_cons_succ, List.set_cons_zero, List.set_cons_succ, List.map_cons, List.map_nil, List.cons_append, List.nil_append, List.replicate_succ, List.replicate_zero, List.length_cons, List.length_nil, if_true, if_neg Bool.false_ne_true]
theorem spC_tup (C : Nat → List D → Res D) (xs : List D) (a j : Int) : evalS C spC [.val (.tuple xs), .val (.int a), .val (.int j), .non, .non, .non] = .nx [.val (.tuple xs), .val (.int a), .val (.int j), .non, .non, .non] := by
  simp only [isIntD, startR, ev_k, ev_v, ev_b, gb_eq, gv_eq, slb_v, slb_o, slv_v, ev_tup, ev_lst, ev_bin, ev_cmp, ev_chain, ev_neg1, ev_not, ev_and, ev_or, ev_ife, ev_call, ev_bt, ev_ix, ev_sl, ev_rev, ev_dict0, evs_nil, evs_cons, eva_nil, eva_cons, bnd_ok, asB, pl_nil, pl_int, sl_t, sl_l, rv_t, rv_l, b_add, b_sub, b_fdiv, b_mod, c_lt, c_le, c_gt, c_ge, c_eqI, c_neI, c_neB, c_isN, c_notN, c_isB, c_notB, t_len, t_lenL, t_tup, t_tupT, t_lst, t_lstL, t_sum, t_all, t_any, t_sorted, t_isT, t_isI, t_isB, t_isS, t_max, t_min, t_int, t_intB, s_seqT, s_seqL, s_enT, s_enL, s_zipT, ss_nil, ss_cons, nx_nx, nx_rt, nx_ex, fl_ok, ownS_i, ownS_t, ownS_l, ownS_b, ownS_s, ownS_n, ownS_d, s_fz, s_set, s_setT, s_own, s_ite, s_ret, resF_rt, bindT_n, bindT_2, bindT_2l, bindT_3, optFl_some, frz_cons, frz_nil, wipe_cons, wipe_nil, mkT_nil, mkL_nil, mkT_1, mkT_2, mkT_3, mkT_4, mkL_6, List.getElem?_cons_zero, List.getElem?_cons_succ, List.set_cons_zero, List.set_cons_succ, List.map_cons, List.map_nil, List.cons_append, List.nil_append, List.replicate_succ, List.replicate_zero, List.length_cons, List.length_nil, if_neg Bool.false_ne_true]
theorem sp_tail (C : Nat → List D → Res D) (xs : List D) (a j : Int) (k : Nat) (hl : xs.length ≤ 40) (hx : ∀ x ∈ xs, smD k x = true) :
    ∃ d', evalSs C ([spB, spC] ++ spEnd) [.val (.tuple xs), .val (.int a), .val (.int j), .non, .non, .non] = .rt d' ∧ smD (k + 3) d' = true := by
  rw [List.cons_append, ss_cons]
  rcases spB_ok C xs a j k hl hx with ⟨d', e, h⟩ | e
  · exact ⟨d', by rw [e, nx_rt], smD_mono (by omega) h⟩
  · rw [e, nx_nx, List.cons_append, ss_cons, spC_tup, nx_nx, List.nil_append]
    obtain ⟨d', e2, h⟩ := sp_end C (.tuple xs) a j
    exact ⟨d', e2, smD_mono (by omega) h⟩
theorem sp_run (n : Nat) (xs : List D) (a j : Int) : callF T0 (n + 1) 17 [.tuple xs, .int a, .int j] = resF ((evalS (callF T0 n) spA [.val (.tuple xs), .val (.int a), .val (.int j), .non, .non, .non]).next fun ρ' => evalSs (callF T0 n) ([spB, spC] ++ spEnd) ρ') := by
  rw [call_eq (fn := F_Lspoilt) rfl rfl, sp_body, List.cons_append, ss_cons]
  rfl
theorem m_spoilt : ∀ (j : Nat) (k : Nat) (d : D) (a : Int) (n : Nat), Th k d → ∃ d', callF T0 (n + j + 2) 17 [d, .int a, .int (j : Nat)] = .ok d' ∧ smD (k + 3) d' = true := by
  intro j
  induction j with
  | zero =>
    intro k d a n h
    have num : ∀ i : Int, ∃ d', callF T0 (n + 0 + 2) 17 [.int i, .int a, .int ((0 : Nat) : Int)] = .ok d' ∧ smD (k + 3) d' = true := fun i => by
      obtain ⟨d', e, h⟩ := sp_int (n + 1) i a 0
      exact ⟨d', e, smD_mono (by omega) h⟩
    cases k with
    | zero => obtain ⟨i, rfl⟩ := h; exact num i
    | succ k =>
      rcases h with ⟨i, rfl⟩ | ⟨xs, rfl, hl, hx⟩
      · exact num i
      · obtain ⟨d', e, h⟩ := sp_tail (callF T0 (n + 1)) xs a ((0 : Nat) : Int) k hl fun x hm => (hx x hm).sm
        refine ⟨d', ?_, smD_mono (by omega) h⟩
        have hA : evalS (callF T0 (n + 1)) spA [.val (.tuple xs), .val (.int a), .val (.int ((0 : Nat) : Int)), .non, .non, .non] = .nx [.val (.tuple xs), .val (.int a), .val (.int ((0 : Nat) : Int)), .non, .non, .non] := by
          simp only [startR, ev_k, ev_v, ev_b, gb_eq, gv_eq, slb_v, slb_o, slv_v, ev_tup, ev_lst, ev_bin, ev_cmp, ev_chain, ev_neg1, ev_not, ev_and, ev_or, ev_ife, ev_call, ev_bt, ev_ix, ev_sl, ev_rev, ev_dict0, evs_nil, evs_cons, eva_nil, eva_cons, bnd_ok, asB, pl_nil, pl_int, sl_t, sl_l, rv_t, rv_l, b_add, b_sub, b_fdiv, b_mod, c_lt, c_le, c_gt, c_ge, c_eqI, c_neI, c_neB, c_isN, c_notN, c_isB, c_notB, t_len, t_lenL, t_tup, t_tupT, t_lst, t_lstL, t_sum, t_all, t_any, t_sorted, t_isT, t_isI, t_isB, t_isS, t_max, t_min, t_int, t_intB, s_seqT, s_seqL, s_enT, s_enL, s_zipT, ss_nil, ss_cons, nx_nx, nx_rt, nx_ex, fl_ok, ownS_i, ownS_t, ownS_l, ownS_b, ownS_s, ownS_n, ownS_d, s_fz, s_set, s_setT, s_own, s_ite, s_ret, resF_rt, bindT_n, bindT_2, bindT_2l, bindT_3, optFl_some, frz_cons, frz_nil, wipe_cons, wipe_nil, mkT_nil, mkL_nil, mkT_1, mkT_2, mkT_3, mkT_4, mkL_6, List.getElem?_cons_zero, List.getElem?_cons_succ, List.set_cons_zero, List.set_cons_succ, List.map_cons, List.map_nil, List.cons_append, List.nil_append, List.replicate_succ, List.replicate_zero, List.length_cons, List.length_nil]
          simp [startR, ev_k, ev_v, ev_b, gb_eq, gv_eq, slb_v, slb_o, slv_v, ev_tup, ev_lst, ev_bin, ev_cmp, ev_chain, ev_neg1, ev_not, ev_and, ev_or, ev_ife, ev_call, ev_bt, ev_ix, ev_sl, ev_rev, ev_dict0, evs_nil, evs_cons, eva_nil, eva_cons, bnd_ok, asB, pl_nil, pl_int, sl_t, sl_l, rv_t, rv_l, b_add, b_sub, b_fdiv, b_mod, c_lt, c_le, c_gt, c_ge, c_eqI, c_neI, c_neB, c_isN, c_notN, c_isB, c_notB, t_len, t_lenL, t_tup, t_tupT, t_lst, t_lstL, t_sum, t_all, t_any, t_sorted, t_isT, t_isI, t_isB, t_isS, t_max, t_min, t_int, t_intB, s_seqT, s_seqL, s_enT, s_enL, s_zipT, ss_nil, ss_cons, nx_nx, nx_rt, nx_ex, fl_ok, ownS_i, ownS_t, ownS_l, ownS_b, ownS_s, ownS_n, ownS_d, s_fz, s_set, s_setT, s_own, s_ite, s_ret, resF_rt, bindT_n, bindT_2, bindT_2l, bindT_3, optFl_some, frz_cons, frz_nil, wipe_cons, wipe_nil, mkT_nil, mkL_nil, mkT_1, mkT_2, mkT_3, mkT_4, mkL_6, List.getElem?_cons_zero, List.getElem?_cons_succ, List.set_cons_zero, List.set_cons_succ, List.map_cons, List.map_nil, List.cons_append, List.nil_append, List.replicate_succ, List.replicate_zero, List.length_cons, List.length_nil]
        rw [show n + 0 + 2 = (n + 1) + 1 from rfl, sp_run, hA, nx_nx, e, resF_rt]
  | succ j ih =>
    intro k d a n h
    have num : ∀ i : Int, ∃ d', callF T0 (n + (j + 1) + 2) 17 [.int i, .int a, .int ((j + 1 : Nat) : Int)] = .ok d' ∧ smD (k + 3) d' = true := fun i => by
      obtain ⟨d', e, h⟩ := sp_int (n + (j + 1) + 1) i a ((j + 1 : Nat) : Int)
      exact ⟨d', e, smD_mono (by omega) h⟩
    cases k with
    | zero => obtain ⟨i, rfl⟩ := h; exact num i
    | succ k =>
      rcases h with ⟨i, rfl⟩ | ⟨xs, rfl, hl, hx⟩
      · exact num i
      · have f6 : ∀ i : Int, evalBin .fdiv (.int i) (.int 6) = .ok (.int (i / 6)) := fun i => b_fdiv (by decide) (by decide)
        have f4 : ∀ i : Int, evalBin .fdiv (.int i) (.int 4) = .ok (.int (i / 4)) := fun i => b_fdiv (by decide) (by decide)
        have m6 : ∀ i : Int, evalBin .mod (.int i) (.int 6) = .ok (.int (i % 6)) := fun i => b_mod (by decide)
        have hj : (0 : Int) < ((j + 1 : Nat) : Int) := by omega
        rw [show n + (j + 1) + 2 = (n + j + 2) + 1 from by omega, sp_run]
        by_cases hgo : 0 < xs.length ∧ 0 < a % 6
        · have h0' : (0 : Int) < (xs.length : Int) := by omega
          obtain ⟨i, hi, hat⟩ : ∃ i : Nat, a / 6 % (xs.length : Int) = (i : Int) ∧ i < xs.length := by
            have h1 := Int.emod_nonneg (a / 6) (show (xs.length : Int) ≠ 0 by omega)
            have h2 := Int.emod_lt_of_pos (a / 6) h0'
            exact ⟨(a / 6 % (xs.length : Int)).toNat, by omega, by omega⟩
          obtain ⟨p, hp, hs⟩ := ih k xs[i] (drwI a ((j + 1 : Nat) : Int) / 4) n (hx _ (List.getElem_mem hat))
          have e1 : evalIx (.tuple xs) (.int (i : Nat)) = .ok xs[i] := ixT (atI_of hat)
          have e2 : ((j + 1 : Nat) : Int) - 1 = (j : Nat) := by omega
          have hd := m_drawn (n + j + 1) a ((j + 1 : Nat) : Int)
          have hto : cutD xs none (some ((i : Nat) : Int)) = xs.take i := cut_to xs i
          have hfrom : cutD xs (some (((i : Nat) : Int) + 1)) none = xs.drop (i + 1) := cut_from xs (i + 1)
          have ht : (xs.take i).length ≤ 40 := by rw [List.length_take]; omega
          have c1 : evalBin .add (.tuple (xs.take i)) (.tuple [p]) = .ok (.tuple (xs.take i ++ [p])) := b_catT (by simp only [List.length_cons, List.length_nil]; omega)
          have c2 : evalBin .add (.tuple (xs.take i ++ [p])) (.tuple (xs.drop (i + 1))) = .ok (.tuple (xs.take i ++ [p] ++ xs.drop (i + 1))) := b_catT (by rw [List.length_append, List.length_drop]; simp only [List.length_cons, List.length_nil]; omega)
          have hA : evalS (callF T0 (n + j + 2)) spA [.val (.tuple xs), .val (.int a), .val (.int ((j + 1 : Nat) : Int)), .non, .non, .non] = .rt (.tuple (xs.take i ++ [p] ++ xs.drop (i + 1))) := by
            simp only [isTupleD, hj, h0', hgo.2, f6, f4, m6, b_mod h0', hi, e1, e2, hd, hp, hto, hfrom, c1, c2, decide_true, startR, ev_k, ev_v, ev_b, gb_eq, gv_eq, slb_v, slb_o, slv_v, ev_tup, ev_lst, ev_bin, ev_cmp, ev_chain, ev_neg1, ev_not, ev_and, ev_or, ev_ife, ev_call, ev_bt, ev_ix, ev_sl, ev_rev, ev_dict0, evs_nil, evs_cons, eva_nil, eva_cons, bnd_ok, asB, pl_nil, pl_int, sl_t, sl_l, rv_t, rv_l, b_add, b_sub, b_fdiv, b_mod, c_lt, c_le, c_gt, c_ge, c_eqI, c_neI, c_neB, c_isN, c_notN, c_isB, c_notB, t_len, t_lenL, t_tup, t_tupT, t_lst, t_lstL, t_sum, t_all, t_any, t_sorted, t_isT, t_isI, t_isB, t_isS, t_max, t_min, t_int, t_intB, s_seqT, s_seqL, s_enT, s_enL, s_zipT, ss_nil, ss_cons, nx_nx, nx_rt, nx_ex, fl_ok, ownS_i, ownS_t, ownS_l, ownS_b, ownS_s, ownS_n, ownS_d, s_fz, s_set, s_setT, s_own, s_ite, s_ret, resF_rt, bindT_n, bindT_2, bindT_2l, bindT_3, optFl_some, frz_cons, frz_nil, wipe_cons, wipe_nil, mkT_nil, mkL_nil, mkT_1, mkT_2, mkT_3, mkT_4, mkL_6, List.getElem?_cons_zero, List.getElem?_cons_succ, List.set_cons_zero, List.set_cons_succ, List.map_cons, List.map_nil, List.cons_append, List.nil_append, List.replicate_succ, List.replicate_zero, List.length_cons, List.length_nil, if_true]
          refine ⟨_, by rw [hA, nx_rt, resF_rt], ?_⟩
          refine sm_tup (by rw [List.length_append, List.length_append, List.length_drop]; simp only [List.length_cons, List.length_nil]; omega) fun x hm => ?_
          rcases List.mem_append.mp hm with hm | hm
          · rcases List.mem_append.mp hm with hm | hm
            · exact smD_mono (by omega) (hx x (List.mem_of_mem_take hm)).sm
            · rw [List.mem_singleton] at hm; rw [hm]; exact smD_mono (by omega) hs
          · exact smD_mono (by omega) (hx x (List.mem_of_mem_drop hm)).sm
        · obtain ⟨d', e, h⟩ := sp_tail (callF T0 (n + j + 2)) xs a ((j + 1 : Nat) : Int) k hl fun x hm => (hx x hm).sm
          refine ⟨d', ?_, smD_mono (by omega) h⟩
          have hA : evalS (callF T0 (n + j + 2)) spA [.val (.tuple xs), .val (.int a), .val (.int ((j + 1 : Nat) : Int)), .non, .non, .non] = .nx [.val (.tuple xs), .val (.int a), .val (.int ((j + 1 : Nat) : Int)), .non, .non, .non] := by
            by_cases h1 : 0 < xs.length
            · have h2 : ¬ 0 < a % 6 := fun z => hgo ⟨h1, z⟩
              have h0' : (0 : Int) < (xs.length : Int) := by omega
              simp only [isTupleD, hj, h0', h2, m6, decide_true, decide_false, startR, ev_k, ev_v, ev_b, gb_eq, gv_eq, slb_v, slb_o, slv_v, ev_tup, ev_lst, ev_bin, ev_cmp, ev_chain, ev_neg1, ev_not, ev_and, ev_or, ev_ife, ev_call, ev_bt, ev_ix, ev_sl, ev_rev, ev_dict0, evs_nil, evs_cons, eva_nil, eva_cons, bnd_ok, asB, pl_nil, pl_int, sl_t, sl_l, rv_t, rv_l, b_add, b_sub, b_fdiv, b_mod, c_lt, c_le, c_gt, c_ge, c_eqI, c_neI, c_neB, c_isN, c_notN, c_isB, c_notB, t_len, t_lenL, t_tup, t_tupT, t_lst, t_lstL, t_sum, t_all, t_any, t_sorted, t_isT, t_isI, t_isB, t_isS, t_max, t_min, t_int, t_intB, s_seqT, s_seqL, s_enT, s_enL, s_zipT, ss_nil, ss_cons, nx_nx, nx_rt, nx_ex, fl_ok, ownS_i, ownS_t, ownS_l, ownS_b, ownS_s, ownS_n, ownS_d, s_fz, s_set, s_setT, s_own, s_ite, s_ret, resF_rt, bindT_n, bindT_2, bindT_2l, bindT_3, optFl_some, frz_cons, frz_nil, wipe_cons, wipe_nil, mkT_nil, mkL_nil, mkT_1, mkT_2, mkT_3, mkT_4, mkL_6, List.getElem?_cons_zero, List.getElem?_cons_succ, List.set_cons_zero, List.set_cons_succ, List.map_cons, List.map_nil, List.cons_append, List.nil_append, List.replicate_succ, List.replicate_zero, List.length_cons, List.length_nil, if_true, if_neg Bool.false_ne_true]
            · have h0' : ¬ (0 : Int) < (xs.length : Int) := by omega
              simp only [isTupleD, hj, h0', decide_true, decide_false, startR, ev_k, ev_v, ev_b, gb_eq, gv_eq, slb_v, slb_o, slv_v, ev_tup, ev_lst, ev_bin, ev_cmp, ev_chain, ev_neg1, ev_not, ev_and, ev_or, ev_ife, ev_call, ev_bt, ev_ix, ev_sl, ev_rev, ev_dict0, evs_nil, evs_cons, eva_nil, eva_cons, bnd_ok, asB, pl_nil, pl_int, sl_t, sl_l, rv_t, rv_l, b_add, b_sub, b_fdiv, b_mod, c_lt, c_le, c_gt, c_ge, c_eqI, c_neI, c_neB, c_isN, c_notN, c_isB, c_notB, t_len, t_lenL, t_tup, t_tupT, t_lst, t_lstL, t_sum, t_all, t_any, t_sorted, t_isT, t_isI, t_isB, t_isS, t_max, t_min, t_int, t_intB, s_seqT, s_seqL, s_enT, s_enL, s_zipT, ss_nil, ss_cons, nx_nx, nx_rt, nx_ex, fl_ok, ownS_i, ownS_t, ownS_l, ownS_b, ownS_s, ownS_n, ownS_d, s_fz, s_set, s_setT, s_own, s_ite, s_ret, resF_rt, bindT_n, bindT_2, bindT_2l, bindT_3, optFl_some, frz_cons, frz_nil, wipe_cons, wipe_nil, mkT_nil, mkL_nil, mkT_1, mkT_2, mkT_3, mkT_4, mkL_6, List.getElem?_cons_zero, List.getElem?_cons_succ, List.set_cons_zero, List.set_cons_succ, List.map_cons, List.map_nil, List.cons_append, List.nil_append, List.replicate_succ, List.replicate_zero, List.length_cons, List.length_nil, if_true, if_neg Bool.false_ne_true]
          rw [hA, nx_nx, e, resF_rt]
end BP

namespace BP
open PySem
abbrev k1body : List Stm := [.set (.n 8) (.call 6 [(.v 7)]), .ite (.or (.not (.bt .isBool [(.b 8)])) (.cmp .ne (.b 8) (.call 16 [(.v 7)]))) [.ret (.k (.bool false))] [], .set (.n 8) (.call 4 [(.v 7)]), .ite (.or (.not (.bt .isBool [(.b 8)])) (.cmp .ne (.b 8) (.call 15 [(.v 7)]))) [.ret (.k (.bool false))] [], .set (.n 8) (.call 2 [(.v 7)]), .ite (.or (.not (.bt .isBool [(.b 8)])) (.cmp .ne (.b 8) (.call 14 [(.v 7)]))) [.ret (.k (.bool false))] []]
theorem k1_turn (a b c d e f g s s' : Slot) (x : D) (hx : smD 60 x = true) : evalSs (callF T0 60) k1body [a, b, c, d, e, f, g, .val x, s'] = .nx [a, b, c, d, e, f, g, .val x, .val (.bool (shapeB x))] := by
  have w1 : callF T0 60 6 [x] = _ := m_is_word 58 x
  have w2 : callF T0 60 16 [x] = _ := m_Lis_word 58 x hx
  have f1 : callF T0 60 4 [x] = _ := m_is_filling 57 x (few2_sm hx)
  have f2 : callF T0 60 15 [x] = _ := m_Lis_filling 57 x hx
  have s1 : callF T0 60 2 [x] = _ := m_is_shape 58 x (few_sm hx)
  have s2 : callF T0 60 14 [x] = _ := m_Lis_shape 58 x hx
  simp only [k1body, w1, w2, f1, f2, s1, s2, isBoolD, startR, ev_k, ev_v, ev_b, gb_eq, gv_eq, slb_v, slb_o, slv_v, ev_tup, ev_lst, ev_bin, ev_cmp, ev_chain, ev_neg1, ev_not, ev_and, ev_or, ev_ife, ev_call, ev_bt, ev_ix, ev_sl, ev_rev, ev_dict0, evs_nil, evs_cons, eva_nil, eva_cons, bnd_ok, asB, pl_nil, pl_int, sl_t, sl_l, rv_t, rv_l, b_add, b_sub, b_fdiv, b_mod, c_lt, c_le, c_gt, c_ge, c_eqI, c_neI, c_neB, c_isN, c_notN, c_isB, c_notB, t_len, t_lenL, t_tup, t_tupT, t_lst, t_lstL, t_sum, t_all, t_any, t_sorted, t_isT, t_isI, t_isB, t_isS, t_max, t_min, t_int, t_intB, s_seqT, s_seqL, s_enT, s_enL, s_zipT, ss_nil, ss_cons, nx_nx, nx_rt, nx_ex, fl_ok, ownS_i, ownS_t, ownS_l, ownS_b, ownS_s, ownS_n, ownS_d, s_fz, s_set, s_setT, s_own, s_ite, s_ret, resF_rt, bindT_n, bindT_2, bindT_2l, bindT_3, optFl_some, frz_cons, frz_nil, wipe_cons, wipe_nil, mkT_nil, mkL_nil, mkT_1, mkT_2, mkT_3, mkT_4, mkL_6, List.getElem?_cons_zero, List.getElem?_cons_succ, List.set_cons_zero, List.set_cons_succ, List.map_cons, List.map_nil, List.cons_append, List.nil_append, List.replicate_succ, List.replicate_zero, List.length_cons, List.length_nil, Bool.not_true, if_neg Bool.false_ne_true, bne_self_eq_false]
theorem k1_loop (l a b c d e f g : Slot) : ∀ (xs : List D) (s s' : Slot), (∀ x ∈ xs, smD 60 x = true) → ∃ t t', loopL (fun ρ d => optFl (bindT ρ (Tg.n 7) d) fun ρ' => evalSs (callF T0 60) k1body ρ') xs [a, b, c, d, e, f, g, s, s'] = .nx [a, b, c, d, e, f, g, t, t']
  | [], s, s', _ => ⟨s, s', rfl⟩
  | x :: xs, s, s', h => by
    obtain ⟨t, t', e1⟩ := k1_loop l a b c d e f g xs (.val x) (.val (.bool (shapeB x))) fun y hy => h y (List.mem_cons_of_mem _ hy)
    refine ⟨t, t', ?_⟩
    have := k1_turn a b c d e f g s s' x (h x List.mem_cons_self)
    rw [loop_cons]
    simp only [bindT_n, optFl_some, List.set_cons_succ, List.set_cons_zero]
    rw [this, nx_nx]
    exact e1
theorem frz_at {ρ : Env} {i : Nat} {d : D} (h : ρ[i]? = some (.val d)) : freeze ρ i = ρ := by
  unfold freeze
  rw [h]
abbrev k1if : Stm := .ite (.cmp .gt (.bin .mod (.b 1) (.k (.int 3))) (.k (.int 0))) [.fz [2], .set (.n 2) (.call 17 [(.v 2), (.call 9 [(.v 0), (.k (.int 4))]), (.bin .mod (.bin .fdiv (.b 1) (.k (.int 3))) (.k (.int 2)))]), .fz [3], .set (.n 3) (.call 17 [(.v 3), (.call 9 [(.v 0), (.k (.int 5))]), (.bin .mod (.bin .fdiv (.b 1) (.k (.int 16))) (.k (.int 3)))]), .fz [4], .set (.n 4) (.call 17 [(.v 4), (.call 9 [(.v 0), (.k (.int 6))]), (.bin .mod (.bin .fdiv (.b 1) (.k (.int 64))) (.k (.int 2)))])] []
theorem m_spoilt60 {k : Nat} {d : D} (a : Int) {j : Int} (h0 : 0 ≤ j) (hj : j < 3) (h : Th k d) : ∃ d', callF T0 60 17 [d, .int a, .int j] = .ok d' ∧ smD (k + 3) d' = true := by
  obtain ⟨i, rfl⟩ : ∃ i : Nat, j = i := ⟨j.toNat, by omega⟩
  have := m_spoilt i k d a (58 - i) h
  rwa [show 58 - i + i + 2 = 60 by omega] at this
theorem k1_if (ns : List Int) (a : Int) (ha : 0 ≤ a) (w f s : D) (hw : Th 1 w) (hf : Th 2 f) (hs : Th 1 s) : ∃ w' f' s', evalS (callF T0 60) k1if [.val (.list (ns.map .int)), .val (.int a), .val w, .val f, .val s, .non, .non, .non, .non] =
    .nx [.val (.list (ns.map .int)), .val (.int a), .val w', .val f', .val s', .non, .non, .non, .non] ∧ smD 10 w' = true ∧ smD 10 f' = true ∧ smD 10 s' = true := by
  have m3 : ∀ i : Int, evalBin .mod (.int i) (.int 3) = .ok (.int (i % 3)) := fun i => b_mod (by decide)
  have m2 : ∀ i : Int, evalBin .mod (.int i) (.int 2) = .ok (.int (i % 2)) := fun i => b_mod (by decide)
  have f3 : ∀ i : Int, evalBin .fdiv (.int i) (.int 3) = .ok (.int (i / 3)) := fun i => b_fdiv (by decide) (by decide)
  have f16 : ∀ i : Int, evalBin .fdiv (.int i) (.int 16) = .ok (.int (i / 16)) := fun i => b_fdiv (by decide) (by decide)
  have f64 : ∀ i : Int, evalBin .fdiv (.int i) (.int 64) = .ok (.int (i / 64)) := fun i => b_fdiv (by decide) (by decide)
  by_cases h : 0 < a % 3
  · have x4 : callF T0 60 9 [.list (ns.map .int), .int 4] = _ := m_mixed 58 ns 4 (by decide)
    have x5 : callF T0 60 9 [.list (ns.map .int), .int 5] = _ := m_mixed 58 ns 5 (by decide)
    have x6 : callF T0 60 9 [.list (ns.map .int), .int 6] = _ := m_mixed 58 ns 6 (by decide)
    obtain ⟨w', e1, s1⟩ := m_spoilt60 (mixI ns 4) (j := a / 3 % 2) (Int.emod_nonneg _ (by decide)) (by omega) hw
    obtain ⟨f', e2, s2⟩ := m_spoilt60 (mixI ns 5) (j := a / 16 % 3) (Int.emod_nonneg _ (by decide)) (by omega) hf
    obtain ⟨s', e3, s3⟩ := m_spoilt60 (mixI ns 6) (j := a / 64 % 2) (Int.emod_nonneg _ (by decide)) (by omega) hs
    refine ⟨w', f', s', ?_, smD_mono (by decide) s1, smD_mono (by decide) s2, smD_mono (by decide) s3⟩
    simp only [h, m3, m2, f3, f16, f64, x4, x5, x6, e1, e2, e3, freeze, decide_true, startR, ev_k, ev_v, ev_b, gb_eq, gv_eq, slb_v, slb_o, slv_v, ev_tup, ev_lst, ev_bin, ev_cmp, ev_chain, ev_neg1, ev_not, ev_and, ev_or, ev_ife, ev_call, ev_bt, ev_ix, ev_sl, ev_rev, ev_dict0, evs_nil, evs_cons, eva_nil, eva_cons, bnd_ok, asB, pl_nil, pl_int, sl_t, sl_l, rv_t, rv_l, b_add, b_sub, b_fdiv, b_mod, c_lt, c_le, c_gt, c_ge, c_eqI, c_neI, c_neB, c_isN, c_notN, c_isB, c_notB, t_len, t_lenL, t_tup, t_tupT, t_lst, t_lstL, t_sum, t_all, t_any, t_sorted, t_isT, t_isI, t_isB, t_isS, t_max, t_min, t_int, t_intB, s_seqT, s_seqL, s_enT, s_enL, s_zipT, ss_nil, ss_cons, nx_nx, nx_rt, nx_ex, fl_ok, ownS_i, ownS_t, ownS_l, ownS_b, ownS_s, ownS_n, ownS_d, s_fz, s_set, s_setT, s_own, s_ite, s_ret, resF_rt, bindT_n, bindT_2, bindT_2l, bindT_3, optFl_some, frz_cons, frz_nil, wipe_cons, wipe_nil, mkT_nil, mkL_nil, mkT_1, mkT_2, mkT_3, mkT_4, mkL_6, List.getElem?_cons_zero, List.getElem?_cons_succ, List.set_cons_zero, List.set_cons_succ, List.map_cons, List.map_nil, List.cons_append, List.nil_append, List.replicate_succ, List.replicate_zero, List.length_cons, List.length_nil, if_true]
  · refine ⟨w, f, s, ?_, smD_mono (by decide) hw.sm, smD_mono (by decide) hf.sm, smD_mono (by decide) hs.sm⟩
    simp only [h, m3, decide_false, startR, ev_k, ev_v, ev_b, gb_eq, gv_eq, slb_v, slb_o, slv_v, ev_tup, ev_lst, ev_bin, ev_cmp, ev_chain, ev_neg1, ev_not, ev_and, ev_or, ev_ife, ev_call, ev_bt, ev_ix, ev_sl, ev_rev, ev_dict0, evs_nil, evs_cons, eva_nil, eva_cons, bnd_ok, asB, pl_nil, pl_int, sl_t, sl_l, rv_t, rv_l, b_add, b_sub, b_fdiv, b_mod, c_lt, c_le, c_gt, c_ge, c_eqI, c_neI, c_neB, c_isN, c_notN, c_isB, c_notB, t_len, t_lenL, t_tup, t_tupT, t_lst, t_lstL, t_sum, t_all, t_any, t_sorted, t_isT, t_isI, t_isB, t_isS, t_max, t_min, t_int, t_intB, s_seqT, s_seqL, s_enT, s_enL, s_zipT, ss_nil, ss_cons, nx_nx, nx_rt, nx_ex, fl_ok, ownS_i, ownS_t, ownS_l, ownS_b, ownS_s, ownS_n, ownS_d, s_fz, s_set, s_setT, s_own, s_ite, s_ret, resF_rt, bindT_n, bindT_2, bindT_2l, bindT_3, optFl_some, frz_cons, frz_nil, wipe_cons, wipe_nil, mkT_nil, mkL_nil, mkT_1, mkT_2, mkT_3, mkT_4, mkL_6, List.getElem?_cons_zero, List.getElem?_cons_succ, List.set_cons_zero, List.set_cons_succ, List.map_cons, List.map_nil, List.cons_append, List.nil_append, List.replicate_succ, List.replicate_zero, List.length_cons, List.length_nil, if_neg Bool.false_ne_true]
end BP

namespace BP
open PySem
theorem repL_one {α : Type} (k : Int) (x : α) : repL k [x] = List.replicate k.toNat x := by
  unfold repL
  induction k.toNat with
  | zero => rfl
  | succ n ih => rw [List.replicate_succ, List.flatten_cons, ih, List.replicate_succ]; rfl
theorem sm_rep {x : D} {k : Nat} {m : Int} (hm : m ≤ 100) (h : smD k x = true) : smD (k + 1) (.tuple (repL m [x])) = true := by
  rw [repL_one]
  exact sm_tup (by rw [List.length_replicate]; omega) fun y hy => by rw [(List.mem_replicate.mp hy).2]; exact h
theorem mem_cutD {α : Type} {xs : List α} {l h : Option Int} {x : α} (hx : x ∈ cutD xs l h) : x ∈ xs := List.mem_of_mem_drop (List.mem_of_mem_take hx)
theorem len_cutD {α : Type} (xs : List α) (l h : Option Int) : (cutD xs l h).length ≤ xs.length := by
  unfold cutD
  rw [List.length_take, List.length_drop]
  omega
abbrev k1if2 : Stm := .ite (.cmp .eq (.bin .mod (.bin .fdiv (.b 1) (.k (.int 128))) (.k (.int 4))) (.k (.int 1))) [.own 6 (.bin .add (.k (.int 1)) (.bin .mod (.bin .fdiv (.b 1) (.k (.int 512))) (.k (.int 7)))), .fz [6], .own 4 (.bin .add (.bin .mul (.tup [(.v 6)]) (.k (.int 2))) (.bin .mul (.tup [(.bin .mod (.bin .fdiv (.b 1) (.k (.int 4096))) (.k (.int 3)))]) (.bin .mod (.bin .fdiv (.b 1) (.k (.int 16384))) (.k (.int 2))))), .own 3 (.sl (.tup [(.bin .mul (.tup [(.k (.int 1))]) (.b 6)), (.bin .mul (.tup [(.k (.int 2))]) (.b 6)), (.bin .mul (.tup [(.k (.int 3))]) (.bin .mod (.bin .fdiv (.b 1) (.k (.int 4096))) (.k (.int 3))))]) [] [(.bin .add (.k (.int 2)) (.bin .mod (.bin .fdiv (.b 1) (.k (.int 16384))) (.k (.int 2))))]), .own 2 (.bin .mul (.tup [(.k (.int 9))]) (.bin .add (.b 6) (.k (.int 3))))] []
theorem k1_if2 (C : Nat → List D → Res D) (l : D) (a : Int) (w f s : D) (hw : smD 10 w = true) (hf : smD 10 f = true) (hs : smD 10 s = true) : ∃ w' f' s' t, evalS C k1if2 [.val l, .val (.int a), .val w, .val f, .val s, .non, .non, .non, .non] =
    .nx [.val l, .val (.int a), .val w', .val f', .val s', .non, t, .non, .non] ∧ smD 10 w' = true ∧ smD 10 f' = true ∧ smD 10 s' = true := by
  have d128 : ∀ i : Int, evalBin .fdiv (.int i) (.int 128) = .ok (.int (i / 128)) := fun i => b_fdiv (by decide) (by decide)
  have d512 : ∀ i : Int, evalBin .fdiv (.int i) (.int 512) = .ok (.int (i / 512)) := fun i => b_fdiv (by decide) (by decide)
  have d4096 : ∀ i : Int, evalBin .fdiv (.int i) (.int 4096) = .ok (.int (i / 4096)) := fun i => b_fdiv (by decide) (by decide)
  have d16384 : ∀ i : Int, evalBin .fdiv (.int i) (.int 16384) = .ok (.int (i / 16384)) := fun i => b_fdiv (by decide) (by decide)
  have m4 : ∀ i : Int, evalBin .mod (.int i) (.int 4) = .ok (.int (i % 4)) := fun i => b_mod (by decide)
  have m7 : ∀ i : Int, evalBin .mod (.int i) (.int 7) = .ok (.int (i % 7)) := fun i => b_mod (by decide)
  have m3 : ∀ i : Int, evalBin .mod (.int i) (.int 3) = .ok (.int (i % 3)) := fun i => b_mod (by decide)
  have m2 : ∀ i : Int, evalBin .mod (.int i) (.int 2) = .ok (.int (i % 2)) := fun i => b_mod (by decide)
  by_cases h : a / 128 % 4 = 1
  · generalize hL : 1 + a / 512 % 7 = L
    generalize hq : a / 4096 % 3 = q
    generalize hr : a / 16384 % 2 = r
    have L1 : 1 ≤ L ∧ L ≤ 7 := by omega
    have q1 : 0 ≤ q ∧ q ≤ 2 := by omega
    have r1 : 0 ≤ r ∧ r ≤ 1 := by omega
    have c1 : evalBin .mul (.tuple [.int L]) (.int 2) = .ok (.tuple (repL 2 [.int L])) := b_mulT ⟨by decide, by decide, by simp only [List.length_cons, List.length_nil]; omega⟩
    have c2 : evalBin .mul (.tuple [.int q]) (.int r) = .ok (.tuple (repL r [.int q])) := b_mulT ⟨by omega, by omega, by simp only [List.length_cons, List.length_nil]; omega⟩
    have c3 : ∀ x : D, evalBin .mul (.tuple [x]) (.int L) = .ok (.tuple (repL L [x])) := fun x => b_mulT ⟨by omega, by omega, by simp only [List.length_cons, List.length_nil]; omega⟩
    have c4 : ∀ x : D, evalBin .mul (.tuple [x]) (.int q) = .ok (.tuple (repL q [x])) := fun x => b_mulT ⟨by omega, by omega, by simp only [List.length_cons, List.length_nil]; omega⟩
    have c5 : ∀ x : D, evalBin .mul (.tuple [x]) (.int (L + 3)) = .ok (.tuple (repL (L + 3) [x])) := fun x => b_mulT ⟨by omega, by omega, by simp only [List.length_cons, List.length_nil]; omega⟩
    have l1 : (repL 2 [PyData.int L]).length ≤ 10 := by rw [repL_one, List.length_replicate]; decide
    have l2 : (repL r [PyData.int q]).length ≤ 10 := by rw [repL_one, List.length_replicate]; omega
    have c6 : evalBin .add (.tuple (repL 2 [.int L])) (.tuple (repL r [.int q])) = .ok (.tuple (repL 2 [.int L] ++ repL r [.int q])) := b_catT (by omega)
    refine ⟨.tuple (repL (L + 3) [.int 9]), .tuple (cutD [.tuple (repL L [.int 1]), .tuple (repL L [.int 2]), .tuple (repL q [.int 3])] none (some (2 + r))), .tuple (repL 2 [.int L] ++ repL r [.int q]), .val (.int L), ?_, ?_, ?_, ?_⟩
    · simp only [h, d128, d512, d4096, d16384, m4, m7, m3, m2, hL, hq, hr, c1, c2, c3, c4, c5, c6, freeze, decide_true, startR, ev_k, ev_v, ev_b, gb_eq, gv_eq, slb_v, slb_o, slv_v, ev_tup, ev_lst, ev_bin, ev_cmp, ev_chain, ev_neg1, ev_not, ev_and, ev_or, ev_ife, ev_call, ev_bt, ev_ix, ev_sl, ev_rev, ev_dict0, evs_nil, evs_cons, eva_nil, eva_cons, bnd_ok, asB, pl_nil, pl_int, sl_t, sl_l, rv_t, rv_l, b_add, b_sub, b_fdiv, b_mod, c_lt, c_le, c_gt, c_ge, c_eqI, c_neI, c_neB, c_isN, c_notN, c_isB, c_notB, t_len, t_lenL, t_tup, t_tupT, t_lst, t_lstL, t_sum, t_all, t_any, t_sorted, t_isT, t_isI, t_isB, t_isS, t_max, t_min, t_int, t_intB, s_seqT, s_seqL, s_enT, s_enL, s_zipT, ss_nil, ss_cons, nx_nx, nx_rt, nx_ex, fl_ok, ownS_i, ownS_t, ownS_l, ownS_b, ownS_s, ownS_n, ownS_d, s_fz, s_set, s_setT, s_own, s_ite, s_ret, resF_rt, bindT_n, bindT_2, bindT_2l, bindT_3, optFl_some, frz_cons, frz_nil, wipe_cons, wipe_nil, mkT_nil, mkL_nil, mkT_1, mkT_2, mkT_3, mkT_4, mkL_6, List.getElem?_cons_zero, List.getElem?_cons_succ, List.set_cons_zero, List.set_cons_succ, List.map_cons, List.map_nil, List.cons_append, List.nil_append, List.replicate_succ, List.replicate_zero, List.length_cons, List.length_nil, if_true]
    · exact smD_mono (k := 1) (by decide) (sm_rep (by omega) rfl)
    · refine smD_mono (k := 2) (by decide) (sm_tup (Nat.le_trans (len_cutD _ _ _) (by simp only [List.length_cons, List.length_nil]; omega)) fun x hx => ?_)
      have hx := mem_cutD hx
      simp only [List.mem_cons, List.not_mem_nil, or_false] at hx
      rcases hx with rfl | rfl | rfl
      · exact sm_rep (by omega) rfl
      · exact sm_rep (by omega) rfl
      · exact sm_rep (by omega) rfl
    · refine smD_mono (k := 1) (by decide) (sm_tup (by rw [List.length_append]; omega) fun x hx => ?_)
      rcases List.mem_append.mp hx with hx | hx
      · rw [repL_one] at hx; rw [(List.mem_replicate.mp hx).2]; rfl
      · rw [repL_one] at hx; rw [(List.mem_replicate.mp hx).2]; rfl
  · refine ⟨w, f, s, .non, ?_, hw, hf, hs⟩
    simp only [h, d128, m4, decide_false, startR, ev_k, ev_v, ev_b, gb_eq, gv_eq, slb_v, slb_o, slv_v, ev_tup, ev_lst, ev_bin, ev_cmp, ev_chain, ev_neg1, ev_not, ev_and, ev_or, ev_ife, ev_call, ev_bt, ev_ix, ev_sl, ev_rev, ev_dict0, evs_nil, evs_cons, eva_nil, eva_cons, bnd_ok, asB, pl_nil, pl_int, sl_t, sl_l, rv_t, rv_l, b_add, b_sub, b_fdiv, b_mod, c_lt, c_le, c_gt, c_ge, c_eqI, c_neI, c_neB, c_isN, c_notN, c_isB, c_notB, t_len, t_lenL, t_tup, t_tupT, t_lst, t_lstL, t_sum, t_all, t_any, t_sorted, t_isT, t_isI, t_isB, t_isS, t_max, t_min, t_int, t_intB, s_seqT, s_seqL, s_enT, s_enL, s_zipT, ss_nil, ss_cons, nx_nx, nx_rt, nx_ex, fl_ok, ownS_i, ownS_t, ownS_l, ownS_b, ownS_s, ownS_n, ownS_d, s_fz, s_set, s_setT, s_own, s_ite, s_ret, resF_rt, bindT_n, bindT_2, bindT_2l, bindT_3, optFl_some, frz_cons, frz_nil, wipe_cons, wipe_nil, mkT_nil, mkL_nil, mkT_1, mkT_2, mkT_3, mkT_4, mkL_6, List.getElem?_cons_zero, List.getElem?_cons_succ, List.set_cons_zero, List.set_cons_succ, List.map_cons, List.map_nil, List.cons_append, List.nil_append, List.replicate_succ, List.replicate_zero, List.length_cons, List.length_nil, if_neg Bool.false_ne_true]
def deep : Nat := 60
theorem law_k01_law (ns : List Int) (hl : ns.length ≤ 63) : callF T0 (deep + 1) 18 [.list (ns.map .int)] = .ok (.bool true) := by
  have hb : F_k01_law.body = [.set (.n 1) (.call 9 [(.v 0), (.k (.int 0))]), .set (.n 2) (.call 11 [(.call 9 [(.v 0), (.k (.int 1))]), (.k (.int 8))]), .set (.n 3) (.call 13 [(.call 11 [(.call 9 [(.v 0), (.k (.int 2))]), (.k (.int 8))])]),
    .set (.n 4) (.bt .tuple [(.comp (.bt .len [(.b 5)]) [5] (.n 5) .seq [(.call 13 [(.call 11 [(.call 9 [(.v 0), (.k (.int 3))]), (.k (.int 8))])])] [])]), k1if, k1if2, .fz [2, 3, 4], .loop (.n 7) .seq [(.tup [(.v 2), (.v 3), (.v 4)])] k1body, .ret (.k (.bool true))] := rfl
  have x0 : callF T0 60 9 [.list (ns.map .int), .int 0] = _ := m_mixed 58 ns 0 (by decide)
  have x1 : callF T0 60 9 [.list (ns.map .int), .int 1] = _ := m_mixed 58 ns 1 (by decide)
  have x2 : callF T0 60 9 [.list (ns.map .int), .int 2] = _ := m_mixed 58 ns 2 (by decide)
  have x3 : callF T0 60 9 [.list (ns.map .int), .int 3] = _ := m_mixed 58 ns 3 (by decide)
  have w1 : callF T0 60 11 [.int (mixI ns 1), .int 8] = _ := m_word 58 (mixI ns 1) 8 (by decide)
  have w2 : callF T0 60 11 [.int (mixI ns 2), .int 8] = _ := m_word 58 (mixI ns 2) 8 (by decide)
  have w3 : callF T0 60 11 [.int (mixI ns 3), .int 8] = _ := m_word 58 (mixI ns 3) 8 (by decide)
  have n1 := wordI_len (mixI ns 1) 8
  have n2 := wordI_len (mixI ns 2) 8
  have n3 := wordI_len (mixI ns 3) 8
  generalize wordI (mixI ns 1) 8 = W1 at w1 n1
  generalize wordI (mixI ns 2) 8 = W2 at w2 n2
  generalize wordI (mixI ns 3) 8 = W3 at w3 n3
  have k2 : callF T0 60 13 [tpI W2] = _ := m_Lmake 59 W2 (by omega) (by omega)
  have k3 : callF T0 60 13 [tpI W3] = _ := m_Lmake 59 W3 (by omega) (by omega)
  have r2 : (lmake W2).length ≤ 8 := Nat.le_trans (make_len W2 []) (by simpa using n2)
  have r2' : ∀ r ∈ lmake W2, r.length ≤ 8 := fun r hr => Nat.le_trans (make_rows W2 [] 0 (by simp) r hr) (by omega)
  have r3 : (lmake W3).length ≤ 8 := Nat.le_trans (make_len W3 []) (by simpa using n3)
  generalize lmake W2 = R2 at k2 r2 r2'
  generalize lmake W3 = R3 at k3 r3
  have a0 := mixI_lo ns 0
  generalize mixI ns 0 = a at x0 a0
  have hsrc : (evalEs (callF T0 60) [(.call 13 [(.call 11 [(.call 9 [(.v 0), (.k (.int 3))]), (.k (.int 8))])])] [.val (.list (ns.map .int)), .val (.int a), .val (tpI W1), .val (tpR R2), .non, .non, .non, .non, .non]).bind (evalSrc .seq) = .ok (R3.map tpI) := by
    simp only [x3, w3, k3, startR, ev_k, ev_v, ev_b, gb_eq, gv_eq, slb_v, slb_o, slv_v, ev_tup, ev_lst, ev_bin, ev_cmp, ev_chain, ev_neg1, ev_not, ev_and, ev_or, ev_ife, ev_call, ev_bt, ev_ix, ev_sl, ev_rev, ev_dict0, evs_nil, evs_cons, eva_nil, eva_cons, bnd_ok, asB, pl_nil, pl_int, sl_t, sl_l, rv_t, rv_l, b_add, b_sub, b_fdiv, b_mod, c_lt, c_le, c_gt, c_ge, c_eqI, c_neI, c_neB, c_isN, c_notN, c_isB, c_notB, t_len, t_lenL, t_tup, t_tupT, t_lst, t_lstL, t_sum, t_all, t_any, t_sorted, t_isT, t_isI, t_isB, t_isS, t_max, t_min, t_int, t_intB, s_seqT, s_seqL, s_enT, s_enL, s_zipT, ss_nil, ss_cons, nx_nx, nx_rt, nx_ex, fl_ok, ownS_i, ownS_t, ownS_l, ownS_b, ownS_s, ownS_n, ownS_d, s_fz, s_set, s_setT, s_own, s_ite, s_ret, resF_rt, bindT_n, bindT_2, bindT_2l, bindT_3, optFl_some, frz_cons, frz_nil, wipe_cons, wipe_nil, mkT_nil, mkL_nil, mkT_1, mkT_2, mkT_3, mkT_4, mkL_6, List.getElem?_cons_zero, List.getElem?_cons_succ, List.set_cons_zero, List.set_cons_succ, List.map_cons, List.map_nil, List.cons_append, List.nil_append, List.replicate_succ, List.replicate_zero, List.length_cons, List.length_nil]
  have hc : evalE (callF T0 60) (.comp (.bt .len [(.b 5)]) [5] (.n 5) .seq [(.call 13 [(.call 11 [(.call 9 [(.v 0), (.k (.int 3))]), (.k (.int 8))])])] []) [.val (.list (ns.map .int)), .val (.int a), .val (tpI W1), .val (tpR R2), .non, .non, .non, .non, .non] = .ok (.list ((lensI R3).map .int)) := by
    refine ev_comp hsrc (by rw [List.length_map]; omega) ((compL_map (f := fun d => match d with | .tuple xs => .int xs.length | _ => .none) fun x hx => ?_).trans ?_)
    · obtain ⟨r, _, rfl⟩ := List.mem_map.mp hx
      rw [turn_eq bindT_n]
      simp [startR, ev_k, ev_v, ev_b, gb_eq, gv_eq, slb_v, slb_o, slv_v, ev_tup, ev_lst, ev_bin, ev_cmp, ev_chain, ev_neg1, ev_not, ev_and, ev_or, ev_ife, ev_call, ev_bt, ev_ix, ev_sl, ev_rev, ev_dict0, evs_nil, evs_cons, eva_nil, eva_cons, bnd_ok, asB, pl_nil, pl_int, sl_t, sl_l, rv_t, rv_l, b_add, b_sub, b_fdiv, b_mod, c_lt, c_le, c_gt, c_ge, c_eqI, c_neI, c_neB, c_isN, c_notN, c_isB, c_notB, t_len, t_lenL, t_tup, t_tupT, t_lst, t_lstL, t_sum, t_all, t_any, t_sorted, t_isT, t_isI, t_isB, t_isS, t_max, t_min, t_int, t_intB, s_seqT, s_seqL, s_enT, s_enL, s_zipT, ss_nil, ss_cons, nx_nx, nx_rt, nx_ex, fl_ok, ownS_i, ownS_t, ownS_l, ownS_b, ownS_s, ownS_n, ownS_d, s_fz, s_set, s_setT, s_own, s_ite, s_ret, resF_rt, bindT_n, bindT_2, bindT_2l, bindT_3, optFl_some, frz_cons, frz_nil, wipe_cons, wipe_nil, mkT_nil, mkL_nil, mkT_1, mkT_2, mkT_3, mkT_4, mkL_6, List.getElem?_cons_zero, List.getElem?_cons_succ, List.set_cons_zero, List.set_cons_succ, List.map_cons, List.map_nil, List.cons_append, List.nil_append, List.replicate_succ, List.replicate_zero, List.length_cons, List.length_nil]
    · unfold lensI
      rw [List.map_map, List.map_map]
      refine congrArg Res.ok (List.map_congr_left fun r _ => ?_)
      simp
  obtain ⟨w', f', s', e1, g1, g2, g3⟩ := k1_if ns a a0 (tpI W1) (tpR R2) (tpI (lensI R3)) (.word (by omega)) (.rows (by omega) fun r hr => by have := r2' r hr; omega) (.word (by unfold lensI; rw [List.length_map]; omega))
  obtain ⟨w2', f2', s2', t, e2, h1, h2, h3⟩ := k1_if2 (callF T0 60) (.list (ns.map .int)) a w' f' s' g1 g2 g3
  obtain ⟨t1, t2, e3⟩ := k1_loop .non (.val (.list (ns.map .int))) (.val (.int a)) (.val w2') (.val f2') (.val s2') .non t [w2', f2', s2'] .non .non (fun x hx => by
    simp only [List.mem_cons, List.not_mem_nil, or_false] at hx
    rcases hx with rfl | rfl | rfl
    · exact smD_mono (by decide) h1
    · exact smD_mono (by decide) h2
    · exact smD_mono (by decide) h3)
  have hloop : evalS (callF T0 60) (.loop (.n 7) .seq [(.tup [(.v 2), (.v 3), (.v 4)])] k1body) [.val (.list (ns.map .int)), .val (.int a), .val w2', .val f2', .val s2', .non, t, .non, .non] = .nx [.val (.list (ns.map .int)), .val (.int a), .val w2', .val f2', .val s2', .non, t, t1, t2] := by
    have src : (evalEs (callF T0 60) [(.tup [(.v 2), (.v 3), (.v 4)])] [.val (.list (ns.map .int)), .val (.int a), .val w2', .val f2', .val s2', .non, t, .non, .non]).bind (evalSrc .seq) = .ok [w2', f2', s2'] := by simp only [startR, ev_k, ev_v, ev_b, gb_eq, gv_eq, slb_v, slb_o, slv_v, ev_tup, ev_lst, ev_bin, ev_cmp, ev_chain, ev_neg1, ev_not, ev_and, ev_or, ev_ife, ev_call, ev_bt, ev_ix, ev_sl, ev_rev, ev_dict0, evs_nil, evs_cons, eva_nil, eva_cons, bnd_ok, asB, pl_nil, pl_int, sl_t, sl_l, rv_t, rv_l, b_add, b_sub, b_fdiv, b_mod, c_lt, c_le, c_gt, c_ge, c_eqI, c_neI, c_neB, c_isN, c_notN, c_isB, c_notB, t_len, t_lenL, t_tup, t_tupT, t_lst, t_lstL, t_sum, t_all, t_any, t_sorted, t_isT, t_isI, t_isB, t_isS, t_max, t_min, t_int, t_intB, s_seqT, s_seqL, s_enT, s_enL, s_zipT, ss_nil, ss_cons, nx_nx, nx_rt, nx_ex, fl_ok, ownS_i, ownS_t, ownS_l, ownS_b, ownS_s, ownS_n, ownS_d, s_fz, s_set, s_setT, s_own, s_ite, s_ret, resF_rt, bindT_n, bindT_2, bindT_2l, bindT_3, optFl_some, frz_cons, frz_nil, wipe_cons, wipe_nil, mkT_nil, mkL_nil, mkT_1, mkT_2, mkT_3, mkT_4, mkL_6, List.getElem?_cons_zero, List.getElem?_cons_succ, List.set_cons_zero, List.set_cons_succ, List.map_cons, List.map_nil, List.cons_append, List.nil_append, List.replicate_succ, List.replicate_zero, List.length_cons, List.length_nil]
    rw [s_loop, src, fl_ok]
    exact e3
  rw [show deep + 1 = 60 + 1 from rfl, call_eq (fn := F_k01_law) rfl rfl, hb]
  have hst : startR F_k01_law [.list (ns.map .int)] = [.val (.list (ns.map .int)), .non, .non, .non, .non, .non, .non, .non, .non] := rfl
  rw [hst]
  have q1 : evalS (callF T0 60) (.set (.n 1) (.call 9 [(.v 0), (.k (.int 0))])) [.val (.list (ns.map .int)), .non, .non, .non, .non, .non, .non, .non, .non] = .nx [.val (.list (ns.map .int)), .val (.int a), .non, .non, .non, .non, .non, .non, .non] := by simp only [x0, startR, ev_k, ev_v, ev_b, gb_eq, gv_eq, slb_v, slb_o, slv_v, ev_tup, ev_lst, ev_bin, ev_cmp, ev_chain, ev_neg1, ev_not, ev_and, ev_or, ev_ife, ev_call, ev_bt, ev_ix, ev_sl, ev_rev, ev_dict0, evs_nil, evs_cons, eva_nil, eva_cons, bnd_ok, asB, pl_nil, pl_int, sl_t, sl_l, rv_t, rv_l, b_add, b_sub, b_fdiv, b_mod, c_lt, c_le, c_gt, c_ge, c_eqI, c_neI, c_neB, c_isN, c_notN, c_isB, c_notB, t_len, t_lenL, t_tup, t_tupT, t_lst, t_lstL, t_sum, t_all, t_any, t_sorted, t_isT, t_isI, t_isB, t_isS, t_max, t_min, t_int, t_intB, s_seqT, s_seqL, s_enT, s_enL, s_zipT, ss_nil, ss_cons, nx_nx, nx_rt, nx_ex, fl_ok, ownS_i, ownS_t, ownS_l, ownS_b, ownS_s, ownS_n, ownS_d, s_fz, s_set, s_setT, s_own, s_ite, s_ret, resF_rt, bindT_n, bindT_2, bindT_2l, bindT_3, optFl_some, frz_cons, frz_nil, wipe_cons, wipe_nil, mkT_nil, mkL_nil, mkT_1, mkT_2, mkT_3, mkT_4, mkL_6, List.getElem?_cons_zero, List.getElem?_cons_succ, List.set_cons_zero, List.set_cons_succ, List.map_cons, List.map_nil, List.cons_append, List.nil_append, List.replicate_succ, List.replicate_zero, List.length_cons, List.length_nil]
  have q2 : evalS (callF T0 60) (.set (.n 2) (.call 11 [(.call 9 [(.v 0), (.k (.int 1))]), (.k (.int 8))])) [.val (.list (ns.map .int)), .val (.int a), .non, .non, .non, .non, .non, .non, .non] = .nx [.val (.list (ns.map .int)), .val (.int a), .val (tpI W1), .non, .non, .non, .non, .non, .non] := by simp only [x1, w1, startR, ev_k, ev_v, ev_b, gb_eq, gv_eq, slb_v, slb_o, slv_v, ev_tup, ev_lst, ev_bin, ev_cmp, ev_chain, ev_neg1, ev_not, ev_and, ev_or, ev_ife, ev_call, ev_bt, ev_ix, ev_sl, ev_rev, ev_dict0, evs_nil, evs_cons, eva_nil, eva_cons, bnd_ok, asB, pl_nil, pl_int, sl_t, sl_l, rv_t, rv_l, b_add, b_sub, b_fdiv, b_mod, c_lt, c_le, c_gt, c_ge, c_eqI, c_neI, c_neB, c_isN, c_notN, c_isB, c_notB, t_len, t_lenL, t_tup, t_tupT, t_lst, t_lstL, t_sum, t_all, t_any, t_sorted, t_isT, t_isI, t_isB, t_isS, t_max, t_min, t_int, t_intB, s_seqT, s_seqL, s_enT, s_enL, s_zipT, ss_nil, ss_cons, nx_nx, nx_rt, nx_ex, fl_ok, ownS_i, ownS_t, ownS_l, ownS_b, ownS_s, ownS_n, ownS_d, s_fz, s_set, s_setT, s_own, s_ite, s_ret, resF_rt, bindT_n, bindT_2, bindT_2l, bindT_3, optFl_some, frz_cons, frz_nil, wipe_cons, wipe_nil, mkT_nil, mkL_nil, mkT_1, mkT_2, mkT_3, mkT_4, mkL_6, List.getElem?_cons_zero, List.getElem?_cons_succ, List.set_cons_zero, List.set_cons_succ, List.map_cons, List.map_nil, List.cons_append, List.nil_append, List.replicate_succ, List.replicate_zero, List.length_cons, List.length_nil]
  have q3 : evalS (callF T0 60) (.set (.n 3) (.call 13 [(.call 11 [(.call 9 [(.v 0), (.k (.int 2))]), (.k (.int 8))])])) [.val (.list (ns.map .int)), .val (.int a), .val (tpI W1), .non, .non, .non, .non, .non, .non] = .nx [.val (.list (ns.map .int)), .val (.int a), .val (tpI W1), .val (tpR R2), .non, .non, .non, .non, .non] := by simp only [x2, w2, k2, startR, ev_k, ev_v, ev_b, gb_eq, gv_eq, slb_v, slb_o, slv_v, ev_tup, ev_lst, ev_bin, ev_cmp, ev_chain, ev_neg1, ev_not, ev_and, ev_or, ev_ife, ev_call, ev_bt, ev_ix, ev_sl, ev_rev, ev_dict0, evs_nil, evs_cons, eva_nil, eva_cons, bnd_ok, asB, pl_nil, pl_int, sl_t, sl_l, rv_t, rv_l, b_add, b_sub, b_fdiv, b_mod, c_lt, c_le, c_gt, c_ge, c_eqI, c_neI, c_neB, c_isN, c_notN, c_isB, c_notB, t_len, t_lenL, t_tup, t_tupT, t_lst, t_lstL, t_sum, t_all, t_any, t_sorted, t_isT, t_isI, t_isB, t_isS, t_max, t_min, t_int, t_intB, s_seqT, s_seqL, s_enT, s_enL, s_zipT, ss_nil, ss_cons, nx_nx, nx_rt, nx_ex, fl_ok, ownS_i, ownS_t, ownS_l, ownS_b, ownS_s, ownS_n, ownS_d, s_fz, s_set, s_setT, s_own, s_ite, s_ret, resF_rt, bindT_n, bindT_2, bindT_2l, bindT_3, optFl_some, frz_cons, frz_nil, wipe_cons, wipe_nil, mkT_nil, mkL_nil, mkT_1, mkT_2, mkT_3, mkT_4, mkL_6, List.getElem?_cons_zero, List.getElem?_cons_succ, List.set_cons_zero, List.set_cons_succ, List.map_cons, List.map_nil, List.cons_append, List.nil_append, List.replicate_succ, List.replicate_zero, List.length_cons, List.length_nil]
  have q4 : evalS (callF T0 60) (.set (.n 4) (.bt .tuple [(.comp (.bt .len [(.b 5)]) [5] (.n 5) .seq [(.call 13 [(.call 11 [(.call 9 [(.v 0), (.k (.int 3))]), (.k (.int 8))])])] [])])) [.val (.list (ns.map .int)), .val (.int a), .val (tpI W1), .val (tpR R2), .non, .non, .non, .non, .non] = .nx [.val (.list (ns.map .int)), .val (.int a), .val (tpI W1), .val (tpR R2), .val (tpI (lensI R3)), .non, .non, .non, .non] := by simp only [hc, startR, ev_k, ev_v, ev_b, gb_eq, gv_eq, slb_v, slb_o, slv_v, ev_tup, ev_lst, ev_bin, ev_cmp, ev_chain, ev_neg1, ev_not, ev_and, ev_or, ev_ife, ev_call, ev_bt, ev_ix, ev_sl, ev_rev, ev_dict0, evs_nil, evs_cons, eva_nil, eva_cons, bnd_ok, asB, pl_nil, pl_int, sl_t, sl_l, rv_t, rv_l, b_add, b_sub, b_fdiv, b_mod, c_lt, c_le, c_gt, c_ge, c_eqI, c_neI, c_neB, c_isN, c_notN, c_isB, c_notB, t_len, t_lenL, t_tup, t_tupT, t_lst, t_lstL, t_sum, t_all, t_any, t_sorted, t_isT, t_isI, t_isB, t_isS, t_max, t_min, t_int, t_intB, s_seqT, s_seqL, s_enT, s_enL, s_zipT, ss_nil, ss_cons, nx_nx, nx_rt, nx_ex, fl_ok, ownS_i, ownS_t, ownS_l, ownS_b, ownS_s, ownS_n, ownS_d, s_fz, s_set, s_setT, s_own, s_ite, s_ret, resF_rt, bindT_n, bindT_2, bindT_2l, bindT_3, optFl_some, frz_cons, frz_nil, wipe_cons, wipe_nil, mkT_nil, mkL_nil, mkT_1, mkT_2, mkT_3, mkT_4, mkL_6, List.getElem?_cons_zero, List.getElem?_cons_succ, List.set_cons_zero, List.set_cons_succ, List.map_cons, List.map_nil, List.cons_append, List.nil_append, List.replicate_succ, List.replicate_zero, List.length_cons, List.length_nil]
  rw [ss_cons, q1, nx_nx, ss_cons, q2, nx_nx, ss_cons, q3, nx_nx, ss_cons, q4, nx_nx, ss_cons, e1, nx_nx, ss_cons, e2, nx_nx, ss_cons, s_fz, nx_nx, ss_cons]
  rw [show freezes [.val (.list (ns.map .int)), .val (.int a), .val w2', .val f2', .val s2', .non, t, .non, .non] [2, 3, 4] = [.val (.list (ns.map .int)), .val (.int a), .val w2', .val f2', .val s2', .non, t, .non, .non] from rfl, hloop, nx_nx]
  simp only [startR, ev_k, ev_v, ev_b, gb_eq, gv_eq, slb_v, slb_o, slv_v, ev_tup, ev_lst, ev_bin, ev_cmp, ev_chain, ev_neg1, ev_not, ev_and, ev_or, ev_ife, ev_call, ev_bt, ev_ix, ev_sl, ev_rev, ev_dict0, evs_nil, evs_cons, eva_nil, eva_cons, bnd_ok, asB, pl_nil, pl_int, sl_t, sl_l, rv_t, rv_l, b_add, b_sub, b_fdiv, b_mod, c_lt, c_le, c_gt, c_ge, c_eqI, c_neI, c_neB, c_isN, c_notN, c_isB, c_notB, t_len, t_lenL, t_tup, t_tupT, t_lst, t_lstL, t_sum, t_all, t_any, t_sorted, t_isT, t_isI, t_isB, t_isS, t_max, t_min, t_int, t_intB, s_seqT, s_seqL, s_enT, s_enL, s_zipT, ss_nil, ss_cons, nx_nx, nx_rt, nx_ex, fl_ok, ownS_i, ownS_t, ownS_l, ownS_b, ownS_s, ownS_n, ownS_d, s_fz, s_set, s_setT, s_own, s_ite, s_ret, resF_rt, bindT_n, bindT_2, bindT_2l, bindT_3, optFl_some, frz_cons, frz_nil, wipe_cons, wipe_nil, mkT_nil, mkL_nil, mkT_1, mkT_2, mkT_3, mkT_4, mkL_6, List.getElem?_cons_zero, List.getElem?_cons_succ, List.set_cons_zero, List.set_cons_succ, List.map_cons, List.map_nil, List.cons_append, List.nil_append, List.replicate_succ, List.replicate_zero, List.length_cons, List.length_nil]
end BP

namespace BP
open PySem PySem.Spec PyProof.Rows L2
/-! ### they are the text's -/
abbrev topS (i : Nat) : Stmt := PySem.Challenge.pw_bumprows_k01_things.main.body.getD i (.Pass ⟨0, 0, 0, 0⟩)
def gL : Gc := ⟨[], [((Str.ofString "is_whole"), 0), ((Str.ofString "is_falling_row"), 1), ((Str.ofString "is_shape"), 2), ((Str.ofString "is_row"), 3), ((Str.ofString "is_filling"), 4), ((Str.ofString "are_columns"), 5), ((Str.ofString "is_word"), 6), ((Str.ofString "shape_of"), 7), ((Str.ofString "_law_cell_at"), 8), ((Str.ofString "_law_mixed"), 9), ((Str.ofString "_law_drawn"), 10), ((Str.ofString "_law_word"), 11), ((Str.ofString "_law_put"), 12), ((Str.ofString "_law_make"), 13), ((Str.ofString "_law_whole"), 0), ((Str.ofString "_law_is_shape"), 14), ((Str.ofString "_law_is_filling"), 15), ((Str.ofString "_law_is_word"), 16), ((Str.ofString "_law_spoilt"), 17)], [((Str.ofString "MOST_BOXES"), (.int 12)), ((Str.ofString "MOST_NUMBERS"), (.int 8)), ((Str.ofString "GREATEST"), (.int 9))], []⟩
abbrev N_is_whole : List Str := [(Str.ofString "thing"), (Str.ofString "low"), (Str.ofString "high")]
abbrev P_is_whole : List Str := [(Str.ofString "thing"), (Str.ofString "low"), (Str.ofString "high")]
theorem sc_is_whole : scOk N_is_whole P_is_whole (defScope (topS 4)) = true := by decide +kernel
theorem cf_is_whole : cFn { gL with N := N_is_whole } (P_is_whole).length (topS 4) = some F_is_whole := by kernel_rfl
abbrev N_is_falling_row : List Str := [(Str.ofString "some"), (Str.ofString "one"), (Str.ofString "other")]
abbrev P_is_falling_row : List Str := [(Str.ofString "some")]
theorem sc_is_falling_row : scOk N_is_falling_row P_is_falling_row (defScope (topS 5)) = true := by decide +kernel
theorem cf_is_falling_row : cFn { gL with N := N_is_falling_row } (P_is_falling_row).length (topS 5) = some F_is_falling_row := by kernel_rfl
abbrev N_is_shape : List Str := [(Str.ofString "thing"), (Str.ofString "part")]
abbrev P_is_shape : List Str := [(Str.ofString "thing")]
theorem sc_is_shape : scOk N_is_shape P_is_shape (defScope (topS 6)) = true := by decide +kernel
theorem cf_is_shape : cFn { gL with N := N_is_shape } (P_is_shape).length (topS 6) = some F_is_shape := by kernel_rfl
abbrev N_is_row : List Str := [(Str.ofString "thing"), (Str.ofString "part"), (Str.ofString "one"), (Str.ofString "other")]
abbrev P_is_row : List Str := [(Str.ofString "thing")]
theorem sc_is_row : scOk N_is_row P_is_row (defScope (topS 7)) = true := by decide +kernel
theorem cf_is_row : cFn { gL with N := N_is_row } (P_is_row).length (topS 7) = some F_is_row := by kernel_rfl
abbrev N_is_filling : List Str := [(Str.ofString "thing"), (Str.ofString "row"), (Str.ofString "one"), (Str.ofString "other")]
abbrev P_is_filling : List Str := [(Str.ofString "thing")]
theorem sc_is_filling : scOk N_is_filling P_is_filling (defScope (topS 8)) = true := by decide +kernel
theorem cf_is_filling : cFn { gL with N := N_is_filling } (P_is_filling).length (topS 8) = some F_is_filling := by kernel_rfl
abbrev N_are_columns : List Str := [(Str.ofString "row"), (Str.ofString "below"), (Str.ofString "one"), (Str.ofString "other")]
abbrev P_are_columns : List Str := [(Str.ofString "row"), (Str.ofString "below")]
theorem sc_are_columns : scOk N_are_columns P_are_columns (defScope (topS 9)) = true := by decide +kernel
theorem cf_are_columns : cFn { gL with N := N_are_columns } (P_are_columns).length (topS 9) = some F_are_columns := by kernel_rfl
abbrev N_is_word : List Str := [(Str.ofString "thing"), (Str.ofString "part")]
abbrev P_is_word : List Str := [(Str.ofString "thing")]
theorem sc_is_word : scOk N_is_word P_is_word (defScope (topS 10)) = true := by decide +kernel
theorem cf_is_word : cFn { gL with N := N_is_word } (P_is_word).length (topS 10) = some F_is_word := by kernel_rfl
abbrev N_shape_of : List Str := [(Str.ofString "filling"), (Str.ofString "row")]
abbrev P_shape_of : List Str := [(Str.ofString "filling")]
theorem sc_shape_of : scOk N_shape_of P_shape_of (defScope (topS 11)) = true := by decide +kernel
theorem cf_shape_of : cFn { gL with N := N_shape_of } (P_shape_of).length (topS 11) = some F_shape_of := by kernel_rfl
abbrev N_law_cell_at : List Str := [(Str.ofString "_law_script"), (Str.ofString "_law_k")]
abbrev P_law_cell_at : List Str := [(Str.ofString "_law_script"), (Str.ofString "_law_k")]
theorem sc_law_cell_at : scOk N_law_cell_at P_law_cell_at (defScope (topS 13)) = true := by decide +kernel
theorem cf_law_cell_at : cFn { gL with N := N_law_cell_at } (P_law_cell_at).length (topS 13) = some F_Lcell_at := by kernel_rfl
abbrev N_law_mixed : List Str := [(Str.ofString "_law_script"), (Str.ofString "_law_k"), (Str.ofString "_law_drawn_here")]
abbrev P_law_mixed : List Str := [(Str.ofString "_law_script"), (Str.ofString "_law_k")]
theorem sc_law_mixed : scOk N_law_mixed P_law_mixed (defScope (topS 14)) = true := by decide +kernel
theorem cf_law_mixed : cFn { gL with N := N_law_mixed } (P_law_mixed).length (topS 14) = some F_Lmixed := by kernel_rfl
abbrev N_law_drawn : List Str := [(Str.ofString "_law_number"), (Str.ofString "_law_k"), (Str.ofString "_law_drawn_here")]
abbrev P_law_drawn : List Str := [(Str.ofString "_law_number"), (Str.ofString "_law_k")]
theorem sc_law_drawn : scOk N_law_drawn P_law_drawn (defScope (topS 15)) = true := by decide +kernel
theorem cf_law_drawn : cFn { gL with N := N_law_drawn } (P_law_drawn).length (topS 15) = some F_Ldrawn := by kernel_rfl
abbrev N_law_word : List Str := [(Str.ofString "_law_number"), (Str.ofString "_law_most"), (Str.ofString "_law_of"), (Str.ofString "_law_low"), (Str.ofString "_law_k")]
abbrev P_law_word : List Str := [(Str.ofString "_law_number"), (Str.ofString "_law_most")]
theorem sc_law_word : scOk N_law_word P_law_word (defScope (topS 16)) = true := by decide +kernel
theorem cf_law_word : cFn { gL with N := N_law_word } (P_law_word).length (topS 16) = some F_Lword := by kernel_rfl
abbrev N_law_put : List Str := [(Str.ofString "_law_rows"), (Str.ofString "_law_number"), (Str.ofString "_law_greater"), (Str.ofString "_law_place"), (Str.ofString "_law_other"), (Str.ofString "_law_at"), (Str.ofString "_law_more"), (Str.ofString "_law_way")]
abbrev P_law_put : List Str := [(Str.ofString "_law_rows"), (Str.ofString "_law_number")]
theorem sc_law_put : scOk N_law_put P_law_put (defScope (topS 18)) = true := by decide +kernel
theorem cf_law_put : cFn { gL with N := N_law_put } (P_law_put).length (topS 18) = some F_Lput := by kernel_rfl
abbrev N_law_make : List Str := [(Str.ofString "_law_word_here"), (Str.ofString "_law_rows"), (Str.ofString "_law_number")]
abbrev P_law_make : List Str := [(Str.ofString "_law_word_here")]
theorem sc_law_make : scOk N_law_make P_law_make (defScope (topS 19)) = true := by decide +kernel
theorem cf_law_make : cFn { gL with N := N_law_make } (P_law_make).length (topS 19) = some F_Lmake := by kernel_rfl
abbrev N_law_whole : List Str := [(Str.ofString "_law_thing"), (Str.ofString "_law_low"), (Str.ofString "_law_high")]
abbrev P_law_whole : List Str := [(Str.ofString "_law_thing"), (Str.ofString "_law_low"), (Str.ofString "_law_high")]
theorem sc_law_whole : scOk N_law_whole P_law_whole (defScope (topS 20)) = true := by decide +kernel
theorem cf_law_whole : cFn { gL with N := N_law_whole } (P_law_whole).length (topS 20) = some F_is_whole := by kernel_rfl
abbrev N_law_is_shape : List Str := [(Str.ofString "_law_thing"), (Str.ofString "_law_part")]
abbrev P_law_is_shape : List Str := [(Str.ofString "_law_thing")]
theorem sc_law_is_shape : scOk N_law_is_shape P_law_is_shape (defScope (topS 21)) = true := by decide +kernel
theorem cf_law_is_shape : cFn { gL with N := N_law_is_shape } (P_law_is_shape).length (topS 21) = some F_Lis_shape := by kernel_rfl
abbrev N_law_is_filling : List Str := [(Str.ofString "_law_thing"), (Str.ofString "_law_row"), (Str.ofString "_law_part"), (Str.ofString "_law_k"), (Str.ofString "_law_place")]
abbrev P_law_is_filling : List Str := [(Str.ofString "_law_thing")]
theorem sc_law_is_filling : scOk N_law_is_filling P_law_is_filling (defScope (topS 22)) = true := by decide +kernel
theorem cf_law_is_filling : cFn { gL with N := N_law_is_filling } (P_law_is_filling).length (topS 22) = some F_Lis_filling := by kernel_rfl
abbrev N_law_is_word : List Str := [(Str.ofString "_law_thing"), (Str.ofString "_law_part")]
abbrev P_law_is_word : List Str := [(Str.ofString "_law_thing")]
theorem sc_law_is_word : scOk N_law_is_word P_law_is_word (defScope (topS 23)) = true := by decide +kernel
theorem cf_law_is_word : cFn { gL with N := N_law_is_word } (P_law_is_word).length (topS 23) = some F_Lis_word := by kernel_rfl
abbrev N_law_spoilt : List Str := [(Str.ofString "_law_thing"), (Str.ofString "_law_number"), (Str.ofString "_law_deep"), (Str.ofString "_law_at"), (Str.ofString "_law_part"), (Str.ofString "_law_some")]
abbrev P_law_spoilt : List Str := [(Str.ofString "_law_thing"), (Str.ofString "_law_number"), (Str.ofString "_law_deep")]
theorem sc_law_spoilt : scOk N_law_spoilt P_law_spoilt (defScope (topS 24)) = true := by decide +kernel
theorem cf_law_spoilt : cFn { gL with N := N_law_spoilt } (P_law_spoilt).length (topS 24) = some F_Lspoilt := by kernel_rfl
abbrev N_law : List Str := [(Str.ofString "_law_script"), (Str.ofString "_law_number"), (Str.ofString "_law_word_here"), (Str.ofString "_law_filling"), (Str.ofString "_law_shape"), (Str.ofString "_law_row"), (Str.ofString "_law_long"), (Str.ofString "_law_one"), (Str.ofString "_law_found")]
abbrev P_law : List Str := [(Str.ofString "_law_script")]
theorem sc_law : scOk N_law P_law (defScope (topS 25)) = true := by decide +kernel
theorem cf_law : cFn { gL with N := N_law } (P_law).length (topS 25) = some F_k01_law := by kernel_rfl
end BP
open PySem PySem.W PyProof.Rows
set_option maxHeartbeats 0 in
set_option maxRecDepth 1000000 in
theorem PySem.Challenge.cw_bumprows_k01_things_holds : PySem.Challenge.rw_bumprows_k01_things.Holds := by
  w_on; o_law; k_head; (case hw => w_witness2)
  k_fill
  refine L2.walk_of (l := PySem.Challenge.rw_bumprows_k01_things) (n := 63) (k := BP.deep + 1) (x := "_law_script") (CX := fun w => L2.CX PySem.Challenge.pw_bumprows_k01_things w) (sp := fun w => BP.spF BP.T0 _ (fun _ => .none) (BP.deep + 1) 18) rfl (by decide) rfl ⟨rfl, by decide, by decide⟩ (fun w h Y => PySem.W.kIn_of Y) ?F (fun _ _ a ns hl _ hS => BP.law_sp hS (BP.law_k01_law ns hl)) (fun _ H s e s' => BP.cx_none H s e s')
  case F =>
    intro w mg fa h KX G hmg
    refine' (fun (s_is_whole : BP.SFn BP.gL BP.T0 _ mg (Str.ofString "is_whole") 0) => ?_) (BP.sfn_mk KX G ?a4 ?l4 ?c4 ?k4 (fun _ _ _ _ _ _ us hl => match us, hl with | [_, _, _], _ => rfl) BP.sc_is_whole BP.cf_is_whole rfl)
    (case a4 => k_is); (case l4 => k_is); (case c4 => k_is); (case k4 => k_is)
    refine' (fun (s_is_falling_row : BP.SFn BP.gL BP.T0 _ mg (Str.ofString "is_falling_row") 1) => ?_) (BP.sfn_mk KX G ?a5 ?l5 ?c5 ?k5 (fun _ _ _ _ _ _ us hl => match us, hl with | [_], _ => rfl) BP.sc_is_falling_row BP.cf_is_falling_row rfl)
    (case a5 => k_is); (case l5 => k_is); (case c5 => k_is); (case k5 => k_is)
    refine' (fun (s_is_shape : BP.SFn BP.gL BP.T0 _ mg (Str.ofString "is_shape") 2) => ?_) (BP.sfn_mk KX G ?a6 ?l6 ?c6 ?k6 (fun _ _ _ _ _ _ us hl => match us, hl with | [_], _ => rfl) BP.sc_is_shape BP.cf_is_shape rfl)
    (case a6 => k_is); (case l6 => k_is); (case c6 => k_is); (case k6 => k_is)
    refine' (fun (s_is_row : BP.SFn BP.gL BP.T0 _ mg (Str.ofString "is_row") 3) => ?_) (BP.sfn_mk KX G ?a7 ?l7 ?c7 ?k7 (fun _ _ _ _ _ _ us hl => match us, hl with | [_], _ => rfl) BP.sc_is_row BP.cf_is_row rfl)
    (case a7 => k_is); (case l7 => k_is); (case c7 => k_is); (case k7 => k_is)
    refine' (fun (s_is_filling : BP.SFn BP.gL BP.T0 _ mg (Str.ofString "is_filling") 4) => ?_) (BP.sfn_mk KX G ?a8 ?l8 ?c8 ?k8 (fun _ _ _ _ _ _ us hl => match us, hl with | [_], _ => rfl) BP.sc_is_filling BP.cf_is_filling rfl)
    (case a8 => k_is); (case l8 => k_is); (case c8 => k_is); (case k8 => k_is)
    refine' (fun (s_are_columns : BP.SFn BP.gL BP.T0 _ mg (Str.ofString "are_columns") 5) => ?_) (BP.sfn_mk KX G ?a9 ?l9 ?c9 ?k9 (fun _ _ _ _ _ _ us hl => match us, hl with | [_, _], _ => rfl) BP.sc_are_columns BP.cf_are_columns rfl)
    (case a9 => k_is); (case l9 => k_is); (case c9 => k_is); (case k9 => k_is)
    refine' (fun (s_is_word : BP.SFn BP.gL BP.T0 _ mg (Str.ofString "is_word") 6) => ?_) (BP.sfn_mk KX G ?a10 ?l10 ?c10 ?k10 (fun _ _ _ _ _ _ us hl => match us, hl with | [_], _ => rfl) BP.sc_is_word BP.cf_is_word rfl)
    (case a10 => k_is); (case l10 => k_is); (case c10 => k_is); (case k10 => k_is)
    refine' (fun (s_shape_of : BP.SFn BP.gL BP.T0 _ mg (Str.ofString "shape_of") 7) => ?_) (BP.sfn_mk KX G ?a11 ?l11 ?c11 ?k11 (fun _ _ _ _ _ _ us hl => match us, hl with | [_], _ => rfl) BP.sc_shape_of BP.cf_shape_of rfl)
    (case a11 => k_is); (case l11 => k_is); (case c11 => k_is); (case k11 => k_is)
    refine' (fun (s_law_cell_at : BP.SFn BP.gL BP.T0 _ mg (Str.ofString "_law_cell_at") 8) => ?_) (BP.sfn_mk KX G ?a13 ?l13 ?c13 ?k13 (fun _ _ _ _ _ _ us hl => match us, hl with | [_, _], _ => rfl) BP.sc_law_cell_at BP.cf_law_cell_at rfl)
    (case a13 => k_is); (case l13 => k_is); (case c13 => k_is); (case k13 => k_is)
    refine' (fun (s_law_mixed : BP.SFn BP.gL BP.T0 _ mg (Str.ofString "_law_mixed") 9) => ?_) (BP.sfn_mk KX G ?a14 ?l14 ?c14 ?k14 (fun _ _ _ _ _ _ us hl => match us, hl with | [_, _], _ => rfl) BP.sc_law_mixed BP.cf_law_mixed rfl)
    (case a14 => k_is); (case l14 => k_is); (case c14 => k_is); (case k14 => k_is)
    refine' (fun (s_law_drawn : BP.SFn BP.gL BP.T0 _ mg (Str.ofString "_law_drawn") 10) => ?_) (BP.sfn_mk KX G ?a15 ?l15 ?c15 ?k15 (fun _ _ _ _ _ _ us hl => match us, hl with | [_, _], _ => rfl) BP.sc_law_drawn BP.cf_law_drawn rfl)
    (case a15 => k_is); (case l15 => k_is); (case c15 => k_is); (case k15 => k_is)
    refine' (fun (s_law_word : BP.SFn BP.gL BP.T0 _ mg (Str.ofString "_law_word") 11) => ?_) (BP.sfn_mk KX G ?a16 ?l16 ?c16 ?k16 (fun _ _ _ _ _ _ us hl => match us, hl with | [_, _], _ => rfl) BP.sc_law_word BP.cf_law_word rfl)
    (case a16 => k_is); (case l16 => k_is); (case c16 => k_is); (case k16 => k_is)
    refine' (fun (s_law_put : BP.SFn BP.gL BP.T0 _ mg (Str.ofString "_law_put") 12) => ?_) (BP.sfn_mk KX G ?a18 ?l18 ?c18 ?k18 (fun _ _ _ _ _ _ us hl => match us, hl with | [_, _], _ => rfl) BP.sc_law_put BP.cf_law_put rfl)
    (case a18 => k_is); (case l18 => k_is); (case c18 => k_is); (case k18 => k_is)
    refine' (fun (s_law_make : BP.SFn BP.gL BP.T0 _ mg (Str.ofString "_law_make") 13) => ?_) (BP.sfn_mk KX G ?a19 ?l19 ?c19 ?k19 (fun _ _ _ _ _ _ us hl => match us, hl with | [_], _ => rfl) BP.sc_law_make BP.cf_law_make rfl)
    (case a19 => k_is); (case l19 => k_is); (case c19 => k_is); (case k19 => k_is)
    refine' (fun (s_law_whole : BP.SFn BP.gL BP.T0 _ mg (Str.ofString "_law_whole") 0) => ?_) (BP.sfn_mk KX G ?a20 ?l20 ?c20 ?k20 (fun _ _ _ _ _ _ us hl => match us, hl with | [_, _, _], _ => rfl) BP.sc_law_whole BP.cf_law_whole rfl)
    (case a20 => k_is); (case l20 => k_is); (case c20 => k_is); (case k20 => k_is)
    refine' (fun (s_law_is_shape : BP.SFn BP.gL BP.T0 _ mg (Str.ofString "_law_is_shape") 14) => ?_) (BP.sfn_mk KX G ?a21 ?l21 ?c21 ?k21 (fun _ _ _ _ _ _ us hl => match us, hl with | [_], _ => rfl) BP.sc_law_is_shape BP.cf_law_is_shape rfl)
    (case a21 => k_is); (case l21 => k_is); (case c21 => k_is); (case k21 => k_is)
    refine' (fun (s_law_is_filling : BP.SFn BP.gL BP.T0 _ mg (Str.ofString "_law_is_filling") 15) => ?_) (BP.sfn_mk KX G ?a22 ?l22 ?c22 ?k22 (fun _ _ _ _ _ _ us hl => match us, hl with | [_], _ => rfl) BP.sc_law_is_filling BP.cf_law_is_filling rfl)
    (case a22 => k_is); (case l22 => k_is); (case c22 => k_is); (case k22 => k_is)
    refine' (fun (s_law_is_word : BP.SFn BP.gL BP.T0 _ mg (Str.ofString "_law_is_word") 16) => ?_) (BP.sfn_mk KX G ?a23 ?l23 ?c23 ?k23 (fun _ _ _ _ _ _ us hl => match us, hl with | [_], _ => rfl) BP.sc_law_is_word BP.cf_law_is_word rfl)
    (case a23 => k_is); (case l23 => k_is); (case c23 => k_is); (case k23 => k_is)
    refine' (fun (s_law_spoilt : BP.SFn BP.gL BP.T0 _ mg (Str.ofString "_law_spoilt") 17) => ?_) (BP.sfn_mk KX G ?a24 ?l24 ?c24 ?k24 (fun _ _ _ _ _ _ us hl => match us, hl with | [_, _, _], _ => rfl) BP.sc_law_spoilt BP.cf_law_spoilt rfl)
    (case a24 => k_is); (case l24 => k_is); (case c24 => k_is); (case k24 => k_is)
    refine' BP.law_mk (P := PySem.Challenge.pw_bumprows_k01_things) (ps := BP.P_law) (n := BP.deep) (id := 18) (g := BP.gL) (T := BP.T0) KX G hmg ?a ?l ?c ?k (fun _ _ => .of_eq rfl) BP.sc_law BP.cf_law rfl (BP.blt_mk KX G ?z) ?con ?fns
    (case a => k_is); (case l => k_is); (case c => k_is); (case k => k_is)
    case z =>
      intro x hx
      simp only [BP.bltNames, List.mem_cons, List.not_mem_nil, or_false] at hx
      rcases hx with rfl | rfl | rfl | rfl | rfl | rfl | rfl | rfl | rfl | rfl | rfl | rfl | rfl | rfl | rfl | rfl | rfl | rfl | rfl <;> k_is
    case con =>
      intro p hp
      simp only [BP.gL, List.mem_cons, List.not_mem_nil, or_false] at hp
      rcases hp with rfl | rfl | rfl
      · refine' BP.con_int KX G ?a; (case a => k_is)
      · refine' BP.con_int KX G ?a; (case a => k_is)
      · refine' BP.con_int KX G ?a; (case a => k_is)
    case fns =>
      intro p hp
      simp only [BP.gL, List.mem_cons, List.not_mem_nil, or_false] at hp
      rcases hp with rfl | rfl | rfl | rfl | rfl | rfl | rfl | rfl | rfl | rfl | rfl | rfl | rfl | rfl | rfl | rfl | rfl | rfl | rfl
      · exact s_is_whole
      · exact s_is_falling_row
      · exact s_is_shape
      · exact s_is_row
      · exact s_is_filling
      · exact s_are_columns
      · exact s_is_word
      · exact s_shape_of
      · exact s_law_cell_at
      · exact s_law_mixed
      · exact s_law_drawn
      · exact s_law_word
      · exact s_law_put
      · exact s_law_make
      · exact s_law_whole
      · exact s_law_is_shape
      · exact s_law_is_filling
      · exact s_law_is_word
      · exact s_law_spoilt

