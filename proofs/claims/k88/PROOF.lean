import PyProof.Rows.All
import Wide.All
import OpenK.AllK
import Wide.FinOn
import HandS.ForMost
import KE.DataEq
import KE.DataIsa
import KE.DataAny
import KE.DataCmp
import KE.DataMinMax
import KE.SortKeyHeap
import KE.KDictKeyed
import HandS.More
import HandS.Lambda
import HandS.TupAny
import HandS.TupMul
import HandS.Style
import HandS.SortInts
import HandS.NoneIn
import HandS.DictComp
import HandS.SetIn
import HandS.Zip
import HandS.SortKw
import HandS.TupSets
import HandS.HeadHook3
import HandS.HeadEnd
import HandS.Defaults
import HandS.HeadWalk
import PySem.Challenge.RW_tableshapes_k88_whole_rows_put_in_and_wh
import HandS.Head0
import HandS.Head1
import HandS.Head2
import KE.KStateDown
section
set_option Elab.async false
set_option linter.all false
set_option maxRecDepth 100000
/-! The core language: slots, expressions, statements; its evaluator over trees of data. -/
namespace C
open PySem

abbrev D := PyData

/-- what a slot holds: nothing; data that is never changed in place; data whose outermost list or dict is the slot's own; an object of the slot's own, its fields data (own or not) -/
inductive Sl where
  | no
  | sh (d : D)
  | ow (d : D)
  | ob (c : Nat) (fs : List (Str × Bool × D))
  | fn (n : Nat)
abbrev Env := List Sl

structure Exn where
  cls : Str
  args : List D

inductive R (α : Type) where
  | ok (a : α) (e : Env)
  | ex (x : Exn) (e : Env)
  | bad

def R.bind {α β : Type} (r : R α) (f : α → Env → R β) : R β :=
  match r with
  | .ok a e => f a e
  | .ex x e => .ex x e
  | .bad => .bad

/-- primitives: operators, comparisons, built-ins that change nothing -/
inductive Pr where
  | add | sub | mul | mod | fdiv | pow | neg
  | eq | ne | lt | le | gt | ge | isN | notN | isB (b : Bool) | notB (b : Bool) | isin | notin
  | not | len | tuple | list | sorted | sum | any | all | max1 | min1 | max2 | min2
  | int | abs | repr | isi (t : String) | item | slice | sliceFrom | sliceTo | rev
  | get1 | get2 | index | tup | lst | nil | dictOf | tupRange | listRange | sortedSet | lenSet | dsp
  deriving DecidableEq

def lineN : Nat := 16777216
def bigI : Int := 18446744073709551616

def dlook (kvs : List (D × D)) (k : D) : Option D := (kvs.find? fun p => PyData.eqv p.1 k).map (·.2)
def dput (kvs : List (D × D)) (k v : D) : List (D × D) :=
  if kvs.any (fun p => PyData.eqv p.1 k) then kvs.map (fun p => if PyData.eqv p.1 k then (p.1, v) else p) else kvs ++ [(k, v)]
def ddrop (kvs : List (D × D)) (k : D) : List (D × D) := kvs.filter fun p => !PyData.eqv p.1 k

def seqOf : D → Option (List D)
  | .list xs => some xs
  | .tuple xs => some xs
  | _ => none

/-- keys: whole numbers and texts; or tuples without truth values -/
def flatKey : D → Bool
  | .int _ => true
  | .str _ => true
  | _ => false
mutual
def nestD : D → Bool
  | .none => true
  | .int _ => true
  | .str _ => true
  | .tuple xs => nestAll xs
  | _ => false
def nestAll : List D → Bool
  | [] => true
  | x :: xs => nestD x && nestAll xs
end
def tupKey : D → Bool
  | .tuple xs => nestAll xs && decide (PyData.depthAll xs ≤ 7)
  | _ => false
def isIntD : D → Bool
  | .int _ => true
  | _ => false
def isStrD : D → Bool
  | .str _ => true
  | _ => false
/-- a key that may be asked of a dict with these entries -/
def keyOk (kvs : List (D × D)) (k : D) : Bool :=
  (isStrD k && kvs.all fun p => isStrD p.1) || (isIntD k && kvs.all fun p => isIntD p.1) || (tupKey k && kvs.all fun p => tupKey p.1)

def idx (n : Nat) (i : Int) : Option Nat := if 0 ≤ i then (if i < n then some i.toNat else none) else if -(n : Int) ≤ i then some (i + n).toNat else none
def cut {α : Type} (xs : List α) (lo hi : Option Int) : List α :=
  (xs.drop (HT.sIx xs.length 0 lo)).take (HT.sIx xs.length xs.length hi - HT.sIx xs.length 0 lo)

def intsD : List D → Option (List Int)
  | [] => some []
  | .int i :: xs => (intsD xs).map (i :: ·)
  | _ => none
def maxI : List Int → Int
  | [] => 0
  | [x] => x
  | x :: xs => if maxI xs ≤ x then x else maxI xs
def minI : List Int → Int
  | [] => 0
  | [x] => x
  | x :: xs => if x ≤ minI xs then x else minI xs
def bools : List D → Option (List Bool)
  | [] => some []
  | .bool b :: xs => (bools xs).map (b :: ·)
  | _ => none

def okEq (d : D) : Bool := PyData.plain d && decide (d.depth ≤ 64)
def isNoneD : D → Bool
  | .none => true
  | _ => false
def isTupD : D → Bool
  | .tuple _ => true
  | _ => false
def okLt (a b : D) : Bool := PySem.W.alike a b && PyData.plain a && PyData.plain b && decide (a.depth ≤ 60) && !isNoneD a
def sortOk (xs : List D) : Bool :=
  xs.all (fun a => xs.all fun b => PySem.W.alike a b) && xs.all (fun a => PyData.plain a && decide (a.depth ≤ 50)) && (xs.all isTupD || xs.all fun a => !isTupD a && !isNoneD a)
def isIt (t : String) (d : D) : Option Bool :=
  if t = "int" then some d.isInt else if t = "bool" then some d.isBool else if t = "str" then some d.isStr else if t = "tuple" then some d.isTuple else none

def pairsOf : List D → Option (List (D × D))
  | [] => some []
  | .tuple [k, v] :: r => (pairsOf r).map ((k, v) :: ·)
  | _ => none
/-- all may stand as keys of one dict -/
def keysOk (kvs : List (D × D)) : Bool := kvs.all (fun p => isStrD p.1) || kvs.all (fun p => isIntD p.1) || kvs.all (fun p => tupKey p.1)
def shB (b : Bool) : Option Sl := some (.sh (.bool b))
def shI (i : Int) : Option Sl := some (.sh (.int i))
def rangeD (lo n : Nat) : List D := (List.range n).map fun k => .int (lo + k : Nat)

def pAdd : List D → Option Sl
  | [.int i, .int j] => shI (i + j)
  | [.tuple xs, .tuple ys] => if xs.length + ys.length ≤ lineN then some (.sh (.tuple (xs ++ ys))) else none
  | [.list xs, .list ys] => if xs.length + ys.length ≤ lineN then some (.ow (.list (xs ++ ys))) else none
  | [.str x, .str y] => if x.length + y.length ≤ lineN then some (.sh (.str (x ++ y))) else none
  | _ => none
def pSub : List D → Option Sl
  | [.int i, .int j] => shI (i - j)
  | _ => none
def pMul : List D → Option Sl
  | [.int i, .int j] => if (-bigI < i ∧ i < bigI) ∨ (-bigI < j ∧ j < bigI) then shI (i * j) else none
  | _ => none
def pMod : List D → Option Sl
  | [.int i, .int j] => if 0 < j then shI (i % j) else none
  | _ => none
def pFdiv : List D → Option Sl
  | [.int i, .int j] => if 0 < j ∧ j < 1073741824 then shI (i / j) else none
  | _ => none
def pPow : List D → Option Sl
  | [.int i, .int j] => if 0 ≤ j ∧ j ≤ 1000000 ∧ i.natAbs < 2 ^ 64 then shI (i ^ j.toNat) else none
  | _ => none
def pNeg : List D → Option Sl
  | [.int i] => shI (-i)
  | _ => none
def pEq : List D → Option Sl
  | [a, b] => if okEq a && okEq b then shB (PyData.eqv a b) else none
  | _ => none
def pNe : List D → Option Sl
  | [a, b] => if okEq a && okEq b then shB (!PyData.eqv a b) else none
  | _ => none
def pLt : List D → Option Sl
  | [a, b] => if okLt a b then shB (PySem.W.dataLt a b) else none
  | _ => none
def pGt : List D → Option Sl
  | [a, b] => if okLt a b then shB (PySem.W.dataLt b a) else none
  | _ => none
def pLe : List D → Option Sl
  | [a, b] => if okLt a b then shB (!PySem.W.dataLt b a) else none
  | _ => none
def pGe : List D → Option Sl
  | [a, b] => if okLt a b then shB (!PySem.W.dataLt a b) else none
  | _ => none
def pIsN : List D → Option Sl
  | [a] => shB (match a with | .none => true | _ => false)
  | _ => none
def pNotN : List D → Option Sl
  | [a] => shB (match a with | .none => false | _ => true)
  | _ => none
def pIsB (b : Bool) : List D → Option Sl
  | [a] => shB (match a with | .bool c => c == b | _ => false)
  | _ => none
def pNotB (b : Bool) : List D → Option Sl
  | [a] => shB (match a with | .bool c => c != b | _ => true)
  | _ => none
def pIsin : List D → Option Sl
  | [x, .list ys] => if okEq x && okEq (.list ys) then shB (ys.any fun y => PyData.eqv y x) else none
  | [x, .tuple ys] => if okEq x && okEq (.tuple ys) then shB (ys.any fun y => PyData.eqv y x) else none
  | [.none, .dict ys] => if ys.all (fun p => isIntD p.1) then shB false else none
  | [x, .dict ys] => if keyOk ys x then shB (dlook ys x).isSome else none
  | [.str x, .str y] => shB (!(Builtin.Str.occurrences y x 0 y.length 1).isEmpty)
  | _ => none
def pNotin : List D → Option Sl
  | [.none, .dict ys] => if ys.all (fun p => isIntD p.1) then shB true else none
  | [x, .list ys] => if okEq x && okEq (.list ys) then shB (!ys.any fun y => PyData.eqv y x) else none
  | [x, .tuple ys] => if okEq x && okEq (.tuple ys) then shB (!ys.any fun y => PyData.eqv y x) else none
  | [x, .dict ys] => if keyOk ys x then shB (!(dlook ys x).isSome) else none
  | [.str x, .str y] => shB (!(!(Builtin.Str.occurrences y x 0 y.length 1).isEmpty))
  | _ => none
def pNot : List D → Option Sl
  | [.bool b] => shB (!b)
  | _ => none
def pLen : List D → Option Sl
  | [.list xs] => shI xs.length
  | [.tuple xs] => shI xs.length
  | [.dict xs] => shI xs.length
  | [.str s] => if s.length ≤ lineN then shI s.length else none
  | _ => none
def pTuple : List D → Option Sl
  | [.list xs] => some (.sh (.tuple xs))
  | [.tuple xs] => some (.sh (.tuple xs))
  | _ => none
def pList : List D → Option Sl
  | [.list xs] => some (.ow (.list xs))
  | [.tuple xs] => some (.ow (.list xs))
  | _ => none
def pSorted : List D → Option Sl
  | [.list xs] => if sortOk xs then some (.ow (.list (xs.mergeSort (PySem.W.dataLe false id)))) else none
  | [.tuple xs] => if sortOk xs then some (.ow (.list (xs.mergeSort (PySem.W.dataLe false id)))) else none
  | [.dict kvs] => if sortOk (kvs.map (·.1)) then some (.ow (.list ((kvs.map (·.1)).mergeSort (PySem.W.dataLe false id)))) else none
  | _ => none
/-- a row: so many whole numbers, none below 0, all below 64 -/
def rowI (n : Nat) : D → Bool
  | .tuple xs => match intsD xs with
    | some ns => decide (ns.length = n) && ns.all fun i => decide (0 ≤ i ∧ i < 64)
    | none => false
  | _ => false
def lenD : D → Nat
  | .tuple xs => xs.length
  | _ => 0
def dedupD (ds : List D) : List D := ds.foldl (fun acc d => if acc.any (fun x => PyData.eqv x d) then acc else acc ++ [d]) []
/-- sorted(set(rows)), rows a tuple -/
def pSortedSet : List D → Option Sl
  | [.tuple (d :: ds)] => if (d :: ds).all (rowI (lenD d)) && (decide (1 ≤ lenD d) && decide (ds.length < 63)) then some (.ow (.list ((dedupD (d :: ds)).mergeSort (PySem.W.dataLe false id)))) else none
  | _ => none
def pSum : List D → Option Sl
  | [.list xs] => (intsD xs).bind fun ns => shI ns.sum
  | _ => none
def pAny : List D → Option Sl
  | [.list xs] => (bools xs).bind fun bs => shB (bs.any id)
  | _ => none
def pAll : List D → Option Sl
  | [.list xs] => (bools xs).bind fun bs => shB (bs.all id)
  | _ => none
def pMax1 : List D → Option Sl
  | [.list xs] => (intsD xs).bind fun ns => if ns.isEmpty then none else shI (maxI ns)
  | _ => none
def pMin1 : List D → Option Sl
  | [.list xs] => (intsD xs).bind fun ns => if ns.isEmpty then none else shI (minI ns)
  | _ => none
def pMax2 : List D → Option Sl
  | [.int i, .int j] => shI (if j > i then j else i)
  | _ => none
def pMin2 : List D → Option Sl
  | [.int i, .int j] => shI (if j < i then j else i)
  | _ => none
def pInt : List D → Option Sl
  | [.int i] => shI i
  | [.bool b] => shI (if b then 1 else 0)
  | _ => none
def pAbs : List D → Option Sl
  | [.int i] => shI (if i < 0 then -i else i)
  | _ => none
def pRepr : List D → Option Sl
  | [a] => if PyData.showable a && PyData.plain a && decide (a.depth ≤ 50) && decide ((PyData.shown a).length ≤ lineN) then some (.sh (.str (PyData.shown a))) else none
  | _ => none
def pIsi (t : String) : List D → Option Sl
  | [a] => if PyData.plain a then (isIt t a).bind shB else none
  | _ => none
def pItem : List D → Option Sl
  | [.list xs, .int i] => (idx xs.length i).bind fun j => (xs[j]?).map .sh
  | [.tuple xs, .int i] => (idx xs.length i).bind fun j => (xs[j]?).map .sh
  | [.dict kvs, k] => if keyOk kvs k then (dlook kvs k).map .sh else none
  | [.str z, .int i] => if z.length ≤ lineN then (idx z.cps.toList.length i).bind fun j => (z.cps.toList[j]?).map fun c => .sh (.str ⟨#[c]⟩) else none
  | _ => none
def pSlice : List D → Option Sl
  | [.list xs, .int i, .int j] => some (.ow (.list (cut xs (some i) (some j))))
  | [.tuple xs, .int i, .int j] => some (.sh (.tuple (cut xs (some i) (some j))))
  | _ => none
def pSliceFrom : List D → Option Sl
  | [.list xs, .int i] => some (.ow (.list (cut xs (some i) none)))
  | [.tuple xs, .int i] => some (.sh (.tuple (cut xs (some i) none)))
  | _ => none
def pSliceTo : List D → Option Sl
  | [.list xs, .int i] => some (.ow (.list (cut xs none (some i))))
  | [.tuple xs, .int i] => some (.sh (.tuple (cut xs none (some i))))
  | _ => none
def pRev : List D → Option Sl
  | [.list xs] => some (.ow (.list xs.reverse))
  | _ => none
def pGet1 : List D → Option Sl
  | [.dict kvs, k] => if keyOk kvs k then some (.sh ((dlook kvs k).getD .none)) else none
  | _ => none
def pGet2 : List D → Option Sl
  | [.dict kvs, k, x] => if keyOk kvs k then some (.sh ((dlook kvs k).getD x)) else none
  | _ => none
def pIndex : List D → Option Sl
  | [.list xs, x] => if okEq x && okEq (.list xs) then (xs.findIdx? fun y => PyData.eqv y x).bind fun n => shI n else none
  | [.tuple xs, x] => if okEq x && okEq (.tuple xs) then (xs.findIdx? fun y => PyData.eqv y x).bind fun n => shI n else none
  | _ => none
def pDictOf : List D → Option Sl
  | [.list ps] => (pairsOf ps).bind fun kvs => if keysOk kvs then some (.ow (.dict (kvs.foldl (fun acc p => dput acc p.1 p.2) []))) else none
  | _ => none
def pTup : List D → Option Sl
  | xs => some (.sh (.tuple xs))
def pLst : List D → Option Sl
  | xs => some (.ow (.list xs))
def pNil : List D → Option Sl
  | [] => some (.ow (.dict []))
  | _ => none
def pTupRange : List D → Option Sl
  | [.int n] => if n ≤ lineN then some (.sh (.tuple (rangeD 0 n.toNat))) else none
  | _ => none
def pListRange : List D → Option Sl
  | [.int n] => if n ≤ lineN then some (.ow (.list (rangeD 0 n.toNat))) else none
  | _ => none
def evP : Pr → List D → Option Sl
  | .add, ds => pAdd ds
  | .sub, ds => pSub ds
  | .mul, ds => pMul ds
  | .mod, ds => pMod ds
  | .fdiv, ds => pFdiv ds
  | .pow, ds => pPow ds
  | .neg, ds => pNeg ds
  | .eq, ds => pEq ds
  | .ne, ds => pNe ds
  | .lt, ds => pLt ds
  | .gt, ds => pGt ds
  | .le, ds => pLe ds
  | .ge, ds => pGe ds
  | .isN, ds => pIsN ds
  | .notN, ds => pNotN ds
  | .isB b, ds => pIsB b ds
  | .notB b, ds => pNotB b ds
  | .isin, ds => pIsin ds
  | .notin, ds => pNotin ds
  | .not, ds => pNot ds
  | .len, ds => pLen ds
  | .tuple, ds => pTuple ds
  | .list, ds => pList ds
  | .sorted, ds => pSorted ds
  | .sum, ds => pSum ds
  | .any, ds => pAny ds
  | .all, ds => pAll ds
  | .max1, ds => pMax1 ds
  | .min1, ds => pMin1 ds
  | .max2, ds => pMax2 ds
  | .min2, ds => pMin2 ds
  | .int, ds => pInt ds
  | .abs, ds => pAbs ds
  | .repr, ds => pRepr ds
  | .isi t, ds => pIsi t ds
  | .item, ds => pItem ds
  | .slice, ds => pSlice ds
  | .sliceFrom, ds => pSliceFrom ds
  | .sliceTo, ds => pSliceTo ds
  | .rev, ds => pRev ds
  | .get1, ds => pGet1 ds
  | .get2, ds => pGet2 ds
  | .index, ds => pIndex ds
  | .sortedSet, ds => pSortedSet ds
  | .dictOf, ds => pDictOf ds
  | .tup, ds => pTup ds
  | .lst, ds => pLst ds
  | .nil, ds => pNil ds
  | .tupRange, ds => pTupRange ds
  | .listRange, ds => pListRange ds
  | _, _ => none

/-- what changes a list or dict in place: the old data, the arguments; the new data, the answer -/
inductive Mu where
  | append | extend | popLast | setItem | update | setdefAppend | popKey | insert
  deriving DecidableEq
def mAppend : D → List D → Option (D × D)
  | .list xs, [x] => if xs.length < lineN then some (.list (xs ++ [x]), .none) else none
  | _, _ => none
def mExtend : D → List D → Option (D × D)
  | .list xs, [.list ys] => if xs.length + ys.length ≤ lineN then some (.list (xs ++ ys), .none) else none
  | _, _ => none
def mPopLast : D → List D → Option (D × D)
  | .list xs, [] => (xs.getLast?).map fun x => (.list xs.dropLast, x)
  | _, _ => none
def mInsert : D → List D → Option (D × D)
  | .list xs, [.int i, x] => if xs.length < lineN ∧ 0 ≤ i ∧ i < 1073741824 then some (.list (xs.take i.toNat ++ [x] ++ xs.drop i.toNat), .none) else none
  | _, _ => none
def mPopKey : D → List D → Option (D × D)
  | .dict kvs, [k] => if keyOk kvs k then (dlook kvs k).map fun x => (.dict (ddrop kvs k), x) else none
  | _, _ => none
def mSetItem : D → List D → Option (D × D)
  | .list xs, [.int i, x] => (idx xs.length i).map fun j => (.list (xs.set j x), .none)
  | .dict kvs, [k, x] => if keyOk kvs k && decide (kvs.length < lineN) then some (.dict (dput kvs k x), .none) else none
  | _, _ => none
def mUpdate : D → List D → Option (D × D)
  | .dict kvs, [.dict more] => if more.all (fun p => keyOk kvs p.1 && keyOk more p.1) && decide (kvs.length + more.length ≤ lineN) then some (.dict (more.foldl (fun acc p => dput acc p.1 p.2) kvs), .none) else none
  | _, _ => none
def evM : Mu → D → List D → Option (D × D)
  | .append, d, ds => mAppend d ds
  | .extend, d, ds => mExtend d ds
  | .popLast, d, ds => mPopLast d ds
  | .popKey, d, ds => mPopKey d ds
  | .setItem, d, ds => mSetItem d ds
  | .insert, d, ds => mInsert d ds
  | .update, d, ds => mUpdate d ds
  | _, _, _ => none

/-- what a lambda that is a sort's key gives of its one argument -/
inductive KX where
  | x
  | len (k : KX)
  | sum (k : KX)
  | neg (k : KX)
  | item (n : Nat) (k : KX)
  | pair (a b : KX)
  deriving DecidableEq
def kev : KX → D → Option D
  | .x, d => some d
  | .len k, d => match kev k d with
    | some (.tuple xs) => if xs.length ≤ lineN then some (.int xs.length) else none
    | _ => none
  | .sum k, d => match kev k d with
    | some (.tuple xs) => (intsD xs).map fun ns => .int ns.sum
    | _ => none
  | .neg k, d => match kev k d with
    | some (.int i) => some (.int (-i))
    | _ => none
  | .item n k, d => match kev k d with
    | some (.tuple xs) => xs[n]?
    | _ => none
  | .pair a b, d => match kev a d, kev b d with
    | some x, some y => some (.tuple [x, y])
    | _, _ => none
def kevs (key : KX) : List D → Option (List D)
  | [] => some []
  | d :: ds => (kev key d).bind fun k => (kevs key ds).map (k :: ·)
def noEmp (ks : List D) : Bool := ks.all fun d => match d with
  | .tuple [] => false
  | _ => true
def keyD' (key : KX) (d : D) : D := (kev key d).getD .none

/-- what a target takes -/
inductive Pat where
  | v (i : Nat)
  | t (ps : List Pat)

mutual
inductive CE where
  | k (d : D)
  | v (i : Nat)
  | fld (i : Nat) (f : Str)
  | pr (p : Pr) (as : CAs)
  | ite (c a b : CE)
  | and (a b : CE)
  | or (a b : CE)
  | chain (p q : Pr) (a b c : CE)
  | call (f : Nat) (as : CAs)
  | lc (own : List Nat) (g : CG) (elt : CE)
  | lc2 (own : List Nat) (g h : CG) (elt : CE)
  | dc (own : List Nat) (g : CG) (key val : CE)
  | mu (i : Nat) (m : Mu) (as : CAs)
  | muf (i : Nat) (f : Str) (m : Mu) (as : CAs)
  | sk (xs : CA) (key : KX)
  | fv (n : Nat)
  | callv (i : Nat) (as : CAs)
  | tst (a : CE) (as : CAs)
inductive CA where
  | e (c : CE)
  | bo (i : Nat)
  | bf (i : Nat) (f : Str)
  | rf (i : Nat)
inductive CAs where
  | nil
  | cons (a : CA) (as : CAs)
inductive CI where
  | data (a : CA)
  | range1 (a : CE)
  | range2 (a b : CE)
  | range3 (a b c : CE)
  | zip (a b : CA)
  | enum (it : CI)
inductive CT where
  | nil
  | cons (c : CE) (r : CT)
inductive CG where
  | mk (p : Pat) (it : CI) (ifs : CT)
end

mutual
inductive CS where
  | asg (keep : Bool) (i : Nat) (e : CE)
  | unp (p : Pat) (e : CE)
  | par (ks : List (Bool × Nat)) (es : CAs)
  | ex (e : CE)
  | aug (i : Nat) (p : Pr) (e : CE)
  | augI (i : Nat) (p : Pr) (key : CE) (e : CE)
  | seti (i : Nat) (e key : CE)
  | sub2 (i : Nat) (k1 k2 e1 e2 : CE)
  | setf (i : Nat) (f : Str) (keep : Bool) (e : CE)
  | iff (c : CE) (a b : CSs)
  | wh (c : CE) (b : CSs)
  | fr (p : Pat) (it : CI) (b : CSs)
  | ret (e : CE)
  | retN
  | pass
  | cont
  | raise (c : Str) (es : CAs)
  | never
inductive CSs where
  | nil
  | cons (s : CS) (r : CSs)
end

structure DefC where
  np : Nat
  ns : Nat
  refs : List Nat
  body : CSs

def gt (env : Env) (i : Nat) : Sl := env.getD i .no
def frz : Sl → Sl
  | .ow d => .sh d
  | s => s
def dataOf : Sl → Option D
  | .sh d => some d
  | .ow d => some d
  | _ => none

mutual
def bindP : Pat → D → Env → Option Env
  | .v i, d, env => some (env.set i (.sh d))
  | .t ps, .tuple ds, env => if ps.length = ds.length then bindPs ps ds env else none
  | .t _, _, _ => none
def bindPs : List Pat → List D → Env → Option Env
  | [], [], env => some env
  | p :: ps, d :: ds, env => (bindP p d env).bind fun env' => bindPs ps ds env'
  | _, _, _ => none
end

/-- the values of arguments: data made, or a slot to be looked at when all are there -/
inductive AV where
  | made (s : Sl)
  | bo (i : Nat)
  | bf (i : Nat) (f : Str)
  | rf (i : Nat)
def avData (env : Env) : AV → Option D
  | .made s => dataOf s
  | .bo i => dataOf (gt env i)
  | .bf i f => match gt env i with
    | .ob _ fs => (fs.lookup f).map (·.2)
    | _ => none
  | .rf _ => none
def avDatas (env : Env) : List AV → Option (List D)
  | [] => some []
  | a :: as => (avData env a).bind fun d => (avDatas env as).map (d :: ·)

inductive SR where
  | nx (e : Env)
  | rt (s : Sl) (e : Env)
  | ct (e : Env)
  | ex (x : Exn) (e : Env)
  | bad

def wipeE (env : Env) : List Nat → Env
  | [] => env
  | i :: is => wipeE (env.set i .no) is
/-- the slots own as they stood in old -/
def backE (old env : Env) : List Nat → Env
  | [] => env
  | i :: is => backE old (env.set i (gt old i)) is

def loopC (turn : D → Env → R (List D)) : List D → Env → R (List D)
  | [], env => .ok [] env
  | x :: xs, env => (turn x env).bind fun ys env1 => (loopC turn xs env1).bind fun zs env2 => .ok (ys ++ zs) env2
def loopD (turn : D → Env → R (Option (D × D))) : List D → List (D × D) → Env → R (List (D × D))
  | [], acc, env => .ok acc env
  | x :: xs, acc, env => (turn x env).bind fun o env1 =>
    match o with
    | none => loopD turn xs acc env1
    | some (k, v) => if keyOk acc k then loopD turn xs (dput acc k v) env1 else .bad
def loopF (body : D → Env → SR) : List D → Env → SR
  | [], env => .nx env
  | x :: xs, env =>
    match body x env with
    | .nx env1 => loopF body xs env1
    | .ct env1 => loopF body xs env1
    | r => r
def loopW (test : Env → R Sl) (body : Env → SR) : Nat → Env → SR
  | 0, _ => .bad
  | n + 1, env =>
    match test env with
    | .ok (.sh (.bool true)) env1 =>
      match body env1 with
      | .nx env2 => loopW test body n env2
      | .ct env2 => loopW test body n env2
      | r => r
    | .ok (.sh (.bool false)) env1 => .nx env1
    | .ex x e => .ex x e
    | _ => .bad

def zipD : List D → List D → List D
  | x :: xs, y :: ys => .tuple [x, y] :: zipD xs ys
  | _, _ => []
def enumD : Nat → List D → List D
  | _, [] => []
  | n, x :: xs => .tuple [.int n, x] :: enumD (n + 1) xs
def rangeSt (lo st : Int) : Nat → List D
  | 0 => []
  | n + 1 => .int lo :: rangeSt (lo + st) st n

/-- the result of a call: the value, and what stands behind the parameters that are handed by reference -/
inductive CR where
  | ok (s : Sl) (outs : List Sl)
  | ex (x : Exn) (outs : List Sl)
  | bad
def putBack (env : Env) : List AV → List Sl → Env
  | .rf i :: as, o :: os => putBack (env.set i o) as os
  | _ :: as, _ :: os => putBack env as os
  | _, _ => env
def argSl (env : Env) : AV → Option Sl
  | .made s => some s
  | .bo i => (dataOf (gt env i)).map .sh
  | .bf _ _ => none
  | .rf i => match gt env i with
    | .ow d => some (.ow d)
    | _ => none
def argSls (env : Env) : List AV → Option (List Sl)
  | [] => some []
  | a :: as => (argSl env a).bind fun s => (argSls env as).map (s :: ·)
mutual
/-- no list, no dict lies within -/
def pureD : D → Bool
  | .none | .bool _ | .int _ | .str _ => true
  | .tuple xs => pureAll xs
  | .list _ => false
  | .dict _ => false
def pureAll : List D → Bool
  | [] => true
  | x :: xs => pureD x && pureAll xs
end
/-- nothing that stood before can lie within -/
def pureSl : Sl → Bool
  | .sh d => pureD d
  | .ow (.list xs) => pureAll xs
  | .ow (.dict kvs) => pureAll (kvs.map (·.1)) && pureAll (kvs.map (·.2))
  | _ => false
def pureOuts : List AV → List Sl → Bool
  | .rf _ :: as, o :: os => pureSl o && pureOuts as os
  | _ :: as, _ :: os => pureOuts as os
  | _, _ => true
/-- a slot handed by reference is handed once -/
def okAvs : List AV → Bool
  | [] => true
  | .rf i :: as => (as.all fun b => match b with
    | .rf j => i != j
    | .bo j => i != j
    | .bf j _ => i != j
    | .made _ => true) && okAvs as
  | .bo i :: as => (as.all fun b => match b with
    | .rf j => i != j
    | _ => true) && okAvs as
  | .bf i _ :: as => (as.all fun b => match b with
    | .rf j => i != j
    | _ => true) && okAvs as
  | .made _ :: as => okAvs as
/-- the block's own slots hold nothing that is owned -/
def ownFree (env : Env) : List Nat → Bool
  | [] => true
  | i :: is => (match gt env i with
    | .no => true
    | .sh _ => true
    | _ => false) && ownFree env is
def slotsP : Pat → List Nat
  | .v i => [i]
  | .t ps => slotsPs ps
where slotsPs : List Pat → List Nat
  | [] => []
  | p :: ps => slotsP p ++ slotsPs ps
def hasBo : List AV → Bool
  | [] => false
  | .bo _ :: _ => true
  | _ :: as => hasBo as

/-- the receiver's kind -/
def muAt : Mu → Sl → Bool
  | .append, .ow (.list _) => true
  | .insert, .ow (.list _) => true
  | .extend, .ow (.list _) => true
  | .popLast, .ow (.list _) => true
  | .popKey, .ow (.dict _) => true
  | .update, .ow (.dict _) => true
  | .setdefAppend, .ow (.dict _) => true
  | _, _ => false
/-- what is put into it has been made -/
def allMade : List AV → Bool
  | [] => true
  | .made _ :: as => allMade as
  | _ => false
def muOk : Mu → List AV → Bool
  | .extend, _ => true
  | .update, _ => true
  | _, vs => allMade vs
/-- the slots of a clause's target -/
def ownG : CG → List Nat
  | .mk p _ _ => slotsP p
section
variable (cf : Nat → List Sl → CR)
mutual
def evE : CE → Env → R Sl
  | .k d, env => .ok (.sh d) env
  | .v i, env => match gt env i with
    | .sh d => .ok (.sh d) env
    | .ow d => .ok (.sh d) (env.set i (.sh d))
    | _ => .bad
  | .fld i f, env => match gt env i with
    | .ob _ fs => match fs.lookup f with
      | some (false, d) => .ok (.sh d) env
      | _ => .bad
    | _ => .bad
  | .pr p as, env => (evAs as env).bind fun vs env1 =>
    match (avDatas env1 vs).bind (evP p) with
    | some s => .ok s env1
    | none => .bad
  | .ite c a b, env => (evE c env).bind fun s env1 =>
    match s with
    | .sh (.bool true) => evE a env1
    | .sh (.bool false) => evE b env1
    | _ => .bad
  | .and a b, env => (evE a env).bind fun s env1 =>
    match s with
    | .sh (.bool true) => evE b env1
    | .sh (.bool false) => .ok (.sh (.bool false)) env1
    | _ => .bad
  | .or a b, env => (evE a env).bind fun s env1 =>
    match s with
    | .sh (.bool true) => .ok (.sh (.bool true)) env1
    | .sh (.bool false) => evE b env1
    | _ => .bad
  | .chain p q a b c, env => (evE a env).bind fun s env1 => (evE b env1).bind fun t env2 =>
    match dataOf s, dataOf t with
    | some x, some y =>
      match evP p [x, y] with
      | some (.sh (.bool true)) => (evE c env2).bind fun u env3 =>
        match dataOf u with
        | some z => match evP q [y, z] with
          | some s => .ok s env3
          | none => .bad
        | none => .bad
      | some (.sh (.bool false)) => .ok (.sh (.bool false)) env2
      | _ => .bad
    | _, _ => .bad
  | .call f as, env => (evAs as env).bind fun vs env1 =>
    if okAvs vs then
      match argSls env1 vs with
      | some ss => match cf f ss with
        | .ok s outs => if hasBo vs && !(pureSl s && pureOuts vs outs) then .bad else .ok s (putBack env1 vs outs)
        | .ex x outs => .ex x (putBack env1 vs outs)
        | .bad => .bad
      | none => .bad
    else .bad
  | .lc own g elt, env => (evG0 g env).bind fun xs env1 => if ownFree env1 own then
    (loopC (fun x e => (evGt g x (wipeE e own)).bind fun b e1 => if b then (evE elt e1).bind fun s e2 =>
        match dataOf s with
        | some d => .ok [d] e2
        | none => .bad
      else .ok [] e1) xs env1).bind fun ds env2 => .ok (.ow (.list ds)) (backE env1 env2 own) else .bad
  | .lc2 own g h elt, env => (evG0 g env).bind fun xs env1 => if ownFree env1 own then
    (loopC (fun x e => (evGt g x (wipeE e own)).bind fun b e1 => if b then (evG0 h e1).bind fun ys e2 =>
        loopC (fun y e3 => (evGt h y (wipeE e3 (ownG h))).bind fun b2 e4 => if b2 then (evE elt e4).bind fun s e5 =>
            match dataOf s with
            | some d => .ok [d] e5
            | none => .bad
          else .ok [] e4) ys e2
      else .ok [] e1) xs env1).bind fun ds env2 => if ds.length ≤ lineN then .ok (.ow (.list ds)) (backE env1 env2 own) else .bad else .bad
  | .dc own g key val, env => (evG0 g env).bind fun xs env1 => if ownFree env1 own then
    (loopD (fun x e => (evGt g x (wipeE e own)).bind fun b e1 => if b then (evE key e1).bind fun s e2 => (evE val e2).bind fun t e3 =>
        match dataOf s, dataOf t with
        | some d, some d2 => .ok (some (d, d2)) e3
        | _, _ => .bad
      else .ok none e1) xs [] env1).bind fun kvs env2 => .ok (.ow (.dict kvs)) (backE env1 env2 own) else .bad
  | .mu i m as, env => if muAt m (gt env i) then (evAs as env).bind fun vs env1 =>
    if muOk m vs then
      match gt env1 i, avDatas env1 vs with
      | .ow d, some ds => match evM m d ds with
        | some (d', r) => .ok (.sh r) (env1.set i (.ow d'))
        | none => .bad
      | _, _ => .bad
    else .bad
  else .bad
  | .muf i f m as, env => (evAs as env).bind fun vs env1 =>
    match gt env1 i, avDatas env1 vs with
    | .ob c fs, some ds => match fs.lookup f with
      | some (true, d) => match evM m d ds with
        | some (d', r) => .ok (.sh r) (env1.set i (.ob c (fs.map fun q => if q.1 = f then (f, true, d') else q)))
        | none => .bad
      | _ => .bad
    | _, _ => .bad
  | .sk xs key, env => (evA xs env).bind fun v env1 =>
    match avData env1 v with
    | some (.list ds) => if pureAll ds && decide (ds.length ≤ lineN) then
        match kevs key ds with
        | some ks => if sortOk ks && noEmp ks then .ok (.ow (.list (ds.mergeSort (PySem.W.dataLe false (keyD' key))))) env1 else .bad
        | none => .bad
      else .bad
    | _ => .bad
  | .fv n, env => .ok (.fn n) env
  | .callv i as, env => match gt env i with
    | .fn f => (evAs as env).bind fun vs env1 =>
      if okAvs vs then
        match argSls env1 vs with
        | some ss => match cf f ss with
          | .ok s outs => if hasBo vs && !(pureSl s && pureOuts vs outs) then .bad else .ok s (putBack env1 vs outs)
          | .ex x outs => .ex x (putBack env1 vs outs)
          | .bad => .bad
        | none => .bad
      else .bad
    | _ => .bad
  | .tst a as, env => (evE a env).bind fun s env1 => (evAs as env1).bind fun vs env2 =>
    match dataOf s, avDatas env2 vs with
    | some (.tuple xs), some ds => if allMade vs && decide (xs.length + ds.length ≤ lineN) then .ok (.sh (.tuple (xs ++ ds))) env2 else .bad
    | _, _ => .bad
def evA : CA → Env → R AV
  | .e c, env => (evE c env).bind fun s env1 => .ok (.made s) env1
  | .bo i, env => match dataOf (gt env i) with
    | some _ => .ok (.bo i) env
    | none => .bad
  | .bf _ _, _ => .bad
  | .rf i, env => match gt env i with
    | .no => .bad
    | _ => .ok (.rf i) env
def evAs : CAs → Env → R (List AV)
  | .nil, env => .ok [] env
  | .cons a as, env => (evA a env).bind fun v env1 => (evAs as env1).bind fun vs env2 => .ok (v :: vs) env2
def evI : CI → Env → R (List D)
  | .data a, env => (evA a env).bind fun v env1 =>
    match (avData env1 v) with
    | some (.list xs) => .ok xs env1
    | some (.tuple xs) => .ok xs env1
    | some (.str z) => if z.cps.size ≤ lineN then .ok (z.cps.toList.map fun c => .str ⟨#[c]⟩) env1 else .bad
    | _ => .bad
  | .range1 a, env => (evE a env).bind fun s env1 =>
    match dataOf s with
    | some (.int n) => if n ≤ lineN ∧ -lineN ≤ n then .ok (rangeSt 0 1 n.toNat) env1 else .bad
    | _ => .bad
  | .range2 a b, env => (evE a env).bind fun s env1 => (evE b env1).bind fun t env2 =>
    match dataOf s, dataOf t with
    | some (.int m), some (.int n) => if n ≤ lineN ∧ 0 ≤ m ∧ m ≤ lineN ∧ -lineN ≤ n then .ok (rangeSt m 1 (n - m).toNat) env2 else .bad
    | _, _ => .bad
  | .range3 a b c, env => (evE a env).bind fun s env1 => (evE b env1).bind fun t env2 => (evE c env2).bind fun u env3 =>
    match dataOf s, dataOf t, dataOf u with
    | some (.int m), some (.int n), some (.int k) =>
      if n ≤ lineN ∧ -1 ≤ m ∧ m < lineN ∧ -1 ≤ n then
        if k = -1 then .ok (rangeSt m (-1) (m - n).toNat) env3 else .bad
      else .bad
    | _, _, _ => .bad
  | .zip a b, env => (evA a env).bind fun v env1 => (evA b env1).bind fun w env2 =>
    match avData env2 v, avData env2 w with
    | some (.list xs), some (.list ys) => .ok (zipD xs ys) env2
    | some (.tuple xs), some (.tuple ys) => .ok (zipD xs ys) env2
    | _, _ => .bad
  | .enum (.data a), env => (evA a env).bind fun v env1 =>
    match (avData env1 v) with
    | some (.list xs) => .ok (enumD 0 xs) env1
    | _ => .bad
  | .enum _, _ => .bad
def evT : CT → Env → R Bool
  | .nil, env => .ok true env
  | .cons c r, env => (evE c env).bind fun s env1 =>
    match s with
    | .sh (.bool true) => evT r env1
    | .sh (.bool false) => .ok false env1
    | _ => .bad
/-- the source of a clause -/
def evG0 : CG → Env → R (List D)
  | .mk _ it _, env => evI it env
/-- its target and tests -/
def evGt : CG → D → Env → R Bool
  | .mk p _ ifs, x, env => match bindP p x env with
    | some env1 => evT ifs env1
    | none => .bad
end

variable (wf : Nat)
def asgS (env : Env) (keep : Bool) (i : Nat) (s : Sl) : Option Env :=
  match s with
  | .no => none
  | .ob c fs => some (env.set i (.ob c fs))
  | .fn _ => none
  | s => some (env.set i (if keep then s else frz s))
def asgAll (env : Env) : List (Bool × Nat) → List AV → Option Env
  | [], [] => some env
  | (k, i) :: ks, .made s :: vs => (asgS env k i s).bind fun e => asgAll e ks vs
  | _, _ => none
mutual
def exS : CS → Env → SR
  | .asg keep i e, env => match evE cf e env with
    | .ok s env1 => match asgS env1 keep i s with
      | some env2 => .nx env2
      | none => .bad
    | .ex x e => .ex x e
    | .bad => .bad
  | .unp p e, env => match evE cf e env with
    | .ok s env1 => match (dataOf s).bind fun d => bindP p d env1 with
      | some env2 => .nx env2
      | none => .bad
    | .ex x e => .ex x e
    | .bad => .bad
  | .par ks es, env => match evAs cf es env with
    | .ok vs env1 => match asgAll env1 ks vs with
      | some env2 => .nx env2
      | none => .bad
    | .ex x e => .ex x e
    | .bad => .bad
  | .ex e, env => match evE cf e env with
    | .ok _ env1 => .nx env1
    | .ex x e => .ex x e
    | .bad => .bad
  | .aug i p e, env => match dataOf (gt env i) with
    | some _ => match evE cf e env with
      | .ok s env1 => match (dataOf (gt env1 i)), (dataOf s) with
        | some (.int a), some (.int b) => match evP p [.int a, .int b] with
          | some t => match asgS env1 false i t with
            | some env2 => .nx env2
            | none => .bad
          | none => .bad
        | _, _ => .bad
      | .ex x e => .ex x e
      | .bad => .bad
    | none => .bad
  | .augI i p key e, env => match dataOf (gt env i) with
    | some _ => match evE cf key env with
      | .ok sk env1 => match gt env1 i, dataOf sk with
        | .ow d, some k => match (evP .item [d, k]).bind dataOf with
          | some x => match evE cf e env1 with
            | .ok s env2 => match gt env2 i, x, dataOf s with
              | .ow d2, .int a, some (.int b) => match (evP p [.int a, .int b]).bind dataOf with
                | some y => match evM .setItem d2 [k, y] with
                  | some (d3, _) => .nx (env2.set i (.ow d3))
                  | none => .bad
                | none => .bad
              | _, _, _ => .bad
            | .ex x e => .ex x e
            | .bad => .bad
          | none => .bad
        | _, _ => .bad
      | .ex x e => .ex x e
      | .bad => .bad
    | none => .bad
  | .seti i e key, env => match evE cf e env with
    | .ok s env1 => match dataOf (gt env1 i) with
      | some _ => match evE cf key env1 with
        | .ok t env2 => match gt env2 i, dataOf s, dataOf t with
          | .ow d, some x, some k => match evM .setItem d [k, x] with
            | some (d', _) => .nx (env2.set i (.ow d'))
            | none => .bad
          | _, _, _ => .bad
        | .ex x e => .ex x e
        | .bad => .bad
      | none => .bad
    | .ex x e => .ex x e
    | .bad => .bad
  | .sub2 i k1 k2 e1 e2, env => match evE cf e1 env with
    | .ok s1 env1 => match evE cf e2 env1 with
      | .ok s2 env2 => match evE cf k1 env2 with
        | .ok t1 env3 => match gt env3 i, dataOf s1, dataOf t1 with
          | .ow d, some x1, some y1 => match evM .setItem d [y1, x1] with
            | some (d', _) => match evE cf k2 (env3.set i (.ow d')) with
              | .ok t2 env4 => match gt env4 i, dataOf s2, dataOf t2 with
                | .ow d2, some x2, some y2 => match evM .setItem d2 [y2, x2] with
                  | some (d3, _) => .nx (env4.set i (.ow d3))
                  | none => .bad
                | _, _, _ => .bad
              | .ex x e => .ex x e
              | .bad => .bad
            | none => .bad
          | _, _, _ => .bad
        | .ex x e => .ex x e
        | .bad => .bad
      | .ex x e => .ex x e
      | .bad => .bad
    | .ex x e => .ex x e
    | .bad => .bad
  | .setf i f keep e, env => match evE cf e env with
    | .ok s env1 => match gt env1 i, s with
      | .ob c fs, .sh d => .nx (env1.set i (.ob c (if fs.any (fun q => q.1 = f) then fs.map (fun q => if q.1 = f then (f, false, d) else q) else fs ++ [(f, false, d)])))
      | .ob c fs, .ow d => .nx (env1.set i (.ob c (if fs.any (fun q => q.1 = f) then fs.map (fun q => if q.1 = f then (f, keep, d) else q) else fs ++ [(f, keep, d)])))
      | _, _ => .bad
    | .ex x e => .ex x e
    | .bad => .bad
  | .iff c a b, env => match evE cf c env with
    | .ok (.sh (.bool true)) env1 => exB a env1
    | .ok (.sh (.bool false)) env1 => exB b env1
    | .ex x e => .ex x e
    | _ => .bad
  | .wh c b, env => loopW (fun e => evE cf c e) (fun e => exB b e) wf env
  | .fr p it b, env => match evI cf it env with
    | .ok xs env1 => loopF (fun x e => match bindP p x e with
      | some e1 => exB b e1
      | none => .bad) xs env1
    | .ex x e => .ex x e
    | .bad => .bad
  | .ret e, env => match evE cf e env with
    | .ok s env1 => .rt s env1
    | .ex x e => .ex x e
    | .bad => .bad
  | .retN, env => .rt (.sh .none) env
  | .pass, env => .nx env
  | .cont, env => .ct env
  | .raise c es, env => match evAs cf es env with
    | .ok vs env1 => match avDatas env1 vs with
      | some ds => .ex ⟨c, ds⟩ env1
      | none => .bad
    | .ex x e => .ex x e
    | .bad => .bad
  | .never, _ => .bad
def exB : CSs → Env → SR
  | .nil, env => .nx env
  | .cons s r, env => match exS s env with
    | .nx env1 => exB r env1
    | x => x
end
end

def outsOf (refs : List Nat) (env : Env) (np : Nat) : List Sl := (List.range np).map fun i => if i ∈ refs then gt env i else .no
def runDef (cf : Nat → List Sl → CR) (wf : Nat) (d : DefC) (args : List Sl) : CR :=
  if args.length = d.np then
    match exB cf wf d.body (args ++ List.replicate (d.ns - d.np) .no) with
    | .rt s env => .ok s (outsOf d.refs env d.np)
    | .nx env => .ok (.sh .none) (outsOf d.refs env d.np)
    | .ex x env => .ex x (outsOf d.refs env d.np)
    | _ => .bad
  else .bad
/-- calls to a depth -/
def callF (Ds : Nat → Option DefC) (wf : Nat) : Nat → Nat → List Sl → CR
  | 0, _, _ => .bad
  | n + 1, f, args => match Ds f with
    | some d => runDef (callF Ds wf n) wf d args
    | none => .bad
end C
end
section
set_option Elab.async false
set_option linter.all false
set_option maxRecDepth 100000
/-! How data lies in the abstract heap; worlds; how slots stand for an environment. -/
namespace C
open PySem PySem.Spec L2

structure Bs where
  P : Program
  w : World
  K : PySem.W.Frag
abbrev bsOf (X : Cx) : Bs := ⟨X.prog, X.w, X.K⟩

def keyD : Key → D
  | .inl i => .int i
  | .inr s => .str s

abbrev NEnt := NestedKey × Addr × V
/-- the dict at a with keys that are tuples: each key, where it stands, the value -/
def NE (B : Bs) (a : Addr) (xs : List NEnt) (h : Heap) : Prop :=
  xs.length ≤ sizeLine ∧ (a == sysModules) = false ∧ ∃ ys : List (NestedKey × Addr × Value), Paired (fun p q => p.1 = q.1 ∧ p.2.1 = q.2.1 ∧ RelV p.2.2 q.2.2) xs ys ∧
    ∃ o es ep, h.get? a = some o ∧ o.ExactDict ∧ o.data = .dict es ep ∧ es.toList = ys.map (entryOfKey (nestedKind B.P B.w)) ∧ (ys.map (·.1)).Nodup
def dN (B : Bs) (a : Addr) (xs : List NEnt) : HO := .ext (NE B a xs)

/-- a dict of the written part: texts to flat values -/
def KEnt (e : DictEntry) (kv : D × D) : Prop :=
  (∃ z t, e.key = .str z t ∧ kv.1 = .str z) ∧ match kv.2 with
    | .int i => RelV (.int i) e.val
    | .str x => RelV (.str x) e.val
    | _ => False
def KDc (B : Bs) (a : Addr) (kvs : List (D × D)) : Prop :=
  ∃ es n, KDict B.K B.w a es n ∧ kvs ≠ [] ∧ es.size ≤ sizeLine ∧ Paired KEnt es.toList kvs

mutual
inductive Rp (B : Bs) (N : Addr → Prop) (H : Hp) : V → D → Prop
  | non : Rp B N H .non .none
  | bl (b : Bool) : Rp B N H (.bl b) (.bool b)
  | int (i : Int) : Rp B N H (.int i) (.int i)
  | str (x : Str) : Rp B N H (.str x) (.str x)
  | tup {a : Addr} {xs : List V} {ds : List D} : SqT B.K H a xs → RpA B N H xs ds → Rp B N H (.ref a) (.tuple ds)
  | fl {a : Addr} {o : Obj} {xs : List V} {ds : List D} : H a = some (.frz o (.lst xs)) → RpA B N H xs ds → Rp B N H (.ref a) (.list ds)
  | mu {a : Addr} {d : D} : N a → RT B N H a d → Rp B N H (.ref a) d
  | kd {a : Addr} {kvs : List (D × D)} : KDc B a kvs → Rp B N H (.ref a) (.dict kvs)
inductive RpA (B : Bs) (N : Addr → Prop) (H : Hp) : List V → List D → Prop
  | nil : RpA B N H [] []
  | cons {v : V} {d : D} {vs : List V} {ds : List D} : Rp B N H v d → RpA B N H vs ds → RpA B N H (v :: vs) (d :: ds)
inductive RT (B : Bs) (N : Addr → Prop) (H : Hp) : Addr → D → Prop
  | lst {a : Addr} {xs : List V} {ds : List D} : H a = some (.lst xs) → RpA B N H xs ds → RT B N H a (.list ds)
  | dk {a : Addr} {kvs : List (Key × V)} {ds : List (D × D)} : H a = some (.dK kvs) → kvs.map (fun p => keyD p.1) = ds.map (·.1) → RpA B N H (kvs.map (·.2)) (ds.map (·.2)) → RT B N H a (.dict ds)
  | dn {a : Addr} {xs : List NEnt} {ds : List (D × D)} : H a = some (dN B a xs) → xs ≠ [] → xs.map (fun p => p.1.data) = ds.map (·.1) → (∀ p ∈ xs, p.1.depth ≤ 8) → RpA B N H (xs.map fun p => V.ref p.2.1) (ds.map (·.1)) → RpA B N H (xs.map (·.2.2)) (ds.map (·.2)) → RT B N H a (.dict ds)
end

structure Ext (N : Addr → Prop) (H : Hp) (N' : Addr → Prop) (H' : Hp) : Prop where
  n : ∀ a, N a → N' a
  k : ∀ a o, N a → H a = some o → H' a = some o
  t : ∀ a xs, H a = some (.tup xs) → H' a = some (.tup xs)
  f : ∀ a o u, H a = some (.frz o u) → H' a = some (.frz o u)

section
variable {B : Bs} {N N' : Addr → Prop} {H H' : Hp}
theorem sqT_ext (e : Ext N H N' H') {K : PySem.W.Frag} {a : Addr} {xs : List V} (h : SqT K H a xs) : SqT K H' a xs := by
  rcases h with h | h
  · rcases h with h | ⟨o, h⟩
    · exact .inl (.inl (e.t _ _ h))
    · exact .inl (.inr ⟨o, e.f _ _ _ h⟩)
  · exact .inr h
theorem rp_all (e : Ext N H N' H') :
    (∀ {v : V} {d : D}, Rp B N H v d → Rp B N' H' v d) ∧ (∀ {vs : List V} {ds : List D}, RpA B N H vs ds → RpA B N' H' vs ds) ∧
      (∀ {a : Addr} {d : D}, RT B N H a d → (∀ o, H a = some o → H' a = some o) → RT B N' H' a d) := by
  refine ⟨fun {v d} h => ?_, fun {v d} h => ?_, fun {a d} h => ?_⟩
  · exact Rp.rec (motive_1 := fun v d _ => Rp B N' H' v d) (motive_2 := fun vs ds _ => RpA B N' H' vs ds) (motive_3 := fun a d _ => (∀ o, H a = some o → H' a = some o) → RT B N' H' a d)
      .non .bl .int .str (fun h _ i => .tup (sqT_ext e h) i) (fun h _ i => .fl (e.f _ _ _ h) i) (fun h _ i => .mu (e.n _ h) (i fun o q => e.k _ _ h q)) .kd .nil (fun _ _ i j => .cons i j)
      (fun h _ i k => .lst (k _ h) i) (fun h q _ i k => .dk (k _ h) q i) (fun h z q r _ _ i j k => .dn (k _ h) z q r i j) h
  · exact RpA.rec (motive_1 := fun v d _ => Rp B N' H' v d) (motive_2 := fun vs ds _ => RpA B N' H' vs ds) (motive_3 := fun a d _ => (∀ o, H a = some o → H' a = some o) → RT B N' H' a d)
      .non .bl .int .str (fun h _ i => .tup (sqT_ext e h) i) (fun h _ i => .fl (e.f _ _ _ h) i) (fun h _ i => .mu (e.n _ h) (i fun o q => e.k _ _ h q)) .kd .nil (fun _ _ i j => .cons i j)
      (fun h _ i k => .lst (k _ h) i) (fun h q _ i k => .dk (k _ h) q i) (fun h z q r _ _ i j k => .dn (k _ h) z q r i j) h
  · exact RT.rec (motive_1 := fun v d _ => Rp B N' H' v d) (motive_2 := fun vs ds _ => RpA B N' H' vs ds) (motive_3 := fun a d _ => (∀ o, H a = some o → H' a = some o) → RT B N' H' a d)
      .non .bl .int .str (fun h _ i => .tup (sqT_ext e h) i) (fun h _ i => .fl (e.f _ _ _ h) i) (fun h _ i => .mu (e.n _ h) (i fun o q => e.k _ _ h q)) .kd .nil (fun _ _ i j => .cons i j)
      (fun h _ i k => .lst (k _ h) i) (fun h q _ i k => .dk (k _ h) q i) (fun h z q r _ _ i j k => .dn (k _ h) z q r i j) h
theorem Rp.ext (e : Ext N H N' H') {v : V} {d : D} (h : Rp B N H v d) : Rp B N' H' v d := (rp_all e).1 h
theorem RpA.ext (e : Ext N H N' H') {vs : List V} {ds : List D} (h : RpA B N H vs ds) : RpA B N' H' vs ds := (rp_all e).2.1 h
theorem RT.ext (e : Ext N H N' H') {a : Addr} {d : D} (h : RT B N H a d) (k : ∀ o, H a = some o → H' a = some o) : RT B N' H' a d := (rp_all e).2.2 h k
theorem RpA.length {vs : List V} {ds : List D} (h : RpA B N H vs ds) : vs.length = ds.length := by
  induction ds generalizing vs with
  | nil => cases h; rfl
  | cons d ds ih => cases h with | cons _ t => rw [List.length_cons, List.length_cons, ih t]
theorem RpA.get {vs : List V} {ds : List D} (h : RpA B N H vs ds) {i : Nat} {d : D} (e : ds[i]? = some d) : ∃ v, vs[i]? = some v ∧ Rp B N H v d := by
  induction ds generalizing vs i with
  | nil => simp at e
  | cons x ds ih =>
    cases h with
    | cons r t =>
      cases i with
      | zero => simp at e; subst e; exact ⟨_, rfl, r⟩
      | succ i =>
        obtain ⟨v, h1, h2⟩ := ih t (i := i) (by simpa using e)
        exact ⟨v, by simpa using h1, h2⟩
theorem RpA.get' {vs : List V} {ds : List D} (h : RpA B N H vs ds) {i : Nat} {v : V} (e : vs[i]? = some v) : ∃ d, ds[i]? = some d ∧ Rp B N H v d := by
  induction ds generalizing vs i with
  | nil => cases h; simp at e
  | cons x ds ih =>
    cases h with
    | cons r t =>
      cases i with
      | zero => simp at e; subst e; exact ⟨_, rfl, r⟩
      | succ i =>
        obtain ⟨d, h1, h2⟩ := ih t (i := i) (by simpa using e)
        exact ⟨d, by simpa using h1, h2⟩
theorem RpA.append {vs ws : List V} {ds es : List D} (h : RpA B N H vs ds) (k : RpA B N H ws es) : RpA B N H (vs ++ ws) (ds ++ es) := by
  induction ds generalizing vs with
  | nil => cases h; exact k
  | cons x ds ih => cases h with | cons r t => exact .cons r (ih t)
theorem RpA.take {vs : List V} {ds : List D} (h : RpA B N H vs ds) (n : Nat) : RpA B N H (vs.take n) (ds.take n) := by
  induction ds generalizing vs n with
  | nil => cases h; simp; exact .nil
  | cons x ds ih =>
    cases h with
    | cons r t =>
      cases n with
      | zero => exact .nil
      | succ n => exact .cons r (ih t n)
theorem RpA.drop {vs : List V} {ds : List D} (h : RpA B N H vs ds) (n : Nat) : RpA B N H (vs.drop n) (ds.drop n) := by
  induction ds generalizing vs n with
  | nil => cases h; simp; exact .nil
  | cons x ds ih =>
    cases h with
    | cons r t =>
      cases n with
      | zero => exact .cons r t
      | succ n => exact ih t n
theorem RpA.set {vs : List V} {ds : List D} (h : RpA B N H vs ds) (n : Nat) {v : V} {d : D} (r : Rp B N H v d) : RpA B N H (vs.set n v) (ds.set n d) := by
  induction ds generalizing vs n with
  | nil => cases h; simp; exact .nil
  | cons x ds ih =>
    cases h with
    | cons q t =>
      cases n with
      | zero => exact .cons r t
      | succ n => exact .cons q (ih t n)
theorem RpA.reverse {vs : List V} {ds : List D} (h : RpA B N H vs ds) : RpA B N H vs.reverse ds.reverse := by
  induction ds generalizing vs with
  | nil => cases h; exact .nil
  | cons x ds ih =>
    cases h with
    | cons r t =>
      rw [List.reverse_cons, List.reverse_cons]
      exact (ih t).append (.cons r .nil)
theorem RpA.dropLast {vs : List V} {ds : List D} (h : RpA B N H vs ds) : RpA B N H vs.dropLast ds.dropLast := by
  rw [List.dropLast_eq_take, List.dropLast_eq_take, h.length]; exact h.take _
theorem RpA.of_get {vs : List V} {ds : List D} (hl : vs.length = ds.length) (h : ∀ (i : Nat) (v : V) (d : D), vs[i]? = some v → ds[i]? = some d → Rp B N H v d) : RpA B N H vs ds := by
  induction ds generalizing vs with
  | nil => cases vs with | nil => exact .nil | cons _ _ => simp at hl
  | cons x ds ih =>
    cases vs with
    | nil => simp at hl
    | cons v vs => exact .cons (h 0 v x rfl rfl) (ih (by simpa using hl) fun i v' d' h1 h2 => h (i + 1) v' d' (by simpa using h1) (by simpa using h2))

/-- looked at: the outermost object may be anyone's -/
def RA (B : Bs) (N : Addr → Prop) (H : Hp) (v : V) (d : D) : Prop := Rp B N H v d ∨ ∃ a, v = .ref a ∧ RT B N H a d
theorem Rp.ra {v : V} {d : D} (h : Rp B N H v d) : RA B N H v d := .inl h
theorem RT.ra {a : Addr} {d : D} (h : RT B N H a d) : RA B N H (.ref a) d := .inr ⟨a, rfl, h⟩
theorem RA.list {v : V} {ds : List D} (h : RA B N H v (.list ds)) : ∃ a xs, v = .ref a ∧ Rd H a (.lst xs) ∧ RpA B N H xs ds := by
  rcases h with h | ⟨a, rfl, h⟩
  · cases h with
    | fl h r => exact ⟨_, _, rfl, .inr ⟨_, h⟩, r⟩
    | mu _ h => cases h with | lst h r => exact ⟨_, _, rfl, .inl h, r⟩
  · cases h with | lst h r => exact ⟨_, _, rfl, .inl h, r⟩
theorem RA.tuple {v : V} {ds : List D} (h : RA B N H v (.tuple ds)) : ∃ a xs, v = .ref a ∧ SqT B.K H a xs ∧ RpA B N H xs ds := by
  rcases h with h | ⟨a, rfl, h⟩
  · cases h with
    | tup h r => exact ⟨_, _, rfl, h, r⟩
    | mu _ h => cases h
  · cases h
theorem RA.int {v : V} {i : Int} (h : RA B N H v (.int i)) : v = .int i := by
  rcases h with h | ⟨a, rfl, h⟩
  · cases h with
    | int => rfl
    | mu _ h => cases h
  · cases h
theorem RA.bool {v : V} {i : Bool} (h : RA B N H v (.bool i)) : v = .bl i := by
  rcases h with h | ⟨a, rfl, h⟩
  · cases h with
    | bl => rfl
    | mu _ h => cases h
  · cases h
theorem RA.str {v : V} {i : Str} (h : RA B N H v (.str i)) : v = .str i := by
  rcases h with h | ⟨a, rfl, h⟩
  · cases h with
    | str => rfl
    | mu _ h => cases h
  · cases h
theorem RA.none {v : V} (h : RA B N H v .none) : v = .non := by
  rcases h with h | ⟨a, rfl, h⟩
  · cases h with
    | non => rfl
    | mu _ h => cases h
  · cases h

/-! ### data without lists and dicts stand whatever may be changed -/
mutual
theorem pure_rp (N' : Addr → Prop) : ∀ {d : D} {v : V}, pureD d = true → Rp B N H v d → Rp B N' H v d
  | .none, _, _, h => by cases h with | non => exact .non | mu _ h => cases h
  | .bool _, _, _, h => by cases h with | bl => exact .bl _ | mu _ h => cases h
  | .int _, _, _, h => by cases h with | int => exact .int _ | mu _ h => cases h
  | .str _, _, _, h => by cases h with | str => exact .str _ | mu _ h => cases h
  | .tuple ds, _, hp, h => by
    cases h with
    | tup q r => exact .tup q (pure_rpA N' (by simpa [pureD] using hp) r)
    | mu _ h => cases h
  | .list _, _, hp, _ => by simp [pureD] at hp
  | .dict _, _, hp, _ => by simp [pureD] at hp
theorem pure_rpA (N' : Addr → Prop) : ∀ {ds : List D} {vs : List V}, pureAll ds = true → RpA B N H vs ds → RpA B N' H vs ds
  | [], _, _, h => by cases h; exact .nil
  | d :: ds, _, hp, h => by
    cases h with
    | cons r t =>
      simp only [pureAll, Bool.and_eq_true] at hp
      exact .cons (pure_rp N' hp.1 r) (pure_rpA N' hp.2 t)
end

/-! ### plain data read off the heap -/
mutual
theorem rp_dp : ∀ {d : D} {v : V}, PyData.plain d = true → Rp B N H v d → Dp B.K H v d
  | .none, _, _, h => by cases h with | non => exact .non | mu _ h => cases h
  | .bool _, _, _, h => by cases h with | bl => exact .bl _ | mu _ h => cases h
  | .int _, _, _, h => by cases h with | int => exact .int _ | mu _ h => cases h
  | .str _, _, _, h => by cases h with | str => exact .str _ | mu _ h => cases h
  | .tuple ds, _, hp, h => by
    cases h with
    | tup q r => exact .tup q (rp_dpA (by simpa [PyData.plain] using hp) r)
    | mu _ h => cases h
  | .list ds, _, hp, h => by
    cases h with
    | fl q r => exact .lst (.inl (.inr ⟨_, q⟩)) (rp_dpA (by simpa [PyData.plain] using hp) r)
    | mu _ h => cases h with | lst q r => exact .lst (.inl (.inl q)) (rp_dpA (by simpa [PyData.plain] using hp) r)
  | .dict _, _, hp, _ => by simp [PyData.plain] at hp
theorem rp_dpA : ∀ {ds : List D} {vs : List V}, PyData.plainAll ds = true → RpA B N H vs ds → DpAll B.K H vs ds
  | [], _, _, h => by cases h; exact .nil
  | d :: ds, _, hp, h => by
    cases h with
    | cons r t =>
      simp only [PyData.plainAll, Bool.and_eq_true] at hp
      exact .cons (rp_dp hp.1 r) (rp_dpA hp.2 t)
end
theorem ra_dp {d : D} {v : V} (hp : PyData.plain d = true) (h : RA B N H v d) : Dp B.K H v d := by
  rcases h with h | ⟨a, rfl, h⟩
  · exact rp_dp hp h
  · cases h with
    | lst q r => exact .lst (.inl (.inl q)) (rp_dpA (by simpa [PyData.plain] using hp) r)
    | dk _ _ _ => simp [PyData.plain] at hp
    | dn _ _ _ _ _ _ => simp [PyData.plain] at hp
end

/-! ### worlds -/
/-- N: objects that nobody changes from here on; ow: whose slot an object is -/
structure Wd where
  N : Addr → Prop
  ow : Addr → Option Nat
  H : Hp

/-- the tables of the code objects of the defs in which a lambda stands, the names of these lambdas -/
class Lams where
  tabs : List (Addr × Str)
  fns : List (Nat × Addr)
  fn : ∀ p ∈ tabs, ∀ q ∈ tabs, p.1 = q.1 → p.2 = q.2
variable [Lams]
def RSl (B : Bs) (N : Addr → Prop) (O : Addr → Prop) (H : Hp) (v : V) : Sl → Prop
  | .no => True
  | .sh d => Rp B N H v d
  | .ow d => ∃ a, v = .ref a ∧ O a ∧ RT B N H a d
  | .ob _ _ => False
  | .fn n => ∃ a, v = .ref a ∧ (n, a) ∈ Lams.fns

/-- what may be owned -/
def Own : Option HO → Prop
  | some (.lst _) => True
  | some (.dK _) => True
  | some (.ext _) => True
  | some (.ins _ _ _) => True
  | some (.own _) => True
  | some (.tbl _) => True
  | _ => False

/-- the slot that owns the tables of code objects -/
def ph : Nat := 1000000007
/-- the table of such a def -/
def TK (P : Addr) (q : Str) : Prop := (P, q) ∈ Lams.tabs
/-- the table at P, of lambdas named q: well formed, its code objects there -/
structure TabW (W : Wd) (P : Addr) (q : Str) : Prop where
  own : W.ow P = some ph ∧ TK P q
  tab : ∃ ps : Array Value, W.H P = some (.tbl ps) ∧ TriplesOk ps.toList ∧ ∀ (pos : Pos) (cv : Value), codeAmong pos ps.toList = some cv → ∃ (c : Addr) (oc : Obj) (vs : Array Value) (t : Tok), cv = .ref c ∧ W.H c = some (.frz oc (.own c)) ∧ W.ow c = none ∧ oc.data = .fields vs ∧ vs[1]? = some (.str q t)
structure RE (B : Bs) (W : Wd) (σ : L2.St) (env : Env) : Prop where
  len : σ.length = env.length
  slot : ∀ i s, env[i]? = some s → s ≠ .no → ∃ v, σ[i]? = some (some v) ∧ RSl B W.N (fun a => W.ow a = some i) W.H v s
  apart : ∀ a i, W.ow a = some i → ¬ W.N a
  nin : ∀ a, W.N a → W.H a ≠ none
  oin : ∀ a i, W.ow a = some i → Own (W.H a)
  tb : ∀ P q, TK P q → TabW W P q

structure Step (W W' : Wd) : Prop where
  nN : ∀ a, W.N a → W'.N a
  fr : ∀ a o, W.H a = some o → W.ow a = none → W'.H a = some o
  th : ∀ a, W.H a ≠ none → W'.H a ≠ none
  un : ∀ a, W.H a ≠ none → W.ow a = none → W'.ow a = none
  nn : ∀ a, W.H a ≠ none → W.ow a = none → W'.N a → W.N a
  tb : ∀ P q, TabW W P q → TabW W' P q

section
variable {B : Bs} {W W' W'' : Wd} {σ : L2.St} {env : Env}
theorem Step.refl (W : Wd) : Step W W := ⟨fun _ h => h, fun _ _ h _ => h, fun _ h => h, fun _ _ h => h, fun _ _ _ h => h, fun _ _ h => h⟩
/-- a table that is not touched -/
theorem TabW.keep {P : Addr} {q : Str} (t : TabW W P q) (fr : ∀ a o, W.H a = some o → W.ow a = none → W'.H a = some o) (un : ∀ a, W.H a ≠ none → W.ow a = none → W'.ow a = none) (h : W'.H P = W.H P) (ho : W'.ow P = some ph) : TabW W' P q := by
  obtain ⟨h0, ps, h1, h2, h3⟩ := t
  refine ⟨⟨ho, h0.2⟩, ps, by rw [h, h1], h2, fun pos cv e => ?_⟩
  obtain ⟨c, oc, vs, t, e1, e2, e3, e4⟩ := h3 pos cv e
  exact ⟨c, oc, vs, t, e1, fr c _ e2 e3, un c (by rw [e2]; simp) e3, e4⟩
/-- no table -/
def NoTab (o : Option HO) : Prop := ∀ ps, o ≠ some (.tbl ps)
theorem TabW.ne {P : Addr} {q : Str} {a : Addr} (t : TabW W P q) (h : NoTab (W.H a)) : P ≠ a := by
  rintro rfl
  obtain ⟨_, ps, h1, _⟩ := t
  exact h ps h1
theorem Step.trans (a : Step W W') (b : Step W' W'') : Step W W'' where
  nN := fun c h => b.nN c (a.nN c h)
  fr := fun c o h n => b.fr c o (a.fr c o h n) (a.un c (by rw [h]; simp) n)
  th := fun c h => b.th c (a.th c h)
  un := fun c h n => b.un c (a.th c h) (a.un c h n)
  nn := fun c h n q => a.nn c h n (b.nn c (a.th c h) (a.un c h n) q)
  tb := fun P q h => b.tb P q (a.tb P q h)
theorem RE.unowned (r : RE B W σ env) {a : Addr} (h : W.N a) : W.ow a = none := by
  cases e : W.ow a with
  | none => rfl
  | some i => exact absurd h (r.apart a i e)
theorem RE.ext (r : RE B W σ env) (s : Step W W') : Ext W.N W.H W'.N W'.H where
  n := s.nN
  k := fun a o h e => s.fr a o e (r.unowned h)
  t := fun a xs h => s.fr a _ h (by
    cases e : W.ow a with
    | none => rfl
    | some i => have := r.oin a i e; rw [h] at this; exact this.elim)
  f := fun a o u h => s.fr a _ h (by
    cases e : W.ow a with
    | none => rfl
    | some i => have := r.oin a i e; rw [h] at this; exact this.elim)
theorem RE.lt (r : RE B W σ env) {i : Nat} {s : Sl} (h : env[i]? = some s) : i < σ.length := by
  rw [r.len]; exact (List.getElem?_eq_some_iff.mp h).1

/-- a value that has been made since W0, no slot's -/
def RV (B : Bs) (W0 W : Wd) (v : V) (s : Sl) : Prop := s ≠ .no ∧ RSl B W.N (fun a => W0.H a = none ∧ W.ow a = none ∧ ¬ W.N a ∧ W.H a ≠ none) W.H v s
theorem RSl.ext {N N' O O' : Addr → Prop} {H H' : Hp} (e : Ext N H N' H') (k : ∀ a o, O a → H a = some o → H' a = some o ∧ O' a) {v : V} {s : Sl} (h : RSl B N O H v s) : RSl B N' O' H' v s := by
  cases s with
  | no => trivial
  | sh d => exact Rp.ext e h
  | ow d =>
    obtain ⟨a, rfl, o, t⟩ := h
    have he : ∃ ob, H a = some ob := by cases t with | lst q _ => exact ⟨_, q⟩ | dk q _ _ => exact ⟨_, q⟩ | dn q _ _ _ _ _ => exact ⟨_, q⟩
    obtain ⟨ob, q⟩ := he
    exact ⟨a, rfl, (k a ob o q).2, t.ext e fun o' q' => (k a o' o q').1⟩
  | ob c fs => exact h
  | fn n => exact h
theorem Step.none (s : Step W W') {a : Addr} (h : W'.H a = none) : W.H a = none := by
  cases e : W.H a with
  | none => rfl
  | some o => exact absurd h (s.th a (by rw [e]; simp))
theorem RV.step {W0 : Wd} (r : RE B W σ env) (s : Step W W') {v : V} {sl : Sl} (h : RV B W0 W v sl) : RV B W0 W' v sl :=
  ⟨h.1, RSl.ext (r.ext s) (fun a o q e => ⟨s.fr a o e q.2.1, And.intro q.1 (And.intro (s.un a q.2.2.2 q.2.1) (And.intro (fun z => q.2.2.1 (s.nn a q.2.2.2 q.2.1 z)) (s.th a q.2.2.2)))⟩) h.2⟩
theorem RV.since {W0 : Wd} (s : Step W0 W) {v : V} {sl : Sl} (h : RV B W W' v sl) : RV B W0 W' v sl :=
  ⟨h.1, RSl.ext (N := W'.N) (H := W'.H) ⟨fun _ h => h, fun _ _ _ h => h, fun _ _ h => h, fun _ _ _ h => h⟩ (fun a o q e => ⟨e, And.intro (s.none q.1) q.2⟩) h.2⟩
theorem RV.ra {W0 : Wd} {v : V} {sl : Sl} {d : D} (h : RV B W0 W v sl) (e : dataOf sl = some d) : RA B W.N W.H v d := by
  cases sl with
  | no => cases e
  | sh d' => cases e; exact .inl h.2
  | ow d' => cases e; obtain ⟨_, a, rfl, _, t⟩ := h; exact .inr ⟨a, rfl, t⟩
  | ob _ _ => cases e
  | fn _ => cases e
theorem RV.sh {W0 : Wd} {v : V} {d : D} (h : Rp B W.N W.H v d) : RV B W0 W v (.sh d) := ⟨(fun e => nomatch e), h⟩
theorem RV.rp {W0 : Wd} {v : V} {d : D} (h : RV B W0 W v (.sh d)) : Rp B W.N W.H v d := h.2

/-! ### a world where an object is given up to all -/
def Wd.give (W : Wd) (a : Addr) : Wd := { W with N := fun b => W.N b ∨ b = a, ow := fun b => if b = a then none else W.ow b }
theorem TabW.give {P : Addr} {q : Str} {a : Addr} (t : TabW W P q) (nt : NoTab (W.H a)) : TabW (W.give a) P q := t.keep (fun _ _ h _ => h) (fun b _ n => by
    show (if b = a then none else W.ow b) = none
    by_cases e : b = a
    · rw [if_pos e]
    · rw [if_neg e]; exact n) rfl (by
    show (if P = a then none else W.ow P) = some ph
    rw [if_neg (t.ne nt)]; exact t.own.1)
theorem Wd.give_ow {a b : Addr} {j : Nat} (h : (W.give a).ow b = some j) : b ≠ a ∧ W.ow b = some j := by
  have h' : (if b = a then none else W.ow b) = some j := h
  by_cases e : b = a
  · rw [if_pos e] at h'; cases h'
  · rw [if_neg e] at h'; exact ⟨e, h'⟩
theorem Wd.give_step {a : Addr} (h : W.ow a ≠ none ∨ W.H a = none ∨ W.N a) (nt : NoTab (W.H a)) : Step W (W.give a) where
  tb := fun P q t => t.keep (fun _ _ h _ => h) (fun b _ n => by
    show (if b = a then none else W.ow b) = none
    by_cases e : b = a
    · rw [if_pos e]
    · rw [if_neg e]; exact n) rfl (by
    show (if P = a then none else W.ow P) = some ph
    rw [if_neg (t.ne nt)]; exact t.own.1)
  nN := fun _ h => .inl h
  fr := fun _ _ h _ => h
  th := fun _ h => h
  un := fun b _ n => by
    show (if b = a then none else W.ow b) = none
    by_cases e : b = a
    · rw [if_pos e]
    · rw [if_neg e]; exact n
  nn := fun b e n q => by
    rcases q with q | rfl
    · exact q
    · rcases h with h | h | h
      · exact absurd n h
      · exact absurd h e
      · exact h
/-- .. one that was not there at the start -/
theorem Wd.give_since {W0 : Wd} (s : Step W0 W) {a : Addr} (h : W0.H a = none) (nt : NoTab (W.H a)) : Step W0 (W.give a) where
  tb := fun P q t => (s.tb P q t).keep (fun _ _ h _ => h) (fun b _ n => by
    show (if b = a then none else W.ow b) = none
    by_cases e : b = a
    · rw [if_pos e]
    · rw [if_neg e]; exact n) rfl (by
    show (if P = a then none else W.ow P) = some ph
    rw [if_neg ((s.tb P q t).ne nt)]; exact (s.tb P q t).own.1)
  nN := fun _ h => .inl (s.nN _ h)
  fr := fun _ _ h n => s.fr _ _ h n
  th := fun _ h => s.th _ h
  un := fun b e n => by
    show (if b = a then none else W.ow b) = none
    by_cases e' : b = a
    · rw [if_pos e']
    · rw [if_neg e']; exact s.un b e n
  nn := fun b e n q => by
    rcases q with q | rfl
    · exact s.nn b e n q
    · exact absurd h e
theorem Ext.refl (N : Addr → Prop) (H : Hp) : Ext N H N H := ⟨fun _ h => h, fun _ _ _ h => h, fun _ _ h => h, fun _ _ _ h => h⟩
theorem Ext.give {N : Addr → Prop} {H : Hp} (a : Addr) : Ext N H (fun b => N b ∨ b = a) H := ⟨fun _ h => .inl h, fun _ _ _ h => h, fun _ _ h => h, fun _ _ _ h => h⟩
/-- the other slots where a is given up -/
theorem RE.gave (r : RE B W σ env) {a : Addr} (ha : W.H a ≠ none) {i : Option Nat} (ho : W.ow a = i) (j : Nat) (s : Sl) (hj : env[j]? = some s) (hn : s ≠ .no) (ne : i ≠ some j) : ∃ v, σ[j]? = some (some v) ∧ RSl B (W.give a).N (fun b => (W.give a).ow b = some j) (W.give a).H v s := by
  obtain ⟨v, h1, h2⟩ := r.slot j s hj hn
  refine ⟨v, h1, RSl.ext (Ext.give a) (fun b o hb q => ⟨q, ?_⟩) h2⟩
  show (if b = a then none else W.ow b) = some j
  by_cases e : b = a
  · subst e
    have hb' : W.ow b = some j := hb
    rw [ho] at hb'
    exact absurd hb' ne
  · rw [if_neg e]; exact hb
theorem RT.there {N : Addr → Prop} {H : Hp} {a : Addr} {d : D} (t : RT B N H a d) : ∃ o, H a = some o ∧ Own (some o) := by
  cases t with
  | lst q _ => exact ⟨_, q, trivial⟩
  | dk q _ _ => exact ⟨_, q, trivial⟩
  | dn q _ _ _ _ _ => exact ⟨_, q, trivial⟩
theorem RT.noTab {N : Addr → Prop} {H : Hp} {a : Addr} {d : D} (t : RT B N H a d) : NoTab (H a) := fun ps e => by
  cases t with
  | lst q _ => rw [q] at e; cases e
  | dk q _ _ => rw [q] at e; cases e
  | dn q _ _ _ _ _ => rw [q] at e; cases e
/-- no table, no code object -/
def NoFix (o : Option HO) : Prop := NoTab o ∧ ∀ oc u, o ≠ some (.frz oc u)
theorem NoFix.of {P : Addr} {q : Str} {a : Addr} (h : NoFix (W.H a)) (t : TabW W P q) : P ≠ a ∧ ∀ c oc, W.H c = some (.frz oc (.own c)) → c ≠ a := by
  refine ⟨t.ne h.1, fun c oc e z => ?_⟩
  subst z
  exact h.2 _ _ e
theorem NoFix.lst {H : Hp} {a : Addr} {xs : List V} (h : H a = some (.lst xs)) : NoFix (H a) := ⟨(fun ps e => by rw [h] at e; cases e), (fun oc u e => by rw [h] at e; cases e)⟩
theorem RT.noFix {N : Addr → Prop} {H : Hp} {a : Addr} {d : D} (t : RT B N H a d) : NoFix (H a) := ⟨t.noTab, fun oc u e => by
  cases t with
  | lst q _ => rw [q] at e; cases e
  | dk q _ _ => rw [q] at e; cases e
  | dn q _ _ _ _ _ => rw [q] at e; cases e⟩
/-- a slot's own object becomes everyone's -/
theorem RE.freeze (r : RE B W σ env) {i : Nat} {d : D} (h : env[i]? = some (.ow d)) : ∃ a, σ[i]? = some (some (.ref a)) ∧ Step W (W.give a) ∧ RE B (W.give a) σ (env.set i (.sh d)) ∧ Rp B (W.give a).N W.H (.ref a) d := by
  obtain ⟨v, hv, a, rfl, ho, ht⟩ := r.slot i _ h (fun e => nomatch e)
  have ho' : W.ow a = some i := ho
  obtain ⟨ob, hob, _⟩ := ht.there
  have ha : W.H a ≠ none := by rw [hob]; simp
  have rp : Rp B (W.give a).N W.H (.ref a) d := .mu (.inr rfl) (ht.ext (Ext.give a) fun _ q => q)
  refine ⟨a, hv, Wd.give_step (.inl (by rw [ho']; simp)) ht.noTab, ⟨by rw [List.length_set]; exact r.len, fun j s hj hn => ?_, fun b j hb => ?_, fun b hb => ?_, fun b j hb => ?_, fun P q k => (r.tb P q k).give ht.noTab⟩, rp⟩
  · by_cases e : i = j
    · subst e
      rw [List.getElem?_set_self (by rw [← r.len]; exact r.lt h)] at hj
      cases hj
      exact ⟨_, hv, rp⟩
    · rw [List.getElem?_set_ne e] at hj
      exact r.gave ha ho' j s hj hn fun z => e (Option.some.inj z)
  · obtain ⟨ne, q⟩ := Wd.give_ow hb
    rintro (z | z)
    · exact r.apart b j q z
    · exact ne z
  · rcases hb with hb | rfl
    · exact r.nin b hb
    · exact ha
  · exact r.oin b j (Wd.give_ow hb).2
/-- a value that has been made becomes everyone's -/
theorem RE.share {W0 : Wd} (r : RE B W σ env) (s : Step W0 W) {v : V} {sl : Sl} {d : D} (h : RV B W0 W v sl) (e : dataOf sl = some d) :
    ∃ W', W'.H = W.H ∧ Step W0 W' ∧ RE B W' σ env ∧ Rp B W'.N W'.H v d ∧ Ext W.N W.H W'.N W'.H ∧ (∀ b, W'.ow b = W.ow b) ∧ (∀ b, W'.N b → W.N b ∨ W0.H b = none) := by
  cases sl with
  | no => cases e
  | sh d' => cases e; exact ⟨W, rfl, s, r, h.2, Ext.refl _ _, fun _ => rfl, fun _ z => .inl z⟩
  | ob _ _ => cases e
  | fn _ => cases e
  | ow d' =>
    cases e
    obtain ⟨_, a, rfl, ⟨h0, h1, h2, h3⟩, t⟩ := h
    refine ⟨W.give a, rfl, Wd.give_since s h0 t.noTab, ⟨r.len, fun j sl hj hn => ?_, fun b j hb => ?_, fun b hb => ?_, fun b j hb => ?_, fun P q k => (r.tb P q k).give t.noTab⟩, .mu (.inr rfl) (t.ext (Ext.give a) fun _ q => q), Ext.give a, fun b => ?_, fun b z => ?_⟩
    · exact r.gave h3 h1 j sl hj hn fun z => nomatch z
    · obtain ⟨ne, q⟩ := Wd.give_ow hb
      rintro (z | z)
      · exact r.apart b j q z
      · exact ne z
    · rcases hb with hb | rfl
      · exact r.nin b hb
      · exact h3
    · exact r.oin b j (Wd.give_ow hb).2
    · show (if b = a then none else W.ow b) = W.ow b
      by_cases e : b = a
      · subst e; rw [if_pos rfl, h1]
      · rw [if_neg e]
    · rcases z with z | rfl
      · exact .inl z
      · exact .inr h0
/-- what slot i owned is nobody's; tables stay -/
def clr (W : Wd) (i : Nat) (b : Addr) : Option Nat := match W.H b with
  | some (.tbl _) => W.ow b
  | _ => if W.ow b = some i then none else W.ow b
theorem clr_none {i : Nat} {b : Addr} (h : W.ow b = none) : clr W i b = none := by
  unfold clr; split
  · exact h
  · rw [h]; rfl
theorem clr_some {i j : Nat} {b : Addr} (h : clr W i b = some j) : W.ow b = some j := by
  unfold clr at h; split at h
  · exact h
  · split at h
    · cases h
    · exact h
theorem clr_keep {i j : Nat} {b : Addr} (h : W.ow b = some j) (n : i ≠ j) : clr W i b = some j := by
  unfold clr; split
  · exact h
  · rw [h, if_neg fun z => n (Option.some.inj z).symm]
theorem clr_tab {i : Nat} {P : Addr} {q : Str} (t : TabW W P q) : clr W i P = some ph := by
  obtain ⟨h, ps, h1, _⟩ := t
  unfold clr; rw [h1]; exact h.1
/-- a slot gets shared data -/
theorem RE.setSh (r : RE B W σ env) {i : Nat} {v : V} {d : D} (h : Rp B W.N W.H v d) (hi : i < env.length) :
    ∃ W', W'.H = W.H ∧ Step W W' ∧ RE B W' (σ.set i (some v)) (env.set i (.sh d)) ∧ W'.N = W.N ∧ ∀ b, W.ow b = none → W'.ow b = none := by
  have hiσ : i < σ.length := by rw [r.len]; exact hi
  refine ⟨{ W with ow := clr W i }, rfl, ⟨fun _ h => h, fun _ _ h _ => h, fun _ h => h, fun b _ n => clr_none n, fun _ _ _ h => h, fun P q t => t.keep (fun _ _ h _ => h) (fun b _ n => clr_none n) rfl (clr_tab t)⟩,
    ⟨by rw [List.length_set, List.length_set]; exact r.len, fun j s hj hn => ?_, fun b j hb => r.apart b j (clr_some hb), r.nin, fun b j hb => r.oin b j (clr_some hb), fun P q k => (r.tb P q k).keep (fun _ _ h _ => h) (fun b _ n => clr_none n) rfl (clr_tab (r.tb P q k))⟩, rfl, fun b n => clr_none n⟩
  by_cases e : i = j
  · subst e
    rw [List.getElem?_set_self hi] at hj
    cases hj
    exact ⟨v, List.getElem?_set_self hiσ, h⟩
  · rw [List.getElem?_set_ne e] at hj
    obtain ⟨v', h1, h2⟩ := r.slot j s hj hn
    exact ⟨v', by rw [List.getElem?_set_ne e]; exact h1, RSl.ext (Ext.refl _ _) (fun b o hb q => ⟨q, clr_keep hb e⟩) h2⟩
/-- a slot gets what has been made -/
theorem RE.setOw {W0 : Wd} (r : RE B W σ env) (st : Step W0 W) {i : Nat} {v : V} {d : D} (h : RV B W0 W v (.ow d)) (hi : i < env.length) :
    ∃ W', W'.H = W.H ∧ Step W0 W' ∧ RE B W' (σ.set i (some v)) (env.set i (.ow d)) ∧ W'.N = W.N ∧ ∀ b, W.ow b = none → v ≠ .ref b → W'.ow b = none := by
  have hiσ : i < σ.length := by rw [r.len]; exact hi
  obtain ⟨_, a, rfl, ⟨h0, h1, h2, h3⟩, t_⟩ := h
  let f : Addr → Option Nat := fun b => if b = a then some i else clr W i b
  have fa : f a = some i := if_pos rfl
  have fo : ∀ {b j}, f b = some j → b ≠ a → W.ow b = some j := fun {b j} q ne => by
    have q' : (if b = a then some i else clr W i b) = some j := q
    rw [if_neg ne] at q'
    exact clr_some q'
  have fn : ∀ {b}, b ≠ a → W.ow b = none → f b = none := fun {b} ne n => by
    show (if b = a then some i else clr W i b) = none
    rw [if_neg ne]; exact clr_none n
  have tab : ∀ P q, TabW W P q → TabW { W with ow := f } P q := fun P q t => by
    have t1 := t
    have nP := t1.ne t_.noTab
    obtain ⟨_, ps, e1, e2, e3⟩ := t1
    refine ⟨⟨?_, t.own.2⟩, ps, e1, e2, fun pos cv hc => ?_⟩
    · show (if P = a then some i else clr W i P) = some ph
      rw [if_neg nP]; exact clr_tab (q := q) t
    · obtain ⟨c, oc, vs, tk, k1, k2, k3, k4⟩ := e3 pos cv hc
      refine ⟨c, oc, vs, tk, k1, k2, fn (fun z => ?_) k3, k4⟩
      subst z
      cases t_ with
      | lst q _ => rw [k2] at q; cases q
      | dk q _ _ => rw [k2] at q; cases q
      | dn q _ _ _ _ _ => rw [k2] at q; cases q
  refine ⟨{ W with ow := f }, rfl, ⟨st.nN, st.fr, st.th, fun b e n => ?_, st.nn, fun P q t => tab P q (st.tb P q t)⟩, ⟨by rw [List.length_set, List.length_set]; exact r.len, fun j s hj hn => ?_, fun b j hb => ?_, r.nin, fun b j hb => ?_, fun P q k => tab P q (r.tb P q k)⟩, rfl, fun b n nv => fn (fun z => nv (by rw [z])) n⟩
  · exact fn (fun z => e (by rw [z]; exact h0)) (st.un b e n)
  · by_cases e : i = j
    · subst e
      rw [List.getElem?_set_self hi] at hj
      cases hj
      exact ⟨_, List.getElem?_set_self hiσ, a, rfl, fa, t_⟩
    · rw [List.getElem?_set_ne e] at hj
      obtain ⟨v', q1, q2⟩ := r.slot j s hj hn
      refine ⟨v', by rw [List.getElem?_set_ne e]; exact q1, RSl.ext (Ext.refl _ _) (fun b o hb q => ⟨q, ?_⟩) q2⟩
      have hb' : W.ow b = some j := hb
      have ne : b ≠ a := fun z => by subst z; rw [h1] at hb'; cases hb'
      show (if b = a then some i else clr W i b) = some j
      rw [if_neg ne]; exact clr_keep hb' e
  · by_cases e : b = a
    · subst e; exact h2
    · exact r.apart b j (fo hb e)
  · by_cases e : b = a
    · subst e
      obtain ⟨o, q, z⟩ := t_.there
      show Own (W.H b)
      rw [q]; exact z
    · exact r.oin b j (fo hb e)
end
end C
end
section
set_option Elab.async false
set_option linter.all false
set_option maxRecDepth 100000
set_option maxHeartbeats 1000000
/-! Each primitive: what the machine does, in terms of data. -/
namespace C
open PySem PySem.Spec L2
variable [Lams]

inductive RAs (B : Bs) (N : Addr → Prop) (H : Hp) : List V → List D → Prop
  | nil : RAs B N H [] []
  | cons {v : V} {d : D} {vs : List V} {ds : List D} : RA B N H v d → RAs B N H vs ds → RAs B N H (v :: vs) (d :: ds)

/-- nothing that stood has changed; what has been made is new -/
def Res (B : Bs) (N : Addr → Prop) (H H' : Hp) (v : V) : Sl → Prop
  | .sh d => Rp B N H' v d
  | .ow d => ∃ a, v = .ref a ∧ H a = none ∧ RT B N H' a d
  | _ => False
structure Grow (B : Bs) (N : Addr → Prop) (H H' : Hp) (v : V) (s : Sl) : Prop where
  same : Same H H'
  res : Res B N H H' v s

def rP (B : Bs) (p : Pr) : List V → Hp → VK → Prop := fun vs H Q => ∃ N ds sl, RAs B N H vs ds ∧ evP p ds = some sl ∧ ∀ v H', Grow B N H H' v sl → Q v H'
abbrev rP2 (B : Bs) (p : Pr) : R2 := fun x y H Q => rP B p [x, y] H Q
abbrev rP1 (B : Bs) (p : Pr) : V → Hp → VK → Prop := fun x H Q => rP B p [x] H Q

section
variable {B : Bs} {N : Addr → Prop} {H H' : Hp} {v : V} {d : D}
theorem Ext.same (h : Same H H') : Ext N H N H' := ⟨fun _ h => h, fun a o _ q => h a o q, fun a xs q => h a _ q, fun a o u q => h a _ q⟩
theorem Grow.flat (r : ∀ H, Rp B N H v d) : Grow B N H H v (.sh d) := ⟨Same.refl _, r H⟩
theorem Grow.part (r : Rp B N H v d) : Grow B N H H v (.sh d) := ⟨Same.refl _, r⟩
theorem same_upd {p : Addr} {o : HO} (h : H p = none) : Same H (upd H p o) := fun b x e => by
  rw [upd_ne (ne_of_none e h)]; exact e
theorem Grow.newTup {p : Addr} {xs : List V} {ds : List D} (h : H p = none) (r : RpA B N H xs ds) : Grow B N H (upd H p (.tup xs)) (.ref p) (.sh (.tuple ds)) :=
  ⟨same_upd h, .tup (.inl (.inl upd_same)) (r.ext (Ext.same (same_upd h)))⟩
theorem Grow.newLst {p : Addr} {xs : List V} {ds : List D} (h : H p = none) (r : RpA B N H xs ds) : Grow B N H (upd H p (.lst xs)) (.ref p) (.ow (.list ds)) :=
  ⟨same_upd h, p, rfl, h, .lst upd_same (r.ext (Ext.same (same_upd h)))⟩
theorem RAs.one {vs : List V} {d : D} (h : RAs B N H vs [d]) : ∃ v, vs = [v] ∧ RA B N H v d := by
  cases h with | cons a t => cases t; exact ⟨_, rfl, a⟩
theorem RAs.two {vs : List V} {d e : D} (h : RAs B N H vs [d, e]) : ∃ v w, vs = [v, w] ∧ RA B N H v d ∧ RA B N H w e := by
  cases h with | cons a t => cases t with | cons b t => cases t; exact ⟨_, _, rfl, a, b⟩
theorem lineN_eq : lineN = sizeLine := by rw [sizeLine_eq]; rfl
end

section
variable {X : Cx}
/-- two values: by what their data are -/
theorem opR_of {f : Value → Value → Sem Value} {p : Pr} (h : ∀ (pins : List (Addr × Obj)) (s : Shared) (σ : L2.St) (H : Hp) (x y : V) (v u : Value) (Q : VK) (N : Addr → Prop) (d e : D) (sl : Sl), Inv X pins σ H s → RelV x v → RelV y u →
    RA (bsOf X) N H x d → RA (bsOf X) N H y e → evP p [d, e] = some sl → (∀ v H', Grow (bsOf X) N H H' v sl → Q v H') → wpAny (model X.prog X.w) X.A (f v u) (EP X pins σ Q) X.xe s) : OpR X f (rP2 (bsOf X) p) := by
  rintro pins s σ H x y v u Q I rx ry ⟨N, ds, sl, ra, e, q⟩
  cases ra with
  | cons a t => cases t with | cons b t => cases t; exact h pins s σ H x y v u Q N _ _ sl I rx ry a b e q
theorem callR1_of {f : Value} {p : Pr} (h : ∀ (pins : List (Addr × Obj)) (s : Shared) (σ : L2.St) (H : Hp) (x : V) (v : Value) (Q : VK) (N : Addr → Prop) (d : D) (sl : Sl), Inv X pins σ H s → RelV x v →
    RA (bsOf X) N H x d → evP p [d] = some sl → (∀ v H', Grow (bsOf X) N H H' v sl → Q v H') → wpAny (model X.prog X.w) X.A (call f [v]) (EP X pins σ Q) X.xe s) (h1 : ∀ ds sl, evP p ds = some sl → ∃ d, ds = [d]) : CallR X f (rP (bsOf X) p) := by
  rintro pins s σ H xs us Q I r ⟨N, ds, sl, ra, e, q⟩
  obtain ⟨d, rfl⟩ := h1 ds sl e
  obtain ⟨v, rfl, a⟩ := ra.one
  obtain ⟨u, rfl, ru⟩ := vals1 r
  exact h pins s σ H v u Q N d sl I ru a e q

theorem p_add : OpR X (binaryOp .Add) (rP2 (bsOf X) .add) := opR_of fun pins s σ H x y v u Q N d e sl I rx ry a b h q => by
  change pAdd [d, e] = some sl at h
  unfold pAdd at h
  split at h <;> try cases h
  · rename_i i j z; injection z with z1 z2; injection z2 with z2 _; subst z1; subst z2
    cases a.int; cases b.int
    exact op_add pins s σ H _ _ v u Q I rx ry ⟨_, _, rfl, rfl, q _ _ (.flat fun _ => .int _)⟩
  · rename_i xs ys z; injection z with z1 z2; injection z2 with z2 _; subst z1; subst z2
    split at h <;> cases h
    rename_i hz; rw [lineN_eq] at hz
    obtain ⟨p, vs, rfl, hp, r1⟩ := a.tuple
    obtain ⟨p2, ws, rfl, hp2, r2⟩ := b.tuple
    refine op_catA pins s σ H _ _ v u Q I rx ry ⟨p, p2, vs, ws, rfl, rfl, hp, hp2, by rw [r1.length, r2.length]; exact hz, fun e => ?_, fun _ e => ?_, fun _ _ p np => q _ _ (.newTup np (r1.append r2))⟩
    · subst e; cases r1; exact q _ _ (.part (.tup hp2 r2))
    · subst e; cases r2; exact q _ _ (.part (.tup hp (by simpa using r1)))
  · rename_i xs ys z; injection z with z1 z2; injection z2 with z2 _; subst z1; subst z2
    split at h <;> cases h
    rename_i hz; rw [lineN_eq] at hz
    obtain ⟨p, vs, rfl, hp, r1⟩ := a.list
    obtain ⟨p2, ws, rfl, hp2, r2⟩ := b.list
    cases rx; cases ry
    obtain ⟨z, its, n, g, e⟩ := hp.ok I.hok
    obtain ⟨z2, its2, n2, g2, e2⟩ := hp2.ok I.hok
    have l1 := g.length; have l2 := g2.length; have l3 := r1.length; have l4 := r2.length
    refine PySem.P.add_list e e2 ?_ (by rw [List.size_toArray, List.size_toArray]; omega)
    rw [show its.toArray ++ its2.toArray = (its ++ its2).toArray by simp]
    exact ⟨.ref _, _, I.lnew (t' := s.toks) (g.append g2) (by rw [List.length_append]; omega), rfl, q _ _ (.newLst I.fresh (r1.append r2))⟩
  · rename_i xs ys z; injection z with z1 z2; injection z2 with z2 _; subst z1; subst z2
    split at h <;> cases h
    rename_i hz; rw [lineN_eq] at hz
    cases a.str; cases b.str
    exact op_add_str pins s σ H _ _ v u Q I rx ry ⟨_, _, rfl, rfl, hz, q _ _ (.flat fun _ => .str _)⟩

/-- whole numbers -/
theorem ints2 {B : Bs} {N : Addr → Prop} {H : Hp} {x y : V} {i j : Int} (a : RA B N H x (.int i)) (b : RA B N H y (.int j)) : x = .int i ∧ y = .int j := ⟨a.int, b.int⟩
theorem p_sub : OpR X (binaryOp .Sub) (rP2 (bsOf X) .sub) := opR_of fun pins s σ H x y v u Q N d e sl I rx ry a b h q => by
  change pSub [d, e] = some sl at h
  unfold pSub at h
  split at h <;> cases h
  rename_i i j z; injection z with z1 z2; injection z2 with z2 _; subst z1; subst z2
  obtain ⟨rfl, rfl⟩ := ints2 a b
  exact op_sub pins s σ H _ _ v u Q I rx ry ⟨_, _, rfl, rfl, q _ _ (.flat fun _ => .int _)⟩
theorem p_mul : OpR X (binaryOp .Mult) (rP2 (bsOf X) .mul) := opR_of fun pins s σ H x y v u Q N d e sl I rx ry a b h q => by
  change pMul [d, e] = some sl at h
  unfold pMul at h
  split at h <;> try cases h
  rename_i i j z; injection z with z1 z2; injection z2 with z2 _; subst z1; subst z2
  split at h <;> cases h
  rename_i hz
  obtain ⟨rfl, rfl⟩ := ints2 a b
  exact op_mul pins s σ H _ _ v u Q I rx ry ⟨_, _, rfl, rfl, hz, q _ _ (.flat fun _ => .int _)⟩
theorem p_mod : OpR X (binaryOp .Mod) (rP2 (bsOf X) .mod) := opR_of fun pins s σ H x y v u Q N d e sl I rx ry a b h q => by
  change pMod [d, e] = some sl at h
  unfold pMod at h
  split at h <;> try cases h
  rename_i i j z; injection z with z1 z2; injection z2 with z2 _; subst z1; subst z2
  split at h <;> cases h
  rename_i hz
  obtain ⟨rfl, rfl⟩ := ints2 a b
  exact op_mod pins s σ H _ _ v u Q I rx ry ⟨_, _, rfl, rfl, hz, q _ _ (.flat fun _ => .int _)⟩
theorem p_fdiv : OpR X (binaryOp .FloorDiv) (rP2 (bsOf X) .fdiv) := opR_of fun pins s σ H x y v u Q N d e sl I rx ry a b h q => by
  change pFdiv [d, e] = some sl at h
  unfold pFdiv at h
  split at h <;> try cases h
  rename_i i j z; injection z with z1 z2; injection z2 with z2 _; subst z1; subst z2
  split at h <;> cases h
  rename_i hz
  obtain ⟨rfl, rfl⟩ := ints2 a b
  exact op_fdiv pins s σ H _ _ v u Q I rx ry ⟨_, _, rfl, rfl, hz, q _ _ (.flat fun _ => .int _)⟩
theorem p_pow : OpR X (binaryOp .Pow) (rP2 (bsOf X) .pow) := opR_of fun pins s σ H x y v u Q N d e sl I rx ry a b h q => by
  change pPow [d, e] = some sl at h
  unfold pPow at h
  split at h <;> try cases h
  rename_i i j z; injection z with z1 z2; injection z2 with z2 _; subst z1; subst z2
  split at h <;> cases h
  rename_i hz
  obtain ⟨rfl, rfl⟩ := ints2 a b
  exact op_pow pins s σ H _ _ v u Q I rx ry ⟨_, _, rfl, rfl, hz, q _ _ (.flat fun _ => .int _)⟩
theorem p_neg : UnR X (unaryOp .USub) (rP1 (bsOf X) .neg) := by
  rintro pins s σ H x v Q I rx ⟨N, ds, sl, ra, h, q⟩
  cases ra with
  | cons a t =>
    cases t
    change pNeg _ = some sl at h
    unfold pNeg at h
    split at h <;> cases h
    rename_i i z; injection z with z1 z2; subst z1
    cases a.int
    exact un_neg pins s σ H _ v Q I rx ⟨_, rfl, q _ _ (.flat fun _ => .int _)⟩

/-! ### comparisons -/
theorem rel_reads {pins : List (Addr × Obj)} {s : Shared} {σ : L2.St} {H : Hp} {x : V} {v : Value} {N : Addr → Prop} {d : D} (I : Inv X pins σ H s) (rx : RelV x v) (a : RA (bsOf X) N H x d) (hp : PyData.plain d = true) : ∃ as, Reads s.heap v d as :=
  Dp.reads I d x v (ra_dp hp a) rx
theorem okEq_and {d : D} (h : okEq d = true) : PyData.plain d = true ∧ d.depth ≤ 64 := by
  unfold okEq at h
  rw [Bool.and_eq_true, decide_eq_true_eq] at h
  exact h
theorem okLt_and {a b : D} (h : okLt a b = true) : PySem.W.alike a b = true ∧ PyData.plain a = true ∧ PyData.plain b = true ∧ a.depth ≤ 60 ∧ a ≠ .none := by
  unfold okLt at h
  rw [Bool.and_eq_true, Bool.and_eq_true, Bool.and_eq_true, Bool.and_eq_true, decide_eq_true_eq] at h
  refine ⟨h.1.1.1.1, h.1.1.1.2, h.1.1.2, h.1.2, fun e => ?_⟩
  rw [e] at h
  exact Bool.noConfusion h.2
variable (hu : X.A.units + 150 < cLine)
include hu
theorem p_eqd : OpR X (compareOp .Eq) (rP2 (bsOf X) .eq) := opR_of fun pins s σ H x y v u Q N d e sl I rx ry a b h q => by
  change (if okEq d && okEq e then shB (PyData.eqv d e) else none) = some sl at h
  split at h <;> cases h
  rename_i hz
  rw [Bool.and_eq_true] at hz
  obtain ⟨p1, q1⟩ := okEq_and hz.1
  obtain ⟨p2, q2⟩ := okEq_and hz.2
  obtain ⟨as, r1⟩ := rel_reads I rx a p1
  obtain ⟨bs, r2⟩ := rel_reads I ry b p2
  exact SeqAt.eq_plain r1 r2 p1 p2 (by omega) ⟨.bl _, H, I, rfl, q _ _ (.flat fun _ => .bl _)⟩
theorem p_ned : OpR X (compareOp .NotEq) (rP2 (bsOf X) .ne) := opR_of fun pins s σ H x y v u Q N d e sl I rx ry a b h q => by
  change (if okEq d && okEq e then shB (!PyData.eqv d e) else none) = some sl at h
  split at h <;> cases h
  rename_i hz
  rw [Bool.and_eq_true] at hz
  obtain ⟨p1, q1⟩ := okEq_and hz.1
  obtain ⟨p2, q2⟩ := okEq_and hz.2
  obtain ⟨as, r1⟩ := rel_reads I rx a p1
  obtain ⟨bs, r2⟩ := rel_reads I ry b p2
  exact SeqAt.ne_plain r1 r2 p1 p2 (by omega) ⟨.bl _, H, I, rfl, q _ _ (.flat fun _ => .bl _)⟩
theorem p_lt : OpR X (compareOp .Lt) (rP2 (bsOf X) .lt) := opR_of fun pins s σ H x y v u Q N d e sl I rx ry a b h q => by
  change (if okLt d e then shB (PySem.W.dataLt d e) else none) = some sl at h
  split at h <;> cases h
  rename_i hz
  obtain ⟨ha, p1, p2, hd, hn⟩ := okLt_and hz
  obtain ⟨as, r1⟩ := rel_reads I rx a p1
  obtain ⟨bs, r2⟩ := rel_reads I ry b p2
  exact PySem.W.lt_data r1 r2 ha hn (by omega) ⟨.bl _, H, I, rfl, q _ _ (.flat fun _ => .bl _)⟩
theorem p_gt : OpR X (compareOp .Gt) (rP2 (bsOf X) .gt) := opR_of fun pins s σ H x y v u Q N d e sl I rx ry a b h q => by
  change (if okLt d e then shB (PySem.W.dataLt e d) else none) = some sl at h
  split at h <;> cases h
  rename_i hz
  obtain ⟨ha, p1, p2, hd, hn⟩ := okLt_and hz
  obtain ⟨as, r1⟩ := rel_reads I rx a p1
  obtain ⟨bs, r2⟩ := rel_reads I ry b p2
  exact PySem.W.gt_data r1 r2 ha hn (by omega) ⟨.bl _, H, I, rfl, q _ _ (.flat fun _ => .bl _)⟩
theorem p_le : OpR X (compareOp .LtE) (rP2 (bsOf X) .le) := opR_of fun pins s σ H x y v u Q N d e sl I rx ry a b h q => by
  change (if okLt d e then shB (!PySem.W.dataLt e d) else none) = some sl at h
  split at h <;> cases h
  rename_i hz
  obtain ⟨ha, p1, p2, hd, hn⟩ := okLt_and hz
  obtain ⟨as, r1⟩ := rel_reads I rx a p1
  obtain ⟨bs, r2⟩ := rel_reads I ry b p2
  exact PySem.W.le_data r1 r2 ha hn (by omega) ⟨.bl _, H, I, rfl, q _ _ (.flat fun _ => .bl _)⟩
theorem p_ge : OpR X (compareOp .GtE) (rP2 (bsOf X) .ge) := opR_of fun pins s σ H x y v u Q N d e sl I rx ry a b h q => by
  change (if okLt d e then shB (!PySem.W.dataLt d e) else none) = some sl at h
  split at h <;> cases h
  rename_i hz
  obtain ⟨ha, p1, p2, hd, hn⟩ := okLt_and hz
  obtain ⟨as, r1⟩ := rel_reads I rx a p1
  obtain ⟨bs, r2⟩ := rel_reads I ry b p2
  exact PySem.W.ge_data r1 r2 ha hn (by omega) ⟨.bl _, H, I, rfl, q _ _ (.flat fun _ => .bl _)⟩
omit hu in
theorem ra_none {N : Addr → Prop} {H : Hp} {x : V} {d : D} (a : RA (bsOf X) N H x d) : decide (x = .non) = isNoneD d := by
  cases d with
  | none => rw [a.none]; rfl
  | bool b => rw [a.bool]; rfl
  | int i => rw [a.int]; rfl
  | str z => rw [a.str]; rfl
  | list z => obtain ⟨p, _, rfl, _⟩ := a.list; rfl
  | tuple z => obtain ⟨p, _, rfl, _⟩ := a.tuple; rfl
  | dict z =>
    rcases a with a | ⟨p, rfl, _⟩
    · cases a with
      | mu _ _ => rfl
      | kd _ => rfl
    · rfl
omit hu in
theorem p_isN {pins : List (Addr × Obj)} {s : Shared} {σ : L2.St} {H : Hp} {x : V} {Q : VK} (I : Inv X pins σ H s) (h : rP (bsOf X) .isN [x] H Q) : Q (.bl (decide (x = .non))) H := by
  obtain ⟨N, ds, sl, ra, e, q⟩ := h
  cases ra with
  | cons a t =>
    cases t
    rename_i d
    have e' : shB (isNoneD d) = some sl := by rw [← e]; cases d <;> rfl
    cases e'
    rw [ra_none a]
    exact q _ _ (.flat fun _ => .bl _)
omit hu in
theorem p_notN {pins : List (Addr × Obj)} {s : Shared} {σ : L2.St} {H : Hp} {x : V} {Q : VK} (I : Inv X pins σ H s) (h : rP (bsOf X) .notN [x] H Q) : Q (.bl (!decide (x = .non))) H := by
  obtain ⟨N, ds, sl, ra, e, q⟩ := h
  cases ra with
  | cons a t =>
    cases t
    rename_i d
    have e' : shB (!isNoneD d) = some sl := by rw [← e]; cases d <;> rfl
    cases e'
    rw [ra_none a]
    exact q _ _ (.flat fun _ => .bl _)

/-! ### in, not in -/
omit hu in
theorem okEq_list {xs : List D} (h : okEq (.list xs) = true) : PyData.plainAll xs = true ∧ PyData.depthAll xs ≤ 64 := by
  obtain ⟨h1, h2⟩ := okEq_and h
  simp only [PyData.plain] at h1
  simp only [PyData.depth] at h2
  exact ⟨h1, by omega⟩
omit hu in
theorem okEq_tuple {xs : List D} (h : okEq (.tuple xs) = true) : PyData.plainAll xs = true ∧ PyData.depthAll xs ≤ 64 := by
  obtain ⟨h1, h2⟩ := okEq_and h
  simp only [PyData.plain] at h1
  simp only [PyData.depth] at h2
  exact ⟨h1, by omega⟩
end
end C
end
section
set_option Elab.async false
set_option linter.all false
set_option maxRecDepth 100000
set_option maxHeartbeats 1000000
/-! Dicts: what is asked of them, what is put into them. -/
namespace C
open PySem PySem.Spec L2
variable [Lams]

theorem eqv_key (a b : Key) : PyData.eqv (keyD a) (keyD b) = decide (a = b) := by
  cases a with
  | inl i => cases b with
    | inl j => rw [key_ll]; rfl
    | inr y => rw [key_lr]; rfl
  | inr x => cases b with
    | inl j => rw [key_rl]; rfl
    | inr y =>
      rw [key_rr]
      show (x == y) = decide (x = y)
      rw [Bool.beq_eq_decide_eq]
mutual
theorem eqv_nk : ∀ a b : NestedKey, PyData.eqv a.data b.data = NestedKey.beq a b
  | .none, .none => by rw [NestedKey.data, PyData.eqv, NestedKey.beq]
  | .none, .num _ => by rw [NestedKey.data, NestedKey.data, PyData.eqv, NestedKey.beq]
  | .none, .text _ => by rw [NestedKey.data, NestedKey.data, PyData.eqv, NestedKey.beq]
  | .none, .tup _ => by rw [NestedKey.data, NestedKey.data, PyData.eqv, NestedKey.beq]
  | .num _, .none => by rw [NestedKey.data, NestedKey.data, PyData.eqv, NestedKey.beq]
  | .num a, .num b => by rw [NestedKey.data, NestedKey.data, PyData.eqv, NestedKey.beq, Bool.beq_eq_decide_eq]
  | .num _, .text _ => by rw [NestedKey.data, NestedKey.data, PyData.eqv, NestedKey.beq]
  | .num _, .tup _ => by rw [NestedKey.data, NestedKey.data, PyData.eqv, NestedKey.beq]
  | .text _, .none => by rw [NestedKey.data, NestedKey.data, PyData.eqv, NestedKey.beq]
  | .text _, .num _ => by rw [NestedKey.data, NestedKey.data, PyData.eqv, NestedKey.beq]
  | .text a, .text b => by rw [NestedKey.data, NestedKey.data, PyData.eqv, NestedKey.beq, Bool.beq_eq_decide_eq]
  | .text _, .tup _ => by rw [NestedKey.data, NestedKey.data, PyData.eqv, NestedKey.beq]
  | .tup _, .none => by rw [NestedKey.data, NestedKey.data, PyData.eqv, NestedKey.beq]
  | .tup _, .num _ => by rw [NestedKey.data, NestedKey.data, PyData.eqv, NestedKey.beq]
  | .tup _, .text _ => by rw [NestedKey.data, NestedKey.data, PyData.eqv, NestedKey.beq]
  | .tup xs, .tup ys => by rw [NestedKey.data, NestedKey.data, PyData.eqv, NestedKey.beq, eqv_nks xs ys]
theorem eqv_nks : ∀ a b : List NestedKey, PyData.eqvAll (NestedKey.datas a) (NestedKey.datas b) = NestedKey.beqAll a b
  | [], [] => by rw [NestedKey.datas, PyData.eqvAll, NestedKey.beqAll]
  | [], _ :: _ => by rw [NestedKey.datas, NestedKey.datas, PyData.eqvAll, NestedKey.beqAll]
  | _ :: _, [] => by rw [NestedKey.datas, NestedKey.datas, PyData.eqvAll, NestedKey.beqAll]
  | a :: as, b :: bs => by rw [NestedKey.datas, NestedKey.datas, PyData.eqvAll, NestedKey.beqAll, eqv_nk a b, eqv_nks as bs]
end
theorem eqv_nkd (a b : NestedKey) : PyData.eqv a.data b.data = decide (a = b) := by rw [eqv_nk, NestedKey.decide_eq]

mutual
def nkOf : D → NestedKey
  | .none => .none
  | .int i => .num i
  | .str x => .text x
  | .tuple xs => .tup (nksOf xs)
  | _ => .none
def nksOf : List D → List NestedKey
  | [] => []
  | x :: xs => nkOf x :: nksOf xs
end
mutual
theorem nk_data : ∀ {d : D}, nestD d = true → (nkOf d).data = d
  | .none, _ => by simp [nkOf, NestedKey.data]
  | .int _, _ => by simp [nkOf, NestedKey.data]
  | .str _, _ => by simp [nkOf, NestedKey.data]
  | .tuple xs, h => by
    simp only [nestD] at h
    simp only [nkOf, NestedKey.data, nks_data h]
  | .bool _, h => by simp [nestD] at h
  | .list _, h => by simp [nestD] at h
  | .dict _, h => by simp [nestD] at h
theorem nks_data : ∀ {ds : List D}, nestAll ds = true → NestedKey.datas (nksOf ds) = ds
  | [], _ => by simp [nksOf, NestedKey.datas]
  | d :: ds, h => by
    simp only [nestAll, Bool.and_eq_true] at h
    simp only [nksOf, NestedKey.datas, nk_data h.1, nks_data h.2]
end
mutual
theorem data_nk : ∀ k : NestedKey, nkOf k.data = k
  | .none => by simp [nkOf, NestedKey.data]
  | .num _ => by simp [nkOf, NestedKey.data]
  | .text _ => by simp [nkOf, NestedKey.data]
  | .tup ks => by simp only [nkOf, NestedKey.data, datas_nk ks]
theorem datas_nk : ∀ ks : List NestedKey, nksOf (NestedKey.datas ks) = ks
  | [] => by simp [nksOf, NestedKey.datas]
  | k :: ks => by simp only [nksOf, NestedKey.datas, data_nk k, datas_nk ks]
end
mutual
theorem nest_data : ∀ k : NestedKey, nestD k.data = true
  | .none => by simp [nestD, NestedKey.data]
  | .num _ => by simp [nestD, NestedKey.data]
  | .text _ => by simp [nestD, NestedKey.data]
  | .tup ks => by simp only [nestD, NestedKey.data, nest_datas ks]
theorem nest_datas : ∀ ks : List NestedKey, nestAll (NestedKey.datas ks) = true
  | [] => by simp [nestAll, NestedKey.datas]
  | k :: ks => by simp only [nestAll, NestedKey.datas, nest_data k, nest_datas ks, Bool.and_self]
end
mutual
theorem nk_depth : ∀ {d : D}, nestD d = true → (nkOf d).depth = d.depth
  | .none, _ => by simp [nkOf, NestedKey.depth, PyData.depth]
  | .int _, _ => by simp [nkOf, NestedKey.depth, PyData.depth]
  | .str _, _ => by simp [nkOf, NestedKey.depth, PyData.depth]
  | .tuple xs, h => by
    simp only [nestD] at h
    simp only [nkOf, NestedKey.depth, PyData.depth, nks_depth h]
  | .bool _, h => by simp [nestD] at h
  | .list _, h => by simp [nestD] at h
  | .dict _, h => by simp [nestD] at h
theorem nks_depth : ∀ {ds : List D}, nestAll ds = true → NestedKey.depthAll (nksOf ds) = PyData.depthAll ds
  | [], _ => by simp [nksOf, NestedKey.depthAll, PyData.depthAll]
  | d :: ds, h => by
    simp only [nestAll, Bool.and_eq_true] at h
    simp only [nksOf, NestedKey.depthAll, PyData.depthAll, nk_depth h.1, nks_depth h.2]
end
mutual
theorem nest_plain : ∀ {d : D}, nestD d = true → PyData.plain d = true
  | .none, _ => by simp [PyData.plain]
  | .int _, _ => by simp [PyData.plain]
  | .str _, _ => by simp [PyData.plain]
  | .tuple xs, h => by
    simp only [nestD] at h
    simp only [PyData.plain, nests_plain h]
  | .bool _, h => by simp [nestD] at h
  | .list _, h => by simp [nestD] at h
  | .dict _, h => by simp [nestD] at h
theorem nests_plain : ∀ {ds : List D}, nestAll ds = true → PyData.plainAll ds = true
  | [], _ => by simp [PyData.plainAll]
  | d :: ds, h => by
    simp only [nestAll, Bool.and_eq_true] at h
    simp only [PyData.plainAll, nest_plain h.1, nests_plain h.2, Bool.and_self]
end
mutual
theorem reads_nested {h : Heap} : ∀ {d : D} {v : Value} {as : List Addr}, nestD d = true → Reads h v d as → NestedIs h (nkOf d) v
  | .none, _, _, _, r => by cases r; simp only [nkOf]; exact .none
  | .int _, _, _, _, r => by cases r; simp only [nkOf]; exact .int _ _
  | .str _, _, _, _, r => by cases r; simp only [nkOf]; exact .text _ _
  | .tuple xs, _, _, hn, r => by
    simp only [nestD] at hn
    cases r with
    | tuple h1 h2 h3 h4 => simp only [nkOf]; exact .tup h1 h2 h3 (reads_nesteds hn h4)
  | .bool _, _, _, hn, _ => by simp [nestD] at hn
  | .list _, _, _, hn, _ => by simp [nestD] at hn
  | .dict _, _, _, hn, _ => by simp [nestD] at hn
theorem reads_nesteds {h : Heap} : ∀ {ds : List D} {vs : List Value} {as : List Addr}, nestAll ds = true → ReadsAll h vs ds as → NestedAll h (nksOf ds) vs
  | [], _, _, _, r => by cases r; simp only [nksOf]; exact .nil
  | d :: ds, _, _, hn, r => by
    simp only [nestAll, Bool.and_eq_true] at hn
    cases r with
    | cons r1 r2 => simp only [nksOf]; exact .cons (reads_nested hn.1 r1) (reads_nesteds hn.2 r2)
end

section
variable {B : Bs} {N : Addr → Prop} {H : Hp}
/-- both there, and related; or both not -/
def OptR (B : Bs) (N : Addr → Prop) (H : Hp) : Option V → Option D → Prop
  | some v, some d => Rp B N H v d
  | none, none => True
  | _, _ => False
theorem look_rel {κ : Type} [DecidableEq κ] (f : κ → D) (hf : ∀ a b, PyData.eqv (f a) (f b) = decide (a = b)) (k : κ) : ∀ {kvs : List (κ × V)} {ds : List (D × D)},
    kvs.map (fun p => f p.1) = ds.map (·.1) → RpA B N H (kvs.map (·.2)) (ds.map (·.2)) → OptR B N H (valV kvs k) (dlook ds (f k))
  | [], ds, e, _ => by
    have : ds = [] := by cases ds with | nil => rfl | cons _ _ => simp at e
    subst this; trivial
  | (a, v) :: kvs, ds, e, r => by
    cases ds with
    | nil => simp at e
    | cons q ds =>
      obtain ⟨b, d⟩ := q
      simp only [List.map_cons, List.cons.injEq] at e
      obtain ⟨e1, e2⟩ := e
      subst e1
      cases r with
      | cons r1 r2 =>
        unfold valV dlook
        rw [List.find?_cons, List.find?_cons]
        simp only [hf]
        by_cases h : a = k
        · simp only [h, decide_true]; exact r1
        · simp only [h, decide_false]
          have ih := look_rel f hf k e2 r2
          unfold valV dlook at ih
          exact ih
theorem any_rel {κ : Type} [DecidableEq κ] (f : κ → D) (hf : ∀ a b, PyData.eqv (f a) (f b) = decide (a = b)) (k : κ) : ∀ {kvs : List (κ × V)} {ds : List (D × D)},
    kvs.map (fun p => f p.1) = ds.map (·.1) → (kvs.any fun p => decide (p.1 = k)) = ds.any fun p => PyData.eqv p.1 (f k)
  | [], ds, e => by
    have : ds = [] := by cases ds with | nil => rfl | cons _ _ => simp at e
    subst this; rfl
  | (a, v) :: kvs, ds, e => by
    cases ds with
    | nil => simp at e
    | cons q ds =>
      simp only [List.map_cons, List.cons.injEq] at e
      rw [List.any_cons, List.any_cons, any_rel f hf k e.2, ← e.1, hf]
theorem put_relM {κ : Type} [DecidableEq κ] (f : κ → D) (hf : ∀ a b, PyData.eqv (f a) (f b) = decide (a = b)) (k : κ) {v : V} {d : D} (rv : Rp B N H v d) : ∀ {kvs : List (κ × V)} {ds : List (D × D)},
    kvs.map (fun p => f p.1) = ds.map (·.1) → RpA B N H (kvs.map (·.2)) (ds.map (·.2)) →
    (kvs.map fun kv => if kv.1 = k then (kv.1, v) else kv).map (fun p => f p.1) = (ds.map fun p => if PyData.eqv p.1 (f k) then (p.1, d) else p).map (·.1) ∧
      RpA B N H ((kvs.map fun kv => if kv.1 = k then (kv.1, v) else kv).map (·.2)) ((ds.map fun p => if PyData.eqv p.1 (f k) then (p.1, d) else p).map (·.2))
  | [], ds, e, _ => by
    have : ds = [] := by cases ds with | nil => rfl | cons _ _ => simp at e
    subst this; exact ⟨rfl, .nil⟩
  | p :: kvs, ds, e, r => by
    cases ds with
    | nil => simp at e
    | cons q ds =>
      simp only [List.map_cons, List.cons.injEq] at e
      cases r with
      | cons r1 r2 =>
        obtain ⟨i1, i2⟩ := put_relM f hf k rv e.2 r2
        simp only [List.map_cons]
        rw [← e.1, hf]
        by_cases h : p.1 = k
        · simp only [h, decide_true, if_true, List.cons.injEq]
          exact ⟨⟨trivial, i1⟩, .cons rv i2⟩
        · simp only [h, decide_false, if_false, Bool.false_eq_true, List.cons.injEq]
          exact ⟨⟨e.1, i1⟩, .cons r1 i2⟩
theorem put_rel {κ : Type} [DecidableEq κ] (f : κ → D) (hf : ∀ a b, PyData.eqv (f a) (f b) = decide (a = b)) (k : κ) {v : V} {d : D} (rv : Rp B N H v d) {kvs : List (κ × V)} {ds : List (D × D)}
    (e : kvs.map (fun p => f p.1) = ds.map (·.1)) (r : RpA B N H (kvs.map (·.2)) (ds.map (·.2))) :
    (putK kvs k v).map (fun p => f p.1) = (dput ds (f k) d).map (·.1) ∧ RpA B N H ((putK kvs k v).map (·.2)) ((dput ds (f k) d).map (·.2)) := by
  unfold putK dput
  rw [any_rel f hf k e]
  split
  · exact put_relM f hf k rv e r
  · rw [List.map_append, List.map_append, List.map_append, List.map_append, e]
    exact ⟨rfl, r.append (.cons rv .nil)⟩
end

section
variable {X : Cx} {pins : List (Addr × Obj)} {s : Shared} {σ : L2.St} {H : Hp} {N : Addr → Prop}
theorem key_of_int {y : V} {i : Int} (b : RA (bsOf X) N H y (.int i)) : y = kV (.inl i) := b.int
theorem paired_right {α β : Type} {G : α → β → Prop} {l₁ : List α} {l₂ : List β} (h : Paired G l₁ l₂) : ∀ {i : Nat} {b : β}, l₂[i]? = some b → ∃ a, l₁[i]? = some a ∧ G a b := by
  induction h with
  | nil => intro i b e; simp at e
  | cons q t ih =>
    intro i b e
    cases i with
    | zero => simp at e; subst e; exact ⟨_, rfl, q⟩
    | succ i => obtain ⟨p, h1, h2⟩ := ih (i := i) (by simpa using e); exact ⟨p, by simpa using h1, h2⟩
theorem data_inj {a b : NestedKey} (h : a.data = b.data) : a = b := by
  have := congrArg nkOf h
  rwa [data_nk, data_nk] at this
/-- the keys of a dict as they lie -/
theorem dn_dict (I : Inv X pins σ H s) {a : Addr} {xs : List NEnt} {ds : List (D × D)} (h : H a = some (dN (bsOf X) a xs)) (hk : xs.map (fun p => p.1.data) = ds.map (·.1)) (h8 : ∀ p ∈ xs, p.1.depth ≤ 8)
    (r : RpA (bsOf X) N H (xs.map fun p => V.ref p.2.1) (ds.map (·.1))) :
    xs.length ≤ sizeLine ∧ (a == sysModules) = false ∧ ∃ ys : List (NestedKey × Addr × Value), Paired (fun p q => p.1 = q.1 ∧ p.2.1 = q.2.1 ∧ RelV p.2.2 q.2.2) xs ys ∧ s.heap.DictOfH (nestedKind X.prog X.w) a ys := by
  obtain ⟨⟨z, hs, ys, pr, o, es, ep, g, ex, dat, es', nd⟩, _, _⟩ := I.hok a _ h
  refine ⟨z, hs, ys, pr, o, es, ep, g, ex, dat, es', fun y hy => ?_, nd⟩
  obtain ⟨i, hi⟩ := List.getElem?_of_mem hy
  obtain ⟨p, hp, e1, e2, e3⟩ := paired_right pr hi
  have hd : (ds.map (·.1))[i]? = some p.1.data := by rw [← hk, List.getElem?_map, hp]; rfl
  obtain ⟨v, hv, rv⟩ := r.get hd
  rw [List.getElem?_map, hp] at hv
  cases hv
  have np := nest_data p.1
  obtain ⟨as, q⟩ := rel_reads I (show RelV (.ref p.2.1) (.ref p.2.1) from rfl) (.inl rv) (nest_plain np)
  have := reads_nested np q
  rw [data_nk] at this
  rw [← e1, ← e2]
  exact ⟨this, h8 p (List.mem_of_getElem? hp)⟩
/-- nothing stands under any key -/
theorem dict_nil {a : Addr} {h : Heap} (x : h.DictOf (mixKind X.prog X.w) a []) : h.DictOfH (nestedKind X.prog X.w) a [] := by
  obtain ⟨o, es, ep, g, ex, dat, _, pr, _⟩ := x
  have : es.toList = [] := by
    generalize es.toList = l at pr
    cases pr; rfl
  exact ⟨o, es, ep, g, ex, dat, this, fun _ z => absurd z (by simp), List.nodup_nil⟩
theorem map_nil_of {α β γ : Type} {f : α → γ} {g : β → γ} {xs : List α} {ys : List β} (e : xs.map f = ys.map g) (h : ys = []) : xs = [] := by
  subst h; cases xs with | nil => rfl | cons _ _ => simp at e
theorem all_nil {α : Type} {p q : α → Bool} {l : List α} (h : l.all p = true) (k : l.all q = true) (d : ∀ x, p x = true → q x = true → False) : l = [] := by
  cases l with
  | nil => rfl
  | cons x l =>
    simp only [List.all_cons, Bool.and_eq_true] at h k
    exact (d x h.1 k.1).elim
theorem keyD_tup (k : Key) : tupKey (keyD k) = false := by cases k <;> rfl
theorem data_tup {k : NestedKey} : isStrD k.data = true ∨ isIntD k.data = true → tupKey k.data = false := by
  cases k <;> simp [NestedKey.data, isStrD, isIntD, tupKey]

theorem kd_strs : ∀ {es : List DictEntry} {kvs : List (D × D)}, Paired KEnt es kvs → kvs.all (fun p => isStrD p.1) = true
  | _, _, .nil => rfl
  | _, _, .cons r t => by
    obtain ⟨⟨z, t', _, e⟩, _⟩ := r
    rw [List.all_cons, e, kd_strs t]; rfl
theorem kd_norefs : ∀ {es : List DictEntry} {kvs : List (D × D)}, Paired KEnt es kvs → es.any (·.refKey) = false
  | _, _, .nil => rfl
  | _, _, .cons r t => by
    obtain ⟨⟨z, t', e, _⟩, _⟩ := r
    rw [List.any_cons, kd_norefs t, Bool.or_false]
    unfold DictEntry.refKey; rw [e]
theorem kd_find (z : Str) : ∀ {es : List DictEntry} {kvs : List (D × D)}, Paired KEnt es kvs → ∃ ov, RelO ov ((es.find? (·.key.isStr z)).map (·.val)) ∧ OptR (bsOf X) N H ov (dlook kvs (.str z))
  | _, _, .nil => ⟨none, trivial, trivial⟩
  | _, _, .cons (a := e) (b := kv) r t => by
    obtain ⟨⟨y, t', ek, ed⟩, hv⟩ := r
    obtain ⟨ov, h1, h2⟩ := kd_find z t
    unfold dlook at h2 ⊢
    rw [List.find?_cons, List.find?_cons, ek, ed]
    have e1 : Value.isStr (.str y t') z = (y == z) := rfl
    have e2 : PyData.eqv (.str y) (.str z) = (y == z) := by rw [PyData.eqv]
    rw [e1, e2]
    by_cases h : (y == z) = true
    · simp only [h]
      cases hd : kv.2 with
      | int i => rw [hd] at hv; exact ⟨some (.int i), hv, by simp only [Option.map_some, hd]; exact .int i⟩
      | str i => rw [hd] at hv; exact ⟨some (.str i), hv, by simp only [Option.map_some, hd]; exact .str i⟩
      | _ => rw [hd] at hv; exact hv.elim
    · simp only [h]
      exact ⟨ov, h1, h2⟩
theorem kd_look {a : Addr} {es : Array DictEntry} {n : Nat} {kvs : List (D × D)} (kd : KDict X.K X.w a es n) (pr : Paired KEnt es.toList kvs) (z : Str) : ∃ r ov, PySem.W.nsIn X.K a z = some r ∧ RelO ov r ∧ OptR (bsOf X) N H ov (dlook kvs (.str z)) := by
  obtain ⟨ov, h1, h2⟩ := kd_find (X := X) (N := N) (H := H) z pr
  refine ⟨_, ov, ?_, h1, h2⟩
  unfold PySem.W.nsIn
  rw [kd.at_]
  simp only
  cases e : es.toList.find? (·.key.isStr z) with
  | some en => rfl
  | none => simp only [kd_norefs pr]; rfl
/-- what a dict holds at a key, as the machine sees it -/
inductive Ask (X : Cx) (s : Shared) (H : Hp) (N : Addr → Prop) (a : Addr) (y : V) (o : Option D) : Prop
  | val {kvs : List (Key × V)} {k : Key} : Rd H a (.dK kvs) → y = kV k → OptR (bsOf X) N H (valV kvs k) o → Ask X s H N a y o
  | obj {ys : List (NestedKey × Addr × Value)} {k : NestedKey} {b : Addr} {ov : Option V} : s.heap.DictOfH (nestedKind X.prog X.w) a ys → (a == sysModules) = false → y = .ref b → (nestedKind X.prog X.w).is s.heap k b →
      RelO ov ((atKey ys k).map (·.2)) → OptR (bsOf X) N H ov o → Ask X s H N a y o
  | wr {z : Str} {es : Array DictEntry} {n : Nat} {r : Option Value} {ov : Option V} : KDict X.K X.w a es n → y = .str z → PySem.W.nsIn X.K a z = some r → RelO ov r → OptR (bsOf X) N H ov o → Ask X s H N a y o
theorem relO_find : ∀ {xs : List NEnt} {ys : List (NestedKey × Addr × Value)}, Paired (fun p q => p.1 = q.1 ∧ p.2.1 = q.2.1 ∧ RelV p.2.2 q.2.2) xs ys → ∀ k, RelO (valV (xs.map fun p => (p.1, p.2.2)) k) ((atKey ys k).map (·.2))
  | _, _, .nil, k => trivial
  | _, _, .cons (a := p) (b := q) r t, k => by
    unfold valV atKey
    rw [List.map_cons, List.find?_cons, List.find?_cons]
    simp only [← r.1]
    by_cases h : p.1 = k
    · simp only [h, decide_true]; exact r.2.2
    · simp only [h, decide_false]
      have ih := relO_find t k
      unfold valV atKey at ih
      exact ih
theorem ask_of (I : Inv X pins σ H s) {x y : V} {ds : List (D × D)} {k : D} (a : RA (bsOf X) N H x (.dict ds)) (b : RA (bsOf X) N H y k) (hk : keyOk ds k = true) : ∃ p, x = .ref p ∧ Ask X s H N p y (dlook ds k) := by
  have flat : ∀ {kvs : List (Key × V)} {p : Addr}, Rd H p (.dK kvs) → kvs.map (fun p => keyD p.1) = ds.map (·.1) → RpA (bsOf X) N H (kvs.map (·.2)) (ds.map (·.2)) → Ask X s H N p y (dlook ds k) := by
    intro kvs p hp e r
    unfold keyOk at hk
    rw [Bool.or_eq_true, Bool.or_eq_true] at hk
    rcases hk with (hk | hk) | hk
    · rw [Bool.and_eq_true] at hk
      cases k with
      | str z => exact .val hp (k := .inr z) b.str (look_rel keyD eqv_key (.inr z) e r)
      | _ => simp [isStrD] at hk
    · rw [Bool.and_eq_true] at hk
      cases k with
      | int z => exact .val hp (k := .inl z) b.int (look_rel keyD eqv_key (.inl z) e r)
      | _ => simp [isIntD] at hk
    · rw [Bool.and_eq_true] at hk
      have hn : ds = [] := by
        cases ds with
        | nil => rfl
        | cons q ds =>
          cases kvs with
          | nil => simp at e
          | cons p' kvs =>
            simp only [List.map_cons, List.cons.injEq] at e
            have := hk.2
            rw [List.all_cons, ← e.1, keyD_tup] at this
            simp at this
      subst hn
      have : kvs = [] := map_nil_of e rfl
      subst this
      obtain ⟨_, hs, vs, rel, dd⟩ := dk_rd I.hok hp
      cases rel
      cases k with
      | tuple zs =>
        have ht := hk.1
        simp only [tupKey, Bool.and_eq_true, decide_eq_true_eq] at ht
        obtain ⟨q, _, rfl, _⟩ := b.tuple
        have np : nestD (.tuple zs) = true := by simp only [nestD]; exact ht.1
        obtain ⟨as, rd⟩ := rel_reads I (show RelV (.ref q) (.ref q) from rfl) b (nest_plain np)
        have := reads_nested np rd
        exact .obj (dict_nil dd) hs rfl (k := nkOf (.tuple zs)) (ov := none) ⟨this, by rw [nk_depth np]; simp only [PyData.depth]; omega⟩ trivial trivial
      | _ => simp [tupKey] at hk
  have obj : ∀ {xs : List NEnt} {p : Addr}, H p = some (dN (bsOf X) p xs) → xs ≠ [] → xs.map (fun p => p.1.data) = ds.map (·.1) → (∀ p ∈ xs, p.1.depth ≤ 8) → RpA (bsOf X) N H (xs.map fun p => V.ref p.2.1) (ds.map (·.1)) →
      RpA (bsOf X) N H (xs.map (·.2.2)) (ds.map (·.2)) → Ask X s H N p y (dlook ds k) := by
    intro xs p hp hne e h8 r1 r2
    obtain ⟨_, hs, ys, pr, dd⟩ := dn_dict I hp e h8 r1
    have key : ∀ zs, k = .tuple zs → nestAll zs = true → PyData.depthAll zs ≤ 7 → Ask X s H N p y (dlook ds k) := by
      intro zs hz h1 h2
      subst hz
      obtain ⟨q, _, rfl, _⟩ := b.tuple
      have np : nestD (.tuple zs) = true := by simp only [nestD]; exact h1
      obtain ⟨as, rd⟩ := rel_reads I (show RelV (.ref q) (.ref q) from rfl) b (nest_plain np)
      have hi := reads_nested np rd
      have lr := look_rel (B := bsOf X) (N := N) (H := H) NestedKey.data eqv_nkd (nkOf (.tuple zs)) (kvs := xs.map fun p => (p.1, p.2.2)) (ds := ds) (by rw [List.map_map]; exact e) (by rw [List.map_map]; exact r2)
      rw [nk_data np] at lr
      exact .obj dd hs rfl ⟨hi, by rw [nk_depth np]; simp only [PyData.depth]; omega⟩ (relO_find pr _) lr
    cases xs with
    | nil => exact absurd rfl hne
    | cons p0 xs =>
      cases ds with
      | nil => simp at e
      | cons q0 ds =>
        simp only [List.map_cons, List.cons.injEq] at e
        unfold keyOk at hk
        rw [Bool.or_eq_true, Bool.or_eq_true, List.all_cons, List.all_cons, List.all_cons, ← e.1] at hk
        have tup : ∀ n : NestedKey, NestedIs s.heap n (.ref p0.2.1) → isStrD n.data = false ∧ isIntD n.data = false := by
          intro n hn
          cases hn; exact ⟨by simp [NestedKey.data, isStrD], by simp [NestedKey.data, isIntD]⟩
        obtain ⟨o, es, ep, g, ex, dat, es', his, nd⟩ := id dd
        cases pr with
        | cons pq pt =>
          have := (his _ List.mem_cons_self).1
          rw [← pq.1, ← pq.2.1] at this
          obtain ⟨t1, t2⟩ := tup _ this
          rcases hk with (hk | hk) | hk
          · rw [t1] at hk; simp at hk
          · rw [t2] at hk; simp at hk
          · rw [Bool.and_eq_true] at hk
            cases k with
            | tuple zs =>
              have ht := hk.1
              simp only [tupKey, Bool.and_eq_true, decide_eq_true_eq] at ht
              exact key zs rfl ht.1 ht.2
            | _ => simp [tupKey] at hk
  rcases a with a | ⟨p, rfl, a⟩
  · cases a with
    | mu _ t =>
      cases t with
      | dk hp e r => exact ⟨_, rfl, flat (.inl hp) e r⟩
      | dn hp z e h8 r1 r2 => exact ⟨_, rfl, obj hp z e h8 r1 r2⟩
    | kd h =>
      obtain ⟨es, n, kd, hne, _, pr⟩ := h
      have hs := kd_strs pr
      have hz := kd_look (N := N) (H := H) kd pr
      refine ⟨_, rfl, ?_⟩
      cases ds with
      | nil => exact absurd rfl hne
      | cons q0 ds =>
        have s0 : isStrD q0.1 = true := by rw [List.all_cons, Bool.and_eq_true] at hs; exact hs.1
        have : ∃ z, k = .str z := by
          unfold keyOk at hk
          rw [Bool.or_eq_true, Bool.or_eq_true, List.all_cons, List.all_cons, List.all_cons] at hk
          have t1 : isIntD q0.1 = false := by cases e : q0.1 <;> simp [e, isStrD] at s0 <;> rfl
          have t2 : tupKey q0.1 = false := by cases e : q0.1 <;> simp [e, isStrD] at s0 <;> rfl
          rw [t1, t2] at hk
          simp only [Bool.false_and, Bool.and_false, Bool.false_eq_true, or_false, Bool.and_eq_true] at hk
          cases k with
          | str z => exact ⟨z, rfl⟩
          | _ => simp [isStrD] at hk
        obtain ⟨z, rfl⟩ := this
        obtain ⟨r, ov, h1, h2, h3⟩ := hz z
        exact .wr kd b.str h1 h2 h3
  · cases a with
    | dk hp e r => exact ⟨_, rfl, flat (.inl hp) e r⟩
    | dn hp z e h8 r1 r2 => exact ⟨_, rfl, obj hp z e h8 r1 r2⟩
theorem OptR.isSome {B : Bs} {o : Option V} {d : Option D} (h : OptR B N H o d) : o.isSome = d.isSome := by
  cases o <;> cases d <;> first | rfl | exact h.elim
theorem relO_isSome {o : Option V} {u : Option Value} (h : RelO o u) : u.isSome = o.isSome := by
  cases o <;> cases u <;> first | rfl | exact h.elim
variable (hu : X.A.units + 150 < cLine)
include hu
theorem ask_in (I : Inv X pins σ H s) {a : Addr} {y : V} {u : Value} {o : Option D} (g : Ask X s H N a y o) (ry : RelV y u) {Q : VK} (q : Q (.bl o.isSome) H) :
    wpAny (model X.prog X.w) X.A (compareOp .In u (.ref a)) (EP X pins σ Q) X.xe s := by
  cases g with
  | val hp e r =>
    subst e
    refine d_in (by omega) I (.inl ⟨_, _, hp, rfl, rfl⟩) ry fun s' I' => ?_
    rw [r.isSome]
    exact ⟨.bl _, H, I', rfl, q⟩
  | obj dd hs e is ro r =>
    subst e; cases ry
    have e1 := relO_isSome ro
    rw [Option.isSome_map, r.isSome] at e1
    refine wpAny_in_heap (by show X.A.units + 1 + 8 < cLine; omega) is hs dd ?_
    rw [e1]
    exact ⟨.bl _, H, I.tok _, rfl, q⟩
  | wr kd e hz ro r =>
    subst e
    refine op_in_kd kd pins s σ H _ (.ref a) u (.ref a) Q I ry rfl ⟨_, _, rfl, rfl, hz, ?_⟩
    rw [relO_isSome ro, r.isSome]; exact q
theorem ask_notin (I : Inv X pins σ H s) {a : Addr} {y : V} {u : Value} {o : Option D} (g : Ask X s H N a y o) (ry : RelV y u) {Q : VK} (q : Q (.bl (!o.isSome)) H) :
    wpAny (model X.prog X.w) X.A (compareOp .NotIn u (.ref a)) (EP X pins σ Q) X.xe s := by
  cases g with
  | val hp e r =>
    subst e
    refine d_notIn (by omega) I (.inl ⟨_, _, hp, rfl, rfl⟩) ry fun s' I' => ?_
    rw [r.isSome]
    exact ⟨.bl _, H, I', rfl, q⟩
  | obj dd hs e is ro r =>
    subst e; cases ry
    have e1 := relO_isSome ro
    rw [Option.isSome_map, r.isSome] at e1
    refine notIn_keyed (knd := nestedKind X.prog X.w) (by show X.A.units + 1 + 8 < cLine; omega) is hs ⟨_, dd, rfl⟩ ?_
    rw [valueAt_pairsH, Option.isSome_map, e1]
    exact ⟨.bl _, H, I.tok _, rfl, q⟩
  | wr kd e hz ro r =>
    subst e
    refine op_notIn_kd kd pins s σ H _ (.ref a) u (.ref a) Q I ry rfl ⟨_, _, rfl, rfl, hz, ?_⟩
    rw [relO_isSome ro, r.isSome]; exact q
omit hu in
theorem OptR.some_of {B : Bs} {o : Option V} {d : D} (h : OptR B N H o (some d)) : ∃ v, o = some v ∧ Rp B N H v d := by
  cases o with
  | none => exact h.elim
  | some v => exact ⟨v, rfl, h⟩
theorem ask_item (I : Inv X pins σ H s) {a : Addr} {y : V} {u : Value} {d : D} (g : Ask X s H N a y (some d)) (ry : RelV y u) {Q : VK} (q : ∀ v, Rp (bsOf X) N H v d → Q v H) :
    wpAny (model X.prog X.w) X.A (getItem (.ref a) u) (EP X pins σ Q) X.xe s := by
  cases g with
  | val hp e r =>
    subst e
    obtain ⟨v, hv, rv⟩ := r.some_of
    exact d_getItem (v := v) (by omega) I (.inl ⟨_, _, hp, rfl, hv.symm⟩) ry fun w' s' I' rw' => ⟨v, H, I', rw', q v rv⟩
  | obj dd hs e is ro r =>
    subst e; cases ry
    obtain ⟨v, hv, rv⟩ := r.some_of
    subst hv
    obtain ⟨w', hw, rw'⟩ := RelO.some_of ro
    obtain ⟨p, hp, hp2⟩ := Option.map_eq_some_iff.mp hw
    refine wpAny_getItem_heap (by show X.A.units + 1 + 8 < cLine; omega) is dd hp ?_
    rw [hp2]
    exact ⟨v, H, I.tok _, rw', q v rv⟩
  | wr kd e hz ro r =>
    subst e
    obtain ⟨v, hv, rv⟩ := r.some_of
    subst hv
    obtain ⟨w', hw, rw'⟩ := RelO.some_of ro
    subst hw
    exact op_item_kd kd pins s σ H (.ref a) _ (.ref a) u Q I rfl ry ⟨_, _, v, rfl, rfl, hz, rw', q v rv⟩
omit hu in
theorem ask_type (I : Inv X pins σ H s) {a : Addr} {y : V} {o : Option D} (g : Ask X s H N a y o) : s.TypeIs (.ref a) "dict" := by
  cases g with
  | val hp _ _ => obtain ⟨_, _, vs, _, dd⟩ := dk_rd I.hok hp; exact dd.typeIs
  | obj dd _ _ _ _ _ => exact dd.typeIs
  | wr kd _ _ _ _ => exact kd_type kd I
/-- d[k] -/
theorem ix_dict : IxR X (fun x y H Q => ∃ N ds k d, RA (bsOf X) N H x (.dict ds) ∧ RA (bsOf X) N H y k ∧ keyOk ds k = true ∧ dlook ds k = some d ∧ ∀ v, Rp (bsOf X) N H v d → Q v H) := by
  rintro value slice pins s σ H x y v u Q I rx ry ⟨N, ds, k, d, a, b, hk, hd, q⟩ hs
  obtain ⟨p, rfl, g⟩ := ask_of I a b hk
  rw [hd] at g
  cases rx
  exact PyProof.Rows.tail_any (ask_type I g) PySem.F.slot_dict_getitem.lookup (ask_item hu I g ry q) hs
end
end C
end
section
set_option Elab.async false
set_option linter.all false
set_option maxRecDepth 100000
set_option maxHeartbeats 1000000
/-! Dicts: what is put into them. -/
namespace C
open PySem PySem.Spec L2
variable [Lams]

section
variable {B : Bs} {N : Addr → Prop} {H : Hp} {a : Addr}
theorem Ext.upd {o : HO} (hn : ¬ N a) (ho : Own (H a)) : Ext N H N (L2.upd H a o) where
  n := fun _ h => h
  k := fun b u hb e => by
    rw [upd_ne ?_]; exact e
    rintro rfl; exact hn hb
  t := fun b xs e => by
    rw [upd_ne ?_]; exact e
    rintro rfl; rw [e] at ho; exact ho
  f := fun b u x e => by
    rw [upd_ne ?_]; exact e
    rintro rfl; rw [e] at ho; exact ho
def storedN (xs : List NEnt) (k : NestedKey) (b : Addr) (v : V) : List NEnt :=
  if (xs.any fun p => decide (p.1 = k)) = true then xs.map (fun p => if p.1 = k then (p.1, p.2.1, v) else p) else xs ++ [(k, b, v)]
abbrev PN : NEnt → NestedKey × Addr × Value → Prop := fun p q => p.1 = q.1 ∧ p.2.1 = q.2.1 ∧ RelV p.2.2 q.2.2
theorem any_at : ∀ {xs : List NEnt} {ys : List (NestedKey × Addr × Value)}, Paired PN xs ys → ∀ k, (xs.any fun p => decide (p.1 = k)) = (atKey ys k).isSome
  | _, _, .nil, k => rfl
  | _, _, .cons (a := p) (b := q) r t, k => by
    have ih := any_at t k
    unfold atKey at ih ⊢
    rw [List.any_cons, List.find?_cons, ih, r.1]
    by_cases h : q.1 = k <;> simp [h]
theorem paired_map {α β : Type} {G : α → β → Prop} {f : α → α} {g : β → β} : ∀ {xs : List α} {ys : List β}, Paired G xs ys → (∀ p q, G p q → G (f p) (g q)) → Paired G (xs.map f) (ys.map g)
  | _, _, .nil, _ => .nil
  | _, _, .cons r t, h => .cons (h _ _ r) (paired_map t h)
theorem paired_app {α β : Type} {G : α → β → Prop} : ∀ {xs xs' : List α} {ys ys' : List β}, Paired G xs ys → Paired G xs' ys' → Paired G (xs ++ xs') (ys ++ ys')
  | _, _, _, _, .nil, h => h
  | _, _, _, _, .cons r t, h => .cons r (paired_app t h)
theorem storedN_rel {xs : List NEnt} {ys : List (NestedKey × Addr × Value)} (pr : Paired PN xs ys) (k : NestedKey) (b : Addr) {v : V} {u : Value} (rv : RelV v u) : Paired PN (storedN xs k b v) (storedH ys k b u) := by
  unfold storedN storedH
  rw [any_at pr]
  split
  · refine paired_map pr fun p q r => ?_
    unfold putAt
    obtain ⟨r1, r2, r3⟩ := r
    by_cases h : p.1 = k
    · rw [if_pos h, if_pos (by rw [← r1]; exact h)]; exact ⟨r1, r2, rv⟩
    · rw [if_neg h, if_neg (by rw [← r1]; exact h)]; exact ⟨r1, r2, r3⟩
  · exact paired_app pr (.cons ⟨rfl, rfl, rv⟩ .nil)
theorem storedN_put (xs : List NEnt) (k : NestedKey) (b : Addr) (v : V) : (storedN xs k b v).map (fun p => (p.1, p.2.2)) = putK (xs.map fun p => (p.1, p.2.2)) k v := by
  unfold storedN putK
  rw [List.any_map]
  simp only [Function.comp_def]
  split
  · rw [List.map_map, List.map_map]
    refine List.map_congr_left fun p _ => ?_
    simp only [Function.comp_def]
    by_cases h : p.1 = k <;> simp [h]
  · simp
theorem storedN_length (xs : List NEnt) (k : NestedKey) (b : Addr) (v : V) : (storedN xs k b v).length ≤ xs.length + 1 := by
  unfold storedN; split <;> simp
theorem storedN_ne (xs : List NEnt) (k : NestedKey) (b : Addr) (v : V) : storedN xs k b v ≠ [] := by
  unfold storedN
  split
  · rename_i h; intro e
    cases xs with
    | nil => simp at h
    | cons p xs => simp at e
  · simp
theorem storedN_keys {P : NestedKey → Addr → Prop} {xs : List NEnt} {k : NestedKey} {b : Addr} {v : V} (h : ∀ p ∈ xs, P p.1 p.2.1) (hk : P k b) : ∀ p ∈ storedN xs k b v, P p.1 p.2.1 := by
  unfold storedN
  split
  · intro p hp
    obtain ⟨q, hq, rfl⟩ := List.mem_map.mp hp
    by_cases e : q.1 = k
    · rw [if_pos e]; exact h q hq
    · rw [if_neg e]; exact h q hq
  · intro p hp
    rcases List.mem_append.mp hp with hp | hp
    · exact h p hp
    · cases List.mem_singleton.mp hp; exact hk
theorem NE.ok {xs : List NEnt} {h : Heap} (x : NE B a xs h) : ObjOk B.P B.w H h a (dN B a xs) := by
  obtain ⟨z, hs, ys, pr, o, es, ep, g, r⟩ := id x
  exact ⟨x, ⟨o, g⟩, fun h1 h2 hx k => by
    obtain ⟨z, hs, ys, pr, o, es, ep, g, r⟩ := hx
    exact ⟨z, hs, ys, pr, o, es, ep, k _ g, r⟩⟩
theorem ne_of_dict {xs : List NEnt} {ys : List (NestedKey × Addr × Value)} {h : Heap} (z : xs.length ≤ sizeLine) (hs : (a == sysModules) = false) (pr : Paired PN xs ys) (dd : h.DictOfH (nestedKind B.P B.w) a ys) : NE B a xs h := by
  obtain ⟨o, es, ep, g, ex, dat, es', his, nd⟩ := dd
  exact ⟨z, hs, ys, pr, o, es, ep, g, ex, dat, es', nd⟩
/-- key by key: where the keys stand -/
theorem rpA_keys {xs : List NEnt} {ds : List (D × D)} (e : xs.map (fun p => p.1.data) = ds.map (·.1)) : RpA B N H (xs.map fun p => V.ref p.2.1) (ds.map (·.1)) ↔ ∀ p ∈ xs, Rp B N H (.ref p.2.1) p.1.data := by
  rw [← e]
  clear e
  constructor
  · intro r p hp
    induction xs with
    | nil => simp at hp
    | cons x xs ih =>
      cases r with
      | cons r1 r2 =>
        rcases List.mem_cons.mp hp with rfl | hp
        · exact r1
        · exact ih r2 hp
  · intro h
    induction xs with
    | nil => exact .nil
    | cons x xs ih => exact .cons (h x List.mem_cons_self) (ih fun p hp => h p (List.mem_cons_of_mem _ hp))
theorem dput_length (ds : List (D × D)) (k d : D) : (dput ds k d).length ≤ ds.length + 1 := by
  unfold dput; split <;> simp
end

section
variable {X : Cx} {pins : List (Addr × Obj)} {s : Shared} {σ : L2.St} {H : Hp} {N : Addr → Prop} {E : Value → Shared → Prop}
/-- what a key may be -/
theorem key_kind {ds : List (D × D)} {y : V} {k : D} (I : Inv X pins σ H s) (b : RA (bsOf X) N H y k) (hk : keyOk ds k = true) :
    (∃ key : Key, y = kV key ∧ k = keyD key ∧ ∀ q ∈ ds, tupKey q.1 = false) ∨ (∃ c nk, y = .ref c ∧ k = nk.data ∧ (nestedKind X.prog X.w).is s.heap nk c ∧ Rp (bsOf X) N H (.ref c) nk.data ∧ ∀ q ∈ ds, tupKey q.1 = true) := by
  unfold keyOk at hk
  rw [Bool.or_eq_true, Bool.or_eq_true] at hk
  rcases hk with (hk | hk) | hk <;> rw [Bool.and_eq_true] at hk
  · cases k with
    | str z =>
      refine .inl ⟨.inr z, b.str, rfl, fun q hq => ?_⟩
      have := List.all_eq_true.mp hk.2 q hq
      cases e : q.1 <;> simp [e, isStrD] at this <;> rfl
    | _ => simp [isStrD] at hk
  · cases k with
    | int z =>
      refine .inl ⟨.inl z, b.int, rfl, fun q hq => ?_⟩
      have := List.all_eq_true.mp hk.2 q hq
      cases e : q.1 <;> simp [e, isIntD] at this <;> rfl
    | _ => simp [isIntD] at hk
  · cases k with
    | tuple zs =>
      have ht := hk.1
      simp only [tupKey, Bool.and_eq_true, decide_eq_true_eq] at ht
      obtain ⟨c, xs, rfl, hq, hr⟩ := b.tuple
      have np : nestD (.tuple zs) = true := by simp only [nestD]; exact ht.1
      obtain ⟨as, rd⟩ := rel_reads I (show RelV (.ref c) (.ref c) from rfl) b (nest_plain np)
      exact .inr ⟨c, nkOf (.tuple zs), rfl, (nk_data np).symm, ⟨reads_nested np rd, by rw [nk_depth np]; simp only [PyData.depth]; omega⟩, by rw [nk_data np]; exact .tup hq hr, fun q hq => List.all_eq_true.mp hk.2 q hq⟩
    | _ => simp [tupKey] at hk
/-- a key's value is put: by whatever does so for flat keys and for those that are objects -/
theorem put_gen {op : Value → Value → Sem Unit} {a : Addr} (opF : ∀ {kvs : List (Key × V)} {k : Key} {v : V} {u r : Value}, Inv X pins σ H s → H a = some (.dK kvs) → kvs.length < sizeLine → RelV (kV k) u → RelV v r →
      ∀ {Q : Unit → Shared → Prop}, (∀ s', Inv X pins σ (L2.upd H a (.dK (putK kvs k v))) s' → Q () s') → wpAny (model X.prog X.w) X.A (op u r) Q E s)
    (opH : ∀ {c : Addr} {xs : List (NestedKey × Addr × Value)} {k : NestedKey} {v : Value} {Q : Unit → Shared → Prop}, (nestedKind X.prog X.w).is s.heap k c → s.heap.DictOfH (nestedKind X.prog X.w) a xs →
      (∀ h', h'.DictOfH (nestedKind X.prog X.w) a (storedH xs k c v) → Heap.SameBut a s.heap h' → Q () { s with heap := h', toks := s.toks + (nestedKind X.prog X.w).draws k }) → xs.length ≤ sizeLine → wpAny (model X.prog X.w) X.A (op (.ref c) v) Q E s)
    (I : Inv X pins σ H s) {y v : V} {u uv : Value} {ds : List (D × D)} {k d : D} (t : RT (bsOf X) N H a (.dict ds)) (hn : ¬ N a) (b : RA (bsOf X) N H y k) (rv : Rp (bsOf X) N H v d)
    (hk : keyOk ds k = true) (hl : ds.length < sizeLine) (ry : RelV y u) (rr : RelV v uv) {Q : Unit → Shared → Prop}
    (q : ∀ o s', Inv X pins σ (L2.upd H a o) s' → RT (bsOf X) N (L2.upd H a o) a (.dict (dput ds k d)) → Q () s') : wpAny (model X.prog X.w) X.A (op u uv) Q E s := by
  obtain ⟨ob, hob, own⟩ := t.there
  have own' : Own (H a) := by rw [hob]; exact own
  -- the keys that are tuples
  have obj : ∀ {xs : List NEnt} {ys : List (NestedKey × Addr × Value)} {nk : NestedKey} {c : Addr}, (a == sysModules) = false → Paired PN xs ys → xs.length < sizeLine → s.heap.DictOfH (nestedKind X.prog X.w) a ys → y = .ref c → (nestedKind X.prog X.w).is s.heap nk c → k = nk.data → Rp (bsOf X) N H (.ref c) nk.data →
      xs.map (fun p => p.1.data) = ds.map (·.1) → (∀ p ∈ xs, p.1.depth ≤ 8) → RpA (bsOf X) N H (xs.map fun p => V.ref p.2.1) (ds.map (·.1)) → RpA (bsOf X) N H (xs.map (·.2.2)) (ds.map (·.2)) → Mut (H a) →
      wpAny (model X.prog X.w) X.A (op u uv) Q E s := by
    intro xs ys nk c hs pr hlen dd ey is hk' rk e h8 r1 r2 mu
    subst ey; cases ry
    have ly := Paired.length pr
    refine opH is dd (fun h' dd' sb => ?_) (by rw [← ly]; exact Nat.le_of_lt hlen)
    have ne : NE (bsOf X) a (storedN xs nk c v) h' := ne_of_dict (Nat.le_trans (storedN_length xs nk c v) hlen) hs (storedN_rel pr nk c rr) dd'
    have hput := put_rel (B := bsOf X) (N := N) (H := H) NestedKey.data eqv_nkd nk rv (kvs := xs.map fun p => (p.1, p.2.2)) (ds := ds) (by rw [List.map_map]; exact e) (by rw [List.map_map]; exact r2)
    rw [← storedN_put xs nk c v, List.map_map, List.map_map, ← hk'] at hput
    obtain ⟨o', _, _, g', _⟩ := id dd'
    have I' := d_write (t' := s.toks + (nestedKind X.prog X.w).draws nk) (ob := dN (bsOf X) a (storedN xs nk c v)) I mu sb ⟨_, g'⟩ ne.ok
    have ext := Ext.upd (o := dN (bsOf X) a (storedN xs nk c v)) hn own'
    refine q (dN (bsOf X) a (storedN xs nk c v)) _ I' (.dn upd_same (storedN_ne _ _ _ _) hput.1 (storedN_keys (P := fun k _ => k.depth ≤ 8) h8 is.2) ?_ (hput.2.ext ext))
    exact (rpA_keys hput.1).mpr (storedN_keys (P := fun k b => Rp (bsOf X) N (L2.upd H a (dN (bsOf X) a (storedN xs nk c v))) (.ref b) k.data) (fun p hp => ((rpA_keys e).mp r1 p hp).ext ext) (rk.ext ext))
  cases t with
  | dk hp e r =>
    rename_i kvs
    have hlen : kvs.length < sizeLine := by have := congrArg List.length e; simp at this; omega
    have mu : Mut (H a) := by rw [hp]; trivial
    rcases key_kind I b hk with ⟨key, ey, hk', _⟩ | ⟨c, nk, ey, hk', is, rk, hall⟩
    · subst ey; subst hk'
      refine opF I hp hlen ry rr fun s' I' => ?_
      obtain ⟨h1, h2⟩ := put_rel keyD eqv_key key rv e r
      exact q _ s' I' (.dk upd_same h1 (h2.ext (Ext.upd hn own')))
    · obtain ⟨z, hs, vs, rel, dd'⟩ := dk_of I.hok hp
      have hnil : ds = [] := by
        cases ds with
        | nil => rfl
        | cons q0 ds =>
          cases kvs with
          | nil => simp at e
          | cons p0 kvs =>
            simp only [List.map_cons, List.cons.injEq] at e
            have := hall q0 List.mem_cons_self
            rw [← e.1, keyD_tup] at this
            cases this
      subst hnil
      have : kvs = [] := map_nil_of e rfl
      subst this
      cases rel
      exact obj (xs := []) (ys := []) hs .nil (by rw [sizeLine_eq]; decide) (dict_nil dd') ey is hk' rk rfl (fun _ z => absurd z (by simp)) .nil .nil mu
  | dn hp z e h8 r1 r2 =>
    rename_i xs
    have mu : Mut (H a) := by rw [hp]; trivial
    obtain ⟨hz, hs, ys, pr, dd⟩ := dn_dict I hp e h8 r1
    have hlen : xs.length < sizeLine := by have := congrArg List.length e; simp at this; omega
    rcases key_kind I b hk with ⟨key, ey, hk', hall⟩ | ⟨c, nk, ey, hk', is, rk, _⟩
    · exfalso
      cases xs with
      | nil => exact z rfl
      | cons p0 xs =>
        cases ds with
        | nil => simp at e
        | cons q0 ds =>
          have h1 := hall q0 List.mem_cons_self
          simp only [List.map_cons, List.cons.injEq] at e
          have rp0 := (rpA_keys (B := bsOf X) (N := N) (H := H) (xs := p0 :: xs) (ds := q0 :: ds) (by simp [e])).mp r1 p0 List.mem_cons_self
          have h80 := h8 p0 List.mem_cons_self
          rw [← e.1] at h1
          cases hp0 : p0.1 with
          | tup ks =>
            rw [hp0] at h1 h80
            have nd := nest_data (.tup ks)
            simp only [NestedKey.data, nestD] at nd
            simp only [NestedKey.data, tupKey, nd, Bool.true_and, decide_eq_false_iff_not] at h1
            simp only [NestedKey.depth] at h80
            have := nks_depth nd
            rw [datas_nk] at this
            omega
          | none => rw [hp0] at rp0; simp only [NestedKey.data] at rp0; cases rp0 with | mu _ t => cases t
          | num _ => rw [hp0] at rp0; simp only [NestedKey.data] at rp0; cases rp0 with | mu _ t => cases t
          | text _ => rw [hp0] at rp0; simp only [NestedKey.data] at rp0; cases rp0 with | mu _ t => cases t
    · exact obj hs pr hlen dd ey is hk' rk e h8 r1 r2 mu
variable (hu : X.A.units + 150 < cLine)
include hu
/-- d[k] = v -/
theorem put_dict (I : Inv X pins σ H s) {a : Addr} {y v : V} {u uv : Value} {ds : List (D × D)} {k d : D} (t : RT (bsOf X) N H a (.dict ds)) (hn : ¬ N a) (b : RA (bsOf X) N H y k) (rv : Rp (bsOf X) N H v d)
    (hk : keyOk ds k = true) (hl : ds.length < sizeLine) (ry : RelV y u) (rr : RelV v uv) {Q : Unit → Shared → Prop}
    (q : ∀ o s', Inv X pins σ (L2.upd H a o) s' → RT (bsOf X) N (L2.upd H a o) a (.dict (dput ds k d)) → Q () s') : wpAny (model X.prog X.w) X.A (setItem (.ref a) u uv) Q E s :=
  put_gen (op := fun u r => setItem (.ref a) u r) (fun I hp hlen ry rr Q q => d_setItem (by omega) I (.k hp hlen) ry rr q) (fun is dd q hz => wpAny_setItem_heap (hsz := hz) (knd := nestedKind X.prog X.w) (by show X.A.units + 1 + 8 < cLine; omega) is dd q) I t hn b rv hk hl ry rr q
/-- .. by a comprehension -/
theorem put_comp (I : Inv X pins σ H s) {a : Addr} {y v : V} {u uv : Value} {ds : List (D × D)} {k d : D} (t : RT (bsOf X) N H a (.dict ds)) (hn : ¬ N a) (b : RA (bsOf X) N H y k) (rv : Rp (bsOf X) N H v d)
    (hk : keyOk ds k = true) (hl : ds.length < sizeLine) (ry : RelV y u) (rr : RelV v uv) {Q : Unit → Shared → Prop}
    (q : ∀ o s', Inv X pins σ (L2.upd H a o) s' → RT (bsOf X) N (L2.upd H a o) a (.dict (dput ds k d)) → Q () s') : wpAny (model X.prog X.w) X.A (dictSet a u uv) Q E s :=
  put_gen (op := fun u r => dictSet a u r) (fun I hp hlen ry rr Q q => d_dictSet I hp hlen ry rr q) (fun is dd q hz => wpAny_dictSet_heap (hsz := hz) (knd := nestedKind X.prog X.w) (by show X.A.units + 8 < cLine; omega) is dd q) I t hn b rv hk hl ry rr q
end
end C
end
section
set_option Elab.async false
set_option linter.all false
set_option maxRecDepth 100000
set_option maxHeartbeats 2000000
/-! Sorting, empty tuples among tuples too. -/
namespace C
open PySem PySem.Spec L2 PySem.W PyProof.Rows PySem.SeqAt
variable [Lams]

section
variable {prog : Program} {w : World} {A : Around} {s : Shared}
theorem call_tup_lt {E : Value → Shared → Prop} {Q : Value → Shared → Prop} {l b : Addr} {xs ys : Array Value} {e r : Nat → Bool} (hl : s.heap.IsTuple l xs) (hb : s.heap.IsTuple b ys)
    (he : ∀ j (h1 : j < xs.size) (h2 : j < ys.size), EqAt A.in1 s xs[j] ys[j] (e j)) (hr : ∀ j (h1 : j < xs.size) (h2 : j < ys.size), e j = false → RcLt A.in1 s xs[j] ys[j] (r j))
    (q : Q (.bool (firstLt e r (decide (xs.size < ys.size)) (List.range (min xs.size ys.size)))) s) : wpAny (model prog w) A (call (.builtin "tuple.__lt__") [.ref l, .ref b]) Q E s := by
  obtain ⟨⟨c1, d1, t1, z1⟩, o1, k1, n1, e1⟩ := id hl
  obtain ⟨⟨c2, d2, t2, z2⟩, o2, k2, n2, e2⟩ := id hb
  simp only at k1 e1 k2 e2
  subst k1; subst e1; subst k2; subst e2
  exact call_meets PySem.F.slot_tuple_lt ⟨_, o1, rfl⟩ PySem.F.entry_tuple_lt (PySem.F.args_tuple_lt_2 _ _) (tuple_ltAt l b xs ys n1 n2 d1 d2 z1 z2 e r) ⟨o1, o2, he, hr, q⟩

theorem oneLt_tups {a b : Value} {xs ys : List D} {as bs : List Addr} {E : Value → Shared → Prop} {Q : Bool → Shared → Prop} (ra : Reads s.heap a (.tuple xs) as) (rb : Reads s.heap b (.tuple ys) bs) (h : alike (.tuple xs) (.tuple ys) = true)
    (hu : A.units + min (PyData.depth (.tuple xs)) (PyData.depth (.tuple ys)) < cLine) (q : Q (dataLt (.tuple xs) (.tuple ys)) s) : wpAny (model prog w) A (oneLt' true a b) Q E s := by
  have hal : alikeAll xs ys = true := by simpa [alike] using h
  cases ra with
  | @tuple l o vs n _ _ h1 h2 h3 h4 =>
    cases rb with
    | @tuple l' o' ws m _ _ k1 k2 k3 k4 =>
      have n1 : vs.size = xs.length := by simpa using SeqAt.ReadsAll.length _ _ _ h4
      have n2 : ws.size = ys.length := by simpa using SeqAt.ReadsAll.length _ _ _ k4
      rw [dataLt_tuple, ← firstLt_toks xs ys hal, ← n1, ← n2] at q
      rw [oneLt'_eq]
      simp only [if_true]
      refine wpAny_bind (wpAny_cRoomFor (SeqAt.room_here hu) ?_)
      refine wpAny_bind (wpAny_callSpecialIfBound?_slot (T := "tuple") ⟨_, h1, h2⟩ PySem.F.slot_tuple_lt (call_tup_lt (e := pairEq xs ys) (r := fun j => dataLt (xs.getD j .none) (ys.getD j .none)) ⟨_, h1, h2, _, h3⟩ ⟨_, k1, k2, _, k3⟩ (fun j j1 j2 => ?_) (fun j j1 j2 hj => ?_) ?_))
      · have := eqAt_alikeAll xs ys A.in1 s vs.toList ws.toList _ _ h4 k4 hal (SeqAt.room_in hu) j (by simpa using j1) (by simpa using j2)
        simpa using this
      · have := rcLt_alikeAll xs ys A.in1 s vs.toList ws.toList _ _ h4 k4 hal (SeqAt.room_in hu) j (by simpa using j1) (by simpa using j2) hj
        simpa using this
      · exact wpAny_truthy_bool q

/-- the first items of tuples, none of the empty one -/
def firstsOf : List D → List Bool
  | [] => []
  | .tuple (_ :: _) :: ds => true :: firstsOf ds
  | _ :: ds => false :: firstsOf ds
theorem firsts_run {M : Model} {E : Value → Shared → Prop} : ∀ {vs : List Value} {ds : List D} {Q : List (Option Value) → Shared → Prop}, EachIs (fun v d => ∃ as, Reads s.heap v d as) vs ds → ds.all isTupD = true →
    (∀ fs : List (Option Value), fs.map (·.isSome) = firstsOf ds → Q fs s) → wpAny M A (vs.mapM firstOfTuple') Q E s
  | _, _, Q, .nil, _, q => by rw [List.mapM_nil]; exact wpAny_pure (q [] rfl)
  | _, _, Q, .cons (b := d) ⟨as, r⟩ t, ht, q => by
    rw [List.all_cons, Bool.and_eq_true] at ht
    obtain ⟨h0, ht⟩ := ht
    cases d with
    | tuple zs =>
      cases r with
      | @tuple a o xs n _ _ ho hc hd hr =>
        rw [List.mapM_cons]
        refine wpAny_bind ?_
        rw [kas_first_eq]
        refine wpAny_bind (Looks.here (show Looks M s.heap (typeOf (.ref a)) o.cls from (Looks.ld ho).andThen .now) ?_)
        rw [hc, if_neg (by first | decide | simp)]
        refine wpAny_bind (listItems_at ho hd (wpAny_pure ?_))
        refine wpAny_bind (firsts_run t ht fun fs hf => wpAny_pure (q _ ?_))
        have hl := SeqAt.ReadsAll.length _ _ _ hr
        cases zs with
        | nil =>
          have : xs[0]? = none := by rw [Array.getElem?_eq_none_iff]; simp at hl; simp [hl]
          rw [this, List.map_cons, hf]; rfl
        | cons z zs =>
          have : ∃ f, xs[0]? = some f := ⟨xs[0]'(by simp at hl; omega), Array.getElem?_eq_getElem (by simp at hl; omega)⟩
          obtain ⟨f, e⟩ := this
          rw [e, List.map_cons, hf]; rfl
    | _ => simp [isTupD] at h0

theorem sorts_tups {vs : List Value} {ds : List D} (e : EachIs (fun v d => ∃ as, Reads s.heap v d as) vs ds) (hal : AllAlike ds) (ht : ds.all isTupD = true) (hu : ∀ d, d ∈ ds → A.units + d.depth < cLine) : SortsAt prog w A s (dataKind s.heap ds) vs := by
  by_cases hall : (firstsOf ds).all id = true
  · refine SortsAt.data e hal (.inl fun d hd => ?_) hu
    clear e hal hu
    induction ds with
    | nil => simp at hd
    | cons x ds ih =>
      rw [List.all_cons, Bool.and_eq_true] at ht
      cases x with
      | tuple zs =>
        cases zs with
        | nil => simp [firstsOf] at hall
        | cons z zs =>
          rcases List.mem_cons.mp hd with rfl | hd
          · exact ⟨_, _, rfl⟩
          · exact ih ht.2 (by simpa [firstsOf] using hall) hd
      | _ => simp [isTupD] at ht
  · have room : ∀ {d d' : D}, d ∈ ds → A.units + min d.depth d'.depth < cLine := fun {d d'} hd => Nat.lt_of_le_of_lt (Nat.add_le_add_left (Nat.min_le_left _ _) _) (hu d hd)
    have tup : ∀ d ∈ ds, ∃ xs, d = .tuple xs := fun d hd => by
      have := List.all_eq_true.mp ht d hd
      cases d <;> simp [isTupD] at this
      exact ⟨_, rfl⟩
    refine ⟨fun v hv => ?_, ?_⟩
    · obtain ⟨d, hd, as, r⟩ := e.left v hv
      exact ⟨_, dataKind_some hal hd r⟩
    by_cases h0 : (firstsOf ds).head? = some true
    · refine ⟨general', fun E x y a b Q ha hb hq => ?_, fun h2 E Q hq => ?_⟩
      · obtain ⟨d, as, hd, ra, rfl⟩ := dataKind_inv ha
        obtain ⟨d', as', hd', rb, rfl⟩ := dataKind_inv hb
        obtain ⟨xs, rfl⟩ := tup d hd
        exact oneLt_alike (f := false) (fun z => nomatch z) ra rb (hal _ hd _ hd') (fun z => nomatch z) (room hd) hq
      · rw [keyKind'_eq, List.mapM_toArray, map_eq_pure_bind]
        refine wpAny_bind (wpAny_bind (firsts_run e ht fun fs hf => wpAny_pure ?_))
        have e1 : (fs.toArray.all fun x => x.isSome) = false := by
          have : (fs.all fun x => x.isSome) = (firstsOf ds).all id := by rw [← hf, List.all_map]; rfl
          rw [List.all_toArray, this]; simpa using hall
        have e2 : (fs.toArray[0]?.bind id).isSome = true := by
          rw [← hf] at h0
          cases fs with
          | nil => simp at h0
          | cons f fs => simpa using h0
        rw [if_neg (by rw [e1]; decide), if_pos e2]
        exact wpAny_pure hq
    · refine ⟨oneType', fun E x y a b Q ha hb hq => ?_, fun h2 E Q hq => ?_⟩
      · obtain ⟨d, as, hd, ra, rfl⟩ := dataKind_inv ha
        obtain ⟨d', as', hd', rb, rfl⟩ := dataKind_inv hb
        obtain ⟨xs, rfl⟩ := tup d hd
        obtain ⟨ys, rfl⟩ := tup d' hd'
        rw [keyLt'_oneType]
        exact oneLt_tups ra rb (hal _ hd _ hd') (room hd) hq
      · rw [keyKind'_eq, List.mapM_toArray, map_eq_pure_bind]
        refine wpAny_bind (wpAny_bind (firsts_run e ht fun fs hf => wpAny_pure ?_))
        have e1 : (fs.toArray.all fun x => x.isSome) = false := by
          have : (fs.all fun x => x.isSome) = (firstsOf ds).all id := by rw [← hf, List.all_map]; rfl
          rw [List.all_toArray, this]; simpa using hall
        have e2 : (fs.toArray[0]?.bind id).isSome = false := by
          rw [← hf] at h0
          cases fs with
          | nil => rfl
          | cons f fs => simpa using h0
        rw [if_neg (by rw [e1]; decide), if_neg (by rw [e2]; decide)]
        rw [oneTypeOnly'_eq, List.mapM_toArray, map_eq_pure_bind]
        refine wpAny_bind (wpAny_bind (wpAny_bind (kas_mapM (r := Value.type "tuple") _ (fun v hv Q' hq' => ?_) (wpAny_pure ?_))))
        · obtain ⟨d, hd, as, r⟩ := e.left v hv
          obtain ⟨xs, rfl⟩ := tup d hd
          exact (looks_reads r).here hq'
        · cases vs with
          | nil => simp at h2
          | cons v vs =>
            have a1 : ((List.map (fun _ => Value.type "tuple") (v :: vs)).toArray.all fun x => x == Value.type "tuple") = true := by
              simp only [List.all_toArray, List.all_map, List.all_eq_true]
              intro _ _; rfl
            have a0 : (List.map (fun _ => Value.type "tuple") (v :: vs)).toArray[0]? = some (Value.type "tuple") := by simp
            rw [a0]
            simp only [a1, if_true]
            exact wpAny_pure (wpAny_pure hq)
end

section
variable {X : Cx} {pins : List (Addr × Obj)} {s : Shared} {σ : L2.St} {H : Hp} {N : Addr → Prop}
theorem sortOk_and {ds : List D} (h : sortOk ds = true) : AllAlike ds ∧ (∀ d ∈ ds, PyData.plain d = true ∧ d.depth ≤ 50) ∧ (ds.all isTupD = true ∨ ∀ d ∈ ds, d ≠ .none ∧ ∀ xs, d ≠ .tuple xs) := by
  unfold sortOk at h
  rw [Bool.and_eq_true, Bool.and_eq_true, Bool.or_eq_true] at h
  obtain ⟨⟨h1, h2⟩, h3⟩ := h
  refine ⟨fun d hd d' hd' => List.all_eq_true.mp (List.all_eq_true.mp h1 d hd) d' hd', fun d hd => ?_, h3.imp id fun h3 d hd => ?_⟩
  · have := List.all_eq_true.mp h2 d hd
    rwa [Bool.and_eq_true, decide_eq_true_eq] at this
  · have := List.all_eq_true.mp h3 d hd
    refine ⟨fun e => ?_, fun xs e => ?_⟩ <;> subst e <;> simp [isTupD, isNoneD] at this
theorem sortOk_at {prog : Program} {w : World} {A : Around} {s : Shared} {vs : List Value} {ds : List D} (h : sortOk ds = true) (e : EachIs (fun v d => ∃ as, Reads s.heap v d as) vs ds) (hu : ∀ d, d ∈ ds → A.units + d.depth < cLine) :
    SortsAt prog w A s (dataKind s.heap ds) vs := by
  obtain ⟨h1, h2, h3⟩ := sortOk_and h
  rcases h3 with h3 | h3
  · exact sorts_tups e h1 h3 hu
  · exact SortsAt.data e h1 (.inr h3) hu
/-- a value of the abstract heap, its data -/
def VD (B : Bs) (N : Addr → Prop) (H : Hp) (u : Value) (d : D) : Prop := ∃ v, RelV v u ∧ Rp B N H v d
theorem each_of {B : Bs} : ∀ {vs : List V} {us : List Value} {ds : List D}, Vals vs us → RpA B N H vs ds → EachIs (VD B N H) us ds
  | _, _, _, .nil, r => by cases r; exact .nil
  | _, _, _, .cons a t, r => by
    cases r with
    | cons b t' => exact .cons ⟨_, a, b⟩ (each_of t t')
theorem of_each {B : Bs} : ∀ {us : List Value} {ds : List D}, EachIs (VD B N H) us ds → ∃ vs, Vals vs us ∧ RpA B N H vs ds
  | _, _, .nil => ⟨[], .nil, .nil⟩
  | _, _, .cons ⟨v, a, b⟩ t => by
    obtain ⟨vs, h1, h2⟩ := of_each t
    exact ⟨v :: vs, .cons a h1, .cons b h2⟩
theorem each_reads (I : Inv X pins σ H s) {us : List Value} {ds : List D} (hp : ∀ d ∈ ds, PyData.plain d = true) (e : EachIs (VD (bsOf X) N H) us ds) : EachIs (fun v d => ∃ as, Reads s.heap v d as) us ds :=
  (each_mem e).mono fun u d ⟨⟨v, a, b⟩, hd⟩ => rel_reads I a (.inl b) (hp d hd)
theorem each_up {us : List Value} {ds : List D} {h h' : Heap} (k : ∀ b o, h.get? b = some o → h'.get? b = some o) (e : EachIs (fun v d => ∃ as, Reads h v d as) us ds) : EachIs (fun v d => ∃ as, Reads h' v d as) us ds :=
  e.mono fun _ _ ⟨as, r⟩ => ⟨as, PyProof.Rows.Reads.keeps k r⟩
variable (hu : X.A.units + 150 < cLine)
include hu
/-- sorted of a list that lies at l in the machine's heap -/
theorem sorted_at (I : Inv X pins σ H s) {l : Addr} {us : List Value} {ds : List D} (hl : s.heap.IsList l us.toArray) (e : EachIs (VD (bsOf X) N H) us ds) (hz : us.length ≤ sizeLine) (hk : sortOk ds = true) {Q : VK}
    (q : ∀ v H', Grow (bsOf X) N H H' v (.ow (.list (ds.mergeSort (dataLe false id)))) → Q v H') : wpAny (model X.prog X.w) X.A (call (.builtin "sorted") [.ref l]) (EP X pins σ Q) X.xe s := by
  obtain ⟨h1, h2, h3⟩ := sortOk_and hk
  have er := each_reads I (fun d hd => (h2 d hd).1) e
  have er' : EachIs (fun v d => ∃ as, Reads (sortingHeap (copyHeap s.heap us) (s.heap.objs.size + 1) us) v d as) us ds := each_up (fun _ _ => sorting_copy_old) er
  refine sorted_vals (κ := dataKind (sortingHeap (copyHeap s.heap us) (s.heap.objs.size + 1) us) ds) hl (sortOk_at (s := { s with heap := sortingHeap (copyHeap s.heap us) (s.heap.objs.size + 1) us }) hk er' (fun d hd => ?_)) hz ?_
  · have := (h2 d hd).2
    show X.A.units + 1 + 1 + d.depth < cLine
    omega
  · have e1 : EachIs (VD (bsOf X) N H) (sortVals (dataKind (sortingHeap (copyHeap s.heap us) (s.heap.objs.size + 1) us) ds) false us us) (ds.mergeSort (dataLe false id)) := by
      have e2 : ds.map id = ds := List.map_id ds
      have := sortVals_data (h' := sortingHeap (copyHeap s.heap us) (s.heap.objs.size + 1) us) (R := VD (bsOf X) N H) (enc := (id : D → D)) false e er' (by rw [e2]; exact h1)
      rw [e2] at this
      exact this
    obtain ⟨vs, hv, hr⟩ := of_each e1
    obtain ⟨c, hc⟩ := sortedAll_at s.heap us (sortVals (dataKind (sortingHeap (copyHeap s.heap us) (s.heap.objs.size + 1) us) ds) false us us).toArray
    have hlen : vs.length ≤ sizeLine := by
      rw [hr.length, List.length_mergeSort, ← e.length]; exact hz
    have fresh : H (s.heap.objs.size + 1) = none := I.hok.fresh (Nat.le_succ _)
    exact ⟨.ref (s.heap.objs.size + 1), _, I.laid (t' := s.toks) (o := .lst vs) (fun _ _ => sortedAll_old) (Nat.le_succ _) ⟨hlen, _, c, hv, hc⟩, rfl, q _ _ (.newLst fresh hr)⟩
theorem p_sorted_list : CallR X (.builtin "sorted") (fun xs H Q => ∃ N d ds, xs = [d] ∧ RA (bsOf X) N H d (.list ds) ∧ sortOk ds = true ∧ ∀ v H', Grow (bsOf X) N H H' v (.ow (.list (ds.mergeSort (dataLe false id)))) → Q v H') := by
  rintro pins s σ H xs us Q I r ⟨N, d, ds, rfl, a, hk, q⟩
  obtain ⟨u, rfl, ru⟩ := vals1 r
  obtain ⟨p, vs, rfl, hp, ra⟩ := a.list
  cases ru
  obtain ⟨its, rv, pl, hz⟩ := I.list (.inl hp)
  exact sorted_at hu I pl.isList (each_of rv ra) (by rw [← rv.length]; exact hz) hk q
omit hu in
theorem raw_k1 : ∀ {kvs : List (Key × V)} {vs : List (Key × Value)} {es : List DictEntry}, KV kvs vs → Pairs (mixKind X.prog X.w) es vs → EachIs (VD (bsOf X) N H) (es.map (·.key)) (kvs.map fun p => keyD p.1)
  | _, _, _, .nil, pr => by cases pr; exact .nil
  | _, _, _, .cons (a := p) r1 r2, pr => by
    cases pr with
    | cons h1 h2 t =>
      refine .cons ?_ (raw_k1 r2 t)
      dsimp only
      rcases keyIs_shape (show keyIs _ _ = true from h1) with ⟨i, t', ek, ev⟩ | ⟨z', t', ek, ev⟩
      · rw [r1.1, ek, ev]; exact ⟨.int i, ⟨t', rfl⟩, .int i⟩
      · rw [r1.1, ek, ev]; exact ⟨.str z', ⟨t', rfl⟩, .str z'⟩
omit hu in
theorem raw_k2 : ∀ {kvs : List (Key × V)} {vs : List (Key × Value)} {es : List DictEntry} {dd : List D}, KV kvs vs → Pairs (mixKind X.prog X.w) es vs → RpA (bsOf X) N H (kvs.map (·.2)) dd → EachIs (VD (bsOf X) N H) (es.map (·.val)) dd
  | _, _, _, _, .nil, pr, r => by cases pr; cases r; exact .nil
  | _, _, _, _, .cons (a := p) r1 r2, pr, r => by
    cases pr with
    | cons h1 h2 t =>
      cases r with
      | cons q1 q2 => exact .cons ⟨_, by dsimp only; rw [h2]; exact r1.2, q1⟩ (raw_k2 r2 t q2)
omit hu in
theorem raw_n1 : ∀ {xs : List NEnt} {ys : List (NestedKey × Addr × Value)} {dd : List D}, Paired PN xs ys → RpA (bsOf X) N H (xs.map fun p => V.ref p.2.1) dd → EachIs (VD (bsOf X) N H) (ys.map fun y => Value.ref y.2.1) dd
  | _, _, _, .nil, r => by cases r; exact .nil
  | _, _, _, .cons q t, r => by
    cases r with
    | cons a1 a2 => exact .cons ⟨_, by dsimp only; rw [q.2.1]; rfl, a1⟩ (raw_n1 t a2)
omit hu in
theorem raw_n2 : ∀ {xs : List NEnt} {ys : List (NestedKey × Addr × Value)} {dd : List D}, Paired PN xs ys → RpA (bsOf X) N H (xs.map (·.2.2)) dd → EachIs (VD (bsOf X) N H) (ys.map (·.2.2)) dd
  | _, _, _, .nil, r => by cases r; exact .nil
  | _, _, _, .cons q t, r => by
    cases r with
    | cons a1 a2 => exact .cons ⟨_, q.2.2, a1⟩ (raw_n2 t a2)
omit hu in
theorem raw_w1 : ∀ {es : List DictEntry} {ds : List (D × D)}, Paired KEnt es ds → EachIs (VD (bsOf X) N H) (es.map (·.key)) (ds.map (·.1))
  | _, _, .nil => .nil
  | _, _, .cons (a := e) (b := kv) q t => by
    refine .cons ?_ (raw_w1 t)
    obtain ⟨⟨z, t', e1, e2⟩, _⟩ := q
    show VD (bsOf X) N H e.key kv.1
    rw [e1, e2]; exact ⟨.str z, ⟨t', rfl⟩, .str z⟩
omit hu in
theorem raw_w2 : ∀ {es : List DictEntry} {ds : List (D × D)}, Paired KEnt es ds → EachIs (VD (bsOf X) N H) (es.map (·.val)) (ds.map (·.2))
  | _, _, .nil => .nil
  | _, _, .cons (a := e) (b := kv) q t => by
    refine .cons ?_ (raw_w2 t)
    have hv := q.2
    show VD (bsOf X) N H e.val kv.2
    cases hd : kv.2 with
    | int i => rw [hd] at hv; exact ⟨.int i, hv, .int i⟩
    | str i => rw [hd] at hv; exact ⟨.str i, hv, .str i⟩
    | _ => rw [hd] at hv; exact hv.elim
omit hu in
/-- a dict's entries as they lie -/
theorem dict_raw (I : Inv X pins σ H s) {x : V} {ds : List (D × D)} (a : RA (bsOf X) N H x (.dict ds)) : ∃ p es ep, x = .ref p ∧ s.heap.DictRaw p es ep ∧ (p == sysModules) = false ∧ es.size ≤ sizeLine ∧
    EachIs (VD (bsOf X) N H) (es.toList.map (·.key)) (ds.map (·.1)) ∧ EachIs (VD (bsOf X) N H) (es.toList.map (·.val)) (ds.map (·.2)) := by
  have key : ∀ {p : Addr} {o : HO}, RT (bsOf X) N H p (.dict ds) → ∃ es ep, s.heap.DictRaw p es ep ∧ (p == sysModules) = false ∧ es.size ≤ sizeLine ∧
      EachIs (VD (bsOf X) N H) (es.toList.map (·.key)) (ds.map (·.1)) ∧ EachIs (VD (bsOf X) N H) (es.toList.map (·.val)) (ds.map (·.2)) := by
    intro p o t
    cases t with
    | dk hp e r =>
      rename_i kvs
      obtain ⟨z, hs, vs, rel, o, es, ep, g, ex, dat, _, pr, _⟩ := dk_of I.hok hp
      refine ⟨es, ep, ⟨o, g, ex, dat⟩, hs, ?_, ?_, ?_⟩
      · have := pr.length; rw [Array.length_toList] at this; rw [this, ← rel.length]; exact z
      · rw [← e]; exact raw_k1 rel pr
      · exact raw_k2 rel pr r
    | dn hp z e h8 r1 r2 =>
      obtain ⟨hz, hs, ys, pr, o, es, ep, g, ex, dat, es', _, _⟩ := dn_dict I hp e h8 r1
      refine ⟨es, ep, ⟨o, g, ex, dat⟩, hs, ?_, ?_, ?_⟩
      · rw [← Array.length_toList, es', List.length_map, ← Paired.length pr]; exact hz
      · rw [es', List.map_map]; exact raw_n1 pr r1
      · rw [es', List.map_map]; exact raw_n2 pr r2
  rcases a with a | ⟨p, rfl, t⟩
  · cases a with
    | mu _ t => obtain ⟨es, ep, h⟩ := key (o := .tup []) t; exact ⟨_, es, ep, rfl, h⟩
    | kd h =>
      obtain ⟨es, n, kd, hne, hz, pr⟩ := h
      exact ⟨_, es, n, rfl, ⟨_, I.kIn _ _ kd.at_, ⟨rfl, rfl, rfl⟩, rfl⟩, kd.low, hz, raw_w1 pr, raw_w2 pr⟩
  · obtain ⟨es, ep, h⟩ := key (o := .tup []) t; exact ⟨_, es, ep, rfl, h⟩
end
end C
end
section
set_option Elab.async false
set_option linter.all false
set_option maxRecDepth 100000
set_option maxHeartbeats 1000000
/-! The other primitives. -/
namespace C
open PySem PySem.Spec L2
variable [Lams]

section
variable {B : Bs} {N : Addr → Prop} {H : Hp}
theorem RAs.three {vs : List V} {d e f : D} (h : RAs B N H vs [d, e, f]) : ∃ v w x, vs = [v, w, x] ∧ RA B N H v d ∧ RA B N H w e ∧ RA B N H x f := by
  cases h with | cons a t => cases t with | cons b t => cases t with | cons c t => cases t; exact ⟨_, _, _, rfl, a, b, c⟩
theorem ints_of : ∀ {ds : List D} {ns : List Int} {vs : List V}, intsD ds = some ns → RpA B N H vs ds → vs = ns.map V.int
  | [], _, _, e, r => by cases r; simp [intsD] at e; subst e; rfl
  | d :: ds, ns, _, e, r => by
    cases r with
    | cons a t =>
      cases d with
      | int i =>
        simp only [intsD, Option.map_eq_some_iff] at e
        obtain ⟨ms, e1, rfl⟩ := e
        rw [(RA.int (.inl a)), ints_of e1 t]; rfl
      | _ => simp [intsD] at e
theorem bools_of : ∀ {ds : List D} {ns : List Bool} {vs : List V}, bools ds = some ns → RpA B N H vs ds → vs = ns.map V.bl
  | [], _, _, e, r => by cases r; simp [bools] at e; subst e; rfl
  | d :: ds, ns, _, e, r => by
    cases r with
    | cons a t =>
      cases d with
      | bool i =>
        simp only [bools, Option.map_eq_some_iff] at e
        obtain ⟨ms, e1, rfl⟩ := e
        rw [(RA.bool (.inl a)), bools_of e1 t]; rfl
      | _ => simp [bools] at e
theorem maxI_eq : ∀ {ns : List Int} {m : Int}, m ∈ ns → (∀ y, y ∈ ns → y ≤ m) → maxI ns = m
  | [], _, h, _ => by simp at h
  | [x], m, h, _ => by simp at h; rw [maxI, h]
  | x :: y :: zs, m, h, k => by
    rw [maxI]
    · by_cases hm : m ∈ y :: zs
      · have := maxI_eq hm fun z hz => k z (List.mem_cons_of_mem _ hz)
        rw [this]
        have := k x (by simp)
        split <;> omega
      · have hx : m = x := by rcases List.mem_cons.mp h with e | e; exact e; exact absurd e hm
        subst hx
        have hle : ∀ (l : List Int), l ≠ [] → (∀ z, z ∈ l → z ≤ m) → maxI l ≤ m := by
          intro l
          induction l with
          | nil => intro z; exact absurd rfl z
          | cons a l ih =>
            intro _ hz
            cases l with
            | nil => rw [maxI]; exact hz a (by simp)
            | cons b l =>
              rw [maxI]
              · have := ih (by simp) fun z hz' => hz z (List.mem_cons_of_mem _ hz')
                have := hz a (by simp)
                split <;> omega
              · simp
        rw [if_pos (hle _ (by simp) fun z hz => k z (List.mem_cons_of_mem _ hz))]
    · simp
theorem minI_eq : ∀ {ns : List Int} {m : Int}, m ∈ ns → (∀ y, y ∈ ns → m ≤ y) → minI ns = m
  | [], _, h, _ => by simp at h
  | [x], m, h, _ => by simp at h; rw [minI, h]
  | x :: y :: zs, m, h, k => by
    rw [minI]
    · by_cases hm : m ∈ y :: zs
      · have := minI_eq hm fun z hz => k z (List.mem_cons_of_mem _ hz)
        rw [this]
        have := k x (by simp)
        split <;> omega
      · have hx : m = x := by rcases List.mem_cons.mp h with e | e; exact e; exact absurd e hm
        subst hx
        have hle : ∀ (l : List Int), l ≠ [] → (∀ z, z ∈ l → m ≤ z) → m ≤ minI l := by
          intro l
          induction l with
          | nil => intro z; exact absurd rfl z
          | cons a l ih =>
            intro _ hz
            cases l with
            | nil => rw [minI]; exact hz a (by simp)
            | cons b l =>
              rw [minI]
              · have := ih (by simp) fun z hz' => hz z (List.mem_cons_of_mem _ hz')
                have := hz a (by simp)
                split <;> omega
              · simp
        rw [if_pos (hle _ (by simp) fun z hz => k z (List.mem_cons_of_mem _ hz))]
    · simp
end

section
variable {prog : Program} {w : World} {A : Around} {E : Value → Shared → Prop} {s : Shared}
theorem len_raw {d : Addr} {es : Array DictEntry} {ep : Nat} {Q : Value → Shared → Prop} (hd : (d == sysModules) = false) (hm : s.heap.DictRaw d es ep) (hfit : (es.size : Int) < 2 ^ 63)
    (h : Q (.int es.size (s.toks + 1)) { s with toks := s.toks + 1 + 1 }) : wpAny (model prog w) A (call (.builtin "len") [.ref d]) Q E s := by
  refine Calls.call_function_entry PySem.kind_len PySem.plain_len PySem.entry_len (PySem.args_len1 _) ?_
  unfold Builtin.«len»
  refine wpAny_bind (m := oneArg "len" _) (wpAny_pure ?_)
  refine wpAny_bind (m := callSpecial? (.ref d) (Str.ofString "__len__")) (wpAny_callSpecial?_slot (name := Str.ofString "__len__") hm.typeIs F.slot_dict_len
    (call_meetsIn F.slot_dict_len hm.typeIs F.entry_dict_len (F.args_dict_len_1 _) (PySem.meets_dict_len_raw d hd) ⟨_, _, hm, ?_⟩))
  refine wpAny_bind (wpAny_holding (wpAny_pure ?_))
  refine wpAny_bind (wpAny_letGo ?_)
  rw [if_neg (by omega)]
  rw [if_neg (by omega)]
  exact wpAny_bind (wpAny_mkInt (wpAny_pure ⟨_, rfl, h⟩))
end

section
variable {X : Cx}
theorem rP_one {p : Pr} {x : V} {H : Hp} {Q : VK} (h1 : ∀ ds sl, evP p ds = some sl → ∃ d, ds = [d]) (h : rP (bsOf X) p [x] H Q) : ∃ N d sl, RA (bsOf X) N H x d ∧ evP p [d] = some sl ∧ ∀ v H', Grow (bsOf X) N H H' v sl → Q v H' := by
  obtain ⟨N, ds, sl, ra, e, q⟩ := h
  obtain ⟨d, rfl⟩ := h1 _ _ e
  cases ra with | cons a t => exact ⟨N, d, sl, a, e, q⟩
theorem rP_ones {p : Pr} {xs : List V} {H : Hp} {Q : VK} (h1 : ∀ ds sl, evP p ds = some sl → ∃ d, ds = [d]) (h : rP (bsOf X) p xs H Q) : ∃ N x d sl, xs = [x] ∧ RA (bsOf X) N H x d ∧ evP p [d] = some sl ∧ ∀ v H', Grow (bsOf X) N H H' v sl → Q v H' := by
  obtain ⟨N, ds, sl, ra, e, q⟩ := h
  obtain ⟨d, rfl⟩ := h1 _ _ e
  obtain ⟨v, rfl, a⟩ := ra.one
  exact ⟨N, v, d, sl, rfl, a, e, q⟩
theorem RA.key_none {N : Addr → Prop} {H : Hp} {x : V} (a : RA (bsOf X) N H x .none) : x = .non := a.none

/-! ### len -/
theorem p_len : CallR X (.builtin "len") (rP (bsOf X) .len) := by
  intro pins s σ H xs us Q I r h
  obtain ⟨N, x, d, sl, rfl, a, e, q⟩ := rP_ones (p := .len) (fun ds sl e => by
    change pLen ds = some sl at e; unfold pLen at e; split at e <;> first | exact ⟨_, rfl⟩ | cases e) h
  change pLen [d] = some sl at e
  have hn := line63
  unfold pLen at e
  split at e <;> try cases e
  · rename_i z; injection z with z1 z2; subst z1
    obtain ⟨p, vs, rfl, hp, ra⟩ := a.list
    exact call_len_seq pins s σ H _ us Q I r ⟨p, vs, rfl, .inl (.inl hp), by rw [ra.length]; exact q _ _ (.flat fun _ => .int _)⟩
  · rename_i z; injection z with z1 z2; subst z1
    obtain ⟨p, vs, rfl, hp, ra⟩ := a.tuple
    exact call_len_seq pins s σ H _ us Q I r ⟨p, vs, rfl, .inr hp, by rw [ra.length]; exact q _ _ (.flat fun _ => .int _)⟩
  · rename_i kvs z; injection z with z1 z2; subst z1
    obtain ⟨u, rfl, ru⟩ := vals1 r
    obtain ⟨p, es, ep, rfl, raw, hs, hz, e1, _⟩ := dict_raw I a
    cases ru
    have hl : es.size = kvs.length := by
      have := e1.length
      rwa [List.length_map, List.length_map, Array.length_toList] at this
    exact len_raw hs raw (by omega) ⟨.int kvs.length, H, I.tok _, ⟨_, by rw [hl]⟩, q _ _ (.flat fun _ => .int _)⟩
  · rename_i z' z; injection z with z1 z2; subst z1
    split at e <;> cases e
    rename_i hz
    rw [lineN_eq] at hz
    cases a.str
    exact call_len_str pins s σ H _ us Q I r ⟨_, rfl, hz, q _ _ (.flat fun _ => .int _)⟩
/-! ### tuple, list -/
theorem p_tuple : CallR X (.type "tuple") (rP (bsOf X) .tuple) := by
  intro pins s σ H xs us Q I r h
  obtain ⟨N, x, d, sl, rfl, a, e, q⟩ := rP_ones (p := .tuple) (fun ds sl e => by
    change pTuple ds = some sl at e; unfold pTuple at e; split at e <;> first | exact ⟨_, rfl⟩ | cases e) h
  change pTuple [d] = some sl at e
  unfold pTuple at e
  split at e <;> cases e
  · rename_i z; injection z with z1 z2; subst z1
    obtain ⟨p, vs, rfl, hp, ra⟩ := a.list
    exact call_tuple_of pins s σ H _ us Q I r ⟨p, vs, rfl, .inl ⟨.inl hp, fun l hl => q _ _ (.newTup hl ra)⟩⟩
  · rename_i z; injection z with z1 z2; subst z1
    obtain ⟨p, vs, rfl, hp, ra⟩ := a.tuple
    exact call_tuple_of pins s σ H _ us Q I r ⟨p, vs, rfl, .inr ⟨hp, q _ _ (.part (.tup hp ra))⟩⟩
theorem p_list : CallR X (.type "list") (rP (bsOf X) .list) := by
  intro pins s σ H xs us Q I r h
  obtain ⟨N, x, d, sl, rfl, a, e, q⟩ := rP_ones (p := .list) (fun ds sl e => by
    change pList ds = some sl at e; unfold pList at e; split at e <;> first | exact ⟨_, rfl⟩ | cases e) h
  change pList [d] = some sl at e
  unfold pList at e
  split at e <;> cases e
  · rename_i z; injection z with z1 z2; subst z1
    obtain ⟨p, vs, rfl, hp, ra⟩ := a.list
    exact call_list_of pins s σ H _ us Q I r ⟨p, vs, rfl, .inl (.inl hp), fun l hl => q _ _ (.newLst hl ra)⟩
  · rename_i z; injection z with z1 z2; subst z1
    obtain ⟨p, vs, rfl, hp, ra⟩ := a.tuple
    exact call_list_of pins s σ H _ us Q I r ⟨p, vs, rfl, .inr hp, fun l hl => q _ _ (.newLst hl ra)⟩
/-! ### sum, max, min, any, all -/
theorem p_sum (hc : X.calm = true) : CallR X (.builtin "sum") (rP (bsOf X) .sum) := by
  intro pins s σ H xs us Q I r h
  obtain ⟨N, x, d, sl, rfl, a, e, q⟩ := rP_ones (p := .sum) (fun ds sl e => by
    change pSum ds = some sl at e; unfold pSum at e; split at e <;> first | exact ⟨_, rfl⟩ | cases e) h
  change pSum [d] = some sl at e
  unfold pSum at e
  split at e <;> try cases e
  rename_i xs z; injection z with z1 z2; subst z1
  cases h1 : intsD xs with
  | none => rw [h1] at e; cases e
  | some ns =>
    rw [h1] at e; cases e
    obtain ⟨p, vs, rfl, hp, ra⟩ := a.list
    have := ints_of h1 ra
    subst this
    exact cr_sum hc pins s σ H _ us Q I r ⟨p, ns, rfl, .inl hp, q _ _ (.flat fun _ => .int _)⟩
theorem p_any (hc : X.calm = true) : CallR X (.builtin "any") (rP (bsOf X) .any) := by
  intro pins s σ H xs us Q I r h
  obtain ⟨N, x, d, sl, rfl, a, e, q⟩ := rP_ones (p := .any) (fun ds sl e => by
    change pAny ds = some sl at e; unfold pAny at e; split at e <;> first | exact ⟨_, rfl⟩ | cases e) h
  change pAny [d] = some sl at e
  unfold pAny at e
  split at e <;> try cases e
  rename_i xs z; injection z with z1 z2; subst z1
  cases h1 : bools xs with
  | none => rw [h1] at e; cases e
  | some ns =>
    rw [h1] at e; cases e
    obtain ⟨p, vs, rfl, hp, ra⟩ := a.list
    have := bools_of h1 ra
    subst this
    exact cr_any hc pins s σ H _ us Q I r ⟨p, ns, rfl, .inl hp, q _ _ (.flat fun _ => .bl _)⟩
theorem p_all (hc : X.calm = true) : CallR X (.builtin "all") (rP (bsOf X) .all) := by
  intro pins s σ H xs us Q I r h
  obtain ⟨N, x, d, sl, rfl, a, e, q⟩ := rP_ones (p := .all) (fun ds sl e => by
    change pAll ds = some sl at e; unfold pAll at e; split at e <;> first | exact ⟨_, rfl⟩ | cases e) h
  change pAll [d] = some sl at e
  unfold pAll at e
  split at e <;> try cases e
  rename_i xs z; injection z with z1 z2; subst z1
  cases h1 : bools xs with
  | none => rw [h1] at e; cases e
  | some ns =>
    rw [h1] at e; cases e
    obtain ⟨p, vs, rfl, hp, ra⟩ := a.list
    have := bools_of h1 ra
    subst this
    exact cr_all hc pins s σ H _ us Q I r ⟨p, ns, rfl, .inl hp, q _ _ (.flat fun _ => .bl _)⟩
theorem p_max1 (hc : X.calm = true) : CallR X (.builtin "max") (rP (bsOf X) .max1) := by
  intro pins s σ H xs us Q I r h
  obtain ⟨N, x, d, sl, rfl, a, e, q⟩ := rP_ones (p := .max1) (fun ds sl e => by
    change pMax1 ds = some sl at e; unfold pMax1 at e; split at e <;> first | exact ⟨_, rfl⟩ | cases e) h
  change pMax1 [d] = some sl at e
  unfold pMax1 at e
  split at e <;> try cases e
  rename_i xs z; injection z with z1 z2; subst z1
  cases h1 : intsD xs with
  | none => rw [h1] at e; cases e
  | some ns =>
    rw [h1] at e
    simp only [Option.bind_some] at e
    split at e <;> cases e
    rename_i hne
    obtain ⟨p, vs, rfl, hp, ra⟩ := a.list
    have := ints_of h1 ra
    subst this
    exact cr_max hc pins s σ H _ us Q I r ⟨p, ns, rfl, .inl hp, by cases ns <;> simp at hne ⊢, fun m h1 h2 => by rw [← maxI_eq h1 h2]; exact q _ _ (.flat fun _ => .int _)⟩
theorem p_min1 (hc : X.calm = true) : CallR X (.builtin "min") (rP (bsOf X) .min1) := by
  intro pins s σ H xs us Q I r h
  obtain ⟨N, x, d, sl, rfl, a, e, q⟩ := rP_ones (p := .min1) (fun ds sl e => by
    change pMin1 ds = some sl at e; unfold pMin1 at e; split at e <;> first | exact ⟨_, rfl⟩ | cases e) h
  change pMin1 [d] = some sl at e
  unfold pMin1 at e
  split at e <;> try cases e
  rename_i xs z; injection z with z1 z2; subst z1
  cases h1 : intsD xs with
  | none => rw [h1] at e; cases e
  | some ns =>
    rw [h1] at e
    simp only [Option.bind_some] at e
    split at e <;> cases e
    rename_i hne
    obtain ⟨p, vs, rfl, hp, ra⟩ := a.list
    have := ints_of h1 ra
    subst this
    exact cr_min hc pins s σ H _ us Q I r ⟨p, ns, rfl, .inl hp, by cases ns <;> simp at hne ⊢, fun m h1 h2 => by rw [← minI_eq h1 h2]; exact q _ _ (.flat fun _ => .int _)⟩
theorem p_two {p : Pr} {f : Value} {g : Int → Int → Int} (hp : ∀ ds sl, evP p ds = some sl → ∃ i j, ds = [.int i, .int j] ∧ sl = .sh (.int (g i j))) (hf : CallR X f (fun xs H Q => ∃ i j, xs = [.int i, .int j] ∧ Q (.int (g i j)) H)) : CallR X f (rP (bsOf X) p) := by
  intro pins s σ H xs us Q I r ⟨N, ds, sl, ra, e, q⟩
  obtain ⟨i, j, rfl, rfl⟩ := hp _ _ e
  obtain ⟨v, w, rfl, a, b⟩ := ra.two
  cases a.int; cases b.int
  exact hf pins s σ H _ us Q I r ⟨i, j, rfl, q _ _ (.flat fun _ => .int _)⟩
theorem p_max2 (hc : X.calm = true) : CallR X (.builtin "max") (rP (bsOf X) .max2) := p_two (g := fun i j => if j > i then j else i) (fun ds sl e => by
  change pMax2 ds = some sl at e; unfold pMax2 at e; split at e <;> cases e; exact ⟨_, _, rfl, rfl⟩) (call_max2 hc)
theorem p_min2 (hc : X.calm = true) : CallR X (.builtin "min") (rP (bsOf X) .min2) := p_two (g := fun i j => if j < i then j else i) (fun ds sl e => by
  change pMin2 ds = some sl at e; unfold pMin2 at e; split at e <;> cases e; exact ⟨_, _, rfl, rfl⟩) (call_min2 hc)
theorem p_int : CallR X (.type "int") (rP (bsOf X) .int) := by
  intro pins s σ H xs us Q I r h
  obtain ⟨N, x, d, sl, rfl, a, e, q⟩ := rP_ones (p := .int) (fun ds sl e => by
    change pInt ds = some sl at e; unfold pInt at e; split at e <;> first | exact ⟨_, rfl⟩ | cases e) h
  change pInt [d] = some sl at e
  unfold pInt at e
  split at e <;> cases e
  · rename_i z; injection z with z1 z2; subst z1
    cases a.int
    exact call_int1 pins s σ H _ us Q I r (.inl ⟨_, rfl, q _ _ (.flat fun _ => .int _)⟩)
  · rename_i z; injection z with z1 z2; subst z1
    cases a.bool
    exact call_int1 pins s σ H _ us Q I r (.inr ⟨_, rfl, q _ _ (.flat fun _ => .int _)⟩)
theorem p_abs : CallR X (.builtin "abs") (rP (bsOf X) .abs) := by
  intro pins s σ H xs us Q I r h
  obtain ⟨N, x, d, sl, rfl, a, e, q⟩ := rP_ones (p := .abs) (fun ds sl e => by
    change pAbs ds = some sl at e; unfold pAbs at e; split at e <;> first | exact ⟨_, rfl⟩ | cases e) h
  change pAbs [d] = some sl at e
  unfold pAbs at e
  split at e <;> cases e
  rename_i z; injection z with z1 z2; subst z1
  cases a.int
  exact call_abs pins s σ H _ us Q I r ⟨_, rfl, q _ _ (.flat fun _ => .int _)⟩
/-! ### repr -/
mutual
theorem noDict_plain : ∀ d : D, PyData.plain d = true → d.hasDict = false
  | .none, _ => by simp [PyData.hasDict]
  | .bool _, _ => by simp [PyData.hasDict]
  | .int _, _ => by simp [PyData.hasDict]
  | .str _, _ => by simp [PyData.hasDict]
  | .list xs, h => by simp only [PyData.plain] at h; simp only [PyData.hasDict, noDict_plains xs h]
  | .tuple xs, h => by simp only [PyData.plain] at h; simp only [PyData.hasDict, noDict_plains xs h]
  | .dict _, h => by simp [PyData.plain] at h
theorem noDict_plains : ∀ ds : List D, PyData.plainAll ds = true → PyData.hasDictAll ds = false
  | [], _ => by simp [PyData.hasDictAll]
  | d :: ds, h => by
    simp only [PyData.plainAll, Bool.and_eq_true] at h
    simp only [PyData.hasDictAll, noDict_plain d h.1, noDict_plains ds h.2, Bool.or_self]
end
theorem p_repr (hu : X.A.units + 150 < cLine) (hg : X.A.guards = some []) : CallR X (.builtin "repr") (rP (bsOf X) .repr) := by
  intro pins s σ H xs us Q I r h
  obtain ⟨N, x, d, sl, rfl, a, e, q⟩ := rP_ones (p := .repr) (fun ds sl e => by
    change pRepr ds = some sl at e; unfold pRepr at e; split at e <;> first | exact ⟨_, rfl⟩ | cases e) h
  change (if PyData.showable d && PyData.plain d && decide (d.depth ≤ 50) && decide ((PyData.shown d).length ≤ lineN) then some (Sl.sh (.str (PyData.shown d))) else none) = some sl at e
  split at e <;> cases e
  rename_i hz
  rw [Bool.and_eq_true, Bool.and_eq_true, Bool.and_eq_true, decide_eq_true_eq, decide_eq_true_eq, lineN_eq] at hz
  obtain ⟨⟨⟨h1, h2⟩, h3⟩, h4⟩ := hz
  obtain ⟨u, rfl, ru⟩ := vals1 r
  obtain ⟨as, rd⟩ := rel_reads I ru a h2
  have fin : ∀ (h' : Heap) (u : Tok) (tk : Nat), (∀ b o, s.heap.get? b = some o → h'.get? b = some o) → EP X pins σ Q (.str (PyData.shown d) u) { s with heap := h', toks := tk } := fun h' u tk hk =>
    ⟨.str (PyData.shown d), H, I.kept hk, ⟨_, rfl⟩, q _ _ (.flat fun _ => .str _)⟩
  cases rd with
  | none => exact PySem.P.repr_of_none (fin s.heap _ _ fun _ _ e => e)
  | bool b => exact PySem.P.repr_of_bool (fin s.heap _ _ fun _ _ e => e)
  | int n t => exact PySem.P.repr_of_int (by simpa [PyData.showable] using h1) (fin s.heap _ _ fun _ _ e => e)
  | str z t => exact PySem.P.repr_of_str (hsz := h4) (fin s.heap _ _ fun _ _ e => e)
  | list g1 g2 g3 g4 => exact repr_of_reads' (hsz := h4) (.list g1 g2 g3 g4) h1 (fun z => by rw [noDict_plain _ h2] at z; cases z) hg (by omega) (fun _ _ e => e) fin
  | tuple g1 g2 g3 g4 => exact repr_of_reads' (hsz := h4) (.tuple g1 g2 g3 g4) h1 (fun z => by rw [noDict_plain _ h2] at z; cases z) hg (by omega) (fun _ _ e => e) fin
  | dict g1 g2 g3 g4 g5 => simp [PyData.plain] at h2
/-! ### isinstance -/
theorem p_isi {t : String} : CallR X (.builtin "isinstance") (fun xs H Q => ∃ x, xs = [x, .ty t] ∧ rP (bsOf X) (.isi t) [x] H Q) := by
  intro pins s σ H xs us Q I r h
  obtain ⟨x, rfl, h⟩ := h
  obtain ⟨N, d, sl, a, e, q⟩ := rP_one (p := .isi t) (fun ds sl e => by
    change pIsi t ds = some sl at e; unfold pIsi at e; split at e <;> first | exact ⟨_, rfl⟩ | cases e) h
  change (if PyData.plain d then (isIt t d).bind shB else none) = some sl at e
  split at e <;> try cases e
  rename_i hp
  obtain ⟨u, w', rfl, r1, r2⟩ := vals2 r
  obtain ⟨as, rd⟩ := rel_reads I r1 a hp
  cases (show w' = Value.type t from r2)
  have fin : ∀ (b : Bool), sl = .sh (.bool b) → ∀ tk, s.toks ≤ tk → EP X pins σ Q (.bool b) { s with toks := tk } := fun b e' tk _ => by
    subst e'
    exact ⟨.bl b, H, I.tok _, rfl, q _ _ (.flat fun _ => .bl _)⟩
  unfold isIt at e
  split at e
  · rename_i ht; subst ht; cases e; exact PySem.W.isinstance_int_data rd (fin _ rfl)
  split at e
  · rename_i ht; subst ht; cases e; exact PySem.W.isinstance_bool_data rd (fin _ rfl)
  split at e
  · rename_i ht; subst ht; cases e; exact PySem.W.isinstance_str_data rd (fin _ rfl)
  split at e
  · rename_i ht; subst ht; cases e; exact PySem.W.isinstance_tuple_data rd (fin _ rfl)
  · cases e
end
end C
end
section
set_option Elab.async false
set_option linter.all false
set_option maxRecDepth 100000
set_option maxHeartbeats 1000000
/-! in, not in, is; items, slices; sorted. -/
namespace C
open PySem PySem.Spec L2 PySem.W PyProof.Rows PySem.SeqAt
variable [Lams]
section
variable {X : Cx} {pins : List (Addr × Obj)} {s : Shared} {σ : L2.St} {H : L2.Hp} {N : Addr → Prop}
/-- no list of texts, of tuples -/
theorem ints_dict {x : V} {ds : List (D × D)} (a : RA (bsOf X) N H x (.dict ds)) (hi : ds.all (fun p => isIntD p.1) = true) : ∃ p kvs, x = .ref p ∧ Rd H p (.dK kvs) := by
  have key : ∀ {p : Addr}, RT (bsOf X) N H p (.dict ds) → ∃ kvs, Rd H p (.dK kvs) := by
    intro p t
    cases t with
    | dk hp _ _ => exact ⟨_, .inl hp⟩
    | dn hp z e h8 r1 r2 =>
      rename_i xs
      cases xs with
      | nil => exact absurd rfl z
      | cons q xs =>
        cases ds with
        | nil => simp at e
        | cons k ds =>
          rw [List.all_cons, Bool.and_eq_true] at hi
          cases r1 with
          | cons g1 g2 =>
            have g1' : Rp (bsOf X) N H (.ref q.2.1) k.1 := g1
            cases hq : k.1 <;> rw [hq] at hi g1' <;> simp [isIntD] at hi
            cases RA.int (.inl g1')
  rcases a with a | ⟨p, rfl, t⟩
  · cases a with
    | mu _ t => obtain ⟨kvs, h⟩ := key t; exact ⟨_, _, rfl, h⟩
    | kd h =>
      obtain ⟨es, n, kd, hne, hz, pr⟩ := h
      have s1 := kd_strs pr
      cases ds with
      | nil => exact absurd rfl hne
      | cons q ds =>
        rw [List.all_cons, Bool.and_eq_true] at hi s1
        cases hq : q.1 <;> rw [hq] at hi s1 <;> simp [isIntD, isStrD] at hi s1
  · obtain ⟨kvs, h⟩ := key t; exact ⟨_, _, rfl, h⟩
/-! ### in, not in -/
variable (hu : X.A.units + 150 < cLine)
include hu
theorem p_isin : OpR X (compareOp .In) (rP2 (bsOf X) .isin) := opR_of fun pins s σ H x y v u Q N d e sl I rx ry a b h q => by
  change pIsin [d, e] = some sl at h
  unfold pIsin at h
  split at h
  · rename_i ys z; injection z with z1 z2; injection z2 with z2 _; subst z1; subst z2
    split at h <;> cases h
    rename_i hz; rw [Bool.and_eq_true] at hz
    obtain ⟨p1, q1⟩ := okEq_and hz.1
    obtain ⟨p2, q2⟩ := okEq_and hz.2
    obtain ⟨p3, q3⟩ := okEq_list hz.2
    obtain ⟨as, r1⟩ := rel_reads I rx a p1
    obtain ⟨bs, r2⟩ := rel_reads I ry b p2
    exact SeqAt.in_list_data r2 r1 p3 p1 (by omega) ⟨.bl _, H, I, rfl, q _ _ (.flat fun _ => .bl _)⟩
  · rename_i ys z; injection z with z1 z2; injection z2 with z2 _; subst z1; subst z2
    split at h <;> cases h
    rename_i hz; rw [Bool.and_eq_true] at hz
    obtain ⟨p1, q1⟩ := okEq_and hz.1
    obtain ⟨p2, q2⟩ := okEq_and hz.2
    obtain ⟨p3, q3⟩ := okEq_tuple hz.2
    obtain ⟨as, r1⟩ := rel_reads I rx a p1
    obtain ⟨bs, r2⟩ := rel_reads I ry b p2
    exact SeqAt.in_tuple_data r2 r1 p3 p1 (by omega) ⟨.bl _, H, I, rfl, q _ _ (.flat fun _ => .bl _)⟩
  · rename_i ys z; injection z with z1 z2; injection z2 with z2 _; subst z1; subst z2
    split at h <;> cases h
    rename_i hz
    obtain ⟨p, kvs, rfl, hp⟩ := ints_dict b hz
    cases a.none
    cases rx; cases ry
    exact d_inNone I hp fun s' I' => ⟨.bl false, H, I', rfl, q _ _ (.flat fun _ => .bl _)⟩
  · rename_i ys _ z; injection z with z1 z2; injection z2 with z2 _; subst z1; subst z2
    split at h <;> cases h
    rename_i hz
    obtain ⟨p, rfl, g⟩ := ask_of I b a hz
    cases ry
    exact ask_in hu I g rx (q _ _ (.flat fun _ => .bl _))
  · rename_i xs ys z; injection z with z1 z2; injection z2 with z2 _; subst z1; subst z2
    cases h
    cases a.str; cases b.str
    exact op_in_str pins s σ H _ _ v u Q I rx ry ⟨_, _, rfl, rfl, q _ _ (.flat fun _ => .bl _)⟩
  · cases h
theorem p_notin : OpR X (compareOp .NotIn) (rP2 (bsOf X) .notin) := opR_of fun pins s σ H x y v u Q N d e sl I rx ry a b h q => by
  change pNotin [d, e] = some sl at h
  unfold pNotin at h
  split at h
  · rename_i ys z; injection z with z1 z2; injection z2 with z2 _; subst z1; subst z2
    split at h <;> cases h
    rename_i hz
    obtain ⟨p, kvs, rfl, hp⟩ := ints_dict b hz
    cases a.none
    cases rx; cases ry
    exact d_notInNone I hp fun s' I' => ⟨.bl true, H, I', rfl, q _ _ (.flat fun _ => .bl _)⟩
  · rename_i ys z; injection z with z1 z2; injection z2 with z2 _; subst z1; subst z2
    split at h <;> cases h
    rename_i hz; rw [Bool.and_eq_true] at hz
    obtain ⟨p1, q1⟩ := okEq_and hz.1
    obtain ⟨p2, q2⟩ := okEq_and hz.2
    obtain ⟨p3, q3⟩ := okEq_list hz.2
    obtain ⟨as, r1⟩ := rel_reads I rx a p1
    obtain ⟨bs, r2⟩ := rel_reads I ry b p2
    exact SeqAt.notIn_list_data r2 r1 p3 p1 (by omega) ⟨.bl _, H, I, rfl, q _ _ (.flat fun _ => .bl _)⟩
  · rename_i ys z; injection z with z1 z2; injection z2 with z2 _; subst z1; subst z2
    split at h <;> cases h
    rename_i hz; rw [Bool.and_eq_true] at hz
    obtain ⟨p1, q1⟩ := okEq_and hz.1
    obtain ⟨p2, q2⟩ := okEq_and hz.2
    obtain ⟨p3, q3⟩ := okEq_tuple hz.2
    obtain ⟨as, r1⟩ := rel_reads I rx a p1
    obtain ⟨bs, r2⟩ := rel_reads I ry b p2
    exact SeqAt.notIn_tuple_data r2 r1 p3 p1 (by omega) ⟨.bl _, H, I, rfl, q _ _ (.flat fun _ => .bl _)⟩
  · rename_i ys _ z; injection z with z1 z2; injection z2 with z2 _; subst z1; subst z2
    split at h <;> cases h
    rename_i hz
    obtain ⟨p, rfl, g⟩ := ask_of I b a hz
    cases ry
    exact ask_notin hu I g rx (q _ _ (.flat fun _ => .bl _))
  · rename_i xs ys z; injection z with z1 z2; injection z2 with z2 _; subst z1; subst z2
    cases h
    cases a.str; cases b.str
    exact op_notin_str pins s σ H _ _ v u Q I rx ry ⟨_, _, rfl, rfl, q _ _ (.flat fun _ => .bl _)⟩
  · cases h
omit hu
/-! ### is, is not of a truth value -/
def isBd (b : Bool) : D → Bool
  | .bool c => c == b
  | _ => false
theorem p_isB (b : Bool) : OpR X (compareOp .Is) (fun x y H Q => y = .bl b ∧ rP (bsOf X) (.isB b) [x] H Q) := by
  rintro pins s σ H x y v u Q I rx ry ⟨rfl, N, ds, sl, ra, e, q⟩
  cases (show u = Value.bool b from ry)
  cases ra with
  | cons a t =>
    cases t
    rename_i d
    have e' : shB (isBd b d) = some sl := by rw [← e]; cases d <;> rfl
    cases e'
    have fin : ∀ c, isBd b d = c → EP X pins σ Q (.bool c) s := fun c hc => ⟨.bl c, H, I, rfl, by rw [← hc]; exact q _ _ (.flat fun _ => .bl _)⟩
    cases d with
    | none => cases a.none; cases rx; exact wpAny_is_other rfl (fun z => nomatch z) (fin _ rfl)
    | bool c =>
      cases a.bool; cases (show v = Value.bool c from rx)
      exact wpAny_is_plain rfl (fin _ (by cases b <;> cases c <;> rfl))
    | int i => cases a.int; obtain ⟨t, rfl⟩ := rx; exact wpAny_is_other rfl (fun z => nomatch z) (fin _ rfl)
    | str i => cases a.str; obtain ⟨t, rfl⟩ := rx; exact wpAny_is_other rfl (fun z => nomatch z) (fin _ rfl)
    | list i => obtain ⟨p, _, rfl, _⟩ := a.list; cases rx; exact wpAny_is_other rfl (fun z => nomatch z) (fin _ rfl)
    | tuple i => obtain ⟨p, _, rfl, _⟩ := a.tuple; cases rx; exact wpAny_is_other rfl (fun z => nomatch z) (fin _ rfl)
    | dict i => obtain ⟨p, _, _, rfl, _⟩ := dict_raw I a; cases rx; exact wpAny_is_other rfl (fun z => nomatch z) (fin _ rfl)
theorem p_notB (b : Bool) : OpR X (compareOp .IsNot) (fun x y H Q => y = .bl b ∧ rP (bsOf X) (.notB b) [x] H Q) := by
  rintro pins s σ H x y v u Q I rx ry ⟨rfl, N, ds, sl, ra, e, q⟩
  cases (show u = Value.bool b from ry)
  cases ra with
  | cons a t =>
    cases t
    rename_i d
    have e' : shB (!isBd b d) = some sl := by rw [← e]; cases d <;> rfl
    cases e'
    have fin : ∀ c, (!isBd b d) = c → EP X pins σ Q (.bool c) s := fun c hc => ⟨.bl c, H, I, rfl, by rw [← hc]; exact q _ _ (.flat fun _ => .bl _)⟩
    cases d with
    | none => cases a.none; cases rx; exact wpAny_isNot_other rfl (fun z => nomatch z) (fin _ rfl)
    | bool c =>
      cases a.bool; cases (show v = Value.bool c from rx)
      exact wpAny_isNot_plain rfl (fin _ (by cases b <;> cases c <;> rfl))
    | int i => cases a.int; obtain ⟨t, rfl⟩ := rx; exact wpAny_isNot_other rfl (fun z => nomatch z) (fin _ rfl)
    | str i => cases a.str; obtain ⟨t, rfl⟩ := rx; exact wpAny_isNot_other rfl (fun z => nomatch z) (fin _ rfl)
    | list i => obtain ⟨p, _, rfl, _⟩ := a.list; cases rx; exact wpAny_isNot_other rfl (fun z => nomatch z) (fin _ rfl)
    | tuple i => obtain ⟨p, _, rfl, _⟩ := a.tuple; cases rx; exact wpAny_isNot_other rfl (fun z => nomatch z) (fin _ rfl)
    | dict i => obtain ⟨p, _, _, rfl, _⟩ := dict_raw I a; cases rx; exact wpAny_isNot_other rfl (fun z => nomatch z) (fin _ rfl)
/-! ### items -/
theorem idx_at {xs : List V} {ds : List D} {i : Int} {d : D} (r : RpA (bsOf X) N H xs ds) (e : ((idx ds.length i).bind fun j => (ds[j]?).map Sl.sh) = some (.sh d)) : ∃ v, atI xs i = some v ∧ Rp (bsOf X) N H v d := by
  cases h : idx ds.length i with
  | none => rw [h] at e; cases e
  | some j =>
    rw [h] at e
    simp only [Option.bind_some, Option.map_eq_some_iff, Sl.sh.injEq] at e
    obtain ⟨d', h1, rfl⟩ := e
    obtain ⟨v, h2, h3⟩ := r.get h1
    refine ⟨v, ?_, h3⟩
    unfold atI
    rw [show ixN xs.length i = some j by rw [r.length]; exact h]
    exact h2
include hu
theorem p_item : IxR X (rP2 (bsOf X) .item) := by
  rintro value slice pins s σ H x y v u Q I rx ry ⟨N, ds, sl, ra, e, q⟩ hs
  cases ra with
  | cons a t =>
    cases t with
    | cons b t =>
      cases t
      rename_i d1 d2
      change pItem [d1, d2] = some sl at e
      unfold pItem at e
      split at e
      · rename_i xs i z; injection z with z1 z2; injection z2 with z2 _; subst z1; subst z2
        obtain ⟨p, vs, rfl, hp, r1⟩ := a.list
        cases b.int
        have hsl : ∃ d, sl = .sh d := by
          cases h : idx xs.length i with
          | none => rw [h] at e; cases e
          | some j => rw [h] at e; simp only [Option.bind_some, Option.map_eq_some_iff] at e; obtain ⟨d, _, rfl⟩ := e; exact ⟨d, rfl⟩
        obtain ⟨d, rfl⟩ := hsl
        obtain ⟨v', h1, h2⟩ := idx_at r1 e
        exact ix_list value slice pins s σ H _ _ v u Q I rx ry ⟨p, vs, i, v', rfl, rfl, .inl hp, h1, q _ _ (.part h2)⟩ hs
      · rename_i xs i z; injection z with z1 z2; injection z2 with z2 _; subst z1; subst z2
        obtain ⟨p, vs, rfl, hp, r1⟩ := a.tuple
        cases b.int
        have hsl : ∃ d, sl = .sh d := by
          cases h : idx xs.length i with
          | none => rw [h] at e; cases e
          | some j => rw [h] at e; simp only [Option.bind_some, Option.map_eq_some_iff] at e; obtain ⟨d, _, rfl⟩ := e; exact ⟨d, rfl⟩
        obtain ⟨d, rfl⟩ := hsl
        obtain ⟨v', h1, h2⟩ := idx_at r1 e
        exact ix_tup value slice pins s σ H _ _ v u Q I rx ry ⟨p, vs, i, v', rfl, rfl, hp, h1, q _ _ (.part h2)⟩ hs
      · rename_i kvs k z; injection z with z1 z2; injection z2 with z2 _; subst z1; subst z2
        split at e <;> try cases e
        rename_i hk
        rw [Option.map_eq_some_iff] at e
        obtain ⟨d, h1, rfl⟩ := e
        exact ix_dict hu value slice pins s σ H _ _ v u Q I rx ry ⟨N, kvs, _, d, a, b, hk, h1, fun v' h2 => q _ _ (.part h2)⟩ hs
      · rename_i y i z; injection z with z1 z2; injection z2 with z2 _; subst z1; subst z2
        split at e <;> try cases e
        rename_i hz; rw [lineN_eq] at hz
        cases a.str; cases b.int
        cases hj : idx y.cps.toList.length i with
        | none => rw [hj] at e; cases e
        | some j =>
          rw [hj, Option.bind_some, Option.map_eq_some_iff] at e
          obtain ⟨c, hc, rfl⟩ := e
          exact ix_str value slice pins s σ H _ _ v u Q I rx ry ⟨y, i, c, rfl, rfl, hz, by unfold atI; rw [show ixN y.cps.toList.length i = some j from hj]; exact hc, q _ _ (.flat fun _ => .str _)⟩ hs
      · cases e
omit hu
/-! ### slices -/
theorem rpA_cut {xs : List V} {ds : List D} (r : RpA (bsOf X) N H xs ds) (lo hi : Option Int) : RpA (bsOf X) N H (cutV xs lo hi) (cut ds lo hi) := by
  unfold cutV cut
  rw [r.length]
  exact (r.drop _).take _
theorem cut_whole {ds : List D} {lo hi : Option Int} (h : HT.sIx ds.length 0 lo = 0 ∧ HT.sIx ds.length ds.length hi = ds.length) : cut ds lo hi = ds := by
  unfold cut
  rw [h.1, h.2]
  simp
/-- xs[lo:hi] by data -/
def rSl (B : Bs) : V → Option Int → Option Int → Hp → VK → Prop := fun x lo hi H Q => ∃ N ds, (RA B N H x (.list ds) ∧ ∀ v H', Grow B N H H' v (.ow (.list (cut ds lo hi))) → Q v H') ∨ (RA B N H x (.tuple ds) ∧ ∀ v H', Grow B N H H' v (.sh (.tuple (cut ds lo hi))) → Q v H')
theorem p_slice : SlR X (rSl (bsOf X)) := by
  rintro pins s σ H x v vl vu lo hi sl Q I rx hs pl pu ⟨N, ds, ⟨a, q⟩ | ⟨a, q⟩⟩
  · obtain ⟨p, vs, rfl, hp, r1⟩ := a.list
    exact sl_list pins s σ H _ v vl vu lo hi sl Q I rx hs pl pu ⟨p, vs, rfl, .inl hp, fun l hl => q _ _ (.newLst hl (rpA_cut r1 lo hi))⟩
  · obtain ⟨p, vs, rfl, hp, r1⟩ := a.tuple
    refine sl_tupA pins s σ H _ v vl vu lo hi sl Q I rx hs pl pu ⟨p, vs, rfl, hp, fun hw => ?_, fun hw l hl => q _ _ (.newTup hl (rpA_cut r1 lo hi))⟩
    have hw' := hw
    rw [r1.length] at hw'
    have := q (.ref p) H (.part (by rw [cut_whole hw']; exact .tup hp r1))
    exact this
/-! ### sorted -/
include hu
theorem sorted_go {l : Addr} (I : Inv X pins σ H s) {ds : List D} (hk : sortOk ds = true) {n : Nat} (hz : ds.length ≤ sizeLine) {Q : VK}
    (col : ∀ {R : List Value → Shared → Prop}, (∀ (h' : Heap) (tk : Nat) (us : List Value), (∀ b o, s.heap.get? b = some o → h'.get? b = some o) → EachIs (VD (bsOf X) N H) us ds → R us { s with heap := h', toks := tk }) → wpAny (model X.prog X.w) X.A.in1 (collect (.ref l)) R X.xe s)
    (q : ∀ v H', Grow (bsOf X) N H H' v (.ow (.list (ds.mergeSort (dataLe false id)))) → Q v H') : wpAny (model X.prog X.w) X.A (call (.builtin "sorted") [.ref l]) (EP X pins σ Q) X.xe s := by
  refine Calls.call_function_entry PyProof.Rows.kind_sorted PyProof.Rows.plain_sorted PyProof.Rows.entry_sorted (PyProof.Rows.args_sorted1 _) ?_
  unfold Builtin.«sorted»
  refine wpAny_bind (m := checkCount "sorted" 1 1 _) (wpAny_pure ?_)
  refine wpAny_bind (col fun h' tk us hk' e => ?_)
  have I1 : Inv X pins σ H { s with heap := h', toks := tk } := I.kept hk'
  obtain ⟨h1, h2, h3⟩ := sortOk_and hk
  have er := each_reads I1 (fun d hd => (h2 d hd).1) e
  have hl := e.length
  refine wpAny_bind (wpAny_newList ?_ (by rw [hl]; exact hz))
  have hoL : (h'.push (seqObj "list" us.toArray 0)).get? h'.objs.size = some (seqObj "list" us.toArray 0) := Heap.get?_push_size _ rfl
  show wpAny _ _ _ _ _ { s with heap := h'.push (seqObj "list" us.toArray 0), toks := tk }
  have kp : ∀ b o, h'.get? b = some o → (PySem.W.sortingHeap (h'.push (seqObj "list" us.toArray 0)) h'.objs.size us).get? b = some o := fun b o eo => by
    have hb : b < h'.objs.size := Heap.lt_size eo
    exact PySem.W.sortingHeap_old (Nat.ne_of_lt hb) (Heap.get?_push_of_some _ eo)
  have er' : EachIs (fun v d => ∃ as, Reads (PySem.W.sortingHeap (h'.push (seqObj "list" us.toArray 0)) h'.objs.size us) v d as) us ds := each_up kp er
  refine wpAny_bind (wpAny_holding (wpAny_call_entry PyProof.Rows.slot_list_sort ⟨_, hoL, rfl⟩ PyProof.Rows.entry_list_sort
    (PySem.W.list_sort_vals (κ := dataKind (PySem.W.sortingHeap (h'.push (seqObj "list" us.toArray 0)) h'.objs.size us) ds) (s := { s with heap := h'.push (seqObj "list" us.toArray 0), toks := tk }) hoL
      (sortOk_at (s := { s with heap := PySem.W.sortingHeap (h'.push (seqObj "list" us.toArray 0)) h'.objs.size us, toks := tk }) hk er' (fun d hd => ?_)) (by rw [hl]; exact hz) ⟨_, rfl, ?_⟩) (PyProof.Rows.args_list_sort _)))
  · have := (h2 d hd).2
    show X.A.units + 1 + 1 + d.depth < cLine
    omega
  · have e1 : EachIs (VD (bsOf X) N H) (sortVals (dataKind (PySem.W.sortingHeap (h'.push (seqObj "list" us.toArray 0)) h'.objs.size us) ds) false us us) (ds.mergeSort (dataLe false id)) := by
      have e2 : ds.map id = ds := List.map_id ds
      have := sortVals_data (h' := PySem.W.sortingHeap (h'.push (seqObj "list" us.toArray 0)) h'.objs.size us) (R := VD (bsOf X) N H) (enc := (id : D → D)) false e er' (by rw [e2]; exact h1)
      rw [e2] at this
      exact this
    obtain ⟨vs, hv, hr⟩ := of_each e1
    obtain ⟨c, hc⟩ := PyProof.Rows.sortedHeap_at (vs := us) (out := (sortVals (dataKind (PySem.W.sortingHeap (h'.push (seqObj "list" us.toArray 0)) h'.objs.size us) ds) false us us).toArray) hoL
    have hlen : vs.length ≤ sizeLine := by
      rw [hr.length, List.length_mergeSort]; exact hz
    refine wpAny_pure ⟨_, rfl, .ref h'.objs.size, upd H h'.objs.size (.lst vs), I1.laid (t' := tk) (fun b u eo => ?_) (Nat.le_refl _)
      (show ObjOk X.prog X.w _ _ _ (.lst vs) from ⟨hlen, _, c, hv, hc⟩), rfl, q _ _ (.newLst (I1.hok.fresh (Nat.le_refl _)) hr)⟩
    have hb : b < h'.objs.size := Heap.lt_size eo
    rw [PyProof.Rows.sortedHeap_old (Nat.ne_of_lt hb) (by rw [size_push']; exact Nat.lt_succ_of_lt hb)]
    exact Heap.get?_push_of_some _ eo
theorem p_sorted (hc : X.calm = true) : CallR X (.builtin "sorted") (rP (bsOf X) .sorted) := by
  intro pins s σ H xs us Q I r h
  obtain ⟨N, x, d, sl, rfl, a, e, q⟩ := rP_ones (p := .sorted) (fun ds sl e => by
    change pSorted ds = some sl at e; unfold pSorted at e; split at e <;> first | exact ⟨_, rfl⟩ | cases e) h
  change pSorted [d] = some sl at e
  unfold pSorted at e
  split at e
  · rename_i ds z; injection z with z1 z2; subst z1
    split at e <;> cases e
    rename_i hk
    exact p_sorted_list hu pins s σ H _ us Q I r ⟨N, x, ds, rfl, a, hk, q⟩
  · rename_i ds z; injection z with z1 z2; subst z1
    split at e <;> cases e
    rename_i hk
    obtain ⟨u, rfl, ru⟩ := vals1 r
    obtain ⟨p, vs, rfl, hp, ra⟩ := a.tuple
    cases ru
    obtain ⟨its, rv, ⟨o, ho, hc1, n, hd⟩, hz⟩ := I.tuple hp
    refine sorted_go hu I hk (n := 0) (by rw [← ra.length]; exact hz) (fun {R} k => ?_) q
    exact wpAny_collect_seq p (.inr rfl) ho hc1 hd (fun h' hk' => k h' s.toks its hk' (each_of rv ra)) (by rw [List.size_toArray, ← rv.length]; exact hz)
  · rename_i kvs z; injection z with z1 z2; subst z1
    split at e <;> cases e
    rename_i hk
    obtain ⟨u, rfl, ru⟩ := vals1 r
    obtain ⟨p, es, ep, rfl, raw, hs, hz, e1, _⟩ := dict_raw I a
    cases ru
    have hl := e1.length
    rw [List.length_map, Array.length_toList] at hl
    refine sorted_go hu I hk (n := 0) (by rw [← hl]; exact hz) (fun {R} k => ?_) q
    refine PySem.W.kdu_collect (PySem.KdlSrc.rawDict hs) (I.ok.hd hc) raw hz fun h' tk acc hk' hacc => ?_
    refine k h' tk acc.toList hk' ?_
    have : acc.toList = es.toList.map (·.key) := by
      apply List.ext_getElem?
      intro i
      obtain ⟨c1, c2⟩ := hacc
      rw [Array.getElem?_toList, List.getElem?_map, Array.getElem?_toList]
      cases hv : acc[i]? with
      | none =>
        have : es[i]? = none := by rw [Array.getElem?_eq_none_iff] at hv ⊢; omega
        rw [this]; rfl
      | some v =>
        obtain ⟨hi, e2⟩ := c2 i v hv
        rw [Array.getElem?_eq_getElem hi, e2]; rfl
    rw [this]
    exact e1
  · cases e
end
end C
end
section
set_option Elab.async false
set_option linter.all false
set_option maxRecDepth 100000
set_option maxHeartbeats 1000000
/-! What an expression of the core language means over the abstract heap. -/
namespace C
open PySem PySem.Spec L2
variable [Lams]

/-- an expression's reading: in any world that the slots describe, it ends as the evaluator says -/
def tE (B : Bs) (cf : Nat → List Sl → CR) (c : CE) : TE := fun σ H Q => ∃ (W : Wd) (env : Env) (s : Sl) (env' : Env), W.H = H ∧ RE B W σ env ∧ evE cf c env = .ok s env' ∧
  ∀ v W', Step W W' → RE B W' σ env' → RV B W W' v s → Q v W'.H
/-- the value of an argument -/
def RAV (B : Bs) (W0 W : Wd) (σ : L2.St) (x : V) : AV → Prop
  | .made s => RV B W0 W x s
  | .bo i => σ[i]? = some (some x)
  | .rf i => σ[i]? = some (some x)
  | .bf _ _ => False
def tCA (B : Bs) (cf : Nat → List Sl → CR) : CA → TE
  | .e c => tE B cf c
  | .bo i => tVar i
  | .rf i => tVar i
  | .bf _ _ => fun _ _ _ => False
/-- the list of the arguments' readings -/
def tAs (B : Bs) (cf : Nat → List Sl → CR) : CAs → TA
  | .nil => tNil
  | .cons a as => tCons (tCA B cf a) (tAs B cf as)

section
variable {B : Bs} {cf : Nat → List Sl → CR} {W W0 W1 W' W'' : Wd} {σ : L2.St} {env env1 env' : Env} {H' : Hp} {v x : V} {s : Sl} {d : D}

/-- the same slots over a heap in which all that stood stands -/
theorem RE.grow (r : RE B W σ env) (h : Same W.H H') : RE B { W with H := H' } σ env where
  len := r.len
  slot := fun i s e n => by
    obtain ⟨v, h1, h2⟩ := r.slot i s e n
    exact ⟨v, h1, RSl.ext (Ext.same h) (fun a o q z => ⟨h a o z, q⟩) h2⟩
  apart := r.apart
  nin := fun a q => by
    cases e : W.H a with
    | none => exact absurd e (r.nin a q)
    | some o => show H' a ≠ none; rw [h a o e]; simp
  oin := fun a i q => by
    have := r.oin a i q
    cases e : W.H a with
    | none => rw [e] at this; exact this.elim
    | some o => rw [e] at this; show Own (H' a); rw [h a o e]; exact this
  tb := fun P q k => (r.tb P q k).keep (fun a o e _ => h a o e) (fun _ _ n => n) (by
    obtain ⟨_, ps, e, _⟩ := r.tb P q k
    show H' P = W.H P
    rw [e]; exact h P _ e) (r.tb P q k).own.1
theorem Step.grow (h : Same W.H H') : Step W { W with H := H' } where
  tb := fun P q t => t.keep (fun a o e _ => h a o e) (fun _ _ n => n) (by
    obtain ⟨_, ps, e, _⟩ := t
    show H' P = W.H P
    rw [e]; exact h P _ e) t.own.1
  nN := fun _ h => h
  fr := fun a o e _ => h a o e
  th := fun a e => by
    cases q : W.H a with
    | none => exact absurd q e
    | some o => show H' a ≠ Option.none; rw [h a o q]; simp
  un := fun _ _ n => n
  nn := fun _ _ _ q => q
theorem RE.free (r : RE B W σ env) {a : Addr} (h : W.H a = none) : W.ow a = none ∧ ¬ W.N a := by
  refine ⟨?_, fun z => r.nin a z h⟩
  cases e : W.ow a with
  | none => rfl
  | some i => have := r.oin a i e; rw [h] at this; exact this.elim
/-- what has been made over W is a value since W -/
theorem grow_fin (r : RE B W σ env) (g : Grow B W.N W.H H' v s) : Step W { W with H := H' } ∧ RE B { W with H := H' } σ env ∧ RV B W { W with H := H' } v s := by
  refine ⟨Step.grow g.same, r.grow g.same, ?_⟩
  cases s with
  | no => exact g.res.elim
  | ob c fs => exact g.res.elim
  | fn n => exact g.res.elim
  | sh d => exact RV.sh g.res
  | ow d =>
    obtain ⟨a, rfl, hn, t⟩ := g.res
    obtain ⟨o, ho, _⟩ := t.there
    exact ⟨(fun e => nomatch e), a, rfl, ⟨hn, (r.free hn).1, (r.free hn).2, by rw [show ({ W with H := H' } : Wd).H a = some o from ho]; simp⟩, t⟩
theorem gt_some {i : Nat} (h : gt env i ≠ .no) : env[i]? = some (gt env i) := by
  unfold gt at h ⊢
  rw [List.getD_eq_getElem?_getD] at h ⊢
  cases e : env[i]? with
  | none => rw [e] at h; exact absurd rfl h
  | some s => rfl
theorem dataOf_no {s : Sl} (h : dataOf s = some d) : s ≠ .no := fun e => by subst e; cases h
theorem RE.data (r : RE B W σ env) {i : Nat} (h : dataOf (gt env i) = some d) : ∃ v, σ[i]? = some (some v) ∧ RA B W.N W.H v d := by
  have hn := dataOf_no h
  obtain ⟨v, h1, h2⟩ := r.slot i _ (gt_some hn) hn
  refine ⟨v, h1, ?_⟩
  generalize gt env i = s at h h2
  cases s with
  | no => cases h
  | sh d' => cases h; exact .inl h2
  | ow d' => cases h; obtain ⟨a, rfl, _, t⟩ := h2; exact .inr ⟨a, rfl, t⟩
  | ob _ _ => cases h
  | fn _ => cases h
theorem RAV.step {a : AV} (r : RE B W σ env) (s : Step W W') (h : RAV B W0 W σ x a) : RAV B W0 W' σ x a := by
  cases a with
  | made s => exact RV.step r ‹_› h
  | bo i => exact h
  | rf i => exact h
  | bf i f => exact h
theorem RAV.since {a : AV} (s : Step W0 W) (h : RAV B W W' σ x a) : RAV B W0 W' σ x a := by
  cases a with
  | made _ => exact RV.since s h
  | bo i => exact h
  | rf i => exact h
  | bf i f => exact h
theorem RAV.data {a : AV} (r : RE B W σ env) (h : RAV B W0 W σ x a) (e : avData env a = some d) : RA B W.N W.H x d := by
  cases a with
  | made s => exact RV.ra h e
  | bo i =>
    obtain ⟨v, h1, h2⟩ := r.data (show dataOf (gt env i) = some d from e)
    rw [show σ[i]? = some (some x) from h] at h1
    cases h1; exact h2
  | rf i => cases e
  | bf i f => exact h.elim
/-- an argument evaluated -/
theorem tCA_run {a : CA} {av : AV} (r : RE B W σ env) (e : evA cf a env = .ok av env') {Q : VK} (q : ∀ x W', Step W W' → RE B W' σ env' → RAV B W W' σ x av → Q x W'.H) : tCA B cf a σ W.H Q := by
  cases a with
  | e c =>
    unfold evA at e
    cases h : evE cf c env with
    | ok s e1 => rw [h] at e; cases e; exact ⟨W, env, s, _, rfl, r, h, fun v W' a b c => q v W' a b c⟩
    | ex _ _ => rw [h] at e; cases e
    | bad => rw [h] at e; cases e
  | bo i =>
    unfold evA at e
    cases h : dataOf (gt env i) with
    | none => rw [h] at e; cases e
    | some d =>
      rw [h] at e; cases e
      obtain ⟨v, h1, _⟩ := r.data h
      exact ⟨v, h1, q v W (Step.refl W) r h1⟩
  | rf i =>
    unfold evA at e
    have hn : gt env i ≠ .no := fun z => by rw [z] at e; cases e
    have e' : av = .rf i ∧ env' = env := by
      cases h : gt env i <;> rw [h] at e <;> cases e <;> exact ⟨rfl, rfl⟩
    obtain ⟨rfl, rfl⟩ := e'
    obtain ⟨v, h1, _⟩ := r.slot i _ (gt_some hn) hn
    exact ⟨v, h1, q v W (Step.refl W) r h1⟩
  | bf i f => unfold evA at e; cases e

theorem bind_ok {α β : Type} {r : R α} {f : α → Env → R β} {b : β} {e : Env} (h : r.bind f = .ok b e) : ∃ a e1, r = .ok a e1 ∧ f a e1 = .ok b e := by
  cases r with
  | ok a e1 => exact ⟨a, e1, rfl, h⟩
  | ex x e1 => cases h
  | bad => cases h
theorem evAs_nil {vs : List AV} (h : evAs cf .nil env = .ok vs env') : vs = [] ∧ env' = env := by
  unfold evAs at h; cases h; exact ⟨rfl, rfl⟩
theorem evAs_cons {a : CA} {as : CAs} {vs : List AV} (h : evAs cf (.cons a as) env = .ok vs env') : ∃ v e1 vs', evA cf a env = .ok v e1 ∧ evAs cf as e1 = .ok vs' env' ∧ vs = v :: vs' := by
  unfold evAs at h
  obtain ⟨v, e1, h1, h2⟩ := bind_ok h
  obtain ⟨vs', e2, h3, h4⟩ := bind_ok h2
  cases h4
  exact ⟨v, e1, vs', h1, h3, rfl⟩
inductive RAVs (B : Bs) (W0 W : Wd) (σ : L2.St) : List V → List AV → Prop
  | nil : RAVs B W0 W σ [] []
  | cons {x : V} {a : AV} {xs : List V} {as : List AV} : RAV B W0 W σ x a → RAVs B W0 W σ xs as → RAVs B W0 W σ (x :: xs) (a :: as)
theorem RAVs.since {xs : List V} {as : List AV} (s : Step W0 W) : RAVs B W W' σ xs as → RAVs B W0 W' σ xs as
  | .nil => .nil
  | .cons a t => .cons (a.since s) (RAVs.since s t)
theorem RAVs.step {xs : List V} {as : List AV} (r : RE B W σ env) (s : Step W W') : RAVs B W0 W σ xs as → RAVs B W0 W' σ xs as
  | .nil => .nil
  | .cons a t => .cons (a.step r s) (RAVs.step r s t)
theorem RAVs.datas (r : RE B W σ env) : ∀ {xs : List V} {as : List AV} {ds : List D}, RAVs B W0 W σ xs as → avDatas env as = some ds → RAs B W.N W.H xs ds
  | _, _, _, .nil, e => by cases e; exact .nil
  | _, _, _, .cons (a := a) h t, e => by
    unfold avDatas at e
    cases h1 : avData env a with
    | none => rw [h1] at e; cases e
    | some d =>
      rw [h1, Option.bind_some, Option.map_eq_some_iff] at e
      obtain ⟨ds, h2, rfl⟩ := e
      exact .cons (h.data r h1) (t.datas r h2)
/-- an argument list evaluated; the objects made for it stand apart -/
def Aprt (xs : List V) (as : List AV) : Prop := ∀ (i j : Nat) (d d' : D) (x : V), i ≠ j → as[i]? = some (.made (.ow d)) → as[j]? = some (.made (.ow d')) → xs[i]? = some x → xs[j]? = some x → False
theorem tAs_run : ∀ {as : CAs} {vs : List AV} {W : Wd} {env env' : Env}, RE B W σ env → evAs cf as env = .ok vs env' → ∀ {Q : List V → Hp → Prop}, (∀ xs W', Step W W' → RE B W' σ env' → RAVs B W W' σ xs vs → Aprt xs vs → Q xs W'.H) → tAs B cf as σ W.H Q
  | .nil, vs, W, env, env', r, e, Q, q => by
    obtain ⟨rfl, rfl⟩ := evAs_nil e
    exact q [] W (Step.refl W) r .nil (fun i j _ _ _ _ h => by simp at h)
  | .cons a as, vs, W, env, env', r, e, Q, q => by
    obtain ⟨v, e1, vs', h1, h2, rfl⟩ := evAs_cons e
    refine tCA_run r h1 fun x W1 s1 r1 ra => tAs_run r1 h2 fun xs W2 s2 r2 rs ap => q (x :: xs) W2 (s1.trans s2) r2 (.cons (ra.step r1 s2) (rs.since s1)) ?_
    have key : ∀ (j : Nat) (d d' : D), v = .made (.ow d) → vs'[j]? = some (.made (.ow d')) → xs[j]? = some x → False := by
      intro j d d' hv hj hx
      subst hv
      obtain ⟨_, a, rfl, ⟨_, _, _, h4⟩, _⟩ := ra
      have : ∀ {xs : List V} {vs : List AV} {j : Nat}, RAVs B W1 W2 σ xs vs → vs[j]? = some (.made (.ow d')) → xs[j]? = some (.ref a) → W1.H a = none := by
        intro xs vs j h
        induction h generalizing j with
        | nil => intro h _; simp at h
        | cons h t ih =>
          intro h1 h2
          cases j with
          | zero =>
            simp at h1 h2
            subst h1; subst h2
            obtain ⟨_, b, eb, ⟨h5, _⟩, _⟩ := h
            cases eb; exact h5
          | succ j => exact ih (by simpa using h1) (by simpa using h2)
      exact h4 (this rs hj hx)
    intro i j d d' y hij hi hj hxi hxj
    cases i with
    | zero =>
      cases j with
      | zero => exact hij rfl
      | succ j =>
        simp at hi hxi; subst hxi
        exact key j d d' hi (by simpa using hj) (by simpa using hxj)
    | succ i =>
      cases j with
      | zero =>
        simp at hj hxj; subst hxj
        exact key i d' d hj (by simpa using hi) (by simpa using hxi)
      | succ j => exact ap i j d d' y (fun z => hij (by rw [z])) (by simpa using hi) (by simpa using hj) (by simpa using hxi) (by simpa using hxj)

/-! ### primitives -/
theorem evE_pr {p : Pr} {as : CAs} (h : evE cf (.pr p as) env = .ok s env') : ∃ vs ds, evAs cf as env = .ok vs env' ∧ avDatas env' vs = some ds ∧ evP p ds = some s := by
  unfold evE at h
  obtain ⟨vs, e1, h1, h2⟩ := bind_ok h
  cases h3 : avDatas e1 vs with
  | none => rw [h3] at h2; cases h2
  | some ds =>
    rw [h3, Option.bind_some] at h2
    cases h4 : evP p ds with
    | none => rw [h4] at h2; cases h2
    | some t => rw [h4] at h2; cases h2; exact ⟨vs, ds, h1, h3, h4⟩
/-- behind all arguments -/
theorem prim_fin {p : Pr} {vs : List AV} {ds : List D} {xs : List V} {Q : VK} (st : Step W W1) (r : RE B W1 σ env1) (h : RAVs B W W1 σ xs vs) (h3 : avDatas env1 vs = some ds) (h4 : evP p ds = some s)
    (q : ∀ v W', Step W W' → RE B W' σ env1 → RV B W W' v s → Q v W'.H) : rP B p xs W1.H Q := by
  refine ⟨W1.N, ds, s, h.datas r h3, h4, fun v H' g => ?_⟩
  obtain ⟨g1, g2, g3⟩ := grow_fin r g
  exact q v { W1 with H := H' } (st.trans g1) g2 (g3.since st)
theorem pr1 {p : Pr} {a : CA} {H : Hp} {Q : VK} (h : tE B cf (.pr p (.cons a .nil)) σ H Q) : tUn (rP1 B p) (tCA B cf a) σ H Q := by
  obtain ⟨W, env, s, env', rfl, r, e, q⟩ := h
  obtain ⟨vs, ds, h1, h3, h4⟩ := evE_pr e
  obtain ⟨v1, e1, vs1, h5, h6, rfl⟩ := evAs_cons h1
  obtain ⟨rfl, rfl⟩ := evAs_nil h6
  exact tCA_run r h5 fun x W1 s1 r1 ra => prim_fin s1 r1 (.cons ra .nil) h3 h4 q
theorem pr2 {p : Pr} {a b : CA} {H : Hp} {Q : VK} (h : tE B cf (.pr p (.cons a (.cons b .nil))) σ H Q) : tOp (rP2 B p) (tCA B cf a) (tCA B cf b) σ H Q := by
  obtain ⟨W, env, s, env', rfl, r, e, q⟩ := h
  obtain ⟨vs, ds, h1, h3, h4⟩ := evE_pr e
  obtain ⟨v1, e1, vs1, h5, h6, rfl⟩ := evAs_cons h1
  obtain ⟨v2, e2, vs2, h7, h8, rfl⟩ := evAs_cons h6
  obtain ⟨rfl, rfl⟩ := evAs_nil h8
  exact tCA_run r h5 fun x W1 s1 r1 ra => tCA_run r1 h7 fun y W2 s2 r2 rb => prim_fin (s1.trans s2) r2 (.cons (ra.step r1 s2) (.cons (rb.since s1) .nil)) h3 h4 q
theorem prN {p : Pr} {as : CAs} {H : Hp} {Q : VK} (h : tE B cf (.pr p as) σ H Q) : tCB (rP B p) (tAs B cf as) σ H Q := by
  obtain ⟨W, env, s, env', rfl, r, e, q⟩ := h
  obtain ⟨vs, ds, h1, h3, h4⟩ := evE_pr e
  exact tAs_run r h1 fun xs W1 s1 r1 rs _ => prim_fin s1 r1 rs h3 h4 q
end
end C
end
section
set_option Elab.async false
set_option linter.all false
set_option maxRecDepth 100000
set_option maxHeartbeats 1000000
/-! Which slots an expression, a statement leaves as they are. -/
namespace C
open PySem

def Kp (i : Nat) (e e' : Env) : Prop := gt e' i = gt e i ∨ ∃ d, gt e i = .ow d ∧ gt e' i = .sh d
theorem Kp.refl (i : Nat) (e : Env) : Kp i e e := .inl rfl
theorem Kp.trans {i : Nat} {a b c : Env} (h : Kp i a b) (k : Kp i b c) : Kp i a c := by
  rcases h with h | ⟨d, h1, h2⟩
  · rcases k with k | ⟨d, k1, k2⟩
    · exact .inl (k.trans h)
    · exact .inr ⟨d, by rw [← h]; exact k1, k2⟩
  · rcases k with k | ⟨d', k1, k2⟩
    · exact .inr ⟨d, h1, k.trans h2⟩
    · rw [h2] at k1; cases k1
theorem gt_set_ne {e : Env} {i j : Nat} {s : Sl} (h : i ≠ j) : gt (e.set j s) i = gt e i := by
  unfold gt
  rw [List.getD_eq_getElem?_getD, List.getD_eq_getElem?_getD, List.getElem?_set_ne (Ne.symm h)]
theorem gt_set_self {e : Env} {i : Nat} {s : Sl} (h : i < e.length) : gt (e.set i s) i = s := by
  unfold gt
  rw [List.getD_eq_getElem?_getD, List.getElem?_set_self h]; rfl
theorem gt_lt {e : Env} {i : Nat} (h : gt e i ≠ .no) : i < e.length := by
  unfold gt at h
  rw [List.getD_eq_getElem?_getD] at h
  by_cases q : i < e.length
  · exact q
  · rw [List.getElem?_eq_none (by omega)] at h; exact absurd rfl h
theorem gt_wipe {i : Nat} : ∀ {own : List Nat} {e : Env}, i ∉ own → gt (wipeE e own) i = gt e i
  | [], _, _ => rfl
  | j :: own, e, h => by
    unfold wipeE
    rw [gt_wipe (fun z => h (List.mem_cons_of_mem _ z)), gt_set_ne fun z => h (by rw [z]; exact List.mem_cons_self)]
theorem gt_back {i : Nat} {old : Env} : ∀ {own : List Nat} {e : Env}, i ∉ own → gt (backE old e own) i = gt e i
  | [], _, _ => rfl
  | j :: own, e, h => by
    unfold backE
    rw [gt_back (fun z => h (List.mem_cons_of_mem _ z)), gt_set_ne fun z => h (by rw [z]; exact List.mem_cons_self)]
theorem R.bind_ok {α β : Type} {r : R α} {f : α → Env → R β} {b : β} {e : Env} (h : r.bind f = .ok b e) : ∃ a e1, r = .ok a e1 ∧ f a e1 = .ok b e := by
  cases r with
  | ok a e1 => exact ⟨a, e1, rfl, h⟩
  | ex x e1 => cases h
  | bad => cases h
mutual
theorem bindP_keep {i : Nat} : ∀ {p : Pat} {d : D} {e e' : Env}, i ∉ slotsP p → bindP p d e = some e' → gt e' i = gt e i
  | .v j, d, e, e', h, k => by
    unfold bindP at k
    cases k
    exact gt_set_ne fun z => h (by rw [z]; simp [slotsP])
  | .t ps, d, e, e', h, k => by
    cases d with
    | tuple ds =>
      unfold bindP at k
      split at k
      · exact bindPs_keep (by simpa [slotsP] using h) k
      · cases k
    | _ => simp [bindP] at k
theorem bindPs_keep {i : Nat} : ∀ {ps : List Pat} {ds : List D} {e e' : Env}, i ∉ slotsP.slotsPs ps → bindPs ps ds e = some e' → gt e' i = gt e i
  | [], [], e, e', _, k => by unfold bindPs at k; cases k; rfl
  | [], _ :: _, _, _, _, k => by simp [bindPs] at k
  | _ :: _, [], _, _, _, k => by simp [bindPs] at k
  | p :: ps, d :: ds, e, e', h, k => by
    unfold bindPs at k
    simp only [slotsP.slotsPs, List.mem_append, not_or] at h
    cases h1 : bindP p d e with
    | none => rw [h1] at k; cases k
    | some e1 =>
      rw [h1, Option.bind_some] at k
      rw [bindPs_keep h.2 k, bindP_keep h.1 h1]
end
theorem loopC_keep {i : Nat} {turn : D → Env → R (List D)} (h : ∀ x e ys e', turn x e = .ok ys e' → Kp i e e') : ∀ {xs : List D} {e e' : Env} {r : List D}, loopC turn xs e = .ok r e' → Kp i e e'
  | [], e, e', r, k => by unfold loopC at k; cases k; exact Kp.refl i e
  | x :: xs, e, e', r, k => by
    unfold loopC at k
    obtain ⟨ys, e1, k1, k2⟩ := R.bind_ok k
    obtain ⟨zs, e2, k3, k4⟩ := R.bind_ok k2
    cases k4
    exact (h _ _ _ _ k1).trans (loopC_keep h k3)
theorem loopD_keep {i : Nat} {turn : D → Env → R (Option (D × D))} (h : ∀ x e ys e', turn x e = .ok ys e' → Kp i e e') : ∀ {xs : List D} {acc : List (D × D)} {e e' : Env} {r : List (D × D)}, loopD turn xs acc e = .ok r e' → Kp i e e'
  | [], acc, e, e', r, k => by unfold loopD at k; cases k; exact Kp.refl i e
  | x :: xs, acc, e, e', r, k => by
    unfold loopD at k
    obtain ⟨o, e1, k1, k2⟩ := R.bind_ok k
    refine (h _ _ _ _ k1).trans ?_
    cases o with
    | none => exact loopD_keep h k2
    | some p =>
      dsimp only at k2
      split at k2
      · exact loopD_keep h k2
      · cases k2
theorem putBack_keep {i : Nat} : ∀ {as : List AV} {os : List Sl} {e : Env}, (∀ a ∈ as, a ≠ .rf i) → gt (putBack e as os) i = gt e i
  | [], _, e, _ => by unfold putBack; rfl
  | a :: as, [], e, _ => by cases a <;> rfl
  | a :: as, o :: os, e, h => by
    have ih := fun e => putBack_keep (os := os) (e := e) fun b hb => h b (List.mem_cons_of_mem _ hb)
    cases a with
    | rf j =>
      unfold putBack
      rw [ih, gt_set_ne fun z => h _ List.mem_cons_self (by rw [z])]
    | made s => unfold putBack; exact ih e
    | bo j => unfold putBack; exact ih e
    | bf j f => unfold putBack; exact ih e

mutual
/-- slot i is not changed, not even for a while -/
def stE (i : Nat) : CE → Bool
  | .k _ => true
  | .v _ => true
  | .fld _ _ => true
  | .pr _ as => stAs i as
  | .ite c a b => stE i c && (stE i a && stE i b)
  | .and a b => stE i a && stE i b
  | .or a b => stE i a && stE i b
  | .chain _ _ a b c => stE i a && (stE i b && stE i c)
  | .call _ as => stAs i as
  | .lc own g elt => !own.contains i && (stG i g && stE i elt)
  | .lc2 own g h elt => !own.contains i && (stG i g && (stG i h && stE i elt))
  | .dc own g k v => !own.contains i && (stG i g && (stE i k && stE i v))
  | .mu j _ as => i != j && stAs i as
  | .muf j _ _ as => i != j && stAs i as
  | .sk xs _ => stA i xs
  | .fv _ => true
  | .callv _ as => stAs i as
  | .tst a as => stE i a && stAs i as
def stA (i : Nat) : CA → Bool
  | .e c => stE i c
  | .bo _ => true
  | .bf _ _ => true
  | .rf j => i != j
def stAs (i : Nat) : CAs → Bool
  | .nil => true
  | .cons a as => stA i a && stAs i as
def stI (i : Nat) : CI → Bool
  | .data a => stA i a
  | .range1 a => stE i a
  | .range2 a b => stE i a && stE i b
  | .range3 a b c => stE i a && (stE i b && stE i c)
  | .zip a b => stA i a && stA i b
  | .enum it => stI i it
def stT (i : Nat) : CT → Bool
  | .nil => true
  | .cons c r => stE i c && stT i r
def stG (i : Nat) : CG → Bool
  | .mk p it ifs => !(slotsP p).contains i && (stI i it && stT i ifs)
end
theorem ba2 {a b : Bool} (h : (a && b) = true) : a = true ∧ b = true := Bool.and_eq_true_iff.mp h
section
variable {cf : Nat → List Sl → CR} {i : Nat}
theorem nin_of {l : List Nat} (h : (!l.contains i) = true) : i ∉ l := by simpa using h
theorem nrf_of : ∀ {as : CAs} {vs : List AV} {e e' : Env}, stAs i as = true → evAs cf as e = .ok vs e' → ∀ a ∈ vs, a ≠ .rf i
  | .nil, vs, e, e', _, k => by unfold evAs at k; cases k; intro a h; cases h
  | .cons a as, vs, e, e', h, k => by
    obtain ⟨h1, h2⟩ := ba2 (by simpa only [stAs] using h)
    unfold evAs at k
    obtain ⟨v, e1, k1, k2⟩ := R.bind_ok k
    obtain ⟨vs', e2, k3, k4⟩ := R.bind_ok k2
    cases k4
    intro b hb
    rcases List.mem_cons.mp hb with rfl | hb
    · cases a with
      | e c =>
        unfold evA at k1
        obtain ⟨s, e3, k5, k6⟩ := R.bind_ok k1
        cases k6; intro z; cases z
      | bo j =>
        unfold evA at k1
        split at k1 <;> cases k1
        intro z; cases z
      | bf j f => unfold evA at k1; cases k1
      | rf j =>
        unfold evA at k1
        split at k1 <;> cases k1
        simp only [stA, bne_iff_ne, ne_eq] at h1
        intro z; cases z; exact h1 rfl
    · exact nrf_of h2 k3 b hb
mutual
theorem keepE : ∀ (c : CE) {e e' : Env} {s : Sl}, stE i c = true → evE cf c e = .ok s e' → Kp i e e'
  | .k d, e, e', s, _, k => by unfold evE at k; cases k; exact Kp.refl i e
  | .v j, e, e', s, _, k => by
    unfold evE at k
    split at k
    · cases k; exact Kp.refl i e
    · rename_i d hd
      cases k
      by_cases h : i = j
      · subst h
        exact .inr ⟨d, hd, gt_set_self (gt_lt (by rw [hd]; exact fun z => nomatch z))⟩
      · exact .inl (gt_set_ne h)
    · cases k
  | .fld j f, e, e', s, _, k => by
    unfold evE at k
    split at k
    · split at k
      · cases k; exact Kp.refl i e
      · cases k
    · cases k
  | .pr p as, e, e', s, h, k => by
    unfold evE at k
    obtain ⟨vs, e1, k1, k2⟩ := R.bind_ok k
    split at k2 <;> cases k2
    exact keepAs as (by simpa only [stE] using h) k1
  | .ite c a b, e, e', s, h, k => by
    unfold evE at k
    obtain ⟨h1, h2⟩ := ba2 (by simpa only [stE] using h)
    obtain ⟨h2, h3⟩ := ba2 h2
    obtain ⟨t, e1, k1, k2⟩ := R.bind_ok k
    split at k2
    · exact (keepE c h1 k1).trans (keepE a h2 k2)
    · exact (keepE c h1 k1).trans (keepE b h3 k2)
    · cases k2
  | .and a b, e, e', s, h, k => by
    unfold evE at k
    obtain ⟨h1, h2⟩ := ba2 (by simpa only [stE] using h)
    obtain ⟨t, e1, k1, k2⟩ := R.bind_ok k
    split at k2
    · exact (keepE a h1 k1).trans (keepE b h2 k2)
    · cases k2; exact keepE a h1 k1
    · cases k2
  | .or a b, e, e', s, h, k => by
    unfold evE at k
    obtain ⟨h1, h2⟩ := ba2 (by simpa only [stE] using h)
    obtain ⟨t, e1, k1, k2⟩ := R.bind_ok k
    split at k2
    · cases k2; exact keepE a h1 k1
    · exact (keepE a h1 k1).trans (keepE b h2 k2)
    · cases k2
  | .chain p q a b c, e, e', s, h, k => by
    unfold evE at k
    obtain ⟨h1, h2⟩ := ba2 (by simpa only [stE] using h)
    obtain ⟨h2, h3⟩ := ba2 h2
    obtain ⟨t, e1, k1, k2⟩ := R.bind_ok k
    obtain ⟨u, e2, k3, k4⟩ := R.bind_ok k2
    have h12 := (keepE a h1 k1).trans (keepE b h2 k3)
    split at k4
    · split at k4
      · obtain ⟨w, e3, k5, k6⟩ := R.bind_ok k4
        split at k6
        · split at k6 <;> cases k6
          exact h12.trans (keepE c h3 k5)
        · cases k6
      · cases k4; exact h12
      · cases k4
    · cases k4
  | .call f as, e, e', s, h, k => by
    unfold evE at k
    have h' : stAs i as = true := by simpa only [stE] using h
    obtain ⟨vs, e1, k1, k2⟩ := R.bind_ok k
    refine (keepAs as h' k1).trans ?_
    split at k2
    · split at k2
      · split at k2
        · split at k2
          · cases k2
          · cases k2; exact .inl (putBack_keep (nrf_of h' k1))
        · cases k2
        · cases k2
      · cases k2
    · cases k2
  | .lc own g elt, e, e', s, h, k => by
    unfold evE at k
    obtain ⟨h1, h2⟩ := ba2 (by simpa only [stE] using h)
    obtain ⟨h2, h3⟩ := ba2 h2
    obtain ⟨xs, e1, k1, k2⟩ := R.bind_ok k
    refine (keepG0 g h2 k1).trans ?_
    split at k2
    · obtain ⟨ds, e2, k3, k4⟩ := R.bind_ok k2
      cases k4
      refine Kp.trans (loopC_keep (fun x e ys e' q => ?_) k3) (.inl (gt_back (nin_of h1)))
      obtain ⟨b, e3, q1, q2⟩ := R.bind_ok q
      have q0 : Kp i e e3 := Kp.trans (.inl (gt_wipe (nin_of h1))) (keepGt g h2 q1)
      split at q2
      · obtain ⟨t, e4, q3, q4⟩ := R.bind_ok q2
        split at q4 <;> cases q4
        exact q0.trans (keepE elt h3 q3)
      · cases q2; exact q0
    · cases k2
  | .lc2 own g g2 elt, e, e', s, h, k => by
    unfold evE at k
    obtain ⟨h1, h2⟩ := ba2 (by simpa only [stE] using h)
    obtain ⟨h2, h3⟩ := ba2 h2
    obtain ⟨h3, h4⟩ := ba2 h3
    obtain ⟨xs, e1, k1, k2⟩ := R.bind_ok k
    refine (keepG0 g h2 k1).trans ?_
    split at k2
    · obtain ⟨ds, e2, k3, k4⟩ := R.bind_ok k2
      split at k4 <;> cases k4
      refine Kp.trans (loopC_keep (fun x e ys e' q => ?_) k3) (.inl (gt_back (nin_of h1)))
      obtain ⟨b, e3, q1, q2⟩ := R.bind_ok q
      have q0 : Kp i e e3 := Kp.trans (.inl (gt_wipe (nin_of h1))) (keepGt g h2 q1)
      split at q2
      · obtain ⟨zs, e4, q3, q4⟩ := R.bind_ok q2
        refine q0.trans ((keepG0 g2 h3 q3).trans (loopC_keep (fun y e5 ys2 e6 p => ?_) q4))
        obtain ⟨b2, e7, p1, p2⟩ := R.bind_ok p
        have hn : i ∉ ownG g2 := by
          cases g2 with
          | mk p it ifs => simp only [stG] at h3; exact nin_of (ba2 h3).1
        have p0 : Kp i e5 e7 := Kp.trans (.inl (gt_wipe hn)) (keepGt g2 h3 p1)
        split at p2
        · obtain ⟨t, e8, p3, p4⟩ := R.bind_ok p2
          split at p4 <;> cases p4
          exact p0.trans (keepE elt h4 p3)
        · cases p2; exact p0
      · cases q2; exact q0
    · cases k2
  | .dc own g key val, e, e', s, h, k => by
    unfold evE at k
    obtain ⟨h1, h2⟩ := ba2 (by simpa only [stE] using h)
    obtain ⟨h2, h3⟩ := ba2 h2
    obtain ⟨h3, h4⟩ := ba2 h3
    obtain ⟨xs, e1, k1, k2⟩ := R.bind_ok k
    refine (keepG0 g h2 k1).trans ?_
    split at k2
    · obtain ⟨ds, e2, k3, k4⟩ := R.bind_ok k2
      cases k4
      refine Kp.trans (loopD_keep (fun x e ys e' q => ?_) k3) (.inl (gt_back (nin_of h1)))
      obtain ⟨b, e3, q1, q2⟩ := R.bind_ok q
      have q0 : Kp i e e3 := Kp.trans (.inl (gt_wipe (nin_of h1))) (keepGt g h2 q1)
      split at q2
      · obtain ⟨t, e4, q3, q4⟩ := R.bind_ok q2
        obtain ⟨t2, e5, q5, q6⟩ := R.bind_ok q4
        split at q6 <;> cases q6
        exact q0.trans ((keepE key h3 q3).trans (keepE val h4 q5))
      · cases q2; exact q0
    · cases k2
  | .mu j m as, e, e', s, h, k => by
    unfold evE at k
    obtain ⟨h1, h2⟩ := ba2 (by simpa only [stE] using h)
    split at k
    · obtain ⟨vs, e1, k1, k2⟩ := R.bind_ok k
      refine (keepAs as h2 k1).trans ?_
      split at k2
      · split at k2
        · split at k2 <;> cases k2
          exact .inl (gt_set_ne (by simpa using h1))
        · cases k2
      · cases k2
    · cases k
  | .muf j f m as, e, e', s, h, k => by
    unfold evE at k
    obtain ⟨h1, h2⟩ := ba2 (by simpa only [stE] using h)
    obtain ⟨vs, e1, k1, k2⟩ := R.bind_ok k
    refine (keepAs as h2 k1).trans ?_
    split at k2
    · split at k2
      · split at k2 <;> cases k2
        exact .inl (gt_set_ne (by simpa using h1))
      · cases k2
    · cases k2
  | .tst a as, e, e', s, h, k => by
    unfold evE at k
    obtain ⟨h1, h2⟩ := ba2 (by simpa only [stE] using h)
    obtain ⟨v, e1, k1, k2⟩ := R.bind_ok k
    obtain ⟨vs, e2, k3, k4⟩ := R.bind_ok k2
    refine (keepE a h1 k1).trans ?_
    refine (keepAs as h2 k3).trans ?_
    split at k4
    · split at k4
      · cases k4; exact .inl rfl
      · cases k4
    · cases k4
  | .fv n, e, e', s, h, k => by
    unfold evE at k
    cases k
    exact .inl rfl
  | .callv j as, e, e', s, h, k => by
    unfold evE at k
    have h' : stAs i as = true := by simpa only [stE] using h
    split at k
    · obtain ⟨vs, e1, k1, k2⟩ := R.bind_ok k
      refine (keepAs as h' k1).trans ?_
      split at k2
      · split at k2
        · split at k2
          · split at k2
            · cases k2
            · cases k2; exact .inl (putBack_keep (nrf_of h' k1))
          · cases k2
          · cases k2
        · cases k2
      · cases k2
    · cases k
  | .sk xs key, e, e', s, h, k => by
    unfold evE at k
    obtain ⟨v, e1, k1, k2⟩ := R.bind_ok k
    refine (keepA xs (by simpa only [stE] using h) k1).trans ?_
    split at k2
    · split at k2
      · split at k2
        · split at k2 <;> cases k2
          exact Kp.refl i e'
        · cases k2
      · cases k2
    · cases k2
theorem keepA : ∀ (a : CA) {e e' : Env} {v : AV}, stA i a = true → evA cf a e = .ok v e' → Kp i e e'
  | .e c, e, e', v, h, k => by
    unfold evA at k
    obtain ⟨s, e1, k1, k2⟩ := R.bind_ok k
    cases k2
    exact keepE c (by simpa only [stA] using h) k1
  | .bo j, e, e', v, h, k => by unfold evA at k; split at k <;> cases k; exact Kp.refl i e
  | .bf j f, e, e', v, h, k => by unfold evA at k; cases k
  | .rf j, e, e', v, h, k => by unfold evA at k; split at k <;> cases k; exact Kp.refl i e
theorem keepAs : ∀ (as : CAs) {e e' : Env} {vs : List AV}, stAs i as = true → evAs cf as e = .ok vs e' → Kp i e e'
  | .nil, e, e', vs, _, k => by unfold evAs at k; cases k; exact Kp.refl i e
  | .cons a as, e, e', vs, h, k => by
    obtain ⟨h1, h2⟩ := ba2 (by simpa only [stAs] using h)
    unfold evAs at k
    obtain ⟨v, e1, k1, k2⟩ := R.bind_ok k
    obtain ⟨vs', e2, k3, k4⟩ := R.bind_ok k2
    cases k4
    exact (keepA a h1 k1).trans (keepAs as h2 k3)
theorem keepI : ∀ (it : CI) {e e' : Env} {xs : List D}, stI i it = true → evI cf it e = .ok xs e' → Kp i e e'
  | .data a, e, e', xs, h, k => by
    unfold evI at k
    obtain ⟨v, e1, k1, k2⟩ := R.bind_ok k
    have q := keepA a (by simpa only [stI] using h) k1
    split at k2
    · cases k2; exact q
    · cases k2; exact q
    · split at k2 <;> cases k2; exact q
    · cases k2
  | .range1 a, e, e', xs, h, k => by
    unfold evI at k
    obtain ⟨v, e1, k1, k2⟩ := R.bind_ok k
    have q := keepE a (by simpa only [stI] using h) k1
    split at k2
    · split at k2 <;> cases k2
      exact q
    · cases k2
  | .range2 a b, e, e', xs, h, k => by
    unfold evI at k
    obtain ⟨h1, h2⟩ := ba2 (by simpa only [stI] using h)
    obtain ⟨v, e1, k1, k2⟩ := R.bind_ok k
    obtain ⟨w, e2, k3, k4⟩ := R.bind_ok k2
    have q := (keepE a h1 k1).trans (keepE b h2 k3)
    split at k4
    · split at k4 <;> cases k4
      exact q
    · cases k4
  | .range3 a b c, e, e', xs, h, k => by
    unfold evI at k
    obtain ⟨h1, h2⟩ := ba2 (by simpa only [stI] using h)
    obtain ⟨h2, h3⟩ := ba2 h2
    obtain ⟨v, e1, k1, k2⟩ := R.bind_ok k
    obtain ⟨w, e2, k3, k4⟩ := R.bind_ok k2
    obtain ⟨x, e3, k5, k6⟩ := R.bind_ok k4
    have q := (keepE a h1 k1).trans ((keepE b h2 k3).trans (keepE c h3 k5))
    split at k6
    · split at k6
      · split at k6 <;> cases k6
        exact q
      · cases k6
    · cases k6
  | .zip a b, e, e', xs, h, k => by
    unfold evI at k
    obtain ⟨h1, h2⟩ := ba2 (by simpa only [stI] using h)
    obtain ⟨v, e1, k1, k2⟩ := R.bind_ok k
    obtain ⟨w, e2, k3, k4⟩ := R.bind_ok k2
    have q := (keepA a h1 k1).trans (keepA b h2 k3)
    split at k4 <;> cases k4 <;> exact q
  | .enum (.data a), e, e', xs, h, k => by
    unfold evI at k
    obtain ⟨v, e1, k1, k2⟩ := R.bind_ok k
    have q := keepA a (by simpa only [stI] using h) k1
    split at k2 <;> cases k2 <;> exact q
  | .enum (.range1 _), e, e', xs, h, k => by unfold evI at k; cases k
  | .enum (.range2 _ _), e, e', xs, h, k => by unfold evI at k; cases k
  | .enum (.range3 _ _ _), e, e', xs, h, k => by unfold evI at k; cases k
  | .enum (.zip _ _), e, e', xs, h, k => by unfold evI at k; cases k
  | .enum (.enum _), e, e', xs, h, k => by unfold evI at k; cases k
theorem keepT : ∀ (t : CT) {e e' : Env} {b : Bool}, stT i t = true → evT cf t e = .ok b e' → Kp i e e'
  | .nil, e, e', b, _, k => by unfold evT at k; cases k; exact Kp.refl i e
  | .cons c r, e, e', b, h, k => by
    unfold evT at k
    obtain ⟨h1, h2⟩ := ba2 (by simpa only [stT] using h)
    obtain ⟨s, e1, k1, k2⟩ := R.bind_ok k
    split at k2
    · exact (keepE c h1 k1).trans (keepT r h2 k2)
    · cases k2; exact keepE c h1 k1
    · cases k2
theorem keepG0 : ∀ (g : CG) {e e' : Env} {xs : List D}, stG i g = true → evG0 cf g e = .ok xs e' → Kp i e e'
  | .mk p it ifs, e, e', xs, h, k => by
    unfold evG0 at k
    obtain ⟨h1, h2⟩ := ba2 (by simpa only [stG] using h)
    exact keepI it (ba2 h2).1 k
theorem keepGt : ∀ (g : CG) {e e' : Env} {x : D} {b : Bool}, stG i g = true → evGt cf g x e = .ok b e' → Kp i e e'
  | .mk p it ifs, e, e', x, b, h, k => by
    unfold evGt at k
    obtain ⟨h1, h2⟩ := ba2 (by simpa only [stG] using h)
    cases hb : bindP p x e with
    | none => rw [hb] at k; cases k
    | some e1 =>
      rw [hb] at k
      exact Kp.trans (.inl (bindP_keep (nin_of h1) hb)) (keepT ifs (ba2 h2).2 k)
end

/-! ### statements -/
/-- slot i is as it was wherever the statement goes on -/
def KpR (i : Nat) (e : Env) : SR → Prop
  | .nx e' => Kp i e e'
  | .ct e' => Kp i e e'
  | _ => True
theorem KpR.trans {e e1 : Env} {r : SR} (h : Kp i e e1) (k : KpR i e1 r) : KpR i e r := by
  cases r with
  | nx e2 => exact h.trans k
  | ct e2 => exact h.trans k
  | _ => trivial
theorem loopF_keep {body : D → Env → SR} (h : ∀ x e, KpR i e (body x e)) : ∀ {xs : List D} {e : Env}, KpR i e (loopF body xs e)
  | [], e => by unfold loopF; exact Kp.refl i e
  | x :: xs, e => by
    unfold loopF
    have hb := h x e
    cases hx : body x e with
    | nx e1 => rw [hx] at hb; exact KpR.trans hb (loopF_keep h)
    | ct e1 => rw [hx] at hb; exact KpR.trans hb (loopF_keep h)
    | rt _ _ => trivial
    | ex _ _ => trivial
    | bad => trivial
theorem loopW_keep {test : Env → R Sl} {body : Env → SR} (ht : ∀ e s e', test e = .ok s e' → Kp i e e') (h : ∀ e, KpR i e (body e)) : ∀ {n : Nat} {e : Env}, KpR i e (loopW test body n e)
  | 0, e => by unfold loopW; trivial
  | n + 1, e => by
    unfold loopW
    cases hx : test e with
    | ok s e1 =>
      have h1 := ht _ _ _ hx
      split
      · rename_i z; cases z
        have hb := h e1
        cases hy : body e1 with
        | nx e2 => rw [hy] at hb; exact KpR.trans (h1.trans hb) (loopW_keep ht h)
        | ct e2 => rw [hy] at hb; exact KpR.trans (h1.trans hb) (loopW_keep ht h)
        | rt _ _ => trivial
        | ex _ _ => trivial
        | bad => trivial
      · rename_i z; cases z; exact h1
      · trivial
      · trivial
    | ex _ _ => trivial
    | bad => trivial
mutual
def stS (i : Nat) : CS → Bool
  | .asg _ j e => i != j && stE i e
  | .unp p e => !(slotsP p).contains i && stE i e
  | .par ks es => (ks.all fun q => i != q.2) && stAs i es
  | .ex e => stE i e
  | .aug j _ e => i != j && stE i e
  | .augI j _ k e => i != j && (stE i k && stE i e)
  | .seti j e k => i != j && (stE i e && stE i k)
  | .sub2 .. => false
  | .setf .. => false
  | .iff c a b => stE i c && (stB i a && stB i b)
  | .wh c b => stE i c && stB i b
  | .fr p it b => !(slotsP p).contains i && (stI i it && stB i b)
  | .ret _ => true
  | .retN => true
  | .pass => true
  | .cont => true
  | .raise _ _ => true
  | .never => true
def stB (i : Nat) : CSs → Bool
  | .nil => true
  | .cons s r => stS i s && stB i r
end
theorem asgS_keep {e e' : Env} {keep : Bool} {j : Nat} {s : Sl} (hij : i ≠ j) (h : asgS e keep j s = some e') : gt e' i = gt e i := by
  unfold asgS at h
  split at h <;> cases h <;> exact gt_set_ne hij
theorem asgAll_keep : ∀ {ks : List (Bool × Nat)} {vs : List AV} {e e' : Env}, (ks.all fun q => i != q.2) = true → asgAll e ks vs = some e' → gt e' i = gt e i
  | [], [], e, e', _, k => by unfold asgAll at k; cases k; rfl
  | [], _ :: _, _, _, _, k => by simp [asgAll] at k
  | _ :: _, [], _, _, _, k => by simp [asgAll] at k
  | (b, j) :: ks, v :: vs, e, e', h, k => by
    rw [List.all_cons] at h
    obtain ⟨h1, h2⟩ := ba2 h
    cases v with
    | made s =>
      unfold asgAll at k
      cases h3 : asgS e b j s with
      | none => rw [h3] at k; cases k
      | some e1 =>
        rw [h3, Option.bind_some] at k
        rw [asgAll_keep h2 k, asgS_keep (by simpa using h1) h3]
    | _ => simp [asgAll] at k
variable {wf : Nat}
mutual
theorem keepS : ∀ (st : CS) {e : Env}, stS i st = true → KpR i e (exS cf wf st e)
  | .asg keep j c, e, h => by
    unfold exS
    obtain ⟨h1, h2⟩ := ba2 (by simpa only [stS] using h)
    cases k : evE cf c e with
    | ok s e1 =>
      dsimp only
      cases k2 : asgS e1 keep j s with
      | none => trivial
      | some e2 => exact (keepE c h2 k).trans (.inl (asgS_keep (by simpa using h1) k2))
    | ex _ _ => trivial
    | bad => trivial
  | .unp p c, e, h => by
    unfold exS
    obtain ⟨h1, h2⟩ := ba2 (by simpa only [stS] using h)
    cases k : evE cf c e with
    | ok s e1 =>
      dsimp only
      cases hd : dataOf s with
      | none => trivial
      | some d =>
        rw [Option.bind_some]
        cases k2 : bindP p d e1 with
        | none => trivial
        | some e2 => exact (keepE c h2 k).trans (.inl (bindP_keep (nin_of h1) k2))
    | ex _ _ => trivial
    | bad => trivial
  | .par ks es, e, h => by
    unfold exS
    obtain ⟨h1, h2⟩ := ba2 (by simpa only [stS] using h)
    cases k : evAs cf es e with
    | ok vs e1 =>
      dsimp only
      cases k2 : asgAll e1 ks vs with
      | none => trivial
      | some e2 => exact (keepAs es h2 k).trans (.inl (asgAll_keep h1 k2))
    | ex _ _ => trivial
    | bad => trivial
  | .ex c, e, h => by
    unfold exS
    cases k : evE cf c e with
    | ok s e1 => exact keepE c (by simpa only [stS] using h) k
    | ex _ _ => trivial
    | bad => trivial
  | .aug j p c, e, h => by
    unfold exS
    obtain ⟨h1, h2⟩ := ba2 (by simpa only [stS] using h)
    split
    · cases k : evE cf c e with
      | ok s e1 =>
        dsimp only
        split
        · split
          · split
            · rename_i hk
              exact (keepE c h2 k).trans (.inl (asgS_keep (by simpa using h1) hk))
            · trivial
          · trivial
        · trivial
      | ex _ _ => trivial
      | bad => trivial
    · trivial
  | .augI j p key c, e, h => by
    unfold exS
    obtain ⟨h1, h2⟩ := ba2 (by simpa only [stS] using h)
    obtain ⟨h2, h3⟩ := ba2 h2
    split
    · cases k : evE cf key e with
      | ok s e1 =>
        dsimp only
        split
        · split
          · cases k2 : evE cf c e1 with
            | ok s2 e2 =>
              dsimp only
              split
              · split
                · split
                  · exact ((keepE key h2 k).trans (keepE c h3 k2)).trans (.inl (gt_set_ne (by simpa using h1)))
                  · trivial
                · trivial
              · trivial
            | ex _ _ => trivial
            | bad => trivial
          · trivial
        · trivial
      | ex _ _ => trivial
      | bad => trivial
    · trivial
  | .seti j c key, e, h => by
    unfold exS
    obtain ⟨h1, h2⟩ := ba2 (by simpa only [stS] using h)
    obtain ⟨h2, h3⟩ := ba2 h2
    cases k : evE cf c e with
    | ok s e1 =>
      dsimp only
      split
      · cases k2 : evE cf key e1 with
        | ok s2 e2 =>
          dsimp only
          split
          · split
            · exact ((keepE c h2 k).trans (keepE key h3 k2)).trans (.inl (gt_set_ne (by simpa using h1)))
            · trivial
          · trivial
        | ex _ _ => trivial
        | bad => trivial
      · trivial
    | ex _ _ => trivial
    | bad => trivial
  | .sub2 .., e, h => by simp [stS] at h
  | .setf .., e, h => by simp [stS] at h
  | .iff c a b, e, h => by
    unfold exS
    obtain ⟨h1, h2⟩ := ba2 (by simpa only [stS] using h)
    obtain ⟨h2, h3⟩ := ba2 h2
    cases k : evE cf c e with
    | ok s e1 =>
      split
      · rename_i z; cases z; exact KpR.trans (keepE c h1 k) (keepB a h2)
      · rename_i z; cases z; exact KpR.trans (keepE c h1 k) (keepB b h3)
      · trivial
      · trivial
    | ex _ _ => trivial
    | bad => trivial
  | .wh c b, e, h => by
    unfold exS
    obtain ⟨h1, h2⟩ := ba2 (by simpa only [stS] using h)
    exact loopW_keep (fun e s e' q => keepE c h1 q) fun e => keepB b h2
  | .fr p it b, e, h => by
    unfold exS
    obtain ⟨h1, h2⟩ := ba2 (by simpa only [stS] using h)
    obtain ⟨h2, h3⟩ := ba2 h2
    cases k : evI cf it e with
    | ok xs e1 =>
      refine KpR.trans (keepI it h2 k) (loopF_keep fun x e => ?_)
      cases hb : bindP p x e with
      | none => trivial
      | some e2 => exact KpR.trans (.inl (bindP_keep (nin_of h1) hb)) (keepB b h3)
    | ex _ _ => trivial
    | bad => trivial
  | .ret c, e, h => by
    unfold exS
    cases k : evE cf c e <;> trivial
  | .retN, e, h => by unfold exS; trivial
  | .pass, e, h => by unfold exS; exact Kp.refl i e
  | .cont, e, h => by unfold exS; exact Kp.refl i e
  | .raise c es, e, h => by
    unfold exS
    cases k : evAs cf es e with
    | ok vs e1 =>
      dsimp only
      cases avDatas e1 vs <;> trivial
    | ex _ _ => trivial
    | bad => trivial
  | .never, e, h => by unfold exS; trivial
theorem keepB : ∀ (st : CSs) {e : Env}, stB i st = true → KpR i e (exB cf wf st e)
  | .nil, e, h => by unfold exB; exact Kp.refl i e
  | .cons s r, e, h => by
    unfold exB
    obtain ⟨h1, h2⟩ := ba2 (by simpa only [stB] using h)
    have q := keepS s (e := e) h1
    cases k : exS cf wf s e with
    | nx e1 => rw [k] at q; exact KpR.trans q (keepB r h2)
    | ct e1 => rw [k] at q; exact q
    | rt _ _ => trivial
    | ex _ _ => trivial
    | bad => trivial
end
end
end C
end
section
set_option Elab.async false
set_option linter.all false
set_option maxRecDepth 100000
set_option maxHeartbeats 1000000
/-! What a loop or a comprehension walks. -/
namespace C
open PySem PySem.Spec L2
variable [Lams]

/-- how long what lies there may be -/
def HB (K : PySem.W.Frag) (H : Hp) : Prop := (∀ a xs, SqL K H a xs → xs.length ≤ sizeLine) ∧ (∀ a xs, SqT K H a xs → xs.length ≤ sizeLine)
theorem hb_of {X : Cx} {pins : List (Addr × Obj)} {σ : L2.St} {H : Hp} {s : Shared} (I : Inv X pins σ H s) : HB X.K H :=
  ⟨fun a xs h => let ⟨_, _, _, z⟩ := I.list h; z, fun a xs h => let ⟨_, _, _, z⟩ := I.tuple h; z⟩
theorem PA.plus {X : Cx} {es : List Expr} {t : TA} (h : PA X es t) : PA X es (fun σ H Q => t σ H fun vs H1 => HB X.K H1 → Q vs H1) :=
  ⟨fun pos pins s σ H Q I q => thn (h.run pos pins s σ H _ I q) fun us s' ⟨vs, H', I', r, z⟩ => ⟨vs, H', I', r, z (hb_of I')⟩⟩
theorem PE.plus {X : Cx} {e : Expr} {t : TE} (h : PE X e t) : PE X e (fun σ H Q => t σ H fun v H1 => HB X.K H1 → Q v H1) :=
  ⟨fun pins s σ H Q I q => thn (h.run pins s σ H _ I q) fun us s' ⟨vs, H', I', r, z⟩ => ⟨vs, H', I', r, z (hb_of I')⟩⟩
theorem PE.imp {X : Cx} {e : Expr} {t t' : TE} (h : PE X e t) (k : ∀ σ H Q, t' σ H Q → t σ H Q) : PE X e t' := ⟨fun pins s σ H Q I q => h.run pins s σ H Q I (k σ H Q q)⟩
theorem PT.imp {X : Cx} {e : Expr} {t t' : TT} (h : PT X e t) (k : ∀ σ H Q, t' σ H Q → t σ H Q) : PT X e t' := ⟨fun pins s σ H Q I q => h.run pins s σ H Q I (k σ H Q q)⟩
theorem PW.imp {X : Cx} {e : Expr} {t t' : TT} (h : PW X e t) (k : ∀ σ H Q, t' σ H Q → t σ H Q) : PW X e t' := ⟨fun w pins s σ H Q I q => h.run w pins s σ H Q I (k σ H Q q)⟩
theorem PA.imp {X : Cx} {e : List Expr} {t t' : TA} (h : PA X e t) (k : ∀ σ H Q, t' σ H Q → t σ H Q) : PA X e t' := ⟨fun pos pins s σ H Q I q => h.run pos pins s σ H Q I (k σ H Q q)⟩
theorem PI.imp {X : Cx} {tg e : Expr} {t t' : TI} (h : PI X tg e t) (k : ∀ σ H Q, t' σ H Q → t σ H Q) : PI X tg e t' := ⟨fun pins s σ H Q I q => h.run pins s σ H Q I (k σ H Q q)⟩
theorem PS.imp {X : Cx} {e : Stmt} {t t' : TS} (h : PS X e t) (k : ∀ D σ H, t' D σ H → t D σ H) : PS X e t' := ⟨fun pins s σ H D I q => h.run pins s σ H D I (k D σ H q)⟩
theorem PSs.imp {X : Cx} {e : List Stmt} {t t' : TS} (h : PSs X e t) (k : ∀ D σ H, t' D σ H → t D σ H) : PSs X e t' := ⟨fun pins s σ H D I q => h.run pins s σ H D I (k D σ H q)⟩

/-- the slots that are looked at while a source is walked -/
def bosA : CA → List Nat
  | .bo i => [i]
  | _ => []
def bosI : CI → List Nat
  | .data a => bosA a
  | .zip a b => bosA a ++ bosA b
  | .enum (.data a) => bosA a
  | _ => []
/-- behind the start: nothing that stood has changed, the slots looked at are as they were -/
def Cs (W1 : Wd) (σ1 : L2.St) (env1 : Env) (bos : List Nat) (W : Wd) (σ : L2.St) (env : Env) : Prop := Step W1 W ∧ ∀ i ∈ bos, σ[i]? = σ1[i]? ∧ Kp i env1 env
structure Wk (B : Bs) (J : It) (W1 : Wd) (σ1 : L2.St) (env1 : Env) (bos : List Nat) (xs : List D) : Prop where
  go : ∀ W σ env k, Cs W1 σ1 env1 bos W σ env → RE B W σ env → k < xs.length → J.go k W.H
  yld : ∀ W σ env k x H', Cs W1 σ1 env1 bos W σ env → RE B W σ env → J.yld k W.H x H' → k < xs.length → ∃ d, xs[k]? = some d ∧ Same W.H H' ∧ Rp B W.N H' x d
  stop : ∀ W σ env k, Cs W1 σ1 env1 bos W σ env → RE B W σ env → xs.length ≤ k → J.stop k W.H
def tI (B : Bs) (cf : Nat → List Sl → CR) (it : CI) : TI := fun σ H R => ∃ (W : Wd) (env : Env) (xs : List D) (env1 : Env), W.H = H ∧ RE B W σ env ∧ evI cf it env = .ok xs env1 ∧
  ∀ J W1, Step W W1 → RE B W1 σ env1 → Wk B J W1 σ env1 (bosI it) xs → xs.length ≤ sizeLine → R J W1.H

section
variable {B : Bs} {cf : Nat → List Sl → CR} {W W0 W1 W' W'' : Wd} {σ σ' : L2.St} {env env1 env' : Env} {H' : Hp} {v x : V} {s : Sl} {d : D}
theorem Kp.data {i : Nat} (h : Kp i env env') (e : dataOf (gt env i) = some d) : dataOf (gt env' i) = some d := by
  rcases h with h | ⟨d', h1, h2⟩
  · rw [h]; exact e
  · rw [h1] at e; rw [h2]; exact e
/-- a value held through a walk -/
theorem hold' {e0 : Env} {a : CA} {av : AV} (ea : evA cf a env = .ok av e0) (r1 : RE B W1 σ env1) (h : RAV B W0 W1 σ x av) (e : avData env1 av = some d) {bos : List Nat} (hb : ∀ i ∈ bosA a, i ∈ bos) (c : Cs W1 σ env1 bos W σ' env') (r : RE B W σ' env') : RA B W.N W.H x d := by
  cases av with
  | made s => exact RV.ra (RV.step r1 c.1 h) e
  | bo i =>
    have hi : i ∈ bos := by
      cases a with
      | bo j =>
        unfold evA at ea
        split at ea <;> cases ea
        exact hb i (by simp [bosA])
      | e c => unfold evA at ea; obtain ⟨_, _, _, k⟩ := R.bind_ok ea; cases k
      | rf j => unfold evA at ea; split at ea <;> cases ea
      | bf j f => unfold evA at ea; cases ea
    obtain ⟨c1, c2⟩ := c.2 i hi
    obtain ⟨v, h1, h2⟩ := r.data (c2.data (show dataOf (gt env1 i) = some d from e))
    rw [c1, show σ[i]? = some (some x) from h] at h1
    cases h1; exact h2
  | rf i => cases e
  | bf i f => exact h.elim
theorem hold {a : CA} {av : AV} (ea : evA cf a env = .ok av env1) (r1 : RE B W1 σ env1) (h : RAV B W0 W1 σ x av) (e : avData env1 av = some d) {bos : List Nat} (hb : ∀ i ∈ bosA a, i ∈ bos) (c : Cs W1 σ env1 bos W σ' env') (r : RE B W σ' env') : RA B W.N W.H x d :=
  hold' ea r1 h e hb c r
theorem wk_list {X : Cx} {a : Addr} {bos : List Nat} {xs : List D} (h : ∀ W σ' env', Cs W1 σ env1 bos W σ' env' → RE (bsOf X) W σ' env' → RA (bsOf X) W.N W.H (.ref a) (.list xs)) : Wk (bsOf X) (Itl X.K a) W1 σ env1 bos xs where
  go := fun W σ env k c r hk => by
    obtain ⟨b, vs, e, hd, ra⟩ := (h W σ env c r).list
    cases e
    obtain ⟨v, h1, _⟩ := ra.get (List.getElem?_eq_getElem hk)
    exact ⟨vs, v, .inl hd, h1⟩
  yld := fun W σ env k x H' c r hy hk => by
    obtain ⟨rfl, hy⟩ := hy
    obtain ⟨b, vs, e, hd, ra⟩ := (h W σ env c r).list
    cases e
    obtain ⟨d, h1, h2⟩ := ra.get' (hy vs (.inl hd))
    exact ⟨d, h1, Same.refl _, h2⟩
  stop := fun W σ env k c r hk => by
    obtain ⟨b, vs, e, hd, ra⟩ := (h W σ env c r).list
    cases e
    exact ⟨vs, .inl hd, by rw [ra.length]; exact hk⟩
theorem wk_tup {X : Cx} {a : Addr} {bos : List Nat} {xs : List D} (h : ∀ W σ' env', Cs W1 σ env1 bos W σ' env' → RE (bsOf X) W σ' env' → RA (bsOf X) W.N W.H (.ref a) (.tuple xs)) : Wk (bsOf X) (Itt X.K a) W1 σ env1 bos xs where
  go := fun W σ env k c r hk => by
    obtain ⟨b, vs, e, hd, ra⟩ := (h W σ env c r).tuple
    cases e
    obtain ⟨v, h1, _⟩ := ra.get (List.getElem?_eq_getElem hk)
    exact ⟨vs, v, hd, h1⟩
  yld := fun W σ env k x H' c r hy hk => by
    obtain ⟨rfl, hy⟩ := hy
    obtain ⟨b, vs, e, hd, ra⟩ := (h W σ env c r).tuple
    cases e
    obtain ⟨d, h1, h2⟩ := ra.get' (hy vs hd)
    exact ⟨d, h1, Same.refl _, h2⟩
  stop := fun W σ env k c r hk => by
    obtain ⟨b, vs, e, hd, ra⟩ := (h W σ env c r).tuple
    cases e
    exact ⟨vs, hd, by rw [ra.length]; exact hk⟩
theorem rangeSt_get : ∀ {n k : Nat} {lo st : Int}, k < n → (rangeSt lo st n)[k]? = some (.int (lo + k * st))
  | 0, k, _, _, h => by omega
  | n + 1, 0, lo, st, h => by simp [rangeSt]
  | n + 1, k + 1, lo, st, h => by
    unfold rangeSt
    rw [List.getElem?_cons_succ, rangeSt_get (by omega)]
    congr 2
    rw [Int.natCast_add, Int.add_mul]; simp; omega
theorem rangeSt_len : ∀ {n : Nat} {lo st : Int}, (rangeSt lo st n).length = n
  | 0, _, _ => rfl
  | n + 1, lo, st => by unfold rangeSt; rw [List.length_cons, rangeSt_len]
theorem wk_str {z : Str} {bos : List Nat} : Wk B (Its z) W1 σ env1 bos (z.cps.toList.map fun c => .str ⟨#[c]⟩) where
  go := fun W σ env k c r hk => by rw [List.length_map, Array.length_toList] at hk; exact hk
  yld := fun W σ env k x H' c r hy hk => by
    obtain ⟨rfl, c, hc, rfl⟩ := hy
    refine ⟨.str ⟨#[c]⟩, ?_, Same.refl _, .str _⟩
    rw [List.getElem?_map, Array.getElem?_toList, hc]; rfl
  stop := fun W σ env k c r hk => by rw [List.length_map, Array.length_toList] at hk; exact hk
theorem wk_range {lo : Int} {n : Nat} {bos : List Nat} : Wk B (Itr lo n) W1 σ env1 bos (rangeSt lo 1 n) where
  go := fun W σ env k c r hk => by rw [rangeSt_len] at hk; exact hk
  yld := fun W σ env k x H' c r hy hk => by
    obtain ⟨rfl, rfl⟩ := hy
    rw [rangeSt_len] at hk
    exact ⟨_, rangeSt_get hk, Same.refl _, by rw [Int.mul_one]; exact .int _⟩
  stop := fun W σ env k c r hk => by rw [rangeSt_len] at hk; exact hk
theorem wk_down {lo : Int} {n : Nat} {bos : List Nat} : Wk B (Itc lo (-1) n) W1 σ env1 bos (rangeSt lo (-1) n) where
  go := fun W σ env k c r hk => by rw [rangeSt_len] at hk; exact hk
  yld := fun W σ env k x H' c r hy hk => by
    obtain ⟨rfl, rfl⟩ := hy
    rw [rangeSt_len] at hk
    exact ⟨_, rangeSt_get hk, Same.refl _, .int _⟩
  stop := fun W σ env k c r hk => by rw [rangeSt_len] at hk; exact hk
theorem enumD_get : ∀ {xs : List D} {n k : Nat}, (enumD n xs)[k]? = (xs[k]?).map fun x => .tuple [.int (n + k : Nat), x]
  | [], _, _ => by simp [enumD]
  | x :: xs, n, 0 => by simp [enumD]
  | x :: xs, n, k + 1 => by
    unfold enumD
    rw [List.getElem?_cons_succ, List.getElem?_cons_succ, enumD_get, show n + 1 + k = n + (k + 1) by omega]
theorem enumD_len : ∀ {xs : List D} {n : Nat}, (enumD n xs).length = xs.length
  | [], _ => rfl
  | x :: xs, n => by unfold enumD; rw [List.length_cons, List.length_cons, enumD_len]
theorem wk_enum {X : Cx} {a : Addr} {bos : List Nat} {xs : List D} (h : ∀ W σ' env', Cs W1 σ env1 bos W σ' env' → RE (bsOf X) W σ' env' → RA (bsOf X) W.N W.H (.ref a) (.list xs)) : Wk (bsOf X) (Ite X.K a) W1 σ env1 bos (enumD 0 xs) where
  go := fun W σ env k c r hk => by
    rw [enumD_len] at hk
    obtain ⟨b, vs, e, hd, ra⟩ := (h W σ env c r).list
    cases e
    obtain ⟨v, h1, _⟩ := ra.get (List.getElem?_eq_getElem hk)
    exact ⟨vs, v, .inl hd, h1⟩
  yld := fun W σ env k x H' c r hy hk => by
    obtain ⟨T, y, rfl, hT, rfl, hy⟩ := hy
    obtain ⟨b, vs, e, hd, ra⟩ := (h W σ env c r).list
    cases e
    obtain ⟨d, h1, h2⟩ := ra.get' (hy vs (.inl hd))
    refine ⟨.tuple [.int (0 + k : Nat), d], by rw [enumD_get, h1]; rfl, same_upd hT, .tup (.inl (.inl upd_same)) ?_⟩
    rw [Nat.zero_add]
    exact .cons (.int _) (.cons (h2.ext (Ext.same (same_upd hT))) .nil)
  stop := fun W σ env k c r hk => by
    rw [enumD_len] at hk
    obtain ⟨b, vs, e, hd, ra⟩ := (h W σ env c r).list
    cases e
    exact ⟨vs, .inl hd, by rw [ra.length]; exact hk⟩
theorem zipD_get : ∀ {xs ys : List D} {k : Nat} {x y : D}, xs[k]? = some x → ys[k]? = some y → (zipD xs ys)[k]? = some (.tuple [x, y])
  | [], _, _, _, _, h, _ => by simp at h
  | _ :: _, [], _, _, _, _, h => by simp at h
  | x :: xs, y :: ys, 0, _, _, h, h2 => by simp at h h2; subst h h2; rfl
  | x :: xs, y :: ys, k + 1, _, _, h, h2 => by unfold zipD; rw [List.getElem?_cons_succ]; exact zipD_get (by simpa using h) (by simpa using h2)
theorem zipD_len : ∀ {xs ys : List D}, (zipD xs ys).length = min xs.length ys.length
  | [], _ => by simp [zipD]
  | _ :: _, [] => by simp [zipD]
  | x :: xs, y :: ys => by unfold zipD; rw [List.length_cons, List.length_cons, List.length_cons, zipD_len]; omega
theorem wk_zip {X : Cx} {a b : Addr} {bos : List Nat} {xs ys : List D} (h : ∀ W σ' env', Cs W1 σ env1 bos W σ' env' → RE (bsOf X) W σ' env' → RA (bsOf X) W.N W.H (.ref a) (.list xs) ∧ RA (bsOf X) W.N W.H (.ref b) (.list ys)) : Wk (bsOf X) (Itz X.K a b) W1 σ env1 bos (zipD xs ys) where
  go := fun W σ env k c r hk => by
    rw [zipD_len] at hk
    obtain ⟨h1, h2⟩ := h W σ env c r
    obtain ⟨p, vs, e, hd, ra⟩ := h1.list; cases e
    obtain ⟨p2, ws, e, hd2, rb⟩ := h2.list; cases e
    obtain ⟨v, q1, _⟩ := ra.get (List.getElem?_eq_getElem (show k < xs.length by omega))
    obtain ⟨w, q2, _⟩ := rb.get (List.getElem?_eq_getElem (show k < ys.length by omega))
    exact ⟨vs, ws, v, w, .inl hd, .inl hd2, q1, q2⟩
  yld := fun W σ env k x H' c r hy hk => by
    obtain ⟨T, y, z, rfl, hT, rfl, hy, hz⟩ := hy
    obtain ⟨h1, h2⟩ := h W σ env c r
    obtain ⟨p, vs, e, hd, ra⟩ := h1.list; cases e
    obtain ⟨p2, ws, e, hd2, rb⟩ := h2.list; cases e
    obtain ⟨d, q1, q2⟩ := ra.get' (hy vs (.inl hd))
    obtain ⟨d', q3, q4⟩ := rb.get' (hz ws (.inl hd2))
    exact ⟨_, zipD_get q1 q3, same_upd hT, .tup (.inl (.inl upd_same)) (.cons (q2.ext (Ext.same (same_upd hT))) (.cons (q4.ext (Ext.same (same_upd hT))) .nil))⟩
  stop := fun W σ env k c r hk => by
    rw [zipD_len] at hk
    obtain ⟨h1, h2⟩ := h W σ env c r
    obtain ⟨p, vs, e, hd, ra⟩ := h1.list; cases e
    obtain ⟨p2, ws, e, hd2, rb⟩ := h2.list; cases e
    exact ⟨vs, ws, .inl hd, .inl hd2, by rw [ra.length, rb.length]; omega⟩
theorem wk_zipT {X : Cx} {a b : Addr} {bos : List Nat} {xs ys : List D} (h : ∀ W σ' env', Cs W1 σ env1 bos W σ' env' → RE (bsOf X) W σ' env' → RA (bsOf X) W.N W.H (.ref a) (.tuple xs) ∧ RA (bsOf X) W.N W.H (.ref b) (.tuple ys)) : Wk (bsOf X) (RZ.ItzT X.K a b) W1 σ env1 bos (zipD xs ys) where
  go := fun W σ env k c r hk => by
    rw [zipD_len] at hk
    obtain ⟨h1, h2⟩ := h W σ env c r
    obtain ⟨p, vs, e, hd, ra⟩ := h1.tuple; cases e
    obtain ⟨p2, ws, e, hd2, rb⟩ := h2.tuple; cases e
    obtain ⟨v, q1, _⟩ := ra.get (List.getElem?_eq_getElem (show k < xs.length by omega))
    obtain ⟨w, q2, _⟩ := rb.get (List.getElem?_eq_getElem (show k < ys.length by omega))
    exact ⟨vs, ws, v, w, hd, hd2, q1, q2⟩
  yld := fun W σ env k x H' c r hy hk => by
    obtain ⟨T, y, z, rfl, hT, rfl, hy, hz⟩ := hy
    obtain ⟨h1, h2⟩ := h W σ env c r
    obtain ⟨p, vs, e, hd, ra⟩ := h1.tuple; cases e
    obtain ⟨p2, ws, e, hd2, rb⟩ := h2.tuple; cases e
    obtain ⟨d, q1, q2⟩ := ra.get' (hy vs hd)
    obtain ⟨d', q3, q4⟩ := rb.get' (hz ws hd2)
    exact ⟨_, zipD_get q1 q3, same_upd hT, .tup (.inl (.inl upd_same)) (.cons (q2.ext (Ext.same (same_upd hT))) (.cons (q4.ext (Ext.same (same_upd hT))) .nil))⟩
  stop := fun W σ env k c r hk => by
    rw [zipD_len] at hk
    obtain ⟨h1, h2⟩ := h W σ env c r
    obtain ⟨p, vs, e, hd, ra⟩ := h1.tuple; cases e
    obtain ⟨p2, ws, e, hd2, rb⟩ := h2.tuple; cases e
    exact ⟨vs, ws, hd, hd2, by rw [ra.length, rb.length]; omega⟩

variable {X : Cx} {tg : Expr}
theorem evA_d {a : CA} {av : AV} (e : evA cf a env = .ok av env1) : evI cf (.data a) env = match avData env1 av with
    | some (.list xs) => .ok xs env1
    | some (.tuple xs) => .ok xs env1
    | some (.str z) => if z.cps.size ≤ lineN then .ok (z.cps.toList.map fun c => .str ⟨#[c]⟩) env1 else .bad
    | _ => .bad := by
  unfold evI; rw [e]; rfl
theorem pi_data {l : Expr} {a : CA} (hl : PE X l (tCA (bsOf X) cf a)) : PI X tg l (tI (bsOf X) cf (.data a)) := by
  refine ⟨fun pins s σ H R I h => ?_⟩
  obtain ⟨W, env, xs, env1, rfl, r, e, q⟩ := h
  cases h1 : evA cf a env with
  | ex _ _ => unfold evI at e; rw [h1] at e; cases e
  | bad => unfold evI at e; rw [h1] at e; cases e
  | ok av e1 =>
    rw [evA_d h1] at e
    cases hd : avData e1 av with
    | none => rw [hd] at e; cases e
    | some d =>
      rw [hd] at e
      cases d with
      | list ds =>
        cases e
        refine (pi_list (PE.plus hl)).run pins s σ _ R I ?_
        refine tCA_run r h1 fun x W1 s1 r1 ra hb => ?_
        obtain ⟨p, vs, rfl, hp, rr⟩ := (ra.data r1 hd).list
        exact ⟨p, rfl, ⟨vs, .inl hp⟩, q _ W1 s1 r1 (wk_list fun W σ' env' c r' => hold h1 r1 ra hd (fun i hi => hi) c r') (by rw [← rr.length]; exact hb.1 _ _ (.inl hp))⟩
      | tuple ds =>
        cases e
        refine (pi_tup (PE.plus hl)).run pins s σ _ R I ?_
        refine tCA_run r h1 fun x W1 s1 r1 ra hb => ?_
        obtain ⟨p, vs, rfl, hp, rr⟩ := (ra.data r1 hd).tuple
        exact ⟨p, rfl, ⟨vs, hp⟩, q _ W1 s1 r1 (wk_tup fun W σ' env' c r' => hold h1 r1 ra hd (fun i hi => hi) c r') (by rw [← rr.length]; exact hb.2 _ _ hp)⟩
      | str z =>
        have e : (if z.cps.size ≤ lineN then C.R.ok (z.cps.toList.map fun c => PyData.str ⟨#[c]⟩) e1 else C.R.bad) = C.R.ok xs env1 := e
        split at e <;> cases e
        rename_i hz; rw [lineN_eq] at hz
        refine (pi_str (PE.plus hl)).run pins s σ _ R I ?_
        refine tCA_run r h1 fun x W1 s1 r1 ra hb => ?_
        obtain rfl := (ra.data r1 hd).str
        exact ⟨z, rfl, q _ W1 s1 r1 wk_str (by rw [List.length_map, Array.length_toList]; exact hz)⟩
      | _ => cases e
theorem tAs_one {a : CA} {av : AV} (r : RE B W σ env) (e : evA cf a env = .ok av env1) {Q : List V → Hp → Prop} (q : ∀ x W1, Step W W1 → RE B W1 σ env1 → RAV B W W1 σ x av → Q [x] W1.H) : tAs B cf (.cons a .nil) σ W.H Q :=
  tCA_run r e fun x W1 s1 r1 ra => q x W1 s1 r1 ra
theorem tAs_two {a b : CA} {av bv : AV} (r : RE B W σ env) (e : evA cf a env = .ok av env1) (e2 : evA cf b env1 = .ok bv env') {Q : List V → Hp → Prop} (q : ∀ x y W1, Step W W1 → RE B W1 σ env' → RAV B W W1 σ x av → RAV B W W1 σ y bv → Q [x, y] W1.H) :
    tAs B cf (.cons a (.cons b .nil)) σ W.H Q :=
  tCA_run r e fun x W1 s1 r1 ra => tCA_run r1 e2 fun y W2 s2 r2 rb => q x y W2 (s1.trans s2) r2 (ra.step r1 s2) (rb.since s1)
theorem tAs_two2 {a b : CA} {av bv : AV} (r : RE B W σ env) (e : evA cf a env = .ok av env1) (e2 : evA cf b env1 = .ok bv env') {Q : List V → Hp → Prop} (q : ∀ x y W1, Step W W1 → RE B W1 σ env' → RAV B W W1 σ x av → RAV B W W1 σ y bv →
    (∀ {d : D} {bos : List Nat} {W2 : Wd} {σ2 : L2.St} {env2 : Env}, (∀ i ∈ bosA a, i ∈ bos) → avData env' av = some d → Cs W1 σ env' bos W2 σ2 env2 → RE B W2 σ2 env2 → RA B W2.N W2.H x d) → Q [x, y] W1.H) :
    tAs B cf (.cons a (.cons b .nil)) σ W.H Q :=
  tCA_run r e fun x W1 s1 r1 ra => tCA_run r1 e2 fun y W2 s2 r2 rb => q x y W2 (s1.trans s2) r2 (ra.step r1 s2) (rb.since s1) fun hb hd c r => hold' e r2 (ra.step r1 s2) hd hb c r
theorem tAs_three {a b c : CA} {av bv cv : AV} {e1 e2 : Env} (r : RE B W σ env) (ea : evA cf a env = .ok av e1) (eb : evA cf b e1 = .ok bv e2) (ec : evA cf c e2 = .ok cv env') {Q : List V → Hp → Prop}
    (q : ∀ x y z W1, Step W W1 → RE B W1 σ env' → RAV B W W1 σ x av → RAV B W W1 σ y bv → RAV B W W1 σ z cv → Q [x, y, z] W1.H) : tAs B cf (.cons a (.cons b (.cons c .nil))) σ W.H Q :=
  tCA_run r ea fun x W1 s1 r1 ra => tCA_run r1 eb fun y W2 s2 r2 rb => tCA_run r2 ec fun z W3 s3 r3 rc => q x y z W3 ((s1.trans s2).trans s3) r3 ((ra.step r1 s2).step r2 s3) ((rb.since s1).step r2 s3) (rc.since (s1.trans s2))
theorem evA_e {c : CE} (h : evE cf c env = .ok s env1) : evA cf (.e c) env = .ok (.made s) env1 := by unfold evA; rw [h]; rfl
theorem i_range1 {a : CE} (R : It → Hp → Prop) {H : Hp} (h : tI B cf (.range1 a) σ H R) : iRng1 (tAs B cf (.cons (.e a) .nil)) σ H R := by
  obtain ⟨W, env, xs, env1, rfl, r, e, q⟩ := h
  unfold evI at e
  obtain ⟨s, e1, h1, h2⟩ := bind_ok e
  refine tAs_one r (evA_e h1) fun x W1 s1 r1 ra => ?_
  split at h2
  · rename_i n hn
    split at h2 <;> cases h2
    rename_i hz
    cases (ra.data r1 (show avData env1 (.made s) = some (.int n) from hn)).int
    unfold lineN at hz
    refine ⟨n, rfl, by omega, by omega, ?_⟩
    exact q _ W1 s1 r1 wk_range (by rw [rangeSt_len, sizeLine_eq]; omega)
  · cases h2
theorem i_range2 {a b : CE} (R : It → Hp → Prop) {H : Hp} (h : tI B cf (.range2 a b) σ H R) : iRng2 (tAs B cf (.cons (.e a) (.cons (.e b) .nil))) σ H R := by
  obtain ⟨W, env, xs, env1, rfl, r, e, q⟩ := h
  unfold evI at e
  obtain ⟨s, e1, h1, h2⟩ := bind_ok e
  obtain ⟨t, e2, h3, h4⟩ := bind_ok h2
  split at h4
  · rename_i m n hm hn
    split at h4 <;> cases h4
    rename_i hz
    refine tAs_two r (evA_e h1) (evA_e h3) fun x y W1 s1 r1 ra rb => ?_
    cases (ra.data r1 (show avData env1 (.made s) = some (.int m) from hm)).int
    cases (rb.data r1 (show avData env1 (.made t) = some (.int n) from hn)).int
    unfold lineN at hz
    refine ⟨m, n, rfl, by omega, ?_⟩
    exact q _ W1 s1 r1 wk_range (by rw [rangeSt_len, sizeLine_eq]; omega)
  · cases h4
theorem i_zip {a b : CA} (R : It → Hp → Prop) {H : Hp} (h : tI (bsOf X) cf (.zip a b) σ H R) : RZ.iZipA X.K (fun σ H Q => tAs (bsOf X) cf (.cons a (.cons b .nil)) σ H fun vs H1 => HB X.K H1 → Q vs H1) σ H R := by
  obtain ⟨W, env, xs, env1, rfl, r, e, q⟩ := h
  unfold evI at e
  obtain ⟨va, e1, h1, h2⟩ := bind_ok e
  obtain ⟨vb, e2, h3, h4⟩ := bind_ok h2
  have ea : ∀ i ∈ bosA a, i ∈ bosA a ++ bosA b := fun i hi => List.mem_append_left _ hi
  have eb : ∀ i ∈ bosA b, i ∈ bosA a ++ bosA b := fun i hi => List.mem_append_right _ hi
  split at h4
  · rename_i xs ys hx hy
    cases h4
    refine tAs_two2 r h1 h3 fun x y W1 s1 r1 ra rb ka hb => ?_
    obtain ⟨p, vs, rfl, hp, rr⟩ := (ra.data r1 hx).list
    obtain ⟨p2, ws, rfl, hp2, rr2⟩ := (rb.data r1 hy).list
    exact ⟨p, p2, vs, ws, rfl, .inl ⟨.inl hp, .inl hp2, q _ W1 s1 r1 (wk_zip fun W σ' env' c r' => ⟨ka ea hx c r', hold h3 r1 rb hy eb c r'⟩) (by rw [zipD_len, ← rr.length]; have := hb.1 _ _ (.inl hp); omega)⟩⟩
  · rename_i xs ys hx hy
    cases h4
    refine tAs_two2 r h1 h3 fun x y W1 s1 r1 ra rb ka hb => ?_
    obtain ⟨p, vs, rfl, hp, rr⟩ := (ra.data r1 hx).tuple
    obtain ⟨p2, ws, rfl, hp2, rr2⟩ := (rb.data r1 hy).tuple
    exact ⟨p, p2, vs, ws, rfl, .inr ⟨hp, hp2, q _ W1 s1 r1 (wk_zipT fun W σ' env' c r' => ⟨ka ea hx c r', hold h3 r1 rb hy eb c r'⟩) (by rw [zipD_len, ← rr.length]; have := hb.2 _ _ hp; omega)⟩⟩
  · cases h4
theorem i_enum {a : CA} (R : It → Hp → Prop) {H : Hp} (h : tI (bsOf X) cf (.enum (.data a)) σ H R) : iEnum X.K (fun σ H Q => tAs (bsOf X) cf (.cons a .nil) σ H fun vs H1 => HB X.K H1 → Q vs H1) σ H R := by
  obtain ⟨W, env, xs, env1, rfl, r, e, q⟩ := h
  unfold evI at e
  obtain ⟨va, e1, h1, h2⟩ := bind_ok e
  split at h2
  · rename_i xs hx
    cases h2
    refine tAs_one r h1 fun x W1 s1 r1 ra hb => ?_
    obtain ⟨p, vs, rfl, hp, rr⟩ := (ra.data r1 hx).list
    exact ⟨p, vs, rfl, .inl hp, q _ W1 s1 r1 (wk_enum fun W σ' env' c r' => hold h1 r1 ra hx (fun i hi => hi) c r') (by rw [enumD_len, ← rr.length]; exact hb.1 _ _ (.inl hp))⟩
  · cases h2
theorem i_range3 {a b c : CE} (R : It → Hp → Prop) {H : Hp} (h : tI B cf (.range3 a b c) σ H R) : iRng3 (tAs B cf (.cons (.e a) (.cons (.e b) (.cons (.e c) .nil)))) σ H R := by
  obtain ⟨W, env, xs, env1, rfl, r, e, q⟩ := h
  unfold evI at e
  obtain ⟨s, e1, h1, h2⟩ := bind_ok e
  obtain ⟨t, e2, h3, h4⟩ := bind_ok h2
  obtain ⟨u, e3, h5, h6⟩ := bind_ok h4
  split at h6
  · rename_i m n k hm hn hk
    split at h6
    · rename_i hz
      split at h6 <;> cases h6
      rename_i hk1
      subst hk1
      refine tAs_three r (evA_e h1) (evA_e h3) (evA_e h5) fun x y z W3 s3 r3 ra rb rc => ?_
      cases (ra.data r3 (show avData env1 (.made s) = some (.int m) from hm)).int
      cases (rb.data r3 (show avData env1 (.made t) = some (.int n) from hn)).int
      cases (rc.data r3 (show avData env1 (.made u) = some (.int (-1)) from hk)).int
      unfold lineN at hz
      exact ⟨m, n, -1, _, rfl, RgC.neg (by omega) (by omega) (by omega) (by omega), q _ W3 s3 r3 wk_down (by rw [rangeSt_len, sizeLine_eq]; omega)⟩
    · cases h6
  · cases h6
end
end C
end
section
set_option Elab.async false
set_option linter.all false
set_option maxRecDepth 100000
set_option maxHeartbeats 1000000
/-! Targets, tests, comprehensions. -/
namespace C
open PySem PySem.Spec L2
variable [Lams]

def tT (B : Bs) (cf : Nat → List Sl → CR) (c : CE) : TT := fun σ H Q => ∃ (W : Wd) (env : Env) (b : Bool) (s : Sl) (env' : Env), W.H = H ∧ RE B W σ env ∧ evE cf c env = .ok s env' ∧ dataOf s = some (.bool b) ∧ ∀ W', Step W W' → RE B W' σ env' → Q b W'.H
def tTs (B : Bs) (cf : Nat → List Sl → CR) (c : CT) : TT := fun σ H Q => ∃ (W : Wd) (env : Env) (b : Bool) (env' : Env), W.H = H ∧ RE B W σ env ∧ evT cf c env = .ok b env' ∧ ∀ W', Step W W' → RE B W' σ env' → Q b W'.H
def tG (B : Bs) (p : Pat) : TG := fun v σ H K => ∃ (W : Wd) (env : Env) (d : D) (env' : Env), W.H = H ∧ RE B W σ env ∧ Rp B W.N W.H v d ∧ bindP p d env = some env' ∧
  ∀ σ' W', Step W W' → RE B W' σ' env' → σ'.length = σ.length → (∀ i, i ∉ slotsP p → σ'[i]? = σ[i]?) → K σ' W'.H
def tGs (B : Bs) (ps : List Pat) : TGs := fun vs σ H K => ∃ (W : Wd) (env : Env) (ds : List D) (env' : Env), W.H = H ∧ RE B W σ env ∧ RpA B W.N W.H vs ds ∧ bindPs ps ds env = some env' ∧
  ∀ σ' W', Step W W' → RE B W' σ' env' → σ'.length = σ.length → (∀ i, i ∉ slotsP.slotsPs ps → σ'[i]? = σ[i]?) → K σ' W'.H

section
variable {B : Bs} {cf : Nat → List Sl → CR} {W W0 W1 W' W'' : Wd} {σ σ' : L2.St} {env env1 env' : Env} {H : Hp} {v x : V} {s : Sl} {d : D}
theorem tG_name {i : Nat} {K : L2.St → Hp → Prop} (hi : i < σ.length) (h : tG B (.v i) v σ H K) : gName i v σ H K := by
  obtain ⟨W, env, d, env', rfl, r, rv, e, q⟩ := h
  unfold bindP at e
  cases e
  obtain ⟨W', h1, h2, h3, _⟩ := r.setSh rv (i := i) (by rw [← r.len]; exact hi)
  have := q (σ.set i (some v)) W' h2 h3 (by rw [List.length_set]) fun j hj => List.getElem?_set_ne fun z => hj (by rw [z]; simp [slotsP])
  rw [h1] at this
  exact this
theorem tG_tup {ps : List Pat} {K : L2.St → Hp → Prop} (h : tG B (.t ps) v σ H K) : gTup B.K ps.length (tGs B ps) v σ H K := by
  obtain ⟨W, env, d, env', rfl, r, rv, e, q⟩ := h
  cases d with
  | tuple ds =>
    unfold bindP at e
    split at e
    · rename_i hl
      obtain ⟨a, vs, rfl, ht, ra⟩ := RA.tuple (.inl rv)
      exact ⟨a, vs, rfl, ht, by rw [ra.length]; exact hl.symm, W, env, ds, env', rfl, r, ra, e, fun σ' W' s1 r1 l1 k1 => q σ' W' s1 r1 l1 fun i hi => k1 i (by simpa [slotsP] using hi)⟩
    · cases e
  | _ => simp [bindP] at e
theorem tGs_nil {vs : List V} {K : L2.St → Hp → Prop} (h : tGs B [] vs σ H K) : gNil vs σ H K := by
  obtain ⟨W, env, ds, env', rfl, r, rv, e, q⟩ := h
  cases ds with
  | nil =>
    unfold bindPs at e
    cases e; cases rv
    exact ⟨rfl, q σ W (Step.refl W) r rfl fun _ _ => rfl⟩
  | cons d ds => simp [bindPs] at e
theorem tGs_cons {p : Pat} {ps : List Pat} {vs : List V} {K : L2.St → Hp → Prop} (h : tGs B (p :: ps) vs σ H K) : gCons (tG B p) (tGs B ps) vs σ H K := by
  obtain ⟨W, env, ds, env', rfl, r, rv, e, q⟩ := h
  cases ds with
  | nil => simp [bindPs] at e
  | cons d ds =>
    cases rv with
    | cons r1 r2 =>
      unfold bindPs at e
      cases h1 : bindP p d env with
      | none => rw [h1] at e; cases e
      | some e1 =>
        rw [h1, Option.bind_some] at e
        refine ⟨_, _, rfl, W, env, d, e1, rfl, r, r1, h1, fun σ1 W1 s1 q1 l1 k1 => ?_⟩
        refine ⟨W1, e1, ds, env', rfl, q1, r2.ext (r.ext s1), e, fun σ2 W2 s2 q2 l2 k2 => q σ2 W2 (s1.trans s2) q2 (l2.trans l1) fun i hi => ?_⟩
        simp only [slotsP.slotsPs, List.mem_append, not_or] at hi
        rw [k2 i hi.2, k1 i hi.1]

/-! ### wiping -/
theorem RE.set_no (r : RE B W σ env) (i : Nat) : RE B W (σ.set i none) (env.set i .no) where
  len := by rw [List.length_set, List.length_set]; exact r.len
  slot := fun j s e n => by
    by_cases h : i = j
    · subst h
      by_cases hl : i < env.length
      · rw [List.getElem?_set_self hl] at e; cases e; exact absurd rfl n
      · rw [List.getElem?_eq_none (by rw [List.length_set]; omega)] at e; cases e
    · rw [List.getElem?_set_ne h] at e
      obtain ⟨v, h1, h2⟩ := r.slot j s e n
      exact ⟨v, by rw [List.getElem?_set_ne h]; exact h1, h2⟩
  apart := r.apart
  nin := r.nin
  oin := r.oin
  tb := r.tb
theorem wipe_set (σ : L2.St) (v : Nat) : ∀ vs : List Nat, wipe (σ.set v none) vs = (wipe σ vs).set v none
  | [] => rfl
  | w :: vs => by
    unfold wipe
    rw [wipe_set σ v vs]
    by_cases h : v = w
    · subst h; rfl
    · exact List.set_comm _ _ h
theorem re_wipe : ∀ (vs : List Nat) {σ : L2.St} {env : Env}, RE B W σ env → RE B W (L2.wipe σ vs) (wipeE env vs)
  | [], _, _, r => r
  | v :: vs, σ, env, r => by
    have := re_wipe vs (r.set_no v)
    rw [wipe_set] at this
    exact this
theorem wipe_get {i : Nat} : ∀ {vs : List Nat}, i ∉ vs → (wipe σ vs)[i]? = σ[i]? := fun h => wipe_out h
theorem wipe_in {i : Nat} : ∀ {vs : List Nat}, i ∈ vs → i < σ.length → (wipe σ vs)[i]? = some none
  | [], h, _ => by cases h
  | v :: vs, h, hl => by
    unfold L2.wipe
    by_cases e : v = i
    · subst e; rw [List.getElem?_set_self (by rw [wipe_length]; exact hl)]
    · rw [List.getElem?_set_ne e]
      rcases List.mem_cons.mp h with z | z
      · exact absurd z.symm e
      · exact wipe_in z hl
theorem wipe_eq {vs : List Nat} (hl : σ'.length = σ.length) (h : ∀ i, i ∉ vs → σ'[i]? = σ[i]?) : wipe σ' vs = wipe σ vs := by
  apply List.ext_getElem?
  intro i
  by_cases hi : i ∈ vs
  · by_cases hl' : i < σ.length
    · rw [wipe_in hi hl', wipe_in hi (by rw [hl]; exact hl')]
    · rw [List.getElem?_eq_none (by rw [wipe_length]; omega), List.getElem?_eq_none (by rw [wipe_length]; omega)]
  · rw [wipe_out hi, wipe_out hi]; exact h i hi
theorem gt_backIn {i : Nat} {old : Env} : ∀ {own : List Nat} {e : Env}, i ∈ own → i < e.length → gt (backE old e own) i = gt old i
  | [], _, h, _ => by cases h
  | j :: own, e, h, hl => by
    unfold backE
    by_cases hi : i ∈ own
    · exact gt_backIn hi (by rw [List.length_set]; exact hl)
    · rw [gt_back hi]
      rcases List.mem_cons.mp h with z | z
      · subst z; exact gt_set_self hl
      · exact absurd z hi
theorem back_len {old : Env} : ∀ {own : List Nat} {e : Env}, (backE old e own).length = e.length
  | [], _ => rfl
  | j :: own, e => by unfold backE; rw [back_len, List.length_set]
theorem gt_get {i : Nat} {e : Env} {s : Sl} (h : e[i]? = some s) : gt e i = s := by
  unfold gt; rw [List.getD_eq_getElem?_getD, h]; rfl
theorem ownFree_at {i : Nat} {e : Env} : ∀ {own : List Nat}, ownFree e own = true → i ∈ own → gt e i = .no ∨ ∃ d, gt e i = .sh d
  | [], _, h => by cases h
  | j :: own, k, h => by
    unfold ownFree at k
    obtain ⟨k1, k2⟩ := ba2 k
    rcases List.mem_cons.mp h with z | z
    · subst z
      cases hg : gt e i with
      | no => exact .inl rfl
      | sh d => exact .inr ⟨d, rfl⟩
      | ow d => rw [hg] at k1; cases k1
      | ob c fs => rw [hg] at k1; cases k1
      | fn n => rw [hg] at k1; cases k1
    · exact ownFree_at k2 z
/-- behind the block: its own slots as they stood ahead of it -/
theorem RE.back {vs : List Nat} (r1 : RE B W1 σ env1) (hf : ownFree env1 vs = true) (st : Step W1 W) (r : RE B W (L2.wipe σ vs) (wipeE env' vs)) (hl : env'.length = env1.length) : RE B W σ (backE env1 env' vs) where
  len := by rw [back_len, hl]; exact r1.len
  slot := fun i s e n => by
    have hs := gt_get e
    have hi : i < env'.length := by
      have := (List.getElem?_eq_some_iff.mp e).1
      rwa [back_len] at this
    by_cases h : i ∈ vs
    · rw [gt_backIn h hi] at hs
      rcases ownFree_at hf h with z | ⟨d, z⟩
      · rw [z] at hs; exact absurd hs.symm n
      · rw [z] at hs; subst hs
        obtain ⟨v, h1, h2⟩ := r1.slot i _ (by rw [gt_some (by rw [z]; exact fun q => nomatch q), z]) n
        exact ⟨v, h1, Rp.ext (r1.ext st) h2⟩
    · rw [gt_back h] at hs
      have hg : (wipeE env' vs)[i]? = some s := by
        have := gt_wipe (e := env') h
        rw [← this] at hs
        rw [gt_some (by rw [hs]; exact n), hs]
      obtain ⟨v, h1, h2⟩ := r.slot i s hg n
      rw [wipe_out h] at h1
      exact ⟨v, h1, h2⟩
  apart := r.apart
  nin := r.nin
  oin := r.oin
  tb := r.tb
theorem wipeE_len : ∀ {vs : List Nat} {e : Env}, (wipeE e vs).length = e.length
  | [], _ => rfl
  | v :: vs, e => by unfold wipeE; rw [wipeE_len, List.length_set]
/-- .. of what has not been wiped again -/
theorem RE.len_eq (r : RE B W σ env) (r' : RE B W' σ env') : env'.length = env.length := by rw [← r.len, ← r'.len]
/-- a list that is no slot's and nobody's grows -/
theorem TabW.upd {D : Addr} {o' : HO} {P : Addr} {q : Str} (t : TabW W P q) (nt : NoFix (W.H D)) : TabW { W with H := upd W.H D o' } P q := by
  obtain ⟨n1, n2⟩ := nt.of t
  obtain ⟨k0, ps, k1, k2, k3⟩ := t
  refine ⟨k0, ps, (upd_ne n1).trans k1, k2, fun pos cv e => ?_⟩
  obtain ⟨c, oc, vs, tk, e1, e2, e3⟩ := k3 pos cv e
  exact ⟨c, oc, vs, tk, e1, (upd_ne (n2 c oc e2)).trans e2, e3⟩
theorem RE.updFree {D : Addr} {o o' : HO} (r : RE B W σ env) (nt : NoFix (W.H D)) (hD : W.H D = some o) (ho : Own (some o)) (hw : W.ow D = none) (hn : ¬ W.N D) : RE B { W with H := upd W.H D o' } σ env where
  len := r.len
  slot := fun i s e n => by
    obtain ⟨v, h1, h2⟩ := r.slot i s e n
    refine ⟨v, h1, RSl.ext (Ext.upd hn (by rw [hD]; exact ho)) (fun a ob q z => ⟨?_, q⟩) h2⟩
    have : a ≠ D := fun z => by subst z; have q' : W.ow a = some i := q; rw [hw] at q'; cases q'
    show upd W.H D o' a = some ob
    rw [upd_ne this]; exact z
  apart := r.apart
  nin := fun a q => by
    have : a ≠ D := fun z => by subst z; exact hn q
    show upd W.H D o' a ≠ Option.none
    rw [upd_ne this]; exact r.nin a q
  oin := fun a i q => by
    have : a ≠ D := fun z => by subst z; have q' : W.ow a = some i := q; rw [hw] at q'; cases q'
    show Own (upd W.H D o' a)
    rw [upd_ne this]; exact r.oin a i q
  tb := fun P q k => (r.tb P q k).upd nt
theorem Step.updFree {D : Addr} {o' : HO} (s : Step W0 W) (h0 : W0.H D = Option.none) (nt : NoFix (W.H D)) : Step W0 { W with H := upd W.H D o' } where
  tb := fun P q t => by
    have t1 := s.tb P q t
    obtain ⟨n1, n2⟩ := nt.of t1
    obtain ⟨k0, ps, k1, k2, k3⟩ := t1
    refine ⟨k0, ps, (upd_ne n1).trans k1, k2, fun pos cv e => ?_⟩
    obtain ⟨c, oc, vs, tk, e1, e2, e3⟩ := k3 pos cv e
    exact ⟨c, oc, vs, tk, e1, (upd_ne (n2 c oc e2)).trans e2, e3⟩
  nN := s.nN
  fr := fun a o e n => by
    have : a ≠ D := fun z => by subst z; rw [h0] at e; cases e
    show upd W.H D o' a = some o
    rw [upd_ne this]; exact s.fr a o e n
  th := fun a e => by
    show upd W.H D o' a ≠ Option.none
    by_cases z : a = D
    · subst z; rw [upd_same]; simp
    · rw [upd_ne z]; exact s.th a e
  un := s.un
  nn := s.nn

/-- what is nobody's stays as it is -/
theorem Step.stays {D : Addr} {o : HO} (s : Step W W') (h : W.H D = some o) (hw : W.ow D = Option.none) (hn : ¬ W.N D) : W'.H D = some o ∧ W'.ow D = Option.none ∧ ¬ W'.N D :=
  ⟨s.fr D o h hw, s.un D (by rw [h]; simp) hw, fun z => hn (s.nn D (by rw [h]; simp) hw z)⟩
def turnC (cf : Nat → List Sl → CR) (own : List Nat) (g : CG) (elt : CE) (x : D) (e : Env) : R (List D) := (evGt cf g x (wipeE e own)).bind fun b e1 => if b then (evE cf elt e1).bind fun s e2 =>
        match dataOf s with
        | some d => .ok [d] e2
        | none => .bad
      else .ok [] e1
structure LcP (B : Bs) (turn : D → Env → R (List D)) (W1 : Wd) (σ : L2.St) (env1 env2 : Env) (own bos : List Nat) (D : Addr) (xs ds : List PyData) (i : Nat) (H : Hp) (W2 : Wd) (acc : List V) (ds1 : List PyData) (e2 : Env) (rest : List PyData) : Prop where
  h : W2.H = H
  st : Step W1 W2
  re : RE B W2 (L2.wipe σ own) (wipeE e2 own)
  at_ : W2.H D = some (.lst acc)
  ow : W2.ow D = none
  nn : ¬ W2.N D
  rp : RpA B W2.N W2.H acc ds1
  le : acc.length ≤ i
  kp : ∀ b ∈ bos, Kp b env1 e2
  run : loopC turn (xs.drop i) e2 = .ok rest env2
  eq : ds = ds1 ++ rest
theorem drop_at {α : Type} {xs : List α} {i : Nat} {d : α} (h : xs[i]? = some d) : xs.drop i = d :: xs.drop (i + 1) := by
  obtain ⟨hi, e⟩ := List.getElem?_eq_some_iff.mp h
  rw [List.drop_eq_getElem_cons hi, e]
theorem evGt_ok {p : Pat} {it : CI} {ifs : CT} {x : C.D} {e e' : Env} {b : Bool} (h : evGt cf (.mk p it ifs) x e = .ok b e') : ∃ e1, bindP p x e = some e1 ∧ evT cf ifs e1 = .ok b e' := by
  unfold evGt at h
  cases hb : bindP p x e with
  | none => rw [hb] at h; cases h
  | some e1 => rw [hb] at h; exact ⟨e1, rfl, h⟩
theorem lc_sem {own : List Nat} {p : Pat} {it : CI} {ifs : CT} {elt : CE} (hp : ∀ i ∈ slotsP p, i ∈ own) (hb : ∀ i ∈ bosI it, i ∉ own ∧ stT i ifs = true ∧ stE i elt = true) {Q : VK}
    (h : tE B cf (.lc own (.mk p it ifs) elt) σ H Q) : tLc (tI B cf it) (tG B p) (tTs B cf ifs) (tE B cf elt) own σ H Q := by
  obtain ⟨W, env, s, env', rfl, r, e, q⟩ := h
  unfold evE at e
  obtain ⟨xs, env1, h1, e⟩ := bind_ok e
  split at e
  · rename_i hf
    obtain ⟨ds, env2, h2, e⟩ := bind_ok e
    cases e
    have h2 : loopC (turnC cf own (.mk p it ifs) elt) xs env1 = .ok ds env2 := h2
    unfold evG0 at h1
    refine ⟨W, env, xs, env1, rfl, r, h1, fun J W1 s1 r1 wk hlen D hD => ?_⟩
    let P : Nat → Hp → Prop := fun i H => i ≤ xs.length ∧ ∃ W2 acc ds1 e2 rest, LcP B (turnC cf own (.mk p it ifs) elt) W1 σ env1 env2 own (bosI it) D xs ds i H W2 acc ds1 e2 rest
    refine ⟨fun i m H => m = xs.length - i ∧ P i H, ⟨xs.length, by simp, Nat.zero_le _, { W1 with H := upd W1.H D (.lst []) }, [], [], env1, ds, ⟨rfl, Step.grow (same_upd hD), (re_wipe own r1).grow (same_upd hD), upd_same, (r1.free hD).1, (r1.free hD).2, .nil, Nat.le_refl _, fun _ _ => Kp.refl _ _, h2, rfl⟩⟩, ?_⟩
    rintro i m H ⟨rfl, hi, W2, acc, ds1, e2, rest, LP⟩
    obtain ⟨rfl, st, re, hDat, how, hnn, rp, hle, kp, run, eq⟩ := LP
    have cs : Cs W1 σ env1 (bosI it) W2 (L2.wipe σ own) (wipeE e2 own) := ⟨st, fun b hb' => ⟨wipe_out (hb b hb').1, (kp b hb').trans (.inl (gt_wipe (hb b hb').1))⟩⟩
    by_cases hlt : i < xs.length
    · refine .inr ⟨wk.go W2 _ _ i cs re hlt, P (i + 1), fun H' p' => ⟨xs.length - (i + 1), by omega, rfl, p'⟩, fun x H' hy => ?_⟩
      obtain ⟨d, hd, same, rx⟩ := wk.yld W2 _ _ i x H' cs re hy hlt
      rw [drop_at hd] at run
      unfold loopC at run
      obtain ⟨ys, e3, t1, run⟩ := bind_ok run
      obtain ⟨zs, e4, t2, run⟩ := bind_ok run
      cases run
      unfold turnC at t1
      obtain ⟨b, e5, t3, t1⟩ := bind_ok t1
      obtain ⟨e6, t4, t5⟩ := evGt_ok t3
      have re' := re.grow same
      have D' : ({ W2 with H := H' } : Wd).H D = some (.lst acc) := same D _ hDat
      refine ⟨{ W2 with H := H' }, wipeE e2 own, d, e6, rfl, re', rx, t4, fun σ' W3 s3 r3 l3 k3 => ?_⟩
      have hw : L2.wipe σ' own = L2.wipe σ own := by
        refine wipe_eq (by rw [l3, wipe_length]) fun j hj => ?_
        rw [k3 j fun z => hj (hp j z), wipe_out hj]
      refine ⟨hw, W3, e6, b, e5, rfl, r3, t5, fun W4 s4 r4 => ?_⟩
      have kp4 : ∀ b ∈ bosI it, Kp b env1 e5 := fun b hb' => (kp b hb').trans (Kp.trans (.inl (gt_wipe (hb b hb').1)) (Kp.trans (.inl (bindP_keep (fun z => (hb b hb').1 (hp b z)) t4)) (keepT ifs (hb b hb').2.1 t5)))
      have st4 : Step W2 W4 := (Step.grow same).trans (s3.trans s4)
      cases b with
      | false =>
        simp only [Bool.false_eq_true, if_false] at t1 ⊢
        cases t1
        obtain ⟨d1, d2, d3⟩ := (s3.trans s4).stays D' how hnn
        refine ⟨hlt, W4, acc, ds1, _, zs, ⟨rfl, st.trans st4, ?_, d1, d2, d3, rp.ext (re.ext st4), by omega, kp4, t2, by rw [eq]; rfl⟩⟩
        have := re_wipe own r4
        rw [hw] at this
        exact this
      | true =>
        simp only [if_true] at t1 ⊢
        obtain ⟨s', e7, t6, t1⟩ := bind_ok t1
        cases hs : dataOf s' with
        | none => rw [hs] at t1; cases t1
        | some dd =>
          rw [hs] at t1
          cases t1
          refine ⟨W4, e5, s', e3, rfl, r4, t6, fun v W5 s5 r5 rv => ?_⟩
          obtain ⟨d1, d2, d3⟩ := (s3.trans s4).stays D' how hnn
          obtain ⟨d4, d5, d6⟩ := s5.stays d1 d2 d3
          obtain ⟨W6, hH, s6, r6, rv6, ex6, ow6, n6⟩ := r5.share s5 rv hs
          have d7 : ¬ W6.N D := fun z => by
            rcases n6 D z with z | z
            · exact d6 z
            · rw [d1] at z; cases z
          have d8 : W6.H D = some (.lst acc) := by rw [hH]; exact d4
          have d9 : W6.ow D = none := by rw [ow6]; exact d5
          have st6 : Step W2 W6 := st4.trans s6
          have ex : Ext W6.N W6.H W6.N (upd W6.H D (.lst (acc ++ [v]))) := Ext.upd d7 (by rw [d8]; trivial)
          refine ⟨acc, d4, by omega, hlt, { W6 with H := upd W6.H D (.lst (acc ++ [v])) }, acc ++ [v], ds1 ++ [dd], e3, zs, ⟨by rw [hH], (st.trans st6).updFree hD (NoFix.lst d8), ?_, upd_same, d9, d7, ?_, by rw [List.length_append]; simp; omega, fun b hb' => (kp4 b hb').trans (keepE elt (hb b hb').2.2 t6), t2, by rw [eq, List.append_assoc]⟩⟩
          · have := re_wipe own r6
            rw [hw] at this
            exact this.updFree (NoFix.lst d8) d8 trivial d9 d7
          · exact ((rp.ext (re.ext st6)).append (.cons rv6 .nil)).ext ex
    · have e' : i = xs.length := by omega
      subst e'
      rw [List.drop_length] at run
      unfold loopC at run
      cases run
      refine .inl ⟨wk.stop W2 _ _ _ cs re (Nat.le_refl _), ?_⟩
      have hl : env2.length = env1.length := by
        have a := re.len; have b := r1.len
        rw [wipe_length, wipeE_len] at a
        omega
      refine q (.ref D) W2 (s1.trans st) (r1.back hf st re hl) ⟨(fun e => nomatch e), D, rfl, ⟨s1.none hD, how, hnn, by rw [hDat]; simp⟩, .lst hDat ?_⟩
      rw [eq, List.append_nil]
      exact rp
  · cases e
end
end C
end
section
set_option Elab.async false
set_option linter.all false
set_option maxRecDepth 100000
set_option maxHeartbeats 2000000
/-! Dict comprehensions with keys of any kind; the walk follows HandS.DictComp. -/
namespace C
open PySem PySem.Spec PyProof.Rows L2
variable [Lams]
abbrev Hp := L2.Hp
abbrev St := L2.St
section
variable {X : Cx}
/-- {k: v for target in iter if ..}: D the new dict -/
def tDcG (X : Cx) (wi : TI) (g : TG) (tt : TT) (tk tv : TE) (vs : List Nat) : TE := fun σ H Q => wi σ H fun J H1 => ∀ D, H1 D = none → ∃ W : Nat → Nat → Hp → Prop, (∃ m, W 0 m (upd H1 D (.dK []))) ∧ ∀ i m H, W i m H →
  (J.stop i H ∧ Q (.ref D) H) ∨ (J.go i H ∧ ∃ Nx : Hp → Prop, (∀ H', Nx H' → ∃ m', m' < m ∧ W (i + 1) m' H') ∧ ∀ x H', J.yld i H x H' → g x (wipe σ vs) H' fun σ2 H2 => wipe σ2 vs = wipe σ vs ∧ tt σ2 H2 fun b H3 =>
    if b = true then tk σ2 H3 fun y H4 => tv σ2 H4 fun z H5 => ∃ (N : Addr → Prop) (ds : List (PyData × PyData)) (k d : PyData), RT (bsOf X) N H5 D (.dict ds) ∧ ¬ N D ∧ RA (bsOf X) N H5 y k ∧ Rp (bsOf X) N H5 z d ∧ keyOk ds k = true ∧ ds.length < sizeLine ∧
      ∀ o, RT (bsOf X) N (upd H5 D o) D (.dict (dput ds k d)) → Nx (upd H5 D o) else Nx H3)
theorem dcg_core {pins : List (Addr × Obj)} {s : Shared} {σ : St} {H : Hp} {Q : VK} {kx vx tg iter : Expr} {ifs : List Expr} {scope : Scope} {own : List (Str × Nat)} {pos pos' : Pos} {wi : TI} {g : TG} {tt : TT} {tk tv : TE} {use : Option (Value → Sem Unit)} {Qf : Value → Shared → Prop}
    (hu : X.A.units + 150 < cLine) (hc : X.calm = true) (hN : X.N.Nodup) (I : Inv X pins σ H s) (hi : PI X tg iter wi) (ok : BlkOk X.N X.env.scope scope own)
    (hg : ∀ (s : Shared) (H : Hp) (C : Addr) (cl : List (Str × Addr)) (fp : List Addr), PG (X.blk s H scope (compEnvC scope cl C X.env) fp) tg g) (ht : ∀ (s : Shared) (H : Hp) (C : Addr) (cl : List (Str × Addr)) (fp : List Addr), PTs (X.blk s H scope (compEnvC scope cl C X.env) fp) ifs tt)
    (hk : ∀ (s : Shared) (H : Hp) (C : Addr) (cl : List (Str × Addr)) (fp : List Addr), PE (X.blk s H scope (compEnvC scope cl C X.env) fp) kx tk)
    (he : ∀ (s : Shared) (H : Hp) (C : Addr) (cl : List (Str × Addr)) (fp : List Addr), PE (X.blk s H scope (compEnvC scope cl C X.env) fp) vx tv) (hs : ∀ x, foldedSetIterable iter X.env x = pure x)
    (h : tDcG X wi g tt tk tv (own.map (·.2)) σ H Q)
    (hRR : ∀ D C s' m H', Inv X pins σ H' s' → Q (.ref D) H' → s'.heap.Ns C m → FpOk X pins H' C → compPost (model X.prog X.w) X.A X.xe use Qf (.ref D) C (.ok .next) s') :
    wpAny (model X.prog X.w) X.A (comprehension (.DictComp kx vx [⟨tg, iter, ifs, 0⟩] scope pos) scope X.env pos' newDict false (eval iter X.env) use) Qf X.xe s := by
  have hfree : ∀ y ∈ scope.names, y.2 = .free → ∃ c, X.env.cells.lookup y.1 = some c := fun y hy e => by
    rcases ok.free y hy e with k | k
    · exact I.ok.has _ (.inl k)
    · exact I.ok.has _ (.inr k)
  refine wpAny_comprehension_free (use := use) rfl hs (closure_ok hfree) ok.kind (fun y hy e => by rw [ok.uniq y hy, e])
    (thn (hi.run pins s σ H _ I h) fun xv s1 hx => thn hx fun itv s2 h2 => ?_)
  obtain ⟨it, fp, tn, J, H2, e, I2, T, st2, f2, q⟩ := h2
  subst e
  refine wpAny_newObj_type (newEnv_comp ?_)
  generalize hD : s2.heap.objs.size = D
  have hDn : H2 D = none := I2.hok.fresh (Nat.le_of_eq hD)
  obtain ⟨W, ⟨m0, w0⟩, turn⟩ := q D hDn
  -- the new list
  generalize hs3 : ({ s2 with heap := s2.heap.push { cls := .type "dict", data := .dict #[] } } : Shared) = s3
  have I3 : Inv X pins σ (upd H2 D (.dK [])) s3 := by
    rw [← hs3]
    refine I2.laid (t' := s2.toks) (fun b o e => Heap.get?_push_of_some _ e) (Nat.le_of_eq hD) ?_
    rw [← hD]
    exact dk_empty s2.heap I2.big
  have h3 : s3.heap = s2.heap.push { cls := .type "dict", data := .dict #[] } := by rw [← hs3]
  have sz : ∀ b ∈ fp, b < s2.heap.objs.size := fun b hb => by
    obtain ⟨o, e, _⟩ := T.obj _ _ st2 b hb
    exact Heap.lt_size e
  have f3 : ∀ b ∈ fp, FpOk X pins (upd H2 D (.dK [])) b ∧ b < s3.heap.objs.size := fun b hb => by
    have hlt := sz b hb
    refine ⟨⟨?_, (f2 b hb).2⟩, by rw [h3, Heap.size_push]; exact Nat.lt_succ_of_lt hlt⟩
    rw [upd_ne (by rw [← hD]; exact Nat.ne_of_lt hlt)]
    exact (f2 b hb).1
  have st3 : tn 0 s3.heap := T.keep _ _ _ st2 fun b _ o e => by rw [h3]; exact Heap.get?_push_of_some _ e
  have I4 := block_start I3 ok hN f3
  have pg := hg s3 (upd H2 D (.dK [])) s3.heap.objs.size (cellsFrom (s3.heap.objs.size + 1) scope.names (cloFrom X.env.cells scope.names [])) fp
  have pt := ht s3 (upd H2 D (.dK [])) s3.heap.objs.size (cellsFrom (s3.heap.objs.size + 1) scope.names (cloFrom X.env.cells scope.names [])) fp
  have pk := hk s3 (upd H2 D (.dK [])) s3.heap.objs.size (cellsFrom (s3.heap.objs.size + 1) scope.names (cloFrom X.env.cells scope.names [])) fp
  have pe := he s3 (upd H2 D (.dK [])) s3.heap.objs.size (cellsFrom (s3.heap.objs.size + 1) scope.names (cloFrom X.env.cells scope.names [])) fp
  show codeAny _ _ (.compStart (.DictComp kx vx [⟨tg, iter, ifs, 0⟩] scope pos) 0 (.ref it) (.ref D) (compEnvC scope (cellsFrom (s3.heap.objs.size + 1) scope.names (cloFrom X.env.cells scope.names [])) s3.heap.objs.size X.env)) (compPost (model X.prog X.w) X.A X.xe use Qf (.ref D) s3.heap.objs.size) { s3 with heap := pushCells (s3.heap.push { cls := .type "dict", data := .dict #[] }) scope.names }
  have nfp : ∀ b ∈ fp, (upd H2 D (.dK [])) b = none := fun b hb => (f3 b hb).1.1
  generalize hce : compEnvC scope (cellsFrom (s3.heap.objs.size + 1) scope.names (cloFrom X.env.cells scope.names [])) s3.heap.objs.size X.env = ce at I4 pg pt pk pe ⊢
  have cL : ce.locals = s3.heap.objs.size := by subst hce; rfl
  generalize hH3 : upd H2 D (.dK []) = H3 at I3 I4 pg pt pk pe w0 nfp f3
  generalize hs4 : ({ s3 with heap := pushCells (s3.heap.push { cls := .type "dict", data := .dict #[] }) scope.names } : Shared) = s4 at I4 ⊢
  have st4 : tn 0 s4.heap := T.keep _ _ _ st3 fun b _ o e => by rw [← hs4]; exact pushCells_keeps _ _ _ _ (Heap.get?_push_of_some _ e)
  have stat : ∀ {σ' : St} {H' : Hp} {s' : Shared}, Inv (X.blk s3 H3 scope ce fp) [] σ' H' s' → (∀ b ∈ fp, H' b = none) → ∀ b ∈ fp, FpOk (X.blk s3 H3 scope ce fp) [] H' b := fun {σ' H' s'} I' hn b hb =>
    ⟨hn b hb, (I'.ok.exf b hb).1, I'.ok.exfs b hb, .inl hb, fun x c e => (I'.ok.exf b hb).2 x c e, fun p hp => absurd (show p ∈ ([] : List (Addr × Obj)) ++ [] from hp) (by simp)⟩
  have loop : codeAny (model X.prog X.w) X.A (.compLoop (.DictComp kx vx [⟨tg, iter, ifs, 0⟩] scope pos) 0 (.ref it) (.ref D) ce) (compPost (model X.prog X.w) X.A X.xe use Qf (.ref D) s3.heap.objs.size) s4 := by
    refine compLoop_anyD (fun n s' => ∃ i H', Inv (X.blk s3 H3 scope ce fp) [] (wipe σ (own.map (·.2))) H' s' ∧ tn i s'.heap ∧ (∀ b ∈ fp, H' b = none) ∧ W i n H') ?_ m0 ⟨0, H3, I4, st4, nfp, w0⟩
    rintro n s5 ⟨i, H5, I5, st5, n5, w5⟩
    rcases turn i n H5 w5 with ⟨stop, qq⟩ | ⟨go, Nx, hNx, step⟩
    · have td := T.done (X.blk s3 H3 scope ce fp) rfl rfl rfl hc i [] s5 _ H5 (fun _ _ => False) I5 (stat I5 n5) st5 stop
      refine thnF td fun r s6 ⟨hr, I6⟩ => ?_
      subst hr
      -- back in the def's context
      have I7 : Inv X pins σ H5 s6 := I3.call' (ch := fp) I6.os I6.base I6.hok I6.bare fun b hb => ⟨(f3 b hb).1.2.2.2.1, (f3 b hb).1.2.1, (f3 b hb).1.2.2.2.2.1, (f3 b hb).1.2.2.2.2.2⟩
      have nC : H5 s3.heap.objs.size = none := by
        have z : H5 ce.locals = none := I6.free
        rw [cL] at z
        exact z
      obtain ⟨m, hn, _⟩ := I6.loc
      have hn : s6.heap.Ns ce.locals m := hn
      rw [cL] at hn
      exact hRR D s3.heap.objs.size s6 m H5 I7 qq hn (I3.fpOk (Nat.le_refl _) nC)
    · have ti := T.item (X.blk s3 H3 scope ce fp) rfl rfl rfl hc i [] s5 _ H5 (fun _ _ => False) I5 (stat I5 n5) st5 go
      refine thnF ti fun r s6 ⟨u, hr, h6⟩ => ?_
      subst hr
      refine thnF h6 fun _ s7 ⟨x, H7, I7, r7, y7, st7, n7⟩ => ?_
      have I7' := I7.pinned (stat I7 n7) (T.obj _ _ st7)
      refine thnF (pg.run _ s7 _ H7 x u _ I7' r7 (step x H7 y7)) fun _ s8 ⟨σ8, H8, I8, hw8, q8⟩ => ?_
      refine thnF (pt.run _ s8 σ8 H8 _ I8 q8) fun b s9 ⟨H9, I9, q9⟩ => ?_
      -- the turn's end
      have fin : ∀ {s' : Shared} {H' : Hp}, Inv (X.blk s3 H3 scope ce fp) ([] ++ pinsAt fp s7.heap) σ8 H' s' → Nx H' → ∃ m, m < n ∧ ∃ i H', Inv (X.blk s3 H3 scope ce fp) [] (wipe σ (own.map (·.2))) H' s' ∧ tn i s'.heap ∧ (∀ b ∈ fp, H' b = none) ∧ W i m H' := fun {s' H'} I' nx => by
        obtain ⟨m', hm, w'⟩ := hNx H' nx
        have pin' : ∀ b ∈ fp, ∀ o, s7.heap.get? b = some o → s'.heap.get? b = some o ∧ H' b = none := fun b hb o e =>
          let z := I'.pin (b, o) (List.mem_append_right _ (List.mem_append_right _ (mem_pinsAt hb e)))
          ⟨z.1, z.2.1⟩
        have hl : (wipe σ (own.map (·.2))).length = σ8.length := by rw [← hw8, wipe_length]
        refine ⟨m', hm, i + 1, H', (I'.unpinned (pins := [])).weak hl (fun j v e => ?_), T.keep _ _ _ st7 fun b hb o e => (pin' b hb o e).1, fun b hb => ?_, w'⟩
        · rw [← hw8] at e
          exact (wipe_some e).1
        · obtain ⟨o, e, _⟩ := T.obj _ _ st7 b hb
          exact (pin' b hb o e).2
      cases b with
      | false =>
        simp only [Bool.false_eq_true, if_false] at q9 ⊢
        exact fin I9 q9
      | true =>
        simp only [if_true] at q9 ⊢
        refine thnF (pk.run _ s9 σ8 H9 _ I9 q9) fun z s10 ⟨yk, H10, I10, r10, q10⟩ => ?_
        refine thnF (pe.run _ s10 σ8 H10 _ I10 q10) fun z2 s11 ⟨yv, H11, I11, r11, N, ds, kd, dv, t11, hn11, ra11, rp11, hk11, hz11, nx⟩ => ?_
        exact put_comp (X := X.blk s3 H3 scope ce fp) hu I11 t11 hn11 ra11 rp11 hk11 hz11 r10 r11 fun o s12 I12 t12 => fin I12 (nx o t12)
  exact codeAny_compStart_dict loop (T.self X.A 0 _ _ _ st4 loop)
/-- as a value -/
theorem pe_dcg {kx vx tg iter : Expr} {ifs : List Expr} {scope : Scope} {own : List (Str × Nat)} {pos : Pos} {wi : TI} {g : TG} {tt : TT} {tk tv : TE} (hu : X.A.units + 150 < cLine) (hc : X.calm = true) (hN : X.N.Nodup) (hi : PI X tg iter wi) (ok : BlkOk X.N X.env.scope scope own)
    (hg : ∀ (s : Shared) (H : Hp) (C : Addr) (cl : List (Str × Addr)) (fp : List Addr), PG (X.blk s H scope (compEnvC scope cl C X.env) fp) tg g) (ht : ∀ (s : Shared) (H : Hp) (C : Addr) (cl : List (Str × Addr)) (fp : List Addr), PTs (X.blk s H scope (compEnvC scope cl C X.env) fp) ifs tt)
    (hk : ∀ (s : Shared) (H : Hp) (C : Addr) (cl : List (Str × Addr)) (fp : List Addr), PE (X.blk s H scope (compEnvC scope cl C X.env) fp) kx tk)
    (he : ∀ (s : Shared) (H : Hp) (C : Addr) (cl : List (Str × Addr)) (fp : List Addr), PE (X.blk s H scope (compEnvC scope cl C X.env) fp) vx tv) (hs : ∀ x, foldedSetIterable iter X.env x = pure x := by intro _; rfl) :
    PE X (.DictComp kx vx [⟨tg, iter, ifs, 0⟩] scope pos) (tDcG X wi g tt tk tv (own.map (·.2))) := by
  refine ⟨fun pins s σ H Q I h => ?_⟩
  rw [arm_eval_DictComp]
  refine dcg_core hu hc hN I hi ok hg ht hk he hs h fun D C s' m H' I' q hn f => ⟨m, hn, fun h'' sb => ?_⟩
  obtain ⟨f0, f1, f2, f3, f4, f5⟩ := f
  exact ⟨.ref D, H', I'.turned (t' := s'.toks) (fun b o hb e => (sb.2 b hb).trans e) f0 f1 f3 f4 f5, rfl, q⟩
end
section
variable {X : Cx} {cf : Nat → List Sl → CR} {W W0 W1 W' W'' : Wd} {σ σ' : L2.St} {env env1 env' : C.Env} {v x : V} {s : Sl}
def turnD (cf : Nat → List Sl → CR) (own : List Nat) (g : CG) (key val : CE) (x : PyData) (e : C.Env) : R (Option (PyData × PyData)) := (evGt cf g x (wipeE e own)).bind fun b e1 => if b then (evE cf key e1).bind fun s e2 => (evE cf val e2).bind fun t e3 =>
        match dataOf s, dataOf t with
        | some d, some d2 => .ok (some (d, d2)) e3
        | _, _ => .bad
      else .ok none e1
structure DcP (B : Bs) (turn : PyData → C.Env → R (Option (PyData × PyData))) (W1 : Wd) (σ : L2.St) (env1 env2 : C.Env) (own bos : List Nat) (D : Addr) (xs : List PyData) (ds : List (PyData × PyData)) (i : Nat) (H : L2.Hp) (W2 : Wd) (acc : List (PyData × PyData)) (e2 : C.Env) : Prop where
  h : W2.H = H
  st : Step W1 W2
  re : RE B W2 (L2.wipe σ own) (wipeE e2 own)
  at_ : RT B W2.N W2.H D (.dict acc)
  ow : W2.ow D = none
  nn : ¬ W2.N D
  le : acc.length ≤ i
  kp : ∀ b ∈ bos, Kp b env1 e2
  run : loopD turn (xs.drop i) acc e2 = .ok ds env2
theorem rt_step {N N' : Addr → Prop} {H H' : L2.Hp} {B : Bs} {D : Addr} {d : PyData} {o : HO} (t : RT B N H D d) (e : Ext N H N' H') (h : H D = some o) (h' : H' D = some o) : RT B N' H' D d := t.ext e fun o' q => by rw [h] at q; cases q; exact h'
theorem dc_sem {own : List Nat} {p : Pat} {it : CI} {ifs : CT} {key val : CE} (hp : ∀ i ∈ slotsP p, i ∈ own) (hb : ∀ i ∈ bosI it, i ∉ own ∧ stT i ifs = true ∧ stE i key = true ∧ stE i val = true) {H : L2.Hp} {Q : VK}
    (h : tE (bsOf X) cf (.dc own (.mk p it ifs) key val) σ H Q) : tDcG X (tI (bsOf X) cf it) (tG (bsOf X) p) (tTs (bsOf X) cf ifs) (tE (bsOf X) cf key) (tE (bsOf X) cf val) own σ H Q := by
  obtain ⟨W, env, s, env', rfl, r, e, q⟩ := h
  unfold evE at e
  obtain ⟨xs, env1, h1, e⟩ := bind_ok e
  split at e
  · rename_i hf
    obtain ⟨ds, env2, h2, e⟩ := bind_ok e
    cases e
    have h2 : loopD (turnD cf own (.mk p it ifs) key val) xs [] env1 = .ok ds env2 := h2
    unfold evG0 at h1
    refine ⟨W, env, xs, env1, rfl, r, h1, fun J W1 s1 r1 wk hlen D hD => ?_⟩
    let P : Nat → L2.Hp → Prop := fun i H => i ≤ xs.length ∧ ∃ W2 acc e2, DcP (bsOf X) (turnD cf own (.mk p it ifs) key val) W1 σ env1 env2 own (bosI it) D xs ds i H W2 acc e2
    refine ⟨fun i m H => m = xs.length - i ∧ P i H, ⟨xs.length, by simp, Nat.zero_le _, { W1 with H := upd W1.H D (.dK []) }, [], env1, ⟨rfl, Step.grow (same_upd hD), (re_wipe own r1).grow (same_upd hD), .dk upd_same rfl .nil, (r1.free hD).1, (r1.free hD).2, Nat.le_refl _, fun _ _ => Kp.refl _ _, h2⟩⟩, ?_⟩
    rintro i m H ⟨rfl, hi, W2, acc, e2, LP⟩
    obtain ⟨rfl, st, re, hDat, how, hnn, hle, kp, run⟩ := LP
    have cs : Cs W1 σ env1 (bosI it) W2 (L2.wipe σ own) (wipeE e2 own) := ⟨st, fun b hb' => ⟨wipe_out (hb b hb').1, (kp b hb').trans (.inl (gt_wipe (hb b hb').1))⟩⟩
    obtain ⟨oD, hoD, ownD⟩ := hDat.there
    by_cases hlt : i < xs.length
    · refine .inr ⟨wk.go W2 _ _ i cs re hlt, P (i + 1), fun H' p' => ⟨xs.length - (i + 1), by omega, rfl, p'⟩, fun x H' hy => ?_⟩
      obtain ⟨d, hd, same, rx⟩ := wk.yld W2 _ _ i x H' cs re hy hlt
      rw [drop_at hd] at run
      unfold loopD at run
      obtain ⟨o, e3, t1, run⟩ := bind_ok run
      unfold turnD at t1
      obtain ⟨b, e5, t3, t1⟩ := bind_ok t1
      obtain ⟨e6, t4, t5⟩ := evGt_ok t3
      have re' := re.grow same
      have D' : ({ W2 with H := H' } : Wd).H D = some oD := same D _ hoD
      refine ⟨{ W2 with H := H' }, wipeE e2 own, d, e6, rfl, re', rx, t4, fun σ' W3 s3 r3 l3 k3 => ?_⟩
      have hw : L2.wipe σ' own = L2.wipe σ own := by
        refine wipe_eq (by rw [l3, wipe_length]) fun j hj => ?_
        rw [k3 j fun z => hj (hp j z), wipe_out hj]
      refine ⟨hw, W3, e6, b, e5, rfl, r3, t5, fun W4 s4 r4 => ?_⟩
      have kp4 : ∀ b ∈ bosI it, Kp b env1 e5 := fun b hb' => (kp b hb').trans (Kp.trans (.inl (gt_wipe (hb b hb').1)) (Kp.trans (.inl (bindP_keep (fun z => (hb b hb').1 (hp b z)) t4)) (keepT ifs (hb b hb').2.1 t5)))
      have st4 : Step W2 W4 := (Step.grow same).trans (s3.trans s4)
      obtain ⟨d1, d2, d3⟩ := (s3.trans s4).stays D' how hnn
      cases b with
      | false =>
        simp only [Bool.false_eq_true, if_false] at t1 ⊢
        cases t1
        refine ⟨hlt, W4, acc, _, ⟨rfl, st.trans st4, ?_, rt_step hDat (re.ext st4) hoD d1, d2, d3, by omega, kp4, run⟩⟩
        have := re_wipe own r4
        rw [hw] at this
        exact this
      | true =>
        simp only [if_true] at t1 ⊢
        obtain ⟨sk, e7, t6, t1⟩ := bind_ok t1
        obtain ⟨sv, e8, t7, t1⟩ := bind_ok t1
        split at t1
        · rename_i dk dv hsk hsv
          cases t1
          dsimp only at run
          split at run
          · rename_i hkey
            refine ⟨W4, e5, sk, e7, rfl, r4, t6, fun y W5 s5 r5 ry => ?_⟩
            obtain ⟨d4, d5, d6⟩ := s5.stays d1 d2 d3
            obtain ⟨W6, hH6, s6, r6, ry6, ex6, ow6, n6⟩ := r5.share s5 ry hsk
            have d7 : ¬ W6.N D := fun z => by
              rcases n6 D z with z | z
              · exact d6 z
              · rw [d1] at z; cases z
            rw [← hH6]
            refine ⟨W6, e7, sv, e3, rfl, r6, t7, fun z W7 s7 r7 rz => ?_⟩
            have d8 : W6.H D = some oD := by rw [hH6]; exact d4
            have d9 : W6.ow D = none := by rw [ow6]; exact d5
            obtain ⟨da, db, dc⟩ := s7.stays d8 d9 d7
            obtain ⟨W8, hH8, s8, r8, rz8, ex8, ow8, n8⟩ := r7.share s7 rz hsv
            have dd : ¬ W8.N D := fun z => by
              rcases n8 D z with z | z
              · exact dc z
              · rw [d8] at z; cases z
            have de : W8.H D = some oD := by rw [hH8]; exact da
            have df : W8.ow D = none := by rw [ow8]; exact db
            have st8 : Step W2 W8 := st4.trans (s6.trans s8)
            rw [← hH8]
            have rt8 : RT (bsOf X) W8.N W8.H D (.dict acc) := rt_step hDat (re.ext st8) hoD de
            refine ⟨W8.N, acc, dk, dv, rt8, dd, .inl (ry6.ext (r6.ext s8)), rz8, hkey, by omega, fun o rt => ?_⟩
            refine ⟨hlt, { W8 with H := upd W8.H D o }, dput acc dk dv, _, ⟨rfl, (st.trans st8).updFree hD (by have z := hDat.noFix; rw [hoD] at z; rw [de]; exact z), ?_, rt, df, dd, by have := dput_length acc dk dv; omega, fun b hb' => (kp4 b hb').trans ((keepE key (hb b hb').2.2.1 t6).trans (keepE val (hb b hb').2.2.2 t7)), run⟩⟩
            have := re_wipe own r8
            rw [hw] at this
            exact this.updFree (by have z := hDat.noFix; rw [hoD] at z; rw [de]; exact z) de ownD df dd
          · cases run
        · cases t1
    · have e' : i = xs.length := by omega
      subst e'
      rw [List.drop_length] at run
      unfold loopD at run
      cases run
      refine .inl ⟨wk.stop W2 _ _ _ cs re (Nat.le_refl _), ?_⟩
      have hl : env2.length = env1.length := by
        have a := re.len; have b := r1.len
        rw [wipe_length, wipeE_len] at a
        omega
      exact q (.ref D) W2 (s1.trans st) (r1.back hf st re hl) ⟨(fun e => nomatch e), D, rfl, ⟨s1.none hD, how, hnn, by rw [hoD]; simp⟩, hDat⟩
  · cases e
end
end C
end
section
set_option Elab.async false
set_option linter.all false
set_option maxRecDepth 100000
set_option maxHeartbeats 1000000
/-! Truth, choices, chains; what changes a list in place. -/
namespace C
open PySem PySem.Spec L2
variable [Lams]
section
variable {B : Bs} {cf : Nat → List Sl → CR} {W W0 W1 W' W'' : Wd} {σ σ' : L2.St} {env env1 env' : C.Env} {H : L2.Hp} {v x : V} {s : Sl} {Q : VK}

theorem rv_bool {b : Bool} (h : RV B W0 W v (.sh (.bool b))) : v = .bl b := RA.bool (.inl h.rp)
theorem tT_of {c : CE} {Q : Bool → L2.Hp → Prop} (h : tT B cf c σ H Q) : tE B cf c σ H fun x H1 => ∃ k, x = .bl k ∧ Q k H1 := by
  obtain ⟨W, env, b, s, env', rfl, r, e, hd, q⟩ := h
  exact ⟨W, env, s, env', rfl, r, e, fun v W' s1 r1 rv => ⟨b, (RV.ra rv hd).bool, q W' s1 r1⟩⟩
theorem tB_of {c : CE} {Q : Bool → L2.Hp → Prop} (h : tT B cf c σ H Q) : tB (tE B cf c) σ H Q := tT_of h
/-- a truth value wanted -/
theorem tT_give {b : Bool} (q : ∀ v W', Step W W' → RE B W' σ env' → RV B W W' v (.sh (.bool b)) → Q v W'.H) : ∀ W', Step W W' → RE B W' σ env' → Q (.bl b) W'.H :=
  fun W' s r => q _ W' s r (RV.sh (.bl b))
theorem and_sem {a b : CE} (h : tE B cf (.and a b) σ H Q) : tAndV (tE B cf a) (tE B cf b) σ H Q := by
  obtain ⟨W, env, s, env', rfl, r, e, q⟩ := h
  unfold evE at e
  obtain ⟨t, e1, h1, h2⟩ := bind_ok e
  refine ⟨W, env, t, e1, rfl, r, h1, fun v W1 s1 r1 rv => ?_⟩
  split at h2
  · cases rv_bool rv
    exact ⟨true, rfl, W1, e1, s, env', rfl, r1, h2, fun v W2 s2 r2 rv2 => q v W2 (s1.trans s2) r2 (rv2.since s1)⟩
  · cases h2
    cases rv_bool rv
    exact ⟨false, rfl, q _ W1 s1 r1 (RV.sh (.bl false))⟩
  · cases h2
theorem or_sem {a b : CE} (h : tE B cf (.or a b) σ H Q) : tOrV (tE B cf a) (tE B cf b) σ H Q := by
  obtain ⟨W, env, s, env', rfl, r, e, q⟩ := h
  unfold evE at e
  obtain ⟨t, e1, h1, h2⟩ := bind_ok e
  refine ⟨W, env, t, e1, rfl, r, h1, fun v W1 s1 r1 rv => ?_⟩
  split at h2
  · cases h2
    cases rv_bool rv
    exact ⟨true, rfl, q _ W1 s1 r1 (RV.sh (.bl true))⟩
  · cases rv_bool rv
    exact ⟨false, rfl, W1, e1, s, env', rfl, r1, h2, fun v W2 s2 r2 rv2 => q v W2 (s1.trans s2) r2 (rv2.since s1)⟩
  · cases h2
theorem andT_sem {a b : CE} {Q : Bool → L2.Hp → Prop} (h : tT B cf (.and a b) σ H Q) : tAnd (tT B cf a) (tT B cf b) σ H Q := by
  obtain ⟨W, env, b', s, env', rfl, r, e, hd, q⟩ := h
  unfold evE at e
  obtain ⟨t, e1, h1, h2⟩ := bind_ok e
  split at h2
  · exact ⟨W, env, true, _, e1, rfl, r, h1, rfl, fun W1 s1 r1 => ⟨W1, e1, b', s, env', rfl, r1, h2, hd, fun W2 s2 r2 => q W2 (s1.trans s2) r2⟩⟩
  · cases h2; cases hd
    exact ⟨W, env, false, _, _, rfl, r, h1, rfl, fun W1 s1 r1 => q W1 s1 r1⟩
  · cases h2
theorem orT_sem {a b : CE} {Q : Bool → L2.Hp → Prop} (h : tT B cf (.or a b) σ H Q) : tOr (tT B cf a) (tT B cf b) σ H Q := by
  obtain ⟨W, env, b', s, env', rfl, r, e, hd, q⟩ := h
  unfold evE at e
  obtain ⟨t, e1, h1, h2⟩ := bind_ok e
  split at h2
  · cases h2; cases hd
    exact ⟨W, env, true, _, _, rfl, r, h1, rfl, fun W1 s1 r1 => q W1 s1 r1⟩
  · exact ⟨W, env, false, _, e1, rfl, r, h1, rfl, fun W1 s1 r1 => ⟨W1, e1, b', s, env', rfl, r1, h2, hd, fun W2 s2 r2 => q W2 (s1.trans s2) r2⟩⟩
  · cases h2
theorem ite_sem {c a b : CE} (h : tE B cf (.ite c a b) σ H Q) : tIf (tT B cf c) (tE B cf a) (tE B cf b) σ H Q := by
  obtain ⟨W, env, s, env', rfl, r, e, q⟩ := h
  unfold evE at e
  obtain ⟨t, e1, h1, h2⟩ := bind_ok e
  split at h2
  · exact ⟨W, env, true, _, e1, rfl, r, h1, rfl, fun W1 s1 r1 => ⟨W1, e1, s, env', rfl, r1, h2, fun v W2 s2 r2 rv => q v W2 (s1.trans s2) r2 (rv.since s1)⟩⟩
  · exact ⟨W, env, false, _, e1, rfl, r, h1, rfl, fun W1 s1 r1 => ⟨W1, e1, s, env', rfl, r1, h2, fun v W2 s2 r2 rv => q v W2 (s1.trans s2) r2 (rv.since s1)⟩⟩
  · cases h2
theorem iteT_sem {c a b : CE} {Q : Bool → L2.Hp → Prop} (h : tT B cf (.ite c a b) σ H Q) : (fun σ H Q => tT B cf c σ H fun k H1 => if k = true then tT B cf a σ H1 Q else tT B cf b σ H1 Q : TT) σ H Q := by
  obtain ⟨W, env, b', s, env', rfl, r, e, hd, q⟩ := h
  unfold evE at e
  obtain ⟨t, e1, h1, h2⟩ := bind_ok e
  split at h2
  · exact ⟨W, env, true, _, e1, rfl, r, h1, rfl, fun W1 s1 r1 => ⟨W1, e1, b', s, env', rfl, r1, h2, hd, fun W2 s2 r2 => q W2 (s1.trans s2) r2⟩⟩
  · exact ⟨W, env, false, _, e1, rfl, r, h1, rfl, fun W1 s1 r1 => ⟨W1, e1, b', s, env', rfl, r1, h2, hd, fun W2 s2 r2 => q W2 (s1.trans s2) r2⟩⟩
  · cases h2
/-- not, the operand of any form -/
theorem not_sem {a : CA} (h : tE B cf (.pr .not (.cons a .nil)) σ H Q) : tNotV (tCA B cf a) σ H Q := by
  obtain ⟨W, env, s, env', rfl, r, e, q⟩ := h
  obtain ⟨vs, ds, h1, h3, h4⟩ := evE_pr e
  obtain ⟨v1, e1, vs1, h5, h6, rfl⟩ := evAs_cons h1
  obtain ⟨rfl, rfl⟩ := evAs_nil h6
  refine tCA_run r h5 fun x W1 s1 r1 ra => ?_
  unfold avDatas at h3
  cases hd : avData env' v1 with
  | none => rw [hd] at h3; cases h3
  | some d =>
    rw [hd] at h3
    cases h3
    have h4 : pNot [d] = some s := h4
    unfold pNot at h4
    split at h4 <;> cases h4
    rename_i b z; injection z with z1 _; subst z1
    cases (ra.data r1 hd).bool
    exact ⟨b, rfl, q _ W1 s1 r1 (RV.sh (.bl _))⟩
theorem notT_sem {c : CE} {Q : Bool → L2.Hp → Prop} (h : tT B cf (.pr .not (.cons (.e c) .nil)) σ H Q) : tNot (tT B cf c) σ H Q := by
  obtain ⟨W, env, b', s, env', rfl, r, e, hb, q⟩ := h
  obtain ⟨vs, ds, h1, h3, h4⟩ := evE_pr e
  obtain ⟨v1, e1, vs1, h5, h6, rfl⟩ := evAs_cons h1
  obtain ⟨rfl, rfl⟩ := evAs_nil h6
  unfold evA at h5
  obtain ⟨t, e2, h7, h8⟩ := bind_ok h5
  cases h8
  unfold avDatas at h3
  cases hd : avData env' (.made t) with
  | none => rw [hd] at h3; cases h3
  | some d =>
    rw [hd] at h3
    cases h3
    have h4 : pNot [d] = some s := h4
    unfold pNot at h4
    split at h4 <;> cases h4
    rename_i b z; injection z with z1 _; subst z1
    cases hb
    exact ⟨W, env, b, t, _, rfl, r, h7, hd, fun W1 s1 r1 => q W1 s1 r1⟩
theorem chain_sem {p q : Pr} {a b c : CE} (hp : ∀ ds s, evP p ds = some s → ∃ k : Bool, s = .sh (.bool k)) (h : tE B cf (.chain p q a b c) σ H Q) : tChain (rP2 B p) (rP2 B q) (tE B cf a) (tE B cf b) (tE B cf c) σ H Q := by
  obtain ⟨W, env, s, env', rfl, r, e, qq⟩ := h
  unfold evE at e
  obtain ⟨t, e1, h1, h2⟩ := bind_ok e
  obtain ⟨u, e2, h3, h4⟩ := bind_ok h2
  refine ⟨W, env, t, e1, rfl, r, h1, fun x W1 s1 r1 rx => ?_⟩
  refine ⟨W1, e1, u, e2, rfl, r1, h3, fun y W2 s2 r2 ry => ?_⟩
  split at h4
  · rename_i d1 d2 hd1 hd2
    have ax := RV.ra (rx.step r1 s2) hd1
    have ay := RV.ra ry hd2
    split at h4
    · rename_i hk
      obtain ⟨w, e3, h5, h6⟩ := bind_ok h4
      refine ⟨W2.N, [d1, d2], _, .cons ax (.cons ay .nil), hk, fun z H' g => ?_⟩
      obtain ⟨g1, g2, g3⟩ := grow_fin r2 g
      refine ⟨true, rv_bool g3, ?_⟩
      refine ⟨{ W2 with H := H' }, e2, w, e3, rfl, g2, h5, fun v W3 s3 r3 rw => ?_⟩
      split at h6
      · rename_i d3 hd3
        split at h6 <;> cases h6
        rename_i hq
        have st : Step W W3 := (s1.trans s2).trans (g1.trans s3)
        have ry3 : RV B W1 W3 y u := (ry.step r2 g1).step g2 s3
        refine ⟨W3.N, [d2, d3], s, .cons (RV.ra ry3 hd2) (.cons (RV.ra rw hd3) .nil), hq, fun v' H'' g' => ?_⟩
        obtain ⟨k1, k2, k3⟩ := grow_fin r3 g'
        exact qq v' { W3 with H := H'' } (st.trans k1) k2 (k3.since st)
      · cases h6
    · rename_i hk
      cases h4
      refine ⟨W2.N, [d1, d2], _, .cons ax (.cons ay .nil), hk, fun z H' g => ?_⟩
      obtain ⟨g1, g2, g3⟩ := grow_fin r2 g
      exact ⟨false, rv_bool g3, qq _ { W2 with H := H' } ((s1.trans s2).trans g1) g2 (RV.sh (.bl false))⟩
    · cases h4
  · cases h4
theorem tests_nil {Q : Bool → L2.Hp → Prop} (h : tTs B cf .nil σ H Q) : tYes σ H Q := by
  obtain ⟨W, env, b, env', rfl, r, e, q⟩ := h
  unfold evT at e
  cases e
  exact q W (Step.refl W) r
theorem tests_one {c : CE} {Q : Bool → L2.Hp → Prop} (h : tTs B cf (.cons c .nil) σ H Q) : tT B cf c σ H Q := by
  obtain ⟨W, env, b, env', rfl, r, e, q⟩ := h
  unfold evT at e
  obtain ⟨t, e1, h1, h2⟩ := bind_ok e
  split at h2
  · unfold evT at h2; cases h2
    exact ⟨W, env, true, _, _, rfl, r, h1, rfl, q⟩
  · cases h2
    exact ⟨W, env, false, _, _, rfl, r, h1, rfl, q⟩
  · cases h2

/-! ### in place -/
theorem RE.owAt {i : Nat} {d : PyData} (r : RE B W σ env) (hi : gt env i = .ow d) : ∃ a, σ[i]? = some (some (.ref a)) ∧ W.ow a = some i ∧ RT B W.N W.H a d := by
  have hn : gt env i ≠ .no := by rw [hi]; exact fun z => nomatch z
  obtain ⟨v, h1, h2⟩ := r.slot i _ (gt_some hn) hn
  rw [hi] at h2
  obtain ⟨a, rfl, h3, h4⟩ := h2
  exact ⟨a, h1, h3, h4⟩
/-- an owned object is changed -/
theorem RE.mutate {i : Nat} {a : Addr} {d d' : PyData} {o : HO} (r : RE B W σ env) (hi : gt env i = .ow d) (hs : σ[i]? = some (some (.ref a))) (ho : W.ow a = some i) (t : RT B W.N (upd W.H a o) a d') :
    RE B { W with H := upd W.H a o } σ (env.set i (.ow d')) ∧ Step W { W with H := upd W.H a o } := by
  have hn : ¬ W.N a := r.apart a i ho
  have hOwn := r.oin a i ho
  have ext : Ext W.N W.H W.N (upd W.H a o) := Ext.upd hn hOwn
  have hiE : i < env.length := gt_lt (by rw [hi]; exact fun z => nomatch z)
  have nf : NoFix (W.H a) := by
    obtain ⟨a', j1, j2, j3⟩ := r.owAt hi
    rw [hs] at j1; cases j1
    exact j3.noFix
  refine ⟨⟨by rw [List.length_set]; exact r.len, fun j s e n => ?_, r.apart, fun b q => ?_, fun b j q => ?_, fun P q k => (r.tb P q k).upd nf⟩, ⟨fun _ h => h, fun b ob e n => ?_, fun b e => ?_, fun _ _ n => n, fun _ _ _ q => q, fun P q tw => tw.upd nf⟩⟩
  · by_cases h : i = j
    · subst h
      rw [List.getElem?_set_self hiE] at e
      cases e
      exact ⟨.ref a, hs, a, rfl, ho, t⟩
    · rw [List.getElem?_set_ne h] at e
      obtain ⟨v, h1, h2⟩ := r.slot j s e n
      refine ⟨v, h1, RSl.ext ext (fun b ob q z => ⟨?_, q⟩) h2⟩
      have : b ≠ a := fun z => by subst z; have q' : W.ow b = some j := q; rw [ho] at q'; exact h (Option.some.inj q')
      show upd W.H a o b = some ob
      rw [upd_ne this]; exact z
  · show upd W.H a o b ≠ none
    by_cases z : b = a
    · subst z; exact absurd q hn
    · rw [upd_ne z]; exact r.nin b q
  · show Own (upd W.H a o b)
    by_cases z : b = a
    · subst z; obtain ⟨ob, hob, own⟩ := t.there; rw [hob]; exact own
    · rw [upd_ne z]; exact r.oin b j q
  · show upd W.H a o b = some ob
    have : b ≠ a := fun z => by subst z; rw [ho] at n; cases n
    rw [upd_ne this]; exact e
  · show upd W.H a o b ≠ none
    by_cases z : b = a
    · subst z; rw [upd_same]; simp
    · rw [upd_ne z]; exact e
theorem muAt_list {m : Mu} (hm : m = .append ∨ m = .extend ∨ m = .popLast ∨ m = .insert) (h : muAt m s = true) : ∃ xs, s = .ow (.list xs) := by
  cases s with
  | ow d =>
    cases d with
    | list xs => exact ⟨xs, rfl⟩
    | _ => rcases hm with rfl | rfl | rfl | rfl <;> cases h
  | _ => rcases hm with rfl | rfl | rfl | rfl <;> cases h
theorem evE_mu {i : Nat} {m : Mu} {as : CAs} (h : evE cf (.mu i m as) env = .ok s env') : muAt m (gt env i) = true ∧ ∃ vs e1 d ds d' r, evAs cf as env = .ok vs e1 ∧ muOk m vs = true ∧ gt e1 i = .ow d ∧ avDatas e1 vs = some ds ∧ evM m d ds = some (d', r) ∧ s = .sh r ∧ env' = e1.set i (.ow d') := by
  unfold evE at h
  split at h
  · rename_i hm
    obtain ⟨vs, e1, h1, h2⟩ := bind_ok h
    split at h2
    · rename_i ho
      split at h2
      · rename_i d ds hd hds
        split at h2 <;> cases h2
        rename_i d' r hr
        exact ⟨hm, vs, e1, d, ds, d', r, h1, ho, hd, hds, hr, rfl, rfl⟩
      · cases h2
    · cases h2
  · cases h

theorem Aprt.tail {x : V} {a : AV} {xs : List V} {as : List AV} (h : Aprt (x :: xs) (a :: as)) : Aprt xs as := fun i j d d' y hij hi hj hx hy => h (i + 1) (j + 1) d d' y (by omega) (by simpa using hi) (by simpa using hj) (by simpa using hx) (by simpa using hy)
/-- a made value where another one has been given up -/
theorem RV.given {W3 : Wd} (h : RV B W0 W v s) (ex : Ext W.N W.H W3.N W3.H) (hH : W3.H = W.H) (ho : ∀ b, W3.ow b = W.ow b) (hN : ∀ b, (∃ d, s = .ow d) → v = .ref b → W3.N b → W.N b) : RV B W0 W3 v s := by
  refine ⟨h.1, ?_⟩
  have h2 := h.2
  cases s with
  | no => trivial
  | sh d => exact Rp.ext ex h2
  | ob _ _ => exact h2
  | fn _ => exact h2
  | ow d =>
    obtain ⟨a, rfl, ⟨q1, q2, q3, q4⟩, t⟩ := h2
    exact ⟨a, rfl, ⟨q1, by rw [ho]; exact q2, fun z => q3 (hN a ⟨d, rfl⟩ rfl z), by rw [hH]; exact q4⟩, t.ext ex fun o q => by rw [hH]; exact q⟩
theorem share_all : ∀ {xs : List V} {as : List AV} {ds : List PyData} {W : Wd}, RE B W σ env → Step W0 W → RAVs B W0 W σ xs as → Aprt xs as → allMade as = true → avDatas env as = some ds →
    ∃ W', W'.H = W.H ∧ Step W0 W' ∧ RE B W' σ env ∧ RpA B W'.N W'.H xs ds ∧ (∀ b, W'.ow b = W.ow b) ∧ Ext W.N W.H W'.N W'.H ∧ (∀ b, W'.N b → W.N b ∨ W0.H b = none)
  | _, _, _, W, r, st, .nil, _, _, e => by cases e; exact ⟨W, rfl, st, r, .nil, fun _ => rfl, Ext.refl _ _, fun _ z => .inl z⟩
  | _, _, _, W, r, st, .cons (x := x) (a := a) (xs := xs) (as := as) h t, ap, ha, e => by
    cases a with
    | made s =>
      unfold avDatas at e
      cases hd : dataOf s with
      | none => rw [show avData env (.made s) = none from hd] at e; cases e
      | some d =>
        rw [show avData env (.made s) = some d from hd, Option.bind_some, Option.map_eq_some_iff] at e
        obtain ⟨ds, he, rfl⟩ := e
        have h' : RV B W0 W x s := h
        -- give the first
        have key : ∃ W1, W1.H = W.H ∧ Step W0 W1 ∧ RE B W1 σ env ∧ Rp B W1.N W1.H x d ∧ Ext W.N W.H W1.N W1.H ∧ (∀ b, W1.ow b = W.ow b) ∧ (∀ b, W1.N b → W.N b ∨ ((∃ d, s = .ow d) ∧ x = .ref b ∧ W0.H b = none)) := by
          cases s with
          | no => cases hd
          | ob _ _ => cases hd
          | fn _ => cases hd
          | sh d' => cases hd; exact ⟨W, rfl, st, r, h'.rp, Ext.refl _ _, fun _ => rfl, fun _ z => .inl z⟩
          | ow d' =>
            cases hd
            obtain ⟨_, a, rfl, ⟨h0, h1, h2, h3⟩, tt⟩ := h'
            obtain ⟨W', q1, q2, q3, q4, q5, q6, q7⟩ := r.share st (sl := .ow d) (v := .ref a) ⟨(fun e => nomatch e), a, rfl, ⟨h0, h1, h2, h3⟩, tt⟩ rfl
            refine ⟨W.give a, rfl, Wd.give_since st h0 tt.noTab, ?_, .mu (.inr rfl) (tt.ext (Ext.give a) fun _ q => q), Ext.give a, fun b => ?_, fun b z => ?_⟩
            · refine ⟨r.len, (fun j sl hj hn => r.gave h3 h1 j sl hj hn (fun z => nomatch z)), fun b j hb => ?_, fun b hb => ?_, fun b j hb => r.oin b j (Wd.give_ow hb).2, fun P q k => (r.tb P q k).give tt.noTab⟩
              · obtain ⟨ne, q⟩ := Wd.give_ow hb
                rintro (z | z)
                · exact r.apart b j q z
                · exact ne z
              · rcases hb with hb | rfl
                · exact r.nin b hb
                · exact h3
            · show (if b = a then none else W.ow b) = W.ow b
              by_cases e : b = a
              · subst e; rw [if_pos rfl, h1]
              · rw [if_neg e]
            · rcases z with z | rfl
              · exact .inl z
              · exact .inr ⟨⟨_, rfl⟩, rfl, h0⟩
        obtain ⟨W1, k1, k2, k3, k4, k5, k6, k7⟩ := key
        have rest : RAVs B W0 W1 σ xs as := by
          have : ∀ {xs : List V} {as : List AV} (n : Nat), RAVs B W0 W σ xs as → (∀ (j : Nat) (d' : PyData) (y : V), as[j]? = some (AV.made (.ow d')) → xs[j]? = some y → (∃ d, s = .ow d) → x = y → False) → RAVs B W0 W1 σ xs as := by
            intro xs as n h
            induction h with
            | nil => intro _; exact .nil
            | cons h t ih =>
              intro hq
              refine .cons ?_ (ih fun j d' y h1 h2 => hq (j + 1) d' y (by simpa using h1) (by simpa using h2))
              rename_i y b ys bs
              cases b with
              | made s' =>
                exact RV.given (show RV B W0 W y s' from h) k5 k1 k6 fun b ⟨d', es⟩ ey z => by
                  rcases k7 b z with z | ⟨z1, z2, _⟩
                  · exact z
                  · exact (hq 0 d' y (by rw [es]; rfl) rfl z1 (by rw [z2, ey])).elim
              | bo i => exact h
              | rf i => exact h
              | bf i f => exact h
          refine this 0 t fun j d' y h1 h2 ⟨d0, es⟩ ex => ?_
          subst es ex
          exact ap 0 (j + 1) d0 d' x (by omega) rfl (by simpa using h1) rfl (by simpa using h2)
        obtain ⟨W2, m1, m2, m3, m4, m5, m6, m7⟩ := share_all k3 k2 rest ap.tail (by simpa [allMade] using ha) he
        exact ⟨W2, m1.trans k1, m2, m3, .cons (k4.ext m6) m4, fun b => (m5 b).trans (k6 b), ⟨fun a h => m6.n a (k5.n a h), fun a o h q => m6.k a o (k5.n a h) (k5.k a o h q), fun a xs q => m6.t a xs (k5.t a xs q), fun a o u q => m6.f a o u (k5.f a o u q)⟩, fun b z => by
          rcases m7 b z with z | z
          · rcases k7 b z with z | ⟨_, _, z⟩
            · exact .inl z
            · exact .inr z
          · exact .inr z⟩
    | bo i => simp [allMade] at ha
    | rf i => simp [allMade] at ha
    | bf i f => simp [allMade] at ha

/-- what a method that puts things into a list does, by data -/
def rMp (B : Bs) (m : Mu) : V → List V → L2.Hp → VK → Prop := fun x xs H Q => ∃ (N : Addr → Prop) (a : Addr) (d : PyData) (ds : List PyData) (d' r : PyData), x = .ref a ∧ RT B N H a d ∧ ¬ N a ∧ RpA B N H xs ds ∧ evM m d ds = some (d', r) ∧
  ∀ o v, RT B N (upd H a o) a d' → Rp B N (upd H a o) v r → Q v (upd H a o)
def rMa (B : Bs) (m : Mu) : V → List V → L2.Hp → VK → Prop := fun x xs H Q => ∃ (N : Addr → Prop) (a : Addr) (d : PyData) (ds : List PyData) (d' r : PyData), x = .ref a ∧ RT B N H a d ∧ ¬ N a ∧ RAs B N H xs ds ∧ evM m d ds = some (d', r) ∧
  ∀ o v, RT B N (upd H a o) a d' → Rp B N (upd H a o) v r → Q v (upd H a o)
/-- the end of a change in place -/
theorem mu_fin {i : Nat} {a : Addr} {d d' r : PyData} {o : HO} (st : Step W W1) (re : RE B W1 σ env1) (hi : gt env1 i = .ow d) (hs : σ[i]? = some (some (.ref a))) (ho : W1.ow a = some i) (t : RT B W1.N (upd W1.H a o) a d') (rr : Rp B W1.N (upd W1.H a o) v r)
    (q : ∀ v W', Step W W' → RE B W' σ (env1.set i (.ow d')) → RV B W W' v (.sh r) → Q v W'.H) : Q v (upd W1.H a o) := by
  obtain ⟨h1, h2⟩ := re.mutate hi hs ho t
  exact q v { W1 with H := upd W1.H a o } (st.trans h2) h1 (RV.sh rr)
theorem tyV_list {a : Addr} {xs : List PyData} {N : Addr → Prop} (t : RT B N H a (.list xs)) : tyV B.K "list" (.ref a) H := by
  cases t with
  | lst h _ => exact .inl ⟨rfl, _, .inl (.inl h)⟩
theorem mup_sem {i : Nat} {m : Mu} {as : CAs} (hm : m = .append ∨ m = .popLast ∨ m = .insert) (h : tE B cf (.mu i m as) σ H Q) : tBM B.K "list" (rMp B m) (tVar i) (tAs B cf as) σ H Q := by
  obtain ⟨W, env, s, env', rfl, r, e, q⟩ := h
  obtain ⟨hat, vs, e1, d, ds, d', rr, h1, hok, hd, hds, hev, rfl, rfl⟩ := evE_mu e
  obtain ⟨xs, hx⟩ := muAt_list (by rcases hm with z | z | z; exact .inl z; exact .inr (.inr (.inl z)); exact .inr (.inr (.inr z))) hat
  obtain ⟨a, g1, g2, g3⟩ := r.owAt hx
  refine ⟨.ref a, g1, tyV_list g3, tAs_run r h1 fun ys W1 s1 r1 rs ap => ?_⟩
  have ham : allMade vs = true := by rcases hm with rfl | rfl | rfl <;> exact hok
  obtain ⟨W2, k1, k2, k3, k4, k5, k6, k7⟩ := share_all r1 s1 rs ap ham hds
  obtain ⟨a', j1, j2, j3⟩ := k3.owAt hd
  rw [g1] at j1
  cases j1
  rw [← k1]
  exact ⟨W2.N, a, d, ds, d', rr, rfl, j3, k3.apart a i j2, k4, hev, fun o v t rp => mu_fin k2 k3 hd g1 j2 t rp q⟩
theorem mua_sem {i : Nat} {m : Mu} {as : CAs} (hm : m = .extend) (h : tE B cf (.mu i m as) σ H Q) : tBM B.K "list" (rMa B m) (tVar i) (tAs B cf as) σ H Q := by
  obtain ⟨W, env, s, env', rfl, r, e, q⟩ := h
  obtain ⟨hat, vs, e1, d, ds, d', rr, h1, hok, hd, hds, hev, rfl, rfl⟩ := evE_mu e
  obtain ⟨xs, hx⟩ := muAt_list (.inr (.inl hm)) hat
  obtain ⟨a, g1, g2, g3⟩ := r.owAt hx
  refine ⟨.ref a, g1, tyV_list g3, tAs_run r h1 fun ys W1 s1 r1 rs ap => ?_⟩
  obtain ⟨a', j1, j2, j3⟩ := r1.owAt hd
  rw [g1] at j1
  cases j1
  exact ⟨W1.N, a, d, ds, d', rr, rfl, j3, r1.apart a i j2, rs.datas r1 hds, hev, fun o v t rp => mu_fin s1 r1 hd g1 j2 t rp q⟩
end
section
variable {X : Cx}
theorem RpA.one {B : Bs} {N : Addr → Prop} {H : L2.Hp} {vs : List V} {d : PyData} (h : RpA B N H vs [d]) : ∃ v, vs = [v] ∧ Rp B N H v d := by
  cases h with | cons a t => cases t; exact ⟨_, rfl, a⟩
theorem p_append : MtR X "list.append" (rMp (bsOf X) .append) := by
  intro pins s σ H x xs v us Q I rx rv h
  obtain ⟨N, a, d, ds, d', r, rfl, t, hn, ra, e, q⟩ := h
  change mAppend d ds = some (d', r) at e
  unfold mAppend at e
  split at e <;> try cases e
  split at e <;> cases e
  rename_i zs y hz
  rw [lineN_eq] at hz
  obtain ⟨w, rfl, rw⟩ := ra.one
  cases t with
  | lst hp rl =>
    rename_i vs
    have own : Own (H a) := by rw [hp]; trivial
    refine mt_append pins s σ H _ _ v us Q I rx rv ⟨a, vs, w, rfl, rfl, hp, by rw [rl.length]; exact hz, ?_⟩
    exact q _ _ (.lst upd_same ((rl.append (.cons rw .nil)).ext (Ext.upd hn own))) .non
theorem RpA.two {B : Bs} {N : Addr → Prop} {H : L2.Hp} {vs : List V} {d e : PyData} (h : RpA B N H vs [d, e]) : ∃ v w, vs = [v, w] ∧ Rp B N H v d ∧ Rp B N H w e := by
  cases h with | cons a t => cases t with | cons b t => cases t; exact ⟨_, _, rfl, a, b⟩
theorem p_insert : MtR X "list.insert" (rMp (bsOf X) .insert) := by
  intro pins s σ H x xs v us Q I rx rv h
  obtain ⟨N, a, d, ds, d', r, rfl, t, hn, ra, e, q⟩ := h
  change mInsert d ds = some (d', r) at e
  unfold mInsert at e
  split at e <;> try cases e
  split at e <;> cases e
  rename_i zs i y hz
  rw [lineN_eq] at hz
  obtain ⟨w1, w, rfl, rw1, rw⟩ := ra.two
  cases Rp.ra rw1 |>.int
  cases t with
  | lst hp rl =>
    rename_i vs
    have own : Own (H a) := by rw [hp]; trivial
    refine mt_insert pins s σ H _ _ v us Q I rx rv ⟨a, vs, i, w, rfl, rfl, hp, by rw [rl.length]; exact hz.1, hz.2.1, by omega, ?_⟩
    exact q _ _ (.lst upd_same ((((rl.take _).append (.cons rw .nil)).append (rl.drop _)).ext (Ext.upd hn own))) .non
theorem p_popLast : MtR X "list.pop" (rMp (bsOf X) .popLast) := by
  intro pins s σ H x xs v us Q I rx rv h
  obtain ⟨N, a, d, ds, d', r, rfl, t, hn, ra, e, q⟩ := h
  change mPopLast d ds = some (d', r) at e
  unfold mPopLast at e
  split at e
  · rename_i zs
    cases hg : zs.getLast? with
    | none => rw [hg] at e; cases e
    | some y =>
      rw [hg] at e
      cases e
      cases ra
      cases t with
      | lst hp rl =>
        rename_i vs
        have own : Own (H a) := by rw [hp]; trivial
        have hg' : zs[zs.length - 1]? = some r := by rw [← List.getLast?_eq_getElem?]; exact hg
        obtain ⟨w, h1, h2⟩ := rl.get hg'
        refine mt_pop pins s σ H _ _ v us Q I rx rv ⟨a, vs, w, rfl, rfl, hp, by rw [rl.length]; exact h1, ?_⟩
        exact q _ _ (.lst upd_same (rl.dropLast.ext (Ext.upd hn own))) (h2.ext (Ext.upd hn own))
  · cases e
theorem p_extend : MtR X "list.extend" (rMa (bsOf X) .extend) := by
  intro pins s σ H x xs v us Q I rx rv h
  obtain ⟨N, a, d, ds, d', r, rfl, t, hn, ra, e, q⟩ := h
  change mExtend d ds = some (d', r) at e
  unfold mExtend at e
  split at e <;> try cases e
  split at e <;> cases e
  rename_i zs ys hz
  rw [lineN_eq] at hz
  obtain ⟨w, rfl, rw'⟩ := ra.one
  obtain ⟨b, ws, rfl, hb, rl2⟩ := rw'.list
  cases t with
  | lst hp rl =>
    rename_i vs
    have own : Own (H a) := by rw [hp]; trivial
    cases rx
    obtain ⟨u, rfl, ru⟩ := rv.one
    cases ru
    obtain ⟨z, its, n, r, hl, e⟩ := I.lstM hp
    obtain ⟨z2, its2, n2, r2, e2⟩ := hb.ok I.hok
    have hl2 := r2.length
    have l1 := rl.length; have l2 := rl2.length
    have hsz : its.toArray.size + its2.toArray.size ≤ sizeLine := by rw [List.size_toArray, List.size_toArray]; omega
    have hlong : ¬ (!its.toArray.isEmpty && Builtin.List.listTooLong (its.toArray.size + its2.toArray.size)) = true := by
      rw [notLongL hsz, Bool.and_false]
      exact Bool.false_ne_true
    refine call_meets F.slot_list_extend ⟨_, e, rfl⟩ F.entry_list_extend (F.args_list_extend_2 _ _)
      (AutoSeq1.list_extend_list_list_0 a its.toArray n b its2.toArray n2 hlong (by rw [List.size_toArray]; omega) (by omega)) ⟨e, e2, ?_⟩
    refine ⟨.non, _, I.lset (its' := its ++ its2) hp e (by simp) (r.append r2) ?_, rfl, q _ _ (.lst upd_same ((rl.append rl2).ext (Ext.upd hn own))) .non⟩
    rw [List.length_append]
    omega
end
end C
end
section
set_option Elab.async false
set_option linter.all false
set_option maxRecDepth 100000
set_option maxHeartbeats 1000000
/-! Statements. -/
namespace C
open PySem PySem.Spec L2
variable [Lams]

mutual
/-- slot i may be stored to -/
def asS (i : Nat) : CS → Bool
  | .asg _ j _ => i == j
  | .unp p _ => (slotsP p).contains i
  | .par ks _ => ks.any fun q => q.2 == i
  | .aug j _ _ => i == j
  | .iff _ a b => asB i a || asB i b
  | .wh _ b => asB i b
  | .fr p _ b => (slotsP p).contains i || asB i b
  | _ => false
def asB (i : Nat) : CSs → Bool
  | .nil => false
  | .cons s r => asS i s || asB i r
end
/-- what is wanted where a statement ends so -/
def EndR (B : Bs) (D : Ends) (W : Wd) (σ : L2.St) (as : Nat → Bool) : SR → Prop
  | .nx env => ∀ σ' W', Step W W' → RE B W' σ' env → σ'.length = σ.length → (∀ i, as i = false → σ'[i]? = σ[i]?) → D.nx σ' W'.H
  | .ct env => ∀ σ' W', Step W W' → RE B W' σ' env → σ'.length = σ.length → (∀ i, as i = false → σ'[i]? = σ[i]?) → D.ct σ' W'.H
  | .rt s env => ∀ v σ' W', Step W W' → RE B W' σ' env → σ'.length = σ.length → (∀ i, as i = false → σ'[i]? = σ[i]?) → RV B W W' v s → D.rt v W'.H
  | _ => False
def tS (B : Bs) (cf : Nat → List Sl → CR) (wf : Nat) (st : CS) : TS := fun D σ H => ∃ (W : Wd) (env : C.Env), W.H = H ∧ RE B W σ env ∧ EndR B D W σ (fun i => asS i st) (exS cf wf st env)
def tSs (B : Bs) (cf : Nat → List Sl → CR) (wf : Nat) (st : CSs) : TS := fun D σ H => ∃ (W : Wd) (env : C.Env), W.H = H ∧ RE B W σ env ∧ EndR B D W σ (fun i => asB i st) (exB cf wf st env)

section
variable {B : Bs} {cf : Nat → List Sl → CR} {wf : Nat} {W W0 W1 W' W'' : Wd} {σ σ0 σ' : L2.St} {env env1 env' : C.Env} {H : L2.Hp} {v x : V} {s : Sl} {D : Ends}
theorem EndR.since {as as' : Nat → Bool} {r : SR} (h : EndR B D W0 σ0 as r) (st : Step W0 W) (hl : σ.length = σ0.length) (hk : ∀ i, as i = false → σ[i]? = σ0[i]?) (ha : ∀ i, as i = false → as' i = false) : EndR B D W σ as' r := by
  cases r with
  | nx env => exact fun σ' W' s r l k => h σ' W' (st.trans s) r (l.trans hl) fun i hi => (k i (ha i hi)).trans (hk i hi)
  | ct env => exact fun σ' W' s r l k => h σ' W' (st.trans s) r (l.trans hl) fun i hi => (k i (ha i hi)).trans (hk i hi)
  | rt s env => exact fun v σ' W' s r l k rv => h v σ' W' (st.trans s) r (l.trans hl) (fun i hi => (k i (ha i hi)).trans (hk i hi)) (rv.since st)
  | ex _ _ => exact h
  | bad => exact h
theorem ss_nil (h : tSs B cf wf .nil D σ H) : tNext D σ H := by
  obtain ⟨W, env, rfl, r, e⟩ := h
  exact e σ W (Step.refl W) r rfl fun _ _ => rfl
theorem ss_cons {st : CS} {rest : CSs} (h : tSs B cf wf (.cons st rest) D σ H) : tSeq (tS B cf wf st) (tSs B cf wf rest) D σ H := by
  obtain ⟨W, env, rfl, r, e⟩ := h
  refine ⟨W, env, rfl, r, ?_⟩
  unfold exB at e
  cases h1 : exS cf wf st env with
  | nx env1 =>
    rw [h1] at e
    refine fun σ' W' s1 r1 l1 k1 => ⟨W', env1, rfl, r1, e.since s1 l1 (fun i hi => k1 i ?_) fun i hi => ?_⟩
    · simp only [asB, Bool.or_eq_false_iff] at hi; exact hi.1
    · simp only [asB, Bool.or_eq_false_iff] at hi; exact hi.2
  | ct env1 =>
    rw [h1] at e
    exact fun σ' W' s1 r1 l1 k1 => e σ' W' s1 r1 l1 fun i hi => k1 i (by simp only [asB, Bool.or_eq_false_iff] at hi; exact hi.1)
  | rt s env1 =>
    rw [h1] at e
    exact fun v σ' W' s1 r1 l1 k1 => e v σ' W' s1 r1 l1 fun i hi => k1 i (by simp only [asB, Bool.or_eq_false_iff] at hi; exact hi.1)
  | ex _ _ => rw [h1] at e; exact e.elim
  | bad => rw [h1] at e; exact e.elim

/-! ### name = e -/
theorem asg_fin {keep : Bool} {i : Nat} {as : Nat → Bool} {env2 : C.Env} (st : Step W W1) (r1 : RE B W1 σ env1) (rv : RV B W W1 v s) (ha : asgS env1 keep i s = some env2) (hi : i < σ.length) (has : as i = true)
    (h : EndR B D W σ as (.nx env2)) : D.nx (σ.set i (some v)) W1.H := by
  have hi' : i < env1.length := by rw [← r1.len]; exact hi
  have kp : ∀ j, as j = false → (σ.set i (some v))[j]? = σ[j]? := fun j hj => List.getElem?_set_ne fun z => by rw [z] at has; rw [has] at hj; cases hj
  have sh : ∀ d, dataOf s = some d → env2 = env1.set i (.sh d) → D.nx (σ.set i (some v)) W1.H := fun d hd he => by
    subst he
    obtain ⟨W2, h2, s2, r2, rp, _⟩ := r1.share st rv hd
    obtain ⟨W3, h3, s3, r3, _⟩ := r2.setSh rp hi'
    have := h (σ.set i (some v)) W3 (s2.trans s3) r3 (by rw [List.length_set]) kp
    rw [h3, h2] at this
    exact this
  cases s with
  | no => exact absurd rfl rv.1
  | ob c fs => exact rv.2.elim
  | fn n => cases ha
  | sh d =>
    unfold asgS at ha
    cases keep <;> (simp only [Bool.false_eq_true, if_false, if_true, frz] at ha; cases ha; exact sh d rfl rfl)
  | ow d =>
    unfold asgS at ha
    cases keep
    · simp only [Bool.false_eq_true, if_false, frz] at ha; cases ha
      exact sh d rfl rfl
    · simp only [if_true] at ha; cases ha
      obtain ⟨W3, h3, s3, r3, _⟩ := r1.setOw st rv hi'
      have := h (σ.set i (some v)) W3 s3 r3 (by rw [List.length_set]) kp
      rw [h3] at this
      exact this
theorem asg_sem {keep : Bool} {i : Nat} {e : CE} (hi : i < σ.length) (h : tS B cf wf (.asg keep i e) D σ H) : tAsg (tE B cf e) (gName i) D σ H := by
  obtain ⟨W, env, rfl, r, h⟩ := h
  unfold exS at h
  cases h1 : evE cf e env with
  | ok s env1 =>
    rw [h1] at h
    dsimp only at h
    cases h2 : asgS env1 keep i s with
    | none => rw [h2] at h; exact h.elim
    | some env2 =>
      rw [h2] at h
      exact ⟨W, env, s, env1, rfl, r, h1, fun v W1 s1 r1 rv => asg_fin s1 r1 rv h2 hi (by simp [asS]) h⟩
  | ex _ _ => rw [h1] at h; exact h.elim
  | bad => rw [h1] at h; exact h.elim
theorem unp_sem {p : Pat} {e : CE} (h : tS B cf wf (.unp p e) D σ H) : tAsg (tE B cf e) (tG B p) D σ H := by
  obtain ⟨W, env, rfl, r, h⟩ := h
  unfold exS at h
  cases h1 : evE cf e env with
  | ok s env1 =>
    rw [h1] at h
    dsimp only at h
    cases hd : dataOf s with
    | none => rw [hd] at h; exact h.elim
    | some d =>
      rw [hd, Option.bind_some] at h
      cases h2 : bindP p d env1 with
      | none => rw [h2] at h; exact h.elim
      | some env2 =>
        rw [h2] at h
        refine ⟨W, env, s, env1, rfl, r, h1, fun v W1 s1 r1 rv => ?_⟩
        obtain ⟨W2, hH, s2, r2, rp, _⟩ := r1.share s1 rv hd
        rw [← hH]
        exact ⟨W2, env1, d, env2, rfl, r2, rp, h2, fun σ' W' s3 r3 l3 k3 => h σ' W' (s2.trans s3) r3 l3 fun i hi => k3 i (by simpa [asS] using hi)⟩
  | ex _ _ => rw [h1] at h; exact h.elim
  | bad => rw [h1] at h; exact h.elim
theorem ex_sem {e : CE} (h : tS B cf wf (.ex e) D σ H) : tDrop (tE B cf e) D σ H := by
  obtain ⟨W, env, rfl, r, h⟩ := h
  unfold exS at h
  cases h1 : evE cf e env with
  | ok s env1 =>
    rw [h1] at h
    exact ⟨W, env, s, env1, rfl, r, h1, fun v W1 s1 r1 rv => h σ W1 s1 r1 rfl fun _ _ => rfl⟩
  | ex _ _ => rw [h1] at h; exact h.elim
  | bad => rw [h1] at h; exact h.elim
theorem ret_sem {e : CE} (h : tS B cf wf (.ret e) D σ H) : tRet (tE B cf e) D σ H := by
  obtain ⟨W, env, rfl, r, h⟩ := h
  unfold exS at h
  cases h1 : evE cf e env with
  | ok s env1 =>
    rw [h1] at h
    exact ⟨W, env, s, env1, rfl, r, h1, fun v W1 s1 r1 rv => h v σ W1 s1 r1 rfl (fun _ _ => rfl) rv⟩
  | ex _ _ => rw [h1] at h; exact h.elim
  | bad => rw [h1] at h; exact h.elim
theorem retN_sem (h : tS B cf wf .retN D σ H) : tRetN D σ H := by
  obtain ⟨W, env, rfl, r, h⟩ := h
  exact h .non σ W (Step.refl W) r rfl (fun _ _ => rfl) (RV.sh .non)
theorem pass_sem (h : tS B cf wf .pass D σ H) : tNext D σ H := by
  obtain ⟨W, env, rfl, r, h⟩ := h
  exact h σ W (Step.refl W) r rfl fun _ _ => rfl
theorem cont_sem (h : tS B cf wf .cont D σ H) : tCont D σ H := by
  obtain ⟨W, env, rfl, r, h⟩ := h
  exact h σ W (Step.refl W) r rfl fun _ _ => rfl
theorem never_sem (h : tS B cf wf .never D σ H) : tNever D σ H := by
  obtain ⟨W, env, rfl, r, h⟩ := h
  exact h
theorem raise_sem {c : Str} {es : CAs} (h : tS B cf wf (.raise c es) D σ H) : tNever D σ H := by
  obtain ⟨W, env, rfl, r, h⟩ := h
  unfold exS at h
  cases h1 : evAs cf es env with
  | ok vs env1 =>
    rw [h1] at h
    dsimp only at h
    cases h2 : avDatas env1 vs <;> (rw [h2] at h; exact h)
  | ex _ _ => rw [h1] at h; exact h
  | bad => rw [h1] at h; exact h
theorem iff_sem {c : CE} {a b : CSs} (h : tS B cf wf (.iff c a b) D σ H) : tIfS (tT B cf c) (tSs B cf wf a) (tSs B cf wf b) D σ H := by
  obtain ⟨W, env, rfl, r, h⟩ := h
  unfold exS at h
  cases h1 : evE cf c env with
  | ok s env1 =>
    rw [h1] at h
    split at h
    · rename_i z
      cases z
      exact ⟨W, env, true, _, env1, rfl, r, h1, rfl, fun W1 s1 r1 => ⟨W1, env1, rfl, r1, h.since s1 rfl (fun _ _ => rfl) fun i hi => by simp only [asS, Bool.or_eq_false_iff] at hi; exact hi.1⟩⟩
    · rename_i z
      cases z
      exact ⟨W, env, false, _, env1, rfl, r, h1, rfl, fun W1 s1 r1 => ⟨W1, env1, rfl, r1, h.since s1 rfl (fun _ _ => rfl) fun i hi => by simp only [asS, Bool.or_eq_false_iff] at hi; exact hi.2⟩⟩
    · exact h.elim
    · exact h.elim
  | ex _ _ => rw [h1] at h; exact h.elim
  | bad => rw [h1] at h; exact h.elim
/-! ### while -/
theorem wh_sem {c : CE} {b : CSs} (h : tS B cf wf (.wh c b) D σ H) : tWhile (tT B cf c) (tSs B cf wf b) D σ H := by
  obtain ⟨W, env, rfl, r, h⟩ := h
  unfold exS at h
  refine ⟨fun n σ' H' => ∃ W' env', W'.H = H' ∧ RE B W' σ' env' ∧ EndR B D W' σ' (fun i => asB i b) (loopW (fun e => evE cf c e) (fun e => exB cf wf b e) n env'), ⟨wf, W, env, rfl, r, h⟩, ?_⟩
  rintro m σ1 H1 ⟨W1, env1, rfl, r1, h⟩
  cases m with
  | zero => exact h.elim
  | succ m =>
    unfold loopW at h
    cases h1 : evE cf c env1 with
    | ok s env2 =>
      rw [h1] at h
      split at h
      · rename_i z
        cases z
        refine ⟨W1, env1, true, _, env2, rfl, r1, h1, rfl, fun W2 s2 r2 => ?_⟩
        simp only [if_true]
        refine ⟨fun σ' H' => ∃ W' env', W'.H = H' ∧ RE B W' σ' env' ∧ EndR B D W' σ' (fun i => asB i b) (loopW (fun e => evE cf c e) (fun e => exB cf wf b e) m env'), fun σ' H' w => ⟨m, Nat.lt_succ_self m, w⟩, W2, env2, rfl, r2, ?_⟩
        cases h2 : exB cf wf b env2 with
        | nx env3 =>
          rw [h2] at h
          exact fun σ' W' s3 r3 l3 k3 => ⟨W', env3, rfl, r3, h.since (s2.trans s3) l3 k3 fun i hi => hi⟩
        | ct env3 =>
          rw [h2] at h
          exact fun σ' W' s3 r3 l3 k3 => ⟨W', env3, rfl, r3, h.since (s2.trans s3) l3 k3 fun i hi => hi⟩
        | rt s env3 =>
          rw [h2] at h
          exact fun v σ' W' s3 r3 l3 k3 rv => h v σ' W' (s2.trans s3) r3 l3 k3 (rv.since s2)
        | ex _ _ => rw [h2] at h; exact h.elim
        | bad => rw [h2] at h; exact h.elim
      · rename_i z
        cases z
        refine ⟨W1, env1, false, _, env2, rfl, r1, h1, rfl, fun W2 s2 r2 => ?_⟩
        simp only [Bool.false_eq_true, if_false]
        exact h σ1 W2 s2 r2 rfl fun _ _ => rfl
      · exact h.elim
      · exact h.elim
    | ex _ _ => rw [h1] at h; exact h.elim
    | bad => rw [h1] at h; exact h.elim
/-! ### for -/
theorem fr_sem {p : Pat} {it : CI} {b : CSs} (hb : ∀ i ∈ bosI it, stB i b = true ∧ asB i b = false ∧ i ∉ slotsP p) (h : tS B cf wf (.fr p it b) D σ H) : tFor (tI B cf it) (tG B p) (tSs B cf wf b) D σ H := by
  obtain ⟨W, env, rfl, r, h⟩ := h
  unfold exS at h
  cases h1 : evI cf it env with
  | ok xs env1 =>
    rw [h1] at h
    refine ⟨W, env, xs, env1, rfl, r, h1, fun J W1 s1 r1 wk hlen => ?_⟩
    let body : PyData → C.Env → SR := fun x e => match bindP p x e with
      | some e1 => exB cf wf b e1
      | none => .bad
    have h : EndR B D W σ (fun i => asS i (.fr p it b)) (loopF body xs env1) := h
    let P : Nat → L2.St → L2.Hp → Prop := fun i σ' H' => i ≤ xs.length ∧ ∃ W' env', W'.H = H' ∧ RE B W' σ' env' ∧ Cs W1 σ env1 (bosI it) W' σ' env' ∧ EndR B D W' σ' (fun i => asS i (.fr p it b)) (loopF body (xs.drop i) env')
    refine ⟨fun i m σ' H' => m = xs.length - i ∧ P i σ' H', ⟨xs.length, by simp, Nat.zero_le _, W1, env1, rfl, r1, ⟨Step.refl _, fun _ _ => ⟨rfl, Kp.refl _ _⟩⟩, ?_⟩, ?_⟩
    · exact h.since s1 rfl (fun _ _ => rfl) fun i hi => hi
    rintro i m σ2 H2 ⟨rfl, hi, W2, env2, rfl, r2, cs, h2⟩
    by_cases hlt : i < xs.length
    · refine .inr ⟨wk.go W2 σ2 env2 i cs r2 hlt, P (i + 1), fun σ' H' p' => ⟨xs.length - (i + 1), by omega, rfl, p'⟩, fun x H' hy => ?_⟩
      obtain ⟨d, hd, same, rx⟩ := wk.yld W2 σ2 env2 i x H' cs r2 hy hlt
      rw [drop_at hd] at h2
      unfold loopF at h2
      cases h3 : bindP p d env2 with
      | none =>
        have e1 : body d env2 = .bad := by show (match bindP p d env2 with | some e1 => exB cf wf b e1 | none => .bad) = _; rw [h3]
        rw [e1] at h2
        exact h2.elim
      | some env3 =>
        have e1 : body d env2 = exB cf wf b env3 := by show (match bindP p d env2 with | some e1 => exB cf wf b e1 | none => .bad) = _; rw [h3]
        rw [e1] at h2
        refine ⟨{ W2 with H := H' }, env2, d, env3, rfl, r2.grow same, rx, h3, fun σ3 W3 s3 r3 l3 k3 => ?_⟩
        have st3 : Step W2 W3 := (Step.grow same).trans s3
        have keep3 : ∀ j, asS j (.fr p it b) = false → σ3[j]? = σ2[j]? := fun j hj => k3 j (by simp only [asS, Bool.or_eq_false_iff] at hj; simpa using hj.1)
        refine ⟨W3, env3, rfl, r3, ?_⟩
        have kb : ∀ j ∈ bosI it, KpR j env3 (exB cf wf b env3) := fun j hj => keepB b (hb j hj).1
        have cs3 : ∀ {σ4 : L2.St} {W4 : Wd} {env4 : C.Env}, Step W3 W4 → (∀ j, asB j b = false → σ4[j]? = σ3[j]?) → (∀ j ∈ bosI it, Kp j env3 env4) → Cs W1 σ env1 (bosI it) W4 σ4 env4 := fun s4 k4 q4 => ⟨(cs.1.trans st3).trans s4, fun j hj => by
          obtain ⟨b1, b2, b3⟩ := hb j hj
          obtain ⟨c1, c2⟩ := cs.2 j hj
          exact ⟨by rw [k4 j b2, k3 j b3, c1], c2.trans (Kp.trans (.inl (bindP_keep b3 h3)) (q4 j hj))⟩⟩
        have go : ∀ {σ4 : L2.St} {W4 : Wd} {env4 : C.Env}, EndR B D W2 σ2 (fun i => asS i (.fr p it b)) (loopF body (xs.drop (i + 1)) env4) → Step W3 W4 → RE B W4 σ4 env4 → σ4.length = σ3.length → (∀ j, asB j b = false → σ4[j]? = σ3[j]?) → (∀ j ∈ bosI it, Kp j env3 env4) → P (i + 1) σ4 W4.H :=
          fun {σ4 W4 env4} e4 s4 r4 l4 k4 q4 => ⟨hlt, W4, env4, rfl, r4, cs3 s4 k4 q4, e4.since (st3.trans s4) (l4.trans l3) (fun j hj => by
            rw [k4 j (by simp only [asS, Bool.or_eq_false_iff] at hj; exact hj.2), keep3 j hj]) fun j hj => hj⟩
        cases h4 : exB cf wf b env3 with
        | nx env4 =>
          rw [h4] at h2 kb
          exact fun σ' W' s4 r4 l4 k4 => go h2 s4 r4 l4 k4 kb
        | ct env4 =>
          rw [h4] at h2 kb
          exact fun σ' W' s4 r4 l4 k4 => go h2 s4 r4 l4 k4 kb
        | rt s env4 =>
          rw [h4] at h2
          exact fun v σ' W' s4 r4 l4 k4 rv => h2 v σ' W' (st3.trans s4) r4 (l4.trans l3) (fun j hj => by rw [k4 j (by simp only [asS, Bool.or_eq_false_iff] at hj; exact hj.2), keep3 j hj]) (rv.since st3)
        | ex _ _ => rw [h4] at h2; exact h2.elim
        | bad => rw [h4] at h2; exact h2.elim
    · have e' : i = xs.length := by omega
      subst e'
      rw [List.drop_length] at h2
      unfold loopF at h2
      exact .inl ⟨wk.stop W2 σ2 env2 _ cs r2 (Nat.le_refl _), h2 σ2 W2 (Step.refl _) r2 rfl fun _ _ => rfl⟩
  | ex _ _ => rw [h1] at h; exact h.elim
  | bad => rw [h1] at h; exact h.elim
end
end C
end
section
set_option Elab.async false
set_option linter.all false
set_option maxRecDepth 100000
set_option maxHeartbeats 1000000
/-! Stores into items; several names at once; += . -/
namespace C
open PySem PySem.Spec L2
variable [Lams]
/-- o[i] = v, by data -/
def rPut (B : Bs) : TSet := fun o i v H K => ∃ (N : Addr → Prop) (a : Addr) (d k x d' r : PyData), o = .ref a ∧ RT B N H a d ∧ ¬ N a ∧ RA B N H i k ∧ Rp B N H v x ∧ evM .setItem d [k, x] = some (d', r) ∧ ∀ ob, RT B N (upd H a ob) a d' → K (upd H a ob)
/-- o[i], by data -/
def rGet (B : Bs) : V → V → L2.Hp → VK → Prop := fun o i H Q => ∃ (N : Addr → Prop) (d k x : PyData), ((∃ xs, d = .list xs) ∨ ∃ kvs, d = .dict kvs) ∧ RA B N H o d ∧ RA B N H i k ∧ pItem [d, k] = some (.sh x) ∧ ∀ v, Rp B N H v x → Q v H
section
variable {B : Bs} {cf : Nat → List Sl → CR} {wf : Nat} {W W0 W1 W' W'' : Wd} {σ σ0 σ' : L2.St} {env env1 env' : C.Env} {H : L2.Hp} {v x : V} {s : Sl} {D : Ends}
theorem seti_sem {i : Nat} {e key : CE} (h : tS B cf wf (.seti i e key) D σ H) : tAsg (tE B cf e) (gSub (tVar i) (tE B cf key) (rPut B)) D σ H := by
  obtain ⟨W, env, rfl, r, h⟩ := h
  unfold exS at h
  cases h1 : evE cf e env with
  | ok s env1 =>
    rw [h1] at h
    dsimp only at h
    refine ⟨W, env, s, env1, rfl, r, h1, fun v W1 s1 r1 rv => ?_⟩
    cases h0 : dataOf (gt env1 i) with
    | none => rw [h0] at h; exact h.elim
    | some d0 =>
      rw [h0] at h
      dsimp only at h
      obtain ⟨vo, g1, _⟩ := r1.data h0
      refine ⟨vo, g1, ?_⟩
      cases h2 : evE cf key env1 with
      | ok t env2 =>
        rw [h2] at h
        dsimp only at h
        refine ⟨W1, env1, t, env2, rfl, r1, h2, fun y W2 s2 r2 ry => ?_⟩
        split at h
        · rename_i d x k hd hx hk
          split at h
          · rename_i d' rr hev
            have rv2 := rv.step r1 s2
            obtain ⟨W3, hH, s3, r3, rx, ex3, _, _⟩ := r2.share (s1.trans s2) rv2 hx
            obtain ⟨a, j1, j2, j3⟩ := r3.owAt hd
            rw [g1] at j1
            cases j1
            rw [← hH]
            have ak : RA B W3.N W3.H y k := by
              have := RV.ra ry hk
              rw [hH]
              rcases this with q | ⟨b, rfl, q⟩
              · have := q.ext ex3; rw [hH] at this; exact .inl this
              · have := q.ext ex3 (fun o z => by rw [hH]; exact z); rw [hH] at this; exact .inr ⟨b, rfl, this⟩
            refine ⟨W3.N, a, d, k, x, d', rr, rfl, j3, r3.apart a i j2, ak, rx, hev, fun ob t => ?_⟩
            obtain ⟨m1, m2⟩ := r3.mutate hd g1 j2 t
            exact h σ { W3 with H := upd W3.H a ob } (s3.trans m2) m1 rfl fun _ _ => rfl
          · exact h.elim
        · exact h.elim
      | ex _ _ => rw [h2] at h; exact h.elim
      | bad => rw [h2] at h; exact h.elim
  | ex _ _ => rw [h1] at h; exact h.elim
  | bad => rw [h1] at h; exact h.elim
/-- += at a name, whole numbers -/
theorem evP_int {p : Pr} {a b : Int} (hp : p = .add ∨ p = .sub ∨ p = .mul) (h : evP p [.int a, .int b] = some s) : ∃ k, s = .sh (.int k) := by
  rcases hp with rfl | rfl | rfl
  · have h : pAdd [.int a, .int b] = some s := h
    simp only [pAdd, shI, Option.some.injEq] at h
    exact ⟨_, h.symm⟩
  · have h : pSub [.int a, .int b] = some s := h
    simp only [pSub, shI, Option.some.injEq] at h
    exact ⟨_, h.symm⟩
  · have h : (if (-bigI < a ∧ a < bigI) ∨ (-bigI < b ∧ b < bigI) then shI (a * b) else none) = some s := h
    split at h
    · exact ⟨_, (Option.some.inj h).symm⟩
    · cases h
def ipP (p : Pr) : TIp := fun x y H Q => ∃ i j k, x = .int i ∧ y = .int j ∧ evP p [.int i, .int j] = some (.sh (.int k)) ∧ Q (.int k) H
theorem aug_sem {i : Nat} {p : Pr} {e : CE} (hp : p = .add ∨ p = .sub ∨ p = .mul) (hi : i < σ.length) (h : tS B cf wf (.aug i p e) D σ H) : tAug i (tE B cf e) (ipP p) D σ H := by
  obtain ⟨W, env, rfl, r, h⟩ := h
  unfold exS at h
  cases h0 : dataOf (gt env i) with
  | none => rw [h0] at h; exact h.elim
  | some d0 =>
    rw [h0] at h
    dsimp only at h
    obtain ⟨vo, g1, _⟩ := r.data h0
    cases h1 : evE cf e env with
    | ok s env1 =>
      rw [h1] at h
      dsimp only at h
      split at h
      · rename_i a b ha hb
        split at h
        · rename_i t hev
          obtain ⟨kk, ht⟩ := evP_int hp hev
          subst ht
          split at h
          · rename_i env2 hs
            refine ⟨vo, g1, W, env, s, env1, rfl, r, h1, fun y W1 s1 r1 ry => ?_⟩
            obtain ⟨vo', j1, j2⟩ := r1.data ha
            rw [g1] at j1
            cases j1
            cases j2.int
            cases (RV.ra ry hb).int
            exact ⟨a, b, kk, rfl, rfl, hev, asg_fin s1 r1 (RV.sh (.int _)) hs hi (by simp [asS]) h⟩
          · exact h.elim
        · exact h.elim
      · exact h.elim
    | ex _ _ => rw [h1] at h; exact h.elim
    | bad => rw [h1] at h; exact h.elim
theorem augI_sem {i : Nat} {p : Pr} {key e : CE} (hp : p = .add ∨ p = .sub ∨ p = .mul) (h : tS B cf wf (.augI i p key e) D σ H) : tAugS (tVar i) (tE B cf key) (tE B cf e) (rGet B) (ipP p) (rPut B) D σ H := by
  obtain ⟨W, env, rfl, r, h⟩ := h
  unfold exS at h
  cases h0 : dataOf (gt env i) with
  | none => rw [h0] at h; exact h.elim
  | some d0 =>
    rw [h0] at h
    dsimp only at h
    obtain ⟨vo, g1, _⟩ := r.data h0
    cases h1 : evE cf key env with
    | ok sk env1 =>
      rw [h1] at h
      dsimp only at h
      refine ⟨vo, g1, W, env, sk, env1, rfl, r, h1, fun y W1 s1 r1 ry => ?_⟩
      split at h
      · rename_i d k hd hk
        obtain ⟨a, j1, j2, j3⟩ := r1.owAt hd
        rw [g1] at j1
        cases j1
        split at h
        · rename_i x hx
          have hx' : ∃ sl, pItem [d, k] = some sl ∧ dataOf sl = some x := by
            cases hp : pItem [d, k] with
            | none => rw [show evP .item [d, k] = pItem [d, k] from rfl, hp] at hx; cases hx
            | some sl => rw [show evP .item [d, k] = pItem [d, k] from rfl, hp] at hx; exact ⟨sl, rfl, hx⟩
          obtain ⟨sl, hx1, hx2⟩ := hx'
          have hsl : sl = .sh x := by
            have q := hx1
            unfold pItem at q
            split at q
            · simp only [Option.bind_eq_some_iff, Option.map_eq_some_iff] at q
              obtain ⟨_, _, _, _, rfl⟩ := q
              cases hx2; rfl
            · simp only [Option.bind_eq_some_iff, Option.map_eq_some_iff] at q
              obtain ⟨_, _, _, _, rfl⟩ := q
              cases hx2; rfl
            · split at q
              · rw [Option.map_eq_some_iff] at q
                obtain ⟨_, _, rfl⟩ := q
                cases hx2; rfl
              · cases q
            · split at q
              · simp only [Option.bind_eq_some_iff, Option.map_eq_some_iff] at q
                obtain ⟨_, _, _, _, rfl⟩ := q
                cases hx2; rfl
              · cases q
            · cases q
          subst hsl
          have hkind : (∃ xs, d = .list xs) ∨ ∃ kvs, d = .dict kvs := by
            cases j3 with
            | lst _ _ => exact .inl ⟨_, rfl⟩
            | dk _ _ _ => exact .inr ⟨_, rfl⟩
            | dn _ _ _ _ _ _ => exact .inr ⟨_, rfl⟩
          refine ⟨W1.N, d, k, x, hkind, .inr ⟨a, rfl, j3⟩, RV.ra ry hk, hx1, fun vx rx => ?_⟩
          cases h2 : evE cf e env1 with
          | ok s env2 =>
            rw [h2] at h
            dsimp only at h
            refine ⟨W1, env1, s, env2, rfl, r1, h2, fun z W2 s2 r2 rz => ?_⟩
            split at h
            · rename_i d2 n m hd2 hm
              obtain ⟨a', q1, q2, q3⟩ := r2.owAt hd2
              rw [g1] at q1
              cases q1
              cases RA.int (.inl rx)
              cases (RV.ra rz hm).int
              split at h
              · rename_i y' hy
                split at h
                · rename_i d3 rr hev
                  cases hp' : evP p [.int n, .int m] with
                  | none => rw [hp'] at hy; cases hy
                  | some t =>
                    obtain ⟨kk, ht⟩ := evP_int hp hp'
                    subst ht
                    rw [hp'] at hy
                    cases hy
                    refine ⟨n, m, kk, rfl, rfl, hp', W2.N, a, d2, k, _, d3, rr, rfl, q3, r2.apart a i q2, RV.ra (ry.step r1 s2) hk, .int _, hev, fun ob t => ?_⟩
                    obtain ⟨m1, m2⟩ := r2.mutate hd2 g1 q2 t
                    exact h σ { W2 with H := upd W2.H a ob } ((s1.trans s2).trans m2) m1 rfl fun _ _ => rfl
                · exact h.elim
              · exact h.elim
            · exact h.elim
          | ex _ _ => rw [h2] at h; exact h.elim
          | bad => rw [h2] at h; exact h.elim
        · exact h.elim
      · exact h.elim
    | ex _ _ => rw [h1] at h; exact h.elim
    | bad => rw [h1] at h; exact h.elim
/-! ### several names at once -/
def setAll (σ : L2.St) : List (Bool × Nat) → List V → L2.St
  | (_, i) :: ks, x :: xs => setAll (σ.set i (some x)) ks xs
  | _, _ => σ
theorem setAll_len : ∀ {ks : List (Bool × Nat)} {xs : List V} {σ : L2.St}, (setAll σ ks xs).length = σ.length
  | [], _, _ => by unfold setAll; rfl
  | _ :: _, [], _ => by unfold setAll; rfl
  | (_, i) :: ks, x :: xs, σ => by unfold setAll; rw [setAll_len, List.length_set]
theorem setAll_out {j : Nat} : ∀ {ks : List (Bool × Nat)} {xs : List V} {σ : L2.St}, (ks.any fun q => q.2 == j) = false → (setAll σ ks xs)[j]? = σ[j]?
  | [], _, _, _ => by unfold setAll; rfl
  | _ :: _, [], _, _ => by unfold setAll; rfl
  | (_, i) :: ks, x :: xs, σ, h => by
    unfold setAll
    rw [List.any_cons, Bool.or_eq_false_iff] at h
    rw [setAll_out h.2, List.getElem?_set_ne (by simpa using h.1)]
/-- what has been made stays made where another value has been stored -/
theorem RV.stored {W3 : Wd} (h : RV B W0 W v s) (ex : Ext W.N W.H W3.N W3.H) (hH : W3.H = W.H) (ho : ∀ b, (∃ d, s = .ow d) → v = .ref b → W.ow b = none → W3.ow b = none) (hN : ∀ b, (∃ d, s = .ow d) → v = .ref b → W3.N b → W.N b) : RV B W0 W3 v s := by
  refine ⟨h.1, ?_⟩
  have h2 := h.2
  cases s with
  | no => trivial
  | sh d => exact Rp.ext ex h2
  | ob _ _ => exact h2
  | fn _ => exact h2
  | ow d =>
    obtain ⟨a, rfl, ⟨q1, q2, q3, q4⟩, t⟩ := h2
    exact ⟨a, rfl, ⟨q1, ho a ⟨d, rfl⟩ rfl q2, fun z => q3 (hN a ⟨d, rfl⟩ rfl z), by rw [hH]; exact q4⟩, t.ext ex fun o q => by rw [hH]; exact q⟩
theorem store_one {keep : Bool} {i : Nat} {env2 : C.Env} (st : Step W W1) (r1 : RE B W1 σ env1) (rv : RV B W W1 v s) (ha : asgS env1 keep i s = some env2) (hi : i < σ.length) :
    ∃ W2, W2.H = W1.H ∧ Step W W2 ∧ RE B W2 (σ.set i (some v)) env2 ∧ Ext W1.N W1.H W2.N W2.H ∧ (∀ b, W1.ow b = none → v ≠ .ref b ∨ (∃ d, s = .sh d) → W2.ow b = none) ∧ (∀ b, W2.N b → W1.N b ∨ (v = .ref b ∧ ∃ d, s = .ow d)) := by
  have hi' : i < env1.length := by rw [← r1.len]; exact hi
  have shd : ∀ d, s = .sh d → env2 = env1.set i (.sh d) → ∃ W2, W2.H = W1.H ∧ Step W W2 ∧ RE B W2 (σ.set i (some v)) env2 ∧ Ext W1.N W1.H W2.N W2.H ∧ (∀ b, W1.ow b = none → v ≠ .ref b ∨ (∃ d, s = .sh d) → W2.ow b = none) ∧ (∀ b, W2.N b → W1.N b ∨ (v = .ref b ∧ ∃ d, s = .ow d)) := fun d hd he => by
    subst he; subst hd
    obtain ⟨W3, h3, s3, r3, n3, o3⟩ := r1.setSh rv.rp hi'
    exact ⟨W3, h3, st.trans s3, r3, by rw [n3, h3]; exact Ext.refl _ _, fun b hb _ => o3 b hb, fun b hb => .inl (by rw [← n3]; exact hb)⟩
  cases s with
  | no => exact absurd rfl rv.1
  | ob c fs => exact rv.2.elim
  | fn n => cases ha
  | sh d =>
    unfold asgS at ha
    cases keep <;> (simp only [Bool.false_eq_true, if_false, if_true, frz] at ha; cases ha; exact shd d rfl rfl)
  | ow d =>
    unfold asgS at ha
    cases keep
    · simp only [Bool.false_eq_true, if_false, frz] at ha; cases ha
      obtain ⟨_, a, rfl, ⟨h0, h1, h2, h3⟩, t⟩ := rv
      have rg : RE B (W1.give a) σ env1 := by
        refine ⟨r1.len, (fun j sl hj hn => r1.gave h3 h1 j sl hj hn (fun z => nomatch z)), fun b j hb => ?_, fun b hb => ?_, fun b j hb => r1.oin b j (Wd.give_ow hb).2, fun P q k => (r1.tb P q k).give t.noTab⟩
        · obtain ⟨ne, q⟩ := Wd.give_ow hb
          rintro (z | z)
          · exact r1.apart b j q z
          · exact ne z
        · rcases hb with hb | rfl
          · exact r1.nin b hb
          · exact h3
      have rp : Rp B (W1.give a).N (W1.give a).H (.ref a) d := .mu (.inr rfl) (t.ext (Ext.give a) fun _ q => q)
      obtain ⟨W3, k3, s3, r3, n3, o3⟩ := rg.setSh rp hi'
      refine ⟨W3, k3, (Wd.give_since st h0 t.noTab).trans s3, r3, ?_, fun b hb _ => o3 b ?_, fun b hb => ?_⟩
      · rw [n3, k3]; exact Ext.give a
      · show (if b = a then none else W1.ow b) = none
        by_cases e : b = a
        · rw [if_pos e]
        · rw [if_neg e]; exact hb
      · rw [n3] at hb
        rcases hb with z | rfl
        · exact .inl z
        · exact .inr ⟨rfl, _, rfl⟩
    · simp only [if_true] at ha; cases ha
      obtain ⟨W3, h3, s3, r3, n3, o3⟩ := r1.setOw st rv hi'
      refine ⟨W3, h3, s3, r3, by rw [n3, h3]; exact Ext.refl _ _, fun b hb hv => ?_, fun b hb => .inl (by rw [← n3]; exact hb)⟩
      rcases hv with hv | ⟨d', hv⟩
      · exact o3 b hb hv
      · cases hv
theorem rest_stored {W2 : Wd} {as : List AV} {xs : List V} (hH : W2.H = W1.H) (ex : Ext W1.N W1.H W2.N W2.H) (ho : ∀ b, W1.ow b = none → v ≠ .ref b ∨ (∃ d, s = .sh d) → W2.ow b = none) (hN : ∀ b, W2.N b → W1.N b ∨ (v = .ref b ∧ ∃ d, s = .ow d)) (hm : allMade as = true)
    (h : RAVs B W W1 σ xs as) (hq : ∀ (j : Nat) (d' : PyData) (y : V), as[j]? = some (AV.made (.ow d')) → xs[j]? = some y → v = y → (∃ d, s = .sh d)) (hq2 : ∀ (j : Nat) (d' : PyData) (y : V), as[j]? = some (AV.made (.ow d')) → xs[j]? = some y → v = y → (∃ d, s = .ow d) → False) :
    RAVs B W W2 σ' xs as := by
  induction h with
  | nil => exact .nil
  | cons h t ih =>
    rename_i y b ys bs
    cases b with
    | made s' =>
      refine .cons ?_ (ih (by simpa [allMade] using hm) (fun j d' y h1 h2 => hq (j + 1) d' y (by simpa using h1) (by simpa using h2)) fun j d' y h1 h2 => hq2 (j + 1) d' y (by simpa using h1) (by simpa using h2))
      refine RV.stored (show RV B W W1 y s' from h) ex hH (fun b ⟨d', es⟩ ey hb => ho b hb ?_) (fun b ⟨d', es⟩ ey hb => ?_)
      · by_cases hv : v = .ref b
        · exact .inr (hq 0 d' y (by rw [es]; rfl) rfl (by rw [hv, ey]))
        · exact .inl hv
      · rcases hN b hb with z | ⟨z1, z2⟩
        · exact z
        · exact (hq2 0 d' y (by rw [es]; rfl) rfl (by rw [z1, ey]) z2).elim
    | bo i => simp [allMade] at hm
    | rf i => simp [allMade] at hm
    | bf i f => simp [allMade] at hm
theorem asgAll_made : ∀ {ks : List (Bool × Nat)} {vs : List AV} {e e' : C.Env}, asgAll e ks vs = some e' → allMade vs = true
  | [], [], _, _, _ => rfl
  | [], _ :: _, _, _, k => by simp [asgAll] at k
  | _ :: _, [], _, _, k => by simp [asgAll] at k
  | (b, j) :: ks, v :: vs, e, e', k => by
    cases v with
    | made s =>
      unfold asgAll at k
      cases h3 : asgS e b j s with
      | none => rw [h3] at k; cases k
      | some e1 => rw [h3, Option.bind_some] at k; exact asgAll_made (vs := vs) k
    | _ => simp [asgAll] at k
theorem store_all : ∀ {ks : List (Bool × Nat)} {vs : List AV} {xs : List V} {W1 : Wd} {σ : L2.St} {env1 env2 : C.Env}, Step W W1 → RE B W1 σ env1 → RAVs B W W1 σ xs vs → Aprt xs vs → asgAll env1 ks vs = some env2 → (∀ q ∈ ks, q.2 < σ.length) →
    ∃ W2, W2.H = W1.H ∧ Step W W2 ∧ RE B W2 (setAll σ ks xs) env2 ∧ ks.length = xs.length
  | [], [], _, W1, σ, env1, env2, st, r1, .nil, _, h, _ => by unfold asgAll at h; cases h; exact ⟨W1, rfl, st, r1, rfl⟩
  | [], _ :: _, _, _, _, _, _, _, _, _, _, h, _ => by simp [asgAll] at h
  | _ :: _, [], _, _, _, _, _, _, _, _, _, h, _ => by simp [asgAll] at h
  | (b, i) :: ks, v :: vs, _, W1, σ, env1, env2, st, r1, .cons (x := x) (xs := xs) hx ht, ap, h, hl => by
    cases v with
    | made s =>
      unfold asgAll at h
      cases h3 : asgS env1 b i s with
      | none => rw [h3] at h; cases h
      | some e1 =>
        rw [h3, Option.bind_some] at h
        obtain ⟨W2, k1, k2, k3, k4, k5, k6⟩ := store_one st r1 (show RV B W W1 x s from hx) h3 (hl (b, i) List.mem_cons_self)
        have aps : ∀ (j : Nat) (d' d : PyData) (y : V), vs[j]? = some (AV.made (.ow d')) → xs[j]? = some y → x = y → s = .ow d → False := fun j d' d y h1 h2 h3 h4 => by
          subst h3 h4
          exact ap 0 (j + 1) d d' x (by omega) rfl (by simpa using h1) rfl (by simpa using h2)
        have rest := rest_stored (σ' := σ.set i (some x)) k1 k4 k5 k6 (asgAll_made h) ht (fun j d' y g1 g2 g3 => by
          cases s with
          | no => exact absurd rfl hx.1
          | ob _ _ => exact hx.2.elim
          | fn _ => cases h3
          | sh d => exact ⟨d, rfl⟩
          | ow d => exact (aps j d' d y g1 g2 g3 rfl).elim) fun j d' y g1 g2 g3 ⟨d, h4⟩ => aps j d' d y g1 g2 g3 h4
        obtain ⟨W3, m1, m2, m3, m4⟩ := store_all k2 k3 rest ap.tail h fun q hq => by rw [List.length_set]; exact hl q (List.mem_cons_of_mem _ hq)
        exact ⟨W3, m1.trans k1, m2, m3, by rw [List.length_cons, List.length_cons, m4]⟩
    | _ => simp [asgAll] at h
def gNames : List (Bool × Nat) → TGs
  | [] => gNil
  | (_, i) :: ks => gCons (gName i) (gNames ks)
theorem gNames_of : ∀ {ks : List (Bool × Nat)} {xs : List V} {σ : L2.St} {H : L2.Hp} {K : L2.St → L2.Hp → Prop}, ks.length = xs.length → K (setAll σ ks xs) H → gNames ks xs σ H K
  | [], [], _, _, _, _, h => ⟨rfl, h⟩
  | [], _ :: _, _, _, _, e, _ => by simp at e
  | _ :: _, [], _, _, _, e, _ => by simp at e
  | (_, i) :: ks, x :: xs, σ, H, K, e, h => ⟨x, xs, rfl, gNames_of (by simpa using e) h⟩
theorem par_run {ks : List (Bool × Nat)} {es : CAs} (hl : ∀ q ∈ ks, q.2 < σ.length) (h : tS B cf wf (.par ks es) D σ H) : tAs B cf es σ H fun xs H1 => ks.length = xs.length ∧ D.nx (setAll σ ks xs) H1 ∧ ∀ p, H1 p = none → D.nx (setAll σ ks xs) (upd H1 p (.tup xs)) := by
  obtain ⟨W, env, rfl, r, h⟩ := h
  unfold exS at h
  cases h1 : evAs cf es env with
  | ok vs env1 =>
    rw [h1] at h
    dsimp only at h
    cases h2 : asgAll env1 ks vs with
    | none => rw [h2] at h; exact h.elim
    | some env2 =>
      rw [h2] at h
      refine tAs_run r h1 fun xs W1 s1 r1 rs ap => ?_
      obtain ⟨W2, k1, k2, k3, k4⟩ := store_all s1 r1 rs ap h2 hl
      refine ⟨k4, ?_, fun p hp => ?_⟩
      · rw [← k1]
        exact h _ W2 k2 k3 setAll_len fun j hj => setAll_out (by simpa only [asS] using hj)
      · have hp2 : W2.H p = none := by rw [k1]; exact hp
        have := h _ { W2 with H := upd W2.H p (.tup xs) } (k2.trans (Step.grow (same_upd hp2))) (k3.grow (same_upd hp2)) setAll_len fun j hj => setAll_out (by simpa only [asS] using hj)
        rw [← k1]
        exact this
  | ex _ _ => rw [h1] at h; exact h.elim
  | bad => rw [h1] at h; exact h.elim
end
section
variable {X : Cx}
theorem put_any (hu : X.A.units + 150 < cLine) : PSet X (rPut (bsOf X)) := by
  intro pins s σ H o i v ov iv u K I ro ri rv h
  obtain ⟨N, a, d, k, x, d', r, rfl, t, hn, ak, rx, e, q⟩ := h
  cases ro
  change mSetItem d [k, x] = some (d', r) at e
  unfold mSetItem at e
  split at e
  · rename_i ds j y z
    injection z with z1 z2; injection z2 with z2 _; subst z1; subst z2
    rw [Option.map_eq_some_iff] at e
    obtain ⟨n, hj, e⟩ := e
    cases e
    cases ak.int
    cases t with
    | lst hp rl =>
      rename_i vs
      have own : Own (H a) := by rw [hp]; trivial
      refine set_list pins s σ H (.ref a) _ v (.ref a) iv u K I rfl ri rv ⟨a, vs, j, n, rfl, rfl, hp, by rw [rl.length]; exact hj, q _ (.lst upd_same ((rl.set n rx).ext (Ext.upd hn own)))⟩
  · rename_i kvs k' x' z
    injection z with z1 z2; injection z2 with z2 _; subst z1; subst z2
    split at e <;> cases e
    rename_i hz
    rw [Bool.and_eq_true, decide_eq_true_eq, lineN_eq] at hz
    exact put_dict hu I t hn ak rx hz.1 hz.2 ri rv fun ob s' I' rt => ⟨_, I', q ob rt⟩
  · cases e
theorem get_any (hu : X.A.units + 150 < cLine) : PGet X (rGet (bsOf X)) := by
  intro pins s σ H o i ov iv Q I ro ri h
  obtain ⟨N, d, k, x, hkind, a, b, e, q⟩ := h
  rcases hkind with ⟨xs, rfl⟩ | ⟨kvs, rfl⟩
  · unfold pItem at e
    split at e
    · rename_i ys j z; injection z with z1 z2; injection z2 with z2 _; injection z1 with z1; subst z1; subst z2
      obtain ⟨p, vs, rfl, hp, r1⟩ := a.list
      cases b.int
      obtain ⟨v', h1, h2⟩ := idx_at r1 e
      cases ro
      obtain ⟨t, rfl⟩ := ri
      obtain ⟨its, r, pl, hz⟩ := I.list (.inl hp)
      obtain ⟨n, g1, g2, g3, g4, g5⟩ := atI_get h1
      obtain ⟨w, ew, rw'⟩ := r.get g2
      have hl := r.length
      have hn := line63
      have fin : EP X pins σ Q w s := ⟨v', H, I, rw', q _ h2⟩
      by_cases h0 : 0 ≤ j
      · have hj : j.toNat = n := by
          rw [seqIndex_of h0 g5] at g1
          exact Option.some.inj g1
        exact wpAny_getItem_list pl.isList h0 (by omega) (by rw [hj]; simpa using ew) fin
      · have hj : (j + (its.toArray.size : Int)).toNat = n := by
          rw [seqIndex_neg (by omega) g4] at g1
          rw [List.size_toArray, ← hl]
          exact Option.some.inj g1
        exact wpAny_getItem_list_neg pl.isList (by omega) (by rw [List.size_toArray] <;> omega) (by omega) (by rw [hj]; simpa using ew) fin
    · rename_i z; cases z
    · rename_i z; cases z
    · rename_i z; cases z
    · cases e
  · have e' : (if keyOk kvs k then (dlook kvs k).map Sl.sh else none) = some (.sh x) := e
    split at e'
    · rename_i hk
      rw [Option.map_eq_some_iff] at e'
      obtain ⟨d, h1, e2⟩ := e'
      cases e2
      obtain ⟨p, rfl, g⟩ := ask_of I a b hk
      rw [h1] at g
      cases ro
      exact ask_item hu I g ri fun v' h2 => q _ h2
    · cases e'
end
end C
end
section
set_option Elab.async false
set_option linter.all false
set_option maxRecDepth 100000
set_option maxHeartbeats 1000000
/-! Calls of defs: what is handed over, what comes back. -/
namespace C
open PySem PySem.Spec L2
variable [Lams]

/-- what a def does: in any world that its parameters describe, it ends as the evaluator says -/
def spC (B : Bs) (cf : Nat → List Sl → CR) (n : Nat) : List V → L2.Hp → VK → Prop := fun vs H Q => ∃ (Wc : Wd) (args : List Sl) (s : Sl) (outs : List Sl), Wc.H = H ∧ RE B Wc (vs.map some) args ∧ (∀ a ∈ args, a ≠ .no) ∧ cf n args = .ok s outs ∧
  ∀ v W', Step Wc W' → RE B W' (vs.map some) outs → RV B Wc W' v s → Q v W'.H

section
variable {B : Bs} {cf : Nat → List Sl → CR} {W W0 W1 W' W'' : Wd} {σ σ0 σ' : L2.St} {env env1 env' : C.Env} {H : L2.Hp} {v x : V} {s : Sl}
theorem argSls_len : ∀ {vs : List AV} {ss : List Sl}, argSls env vs = some ss → ss.length = vs.length
  | [], ss, h => by unfold argSls at h; cases h; rfl
  | a :: as, ss, h => by
    unfold argSls at h
    simp only [Option.bind_eq_some_iff, Option.map_eq_some_iff] at h
    obtain ⟨s, h1, ss', h2, rfl⟩ := h
    rw [List.length_cons, List.length_cons, argSls_len h2]
theorem argSls_at : ∀ {vs : List AV} {ss : List Sl} {p : Nat} {a : AV}, argSls env vs = some ss → vs[p]? = some a → ∃ s, ss[p]? = some s ∧ argSl env a = some s
  | [], _, _, _, _, e => by simp at e
  | b :: bs, ss, p, a, h, e => by
    unfold argSls at h
    simp only [Option.bind_eq_some_iff, Option.map_eq_some_iff] at h
    obtain ⟨s, h1, ss', h2, rfl⟩ := h
    cases p with
    | zero => simp at e; subst e; exact ⟨s, rfl, h1⟩
    | succ p => obtain ⟨s', h3, h4⟩ := argSls_at h2 (by simpa using e); exact ⟨s', by simpa using h3, h4⟩
theorem RAVs.len : ∀ {xs : List V} {as : List AV}, RAVs B W0 W σ xs as → xs.length = as.length
  | _, _, .nil => rfl
  | _, _, .cons _ t => by rw [List.length_cons, List.length_cons, RAVs.len t]
theorem RAVs.at_ : ∀ {xs : List V} {as : List AV} {p : Nat} {a : AV}, RAVs B W0 W σ xs as → as[p]? = some a → ∃ x, xs[p]? = some x ∧ RAV B W0 W σ x a
  | _, _, _, _, .nil, e => by simp at e
  | _, _, 0, a, .cons h _, e => by simp at e; subst e; exact ⟨_, rfl, h⟩
  | _, _, p + 1, a, .cons _ t, e => by
    obtain ⟨x, h1, h2⟩ := RAVs.at_ t (p := p) (by simpa using e)
    exact ⟨x, by simpa using h1, h2⟩
theorem okAvs_rf : ∀ {vs : List AV} {p q : Nat} {i : Nat} {b : AV}, okAvs vs = true → p ≠ q → vs[p]? = some (.rf i) → vs[q]? = some b → b ≠ .rf i ∧ b ≠ .bo i
  | [], _, _, _, _, _, _, h, _ => by simp at h
  | a :: vs, p, q, i, b, ok, hpq, hp, hq => by
    cases p with
    | zero =>
      simp at hp
      subst hp
      unfold okAvs at ok
      obtain ⟨o1, o2⟩ := ba2 ok
      cases q with
      | zero => exact absurd rfl hpq
      | succ q =>
        have hb : b ∈ vs := List.mem_of_getElem? (by simpa using hq)
        have := List.all_eq_true.mp o1 b hb
        refine ⟨fun z => ?_, fun z => ?_⟩ <;> (subst z; simp at this)
    | succ p =>
      cases q with
      | zero =>
        simp at hq
        subst hq
        have ha : (AV.rf i) ∈ vs := List.mem_of_getElem? (by simpa using hp)
        refine ⟨fun z => ?_, fun z => ?_⟩ <;> subst z <;> unfold okAvs at ok <;> obtain ⟨o1, o2⟩ := ba2 ok <;> have := List.all_eq_true.mp o1 _ ha <;> simp at this
      | succ q =>
        have ok' : okAvs vs = true := by
          cases a <;> unfold okAvs at ok
          · exact ok
          · exact (ba2 ok).2
          · exact (ba2 ok).2
          · exact (ba2 ok).2
        exact okAvs_rf (p := p) (q := q) ok' (fun z => hpq (by omega)) (by simpa using hp) (by simpa using hq)
theorem hasBo_mem : ∀ {vs : List AV} {p i : Nat}, vs[p]? = some (.bo i) → hasBo vs = true
  | [], _, _, h => by simp at h
  | a :: vs, p, i, h => by
    cases p with
    | zero => simp at h; subst h; rfl
    | succ p =>
      have := hasBo_mem (vs := vs) (p := p) (i := i) (by simpa using h)
      cases a <;> first | rfl | exact this
theorem putBack_len : ∀ {vs : List AV} {os : List Sl} {e : C.Env}, (putBack e vs os).length = e.length
  | [], _, _ => by unfold putBack; rfl
  | a :: vs, [], e => by cases a <;> rfl
  | a :: vs, o :: os, e => by
    cases a with
    | rf i => unfold putBack; rw [putBack_len, List.length_set]
    | made _ => unfold putBack; rw [putBack_len]
    | bo _ => unfold putBack; rw [putBack_len]
    | bf _ _ => unfold putBack; rw [putBack_len]
theorem putBack_at : ∀ {vs : List AV} {os : List Sl} {e : C.Env} {p j : Nat} {o : Sl}, okAvs vs = true → vs[p]? = some (.rf j) → os[p]? = some o → j < e.length → gt (putBack e vs os) j = o
  | [], _, _, _, _, _, _, h, _, _ => by simp at h
  | _ :: _, [], _, _, _, _, _, _, h, _ => by simp at h
  | a :: vs, o' :: os, e, p, j, o, ok, hp, ho, hj => by
    cases p with
    | zero =>
      simp at hp ho
      subst hp ho
      unfold putBack
      have hk : ∀ b ∈ vs, b ≠ .rf j := fun b hb z => by
        subst z
        obtain ⟨q, hq⟩ := List.getElem?_of_mem hb
        exact (okAvs_rf ok (p := 0) (q := q + 1) (i := j) (by omega) rfl (by simpa using hq)).1 rfl
      rw [putBack_keep hk, gt_set_self hj]
    | succ p =>
      have ok' : okAvs vs = true := by
        cases a <;> unfold okAvs at ok
        · exact ok
        · exact (ba2 ok).2
        · exact (ba2 ok).2
        · exact (ba2 ok).2
      have ih := fun e hj => putBack_at (e := e) ok' (show vs[p]? = some (.rf j) by simpa using hp) (show os[p]? = some o by simpa using ho) hj
      cases a with
      | rf i => unfold putBack; exact ih _ (by rw [List.length_set]; exact hj)
      | made s => unfold putBack; exact ih _ hj
      | bo i => unfold putBack; exact ih _ hj
      | bf i f => unfold putBack; exact ih _ hj
theorem pureOuts_at : ∀ {vs : List AV} {os : List Sl} {p j : Nat} {o : Sl}, pureOuts vs os = true → vs[p]? = some (.rf j) → os[p]? = some o → pureSl o = true
  | [], _, _, _, _, _, h, _ => by simp at h
  | _ :: _, [], _, _, _, _, _, h => by simp at h
  | a :: vs, o' :: os, p, j, o, h, hp, ho => by
    cases p with
    | zero =>
      simp at hp ho
      subst hp ho
      unfold pureOuts at h
      exact (ba2 h).1
    | succ p =>
      have h' : pureOuts vs os = true := by
        cases a <;> unfold pureOuts at h
        · exact h
        · exact h
        · exact h
        · exact (ba2 h).2
      exact pureOuts_at h' (by simpa using hp) (by simpa using ho)
theorem pure_rt {N N' : Addr → Prop} {H : L2.Hp} {a : Addr} {d : PyData} (hp : pureSl (.ow d) = true) (t : RT B N H a d) : RT B N' H a d := by
  cases t with
  | lst h r => exact .lst h (pure_rpA N' (by simpa [pureSl] using hp) r)
  | dk h e r =>
    simp only [pureSl, Bool.and_eq_true] at hp
    exact .dk h e (pure_rpA N' hp.2 r)
  | dn h z e h8 r1 r2 =>
    simp only [pureSl, Bool.and_eq_true] at hp
    exact .dn h z e h8 (pure_rpA N' hp.1 r1) (pure_rpA N' hp.2 r2)
/-- which parameter owns an object -/
def ownL : Nat → List V → List Sl → Addr → Option Nat
  | n, x :: xs, .ow _ :: ss, a => if x = .ref a then some n else ownL (n + 1) xs ss a
  | n, _ :: xs, _ :: ss, a => ownL (n + 1) xs ss a
  | _, _, _, _ => none
theorem ownL_some : ∀ {n : Nat} {xs : List V} {ss : List Sl} {a : Addr} {m : Nat}, ownL n xs ss a = some m → ∃ p d, m = n + p ∧ xs[p]? = some (.ref a) ∧ ss[p]? = some (.ow d)
  | _, [], _, _, _, h => by unfold ownL at h; cases h
  | _, _ :: _, [], _, _, h => by unfold ownL at h; cases h
  | n, x :: xs, s :: ss, a, m, h => by
    have rec_ : ownL (n + 1) xs ss a = some m → ∃ p d, m = n + p ∧ (x :: xs)[p]? = some (.ref a) ∧ (s :: ss)[p]? = some (.ow d) := fun h => by
      obtain ⟨p, d, h1, h2, h3⟩ := ownL_some h
      exact ⟨p + 1, d, by omega, by simpa using h2, by simpa using h3⟩
    cases s with
    | ow d =>
      unfold ownL at h
      by_cases e : x = .ref a
      · rw [if_pos e] at h; cases h; exact ⟨0, d, rfl, by rw [e]; rfl, rfl⟩
      · rw [if_neg e] at h; exact rec_ h
    | no => unfold ownL at h; exact rec_ h
    | sh d => unfold ownL at h; exact rec_ h
    | ob c fs => unfold ownL at h; exact rec_ h
    | fn n => unfold ownL at h; exact rec_ h
theorem ownL_at : ∀ {n : Nat} {xs : List V} {ss : List Sl} {a : Addr} {p : Nat} {d : PyData}, xs[p]? = some (.ref a) → ss[p]? = some (.ow d) → (∀ q d', q < p → xs[q]? = some (.ref a) → ss[q]? = some (.ow d') → False) → ownL n xs ss a = some (n + p)
  | _, [], _, _, _, _, h, _, _ => by simp at h
  | _, _ :: _, [], _, _, _, _, h, _ => by simp at h
  | n, x :: xs, s :: ss, a, p, d, hx, hs, hq => by
    cases p with
    | zero =>
      simp at hx hs
      subst hx hs
      unfold ownL
      rw [if_pos rfl]; rfl
    | succ p =>
      have ih := ownL_at (n := n + 1) (xs := xs) (ss := ss) (p := p) (a := a) (d := d) (by simpa using hx) (by simpa using hs) fun q d' h1 h2 h3 => hq (q + 1) d' (by omega) (by simpa using h2) (by simpa using h3)
      have ih' : ownL (n + 1) xs ss a = some (n + (p + 1)) := by rw [ih]; congr 1; omega
      cases s with
      | ow d0 =>
        unfold ownL
        by_cases e : x = .ref a
        · exact (hq 0 d0 (by omega) (by rw [e]; rfl) rfl).elim
        · rw [if_neg e]; exact ih'
      | no => unfold ownL; exact ih'
      | sh d => unfold ownL; exact ih'
      | ob c fs => unfold ownL; exact ih'
      | fn n => unfold ownL; exact ih'
/-- an owned argument: made, or a slot's -/
theorem arg_ow {vs : List AV} {ss : List Sl} {xs : List V} (r1 : RE B W1 σ env1) (rs : RAVs B W W1 σ xs vs) (hs : argSls env1 vs = some ss) {p : Nat} {a : Addr} {d : PyData} (hx : xs[p]? = some (.ref a)) (h : ss[p]? = some (.ow d)) :
    (vs[p]? = some (.made (.ow d)) ∧ W.H a = none ∧ W1.ow a = none ∧ ¬ W1.N a ∧ RT B W1.N W1.H a d) ∨ ∃ i, vs[p]? = some (.rf i) ∧ gt env1 i = .ow d ∧ σ[i]? = some (some (.ref a)) ∧ W1.ow a = some i ∧ RT B W1.N W1.H a d := by
  have hp : p < vs.length := by
    rw [← argSls_len hs]; exact (List.getElem?_eq_some_iff.mp h).1
  obtain ⟨x, h1, h2⟩ := rs.at_ (List.getElem?_eq_getElem hp)
  obtain ⟨s, h3, h4⟩ := argSls_at hs (List.getElem?_eq_getElem hp)
  rw [hx] at h1; cases h1
  rw [h] at h3; cases h3
  have he : vs[p]? = some vs[p] := List.getElem?_eq_getElem hp
  generalize vs[p] = av at h2 h4 he
  cases av with
  | made s =>
    have : s = .ow d := Option.some.inj h4
    subst this
    obtain ⟨_, b, eb, ⟨q1, q2, q3, q4⟩, t⟩ := h2
    cases eb
    exact .inl ⟨he, q1, q2, q3, t⟩
  | bo i =>
    have h4 : (dataOf (gt env1 i)).map Sl.sh = some (.ow d) := h4
    rw [Option.map_eq_some_iff] at h4
    obtain ⟨_, _, z⟩ := h4
    cases z
  | bf i f => exact h2.elim
  | rf i =>
    have h4 : (match gt env1 i with | .ow d => some (Sl.ow d) | _ => none) = some (.ow d) := h4
    split at h4 <;> cases h4
    rename_i hg
    obtain ⟨b, j1, j2, j3⟩ := r1.owAt hg
    rw [show σ[i]? = some (some (.ref a)) from h2] at j1
    cases j1
    exact .inr ⟨i, he, hg, h2, j2, j3⟩
theorem evE_call {f : Nat} {as : CAs} (h : evE cf (.call f as) env = .ok s env') : ∃ vs e1 ss outs, evAs cf as env = .ok vs e1 ∧ okAvs vs = true ∧ argSls e1 vs = some ss ∧ cf f ss = .ok s outs ∧ (hasBo vs = true → pureSl s = true ∧ pureOuts vs outs = true) ∧ env' = putBack e1 vs outs := by
  unfold evE at h
  obtain ⟨vs, e1, h1, h2⟩ := bind_ok h
  split at h2
  · rename_i ho
    split at h2
    · rename_i ss hs
      split at h2
      · rename_i t outs hc
        split at h2
        · cases h2
        · rename_i hb
          cases h2
          refine ⟨vs, e1, ss, outs, h1, ho, hs, hc, fun z => ?_, rfl⟩
          rw [z, Bool.true_and, Bool.not_eq_true', Bool.not_eq_false] at hb
          exact ba2 hb
      · cases h2
      · cases h2
    · cases h2
  · cases h2

/-- at a table the one, else the other -/
def selT (o : Option HO) (x y : Option Nat) : Option Nat := match o with
  | some (.tbl _) => x
  | _ => y
theorem tab_or (o : Option HO) : (∃ ps, o = some (.tbl ps)) ∨ NoTab o := by
  cases o with
  | none => exact .inr fun ps e => nomatch e
  | some u => cases u <;> first | exact .inl ⟨_, rfl⟩ | exact .inr fun ps e => nomatch e
theorem selT_tab {o : Option HO} {x y : Option Nat} {ps : Array Value} (h : o = some (.tbl ps)) : selT o x y = x := by subst h; rfl
theorem selT_no {o : Option HO} {x y : Option Nat} (h : NoTab o) : selT o x y = y := by
  unfold selT; split
  · rename_i ps; exact absurd rfl (h ps)
  · rfl
theorem RSl.ext2 {N N' O O' : Addr → Prop} {H H' : L2.Hp} (e : Ext N H N' H') (k : ∀ a o, O a → H a = some o → NoFix (H a) → H' a = some o ∧ O' a) {v : V} {s : Sl} (h : RSl B N O H v s) : RSl B N' O' H' v s := by
  cases s with
  | no => trivial
  | sh d => exact Rp.ext e h
  | ow d =>
    obtain ⟨a, rfl, o, t⟩ := h
    obtain ⟨ob, q, _⟩ := t.there
    exact ⟨a, rfl, (k a ob o q t.noFix).2, t.ext e fun o' q' => (k a o' o q' t.noFix).1⟩
  | ob c fs => exact h
  | fn n => exact h
theorem call_sem {f : Nat} {as : CAs} {Q : VK} (h : tE B cf (.call f as) σ H Q) : tCB (spC B cf f) (tAs B cf as) σ H Q := by
  obtain ⟨W, env, s, env', rfl, r, e, q⟩ := h
  obtain ⟨vs, env1, ss, outs, h1, hok, hss, hcf, hbo, rfl⟩ := evE_call e
  refine tAs_run r h1 fun xs W1 s1 r1 rs ap => ?_
  have lss := argSls_len hss
  have lxs := rs.len
  let Bor : Addr → Prop := fun a => ∃ (i : Nat) (d : PyData) (p : Nat), vs[p]? = some (AV.bo i) ∧ gt env1 i = .ow d ∧ W1.ow a = some i ∧ NoTab (W1.H a)
  let Wc : Wd := ⟨fun a => W1.N a ∨ Bor a, fun a => selT (W1.H a) (W1.ow a) (ownL 0 xs ss a), W1.H⟩
  have aow : ∀ {a : Addr} {p : Nat}, NoTab (W1.H a) → Wc.ow a = some p → ∃ d, xs[p]? = some (.ref a) ∧ ss[p]? = some (.ow d) := fun {a p} nt h => by
    have h : selT (W1.H a) (W1.ow a) (ownL 0 xs ss a) = some p := h
    rw [selT_no nt] at h
    obtain ⟨p', d, h1, h2, h3⟩ := ownL_some h
    have : p' = p := by omega
    subst this
    exact ⟨d, h2, h3⟩
  -- an owned argument has one place
  have uniq : ∀ {a : Addr} {p p' : Nat} {d d' : PyData}, xs[p]? = some (.ref a) → ss[p]? = some (.ow d) → xs[p']? = some (.ref a) → ss[p']? = some (.ow d') → p' = p := fun {a p p' d d'} h1 h2 h3 h4 => by
    by_cases hne : p = p'
    · exact hne.symm
    rcases arg_ow r1 rs hss h1 h2 with ⟨q1, _, q2, _⟩ | ⟨i, q1, _, _, q2, _⟩
    · rcases arg_ow r1 rs hss h3 h4 with ⟨k1, _, k2, _⟩ | ⟨j, k1, _, _, k2, _⟩
      · exact (ap p p' d d' _ hne q1 k1 h1 h3).elim
      · rw [q2] at k2; cases k2
    · rcases arg_ow r1 rs hss h3 h4 with ⟨k1, _, k2, _⟩ | ⟨j, k1, _, _, k2, _⟩
      · rw [q2] at k2; cases k2
      · rw [q2] at k2; cases k2
        exact ((okAvs_rf hok hne q1 k1).1 rfl).elim
  have argNo : ∀ {a : Addr} {p : Nat} {d : PyData}, xs[p]? = some (.ref a) → ss[p]? = some (.ow d) → NoFix (W1.H a) := fun {a p d} h1 h2 => by
    rcases arg_ow r1 rs hss h1 h2 with ⟨_, _, _, _, t⟩ | ⟨_, _, _, _, _, t⟩
    · exact t.noFix
    · exact t.noFix
  have atOw : ∀ {a : Addr} {p : Nat} {d : PyData}, xs[p]? = some (.ref a) → ss[p]? = some (.ow d) → Wc.ow a = some p := fun {a p d} h1 h2 => by
    have := ownL_at (n := 0) h1 h2 fun q d' hq h3 h4 => by
      have := uniq h1 h2 h3 h4
      omega
    rw [Nat.zero_add] at this
    show selT (W1.H a) (W1.ow a) (ownL 0 xs ss a) = some p
    rw [selT_no (argNo h1 h2).1]
    exact this
  have ext1 : Ext W1.N W1.H Wc.N Wc.H := ⟨fun _ h => .inl h, fun _ _ _ h => h, fun _ _ h => h, fun _ _ _ h => h⟩
  have tabCc : ∀ P q, TabW W1 P q → TabW Wc P q := fun P q t1 => by
    obtain ⟨k0, ps, k1, k2, k3⟩ := t1
    refine ⟨⟨(selT_tab k1).trans k0.1, k0.2⟩, ps, k1, k2, fun pos cv e => ?_⟩
    obtain ⟨c, oc, ws, tk, e1, e2, e3, e4⟩ := k3 pos cv e
    refine ⟨c, oc, ws, tk, e1, e2, ?_, e4⟩
    cases hz : Wc.ow c with
    | none => rfl
    | some p =>
      obtain ⟨d, k1, k2⟩ := aow (fun ps e => by rw [e2] at e; cases e) hz
      exact absurd e2 ((argNo k1 k2).2 _ _)
  -- the callee's world
  have rc : RE B Wc (xs.map some) ss := by
    refine ⟨by rw [List.length_map, lxs, lss], fun p s hp hn => ?_, fun a p hp => ?_, fun a ha => ?_, fun a p hp => ?_, fun P q k => tabCc P q (r1.tb P q k)⟩
    · have hlt : p < vs.length := by rw [← lss]; exact (List.getElem?_eq_some_iff.mp hp).1
      obtain ⟨x, h2, h3⟩ := rs.at_ (List.getElem?_eq_getElem hlt)
      obtain ⟨s', h4, h5⟩ := argSls_at hss (List.getElem?_eq_getElem hlt)
      rw [hp] at h4; cases h4
      refine ⟨x, by rw [List.getElem?_map, h2]; rfl, ?_⟩
      have he : vs[p]? = some vs[p] := List.getElem?_eq_getElem hlt
      generalize vs[p] = av at h3 h5 he
      cases s with
      | no => exact absurd rfl hn
      | ob c fs =>
        cases av with
        | made s' => have : s' = .ob c fs := Option.some.inj h5; subst this; exact h3.2.elim
        | bo i =>
          have h5 : (dataOf (gt env1 i)).map Sl.sh = some (.ob c fs) := h5
          rw [Option.map_eq_some_iff] at h5
          obtain ⟨_, _, z⟩ := h5; cases z
        | bf i f => exact h3.elim
        | rf i =>
          have h5 : (match gt env1 i with | .ow d => some (Sl.ow d) | _ => none) = some (.ob c fs) := h5
          split at h5 <;> cases h5
      | fn n =>
        cases av with
        | made s' => have : s' = .fn n := Option.some.inj h5; subst this; exact h3.2
        | bo i =>
          have h5 : (dataOf (gt env1 i)).map Sl.sh = some (.fn n) := h5
          rw [Option.map_eq_some_iff] at h5
          obtain ⟨_, _, z⟩ := h5; cases z
        | bf i f => exact h3.elim
        | rf i =>
          have h5 : (match gt env1 i with | .ow d => some (Sl.ow d) | _ => none) = some (.fn n) := h5
          split at h5 <;> cases h5
      | sh d =>
        cases av with
        | made s' => have : s' = .sh d := Option.some.inj h5; subst this; exact h3.rp.ext ext1
        | bo i =>
          have h5 : (dataOf (gt env1 i)).map Sl.sh = some (.sh d) := h5
          rw [Option.map_eq_some_iff] at h5
          obtain ⟨d', h6, h7⟩ := h5
          cases h7
          have hn' := dataOf_no h6
          obtain ⟨v', j1, j2⟩ := r1.slot i _ (gt_some hn') hn'
          rw [show σ[i]? = some (some x) from h3] at j1
          cases j1
          cases hg : gt env1 i with
          | no => rw [hg] at h6; cases h6
          | ob _ _ => rw [hg] at h6; cases h6
          | fn _ => rw [hg] at h6; cases h6
          | sh d' => rw [hg] at h6 j2; cases h6; exact Rp.ext ext1 j2
          | ow d' =>
            rw [hg] at h6 j2; cases h6
            obtain ⟨a, rfl, j3, j4⟩ := j2
            exact .mu (.inr ⟨i, d, p, he, hg, j3, j4.noTab⟩) (j4.ext ext1 fun _ z => z)
        | bf i f => exact h3.elim
        | rf i =>
          have h5 : (match gt env1 i with | .ow d => some (Sl.ow d) | _ => none) = some (.sh d) := h5
          split at h5 <;> cases h5
      | ow d =>
        have hx : ∃ a, x = .ref a := by
          cases av with
          | made s' => have : s' = .ow d := Option.some.inj h5; subst this; obtain ⟨_, a, ea, _⟩ := h3; exact ⟨a, ea⟩
          | bo i =>
            have h5 : (dataOf (gt env1 i)).map Sl.sh = some (.ow d) := h5
            rw [Option.map_eq_some_iff] at h5
            obtain ⟨_, _, z⟩ := h5; cases z
          | bf i f => exact h3.elim
          | rf i =>
            have h5 : (match gt env1 i with | .ow d => some (Sl.ow d) | _ => none) = some (.ow d) := h5
            split at h5 <;> cases h5
            rename_i hg
            obtain ⟨a, j1, _⟩ := r1.owAt hg
            rw [show σ[i]? = some (some x) from h3] at j1
            cases j1; exact ⟨a, rfl⟩
        obtain ⟨a, rfl⟩ := hx
        refine ⟨a, rfl, atOw h2 hp, ?_⟩
        rcases arg_ow r1 rs hss h2 hp with ⟨_, _, _, _, t⟩ | ⟨_, _, _, _, _, t⟩
        · exact t.ext ext1 fun _ z => z
        · exact t.ext ext1 fun _ z => z
    · rcases tab_or (W1.H a) with ⟨ps, ht⟩ | nt
      · have hp : selT (W1.H a) (W1.ow a) (ownL 0 xs ss a) = some p := hp
        rw [selT_tab ht] at hp
        rintro (z | ⟨j, _, _, _, _, _, z⟩)
        · exact r1.apart a p hp z
        · exact z ps ht
      obtain ⟨d, h2, h3⟩ := aow nt hp
      rcases arg_ow r1 rs hss h2 h3 with ⟨_, _, k1, k2, _⟩ | ⟨i, k0, _, _, k1, _⟩
      · rintro (z | ⟨j, _, _, _, _, z, _⟩)
        · exact k2 z
        · rw [k1] at z; cases z
      · rintro (z | ⟨j, _, p', z1, _, z, _⟩)
        · exact r1.apart a i k1 z
        · rw [k1] at z; cases z
          by_cases hne : p = p'
          · subst hne; rw [k0] at z1; cases z1
          · exact (okAvs_rf hok hne k0 z1).2 rfl
    · rcases ha with z | ⟨j, _, _, _, _, z, _⟩
      · exact r1.nin a z
      · have := r1.oin a j z
        intro q
        rw [show W1.H a = none from q] at this
        exact this
    · rcases tab_or (W1.H a) with ⟨ps, ht⟩ | nt
      · show Own (W1.H a); rw [ht]; trivial
      obtain ⟨d, h2, h3⟩ := aow nt hp
      rcases arg_ow r1 rs hss h2 h3 with ⟨_, _, _, _, t⟩ | ⟨_, _, _, _, _, t⟩
      · obtain ⟨o, ho, w⟩ := t.there; show Own (W1.H a); rw [ho]; exact w
      · obtain ⟨o, ho, w⟩ := t.there; show Own (W1.H a); rw [ho]; exact w
  refine ⟨Wc, ss, s, outs, rfl, rc, fun a ha z => ?_, hcf, fun v W' st re rv => ?_⟩
  · subst z
    obtain ⟨p, hp⟩ := List.getElem?_of_mem ha
    have hlt : p < vs.length := by rw [← lss]; exact (List.getElem?_eq_some_iff.mp hp).1
    obtain ⟨x, h2, h3⟩ := rs.at_ (List.getElem?_eq_getElem hlt)
    obtain ⟨s', h4, h5⟩ := argSls_at hss (List.getElem?_eq_getElem hlt)
    rw [hp] at h4; cases h4
    generalize vs[p] = av at h3 h5
    cases av with
    | made s' => have : s' = .no := Option.some.inj h5; subst this; exact h3.1 rfl
    | bo i =>
      have h5 : (dataOf (gt env1 i)).map Sl.sh = some .no := h5
      rw [Option.map_eq_some_iff] at h5
      obtain ⟨_, _, z⟩ := h5; cases z
    | bf i f => exact h3.elim
    | rf i =>
      have h5 : (match gt env1 i with | .ow d => some (Sl.ow d) | _ => none) = some .no := h5
      split at h5 <;> cases h5
  -- the world behind it
  let Lost : Addr → Prop := fun a => ∃ (p i : Nat), vs[p]? = some (AV.rf i) ∧ xs[p]? = some (V.ref a) ∧ ∀ d, outs[p]? ≠ some (Sl.ow d)
  -- an object that is no parameter's stays
  have stay : ∀ {a : Addr} {o : HO}, W1.H a = some o → Wc.ow a = none → W'.H a = some o := fun {a o} h1 h2 => st.fr a o h1 h2
  have notArg : ∀ {a : Addr}, W.H a ≠ none → W.ow a = none → Wc.ow a = none := fun {a} h2 h3 => by
    rcases tab_or (W1.H a) with ⟨ps, ht⟩ | nt
    · exact (selT_tab ht).trans (s1.un a h2 h3)
    cases hz : Wc.ow a with
    | none => rfl
    | some p =>
      obtain ⟨d, k1, k2⟩ := aow nt hz
      rcases arg_ow r1 rs hss k1 k2 with ⟨_, z, _⟩ | ⟨i, _, _, _, z, _⟩
      · exact absurd z h2
      · rw [s1.un a h2 h3] at z; cases z
  have newN : ∀ {a : Addr}, W1.H a ≠ none → Wc.ow a = none → W'.N a → W1.N a ∨ Bor a := fun {a} h2 h3 h4 => st.nn a h2 h3 h4
  have ownedN : ∀ {a : Addr} {i : Nat}, W1.ow a = some i → ¬ W1.N a := fun {a i} h => r1.apart a i h
  have thereOw : ∀ {a : Addr} {i : Nat}, W1.ow a = some i → W1.H a ≠ none := fun {a i} h z => by
    have := r1.oin a i h; rw [z] at this; exact this
  -- what of the slots that are not handed over
  have nrf : ∀ {j : Nat} {d : PyData} {a : Addr}, NoTab (W1.H a) → (∀ p : Nat, vs[p]? ≠ some (AV.rf j)) → W1.ow a = some j → Wc.ow a = none := fun {j d a} nt hj h => by
    cases hz : Wc.ow a with
    | none => rfl
    | some p =>
      obtain ⟨d, k1, k2⟩ := aow nt hz
      rcases arg_ow r1 rs hss k1 k2 with ⟨_, _, z, _⟩ | ⟨i, k0, _, _, z, _⟩
      · rw [h] at z; cases z
      · rw [h] at z; cases z; exact (hj p k0).elim
  have exc : Ext Wc.N Wc.H W'.N W'.H := rc.ext st
  have rfAt : ∀ {j p : Nat}, vs[p]? = some (AV.rf j) → ∃ (a : Addr) (d : PyData), gt env1 j = .ow d ∧ σ[j]? = some (some (.ref a)) ∧ xs[p]? = some (.ref a) ∧ W1.ow a = some j ∧ Wc.ow a = some p := fun {j p} h => by
    obtain ⟨x, k1, k2⟩ := rs.at_ h
    obtain ⟨s', k3, k4⟩ := argSls_at hss h
    have k4 : (match gt env1 j with | .ow d => some (Sl.ow d) | _ => none) = some s' := k4
    split at k4 <;> cases k4
    rename_i d hg
    obtain ⟨a, j1, j2, _⟩ := r1.owAt hg
    rw [show σ[j]? = some (some x) from k2] at j1
    cases j1
    exact ⟨a, d, hg, k2, k1, j2, atOw k1 k3⟩
  have outAt : ∀ {p : Nat} {x : V} {o : Sl}, xs[p]? = some x → outs[p]? = some o → o ≠ .no → RSl B W'.N (fun a => W'.ow a = some p) W'.H x o := fun {p x o} h2 h3 h4 => by
    obtain ⟨v, k1, k2⟩ := re.slot p o h3 h4
    rw [List.getElem?_map, h2] at k1
    cases k1; exact k2
  have frzC : ∀ {c : Addr} {oc : Obj} {u : HO}, W1.H c = some (.frz oc u) → NoTab (W1.H c) := fun {c oc u} h ps e => by rw [h] at e; cases e
  have tabC : ∀ P q, TabW W P q → TabW W' P q := fun P q t => by
    have t1 := s1.tb P q t
    obtain ⟨k0, ps, k1, k2, k3⟩ := t1
    refine st.tb P q ⟨⟨(selT_tab k1).trans k0.1, k0.2⟩, ps, k1, k2, fun pos cv e => ?_⟩
    obtain ⟨c, oc, ws, tk, e1, e2, e3, e4⟩ := k3 pos cv e
    refine ⟨c, oc, ws, tk, e1, e2, ?_, e4⟩
    cases hz : Wc.ow c with
    | none => rfl
    | some p =>
      obtain ⟨d, k1, k2⟩ := aow (frzC e2) hz
      exact absurd e2 ((argNo k1 k2).2 _ _)
  have louts : outs.length = vs.length := by rw [← re.len, List.length_map, lxs]
  have rfNo : ∀ {p j : Nat} {a : Addr}, vs[p]? = some (AV.rf j) → xs[p]? = some (.ref a) → NoFix (W1.H a) := fun {p j a} h1 h2 => by
    obtain ⟨a', d, g1, g2, g3, g4, g5⟩ := rfAt h1
    rw [h2] at g3; cases g3
    obtain ⟨b, j1, j2, j3⟩ := r1.owAt g1
    rw [g2] at j1; cases j1
    exact j3.noFix
  have outOw0 : ∀ {a : Addr} {p j : Nat}, ¬ Lost a → vs[p]? = some (AV.rf j) → xs[p]? = some (.ref a) → ∃ d, outs[p]? = some (.ow d) ∧ W'.ow a = some p ∧ RT B W'.N W'.H a d := fun {a p j} nl k0 k1 => by
    have hlt : p < outs.length := by rw [louts]; exact (List.getElem?_eq_some_iff.mp k0).1
    have ho : outs[p]? = some outs[p] := List.getElem?_eq_getElem hlt
    generalize outs[p] = o at ho
    have : ∃ d', o = .ow d' := by
      apply Classical.byContradiction
      intro hc
      exact nl ⟨p, j, k0, k1, fun d' hd => by rw [ho] at hd; cases hd; exact hc ⟨d', rfl⟩⟩
    obtain ⟨d', rfl⟩ := this
    obtain ⟨b, eb, q1, q2⟩ := outAt k1 ho (fun z => nomatch z)
    cases eb
    exact ⟨d', ho, q1, q2⟩
  have lostC : ∀ {c : Addr} {oc : Obj} {u : HO}, W'.H c = some (.frz oc u) → NoTab (W1.H c) → ¬ Lost c → W1.ow c = none := fun {c oc u} hc nt nl => by
    cases ho : W1.ow c with
    | none => rfl
    | some i =>
      exfalso
      have own := r1.oin c i ho
      cases hz : Wc.ow c with
      | none =>
        cases hh : W1.H c with
        | none => rw [hh] at own; exact own
        | some o => have := stay hh hz; rw [hc] at this; cases this; rw [hh] at own; exact own
      | some p =>
        obtain ⟨d, k1, k2⟩ := aow nt hz
        rcases arg_ow r1 rs hss k1 k2 with ⟨_, _, z, _⟩ | ⟨j, k0, _, _, z, _⟩
        · rw [ho] at z; cases z
        · obtain ⟨d', _, _, t⟩ := outOw0 nl k0 k1
          exact t.noFix.2 _ _ hc
  classical
  have un2 : ∀ {a : Addr}, W.H a ≠ none → W.ow a = none → selT (W1.H a) (W'.ow a) (if Lost a then none else W1.ow a) = none := fun {a} h2 h3 => by
    rcases tab_or (W1.H a) with ⟨ps, ht⟩ | nt
    · rw [selT_tab ht]; exact st.un a (s1.th a h2) (notArg h2 h3)
    · rw [selT_no nt, s1.un a h2 h3]; split <;> rfl
  have tab2 : ∀ {N : Addr → Prop} P q, TabW W P q → TabW ⟨N, fun a => selT (W1.H a) (W'.ow a) (if Lost a then none else W1.ow a), W'.H⟩ P q := fun {N} P q t => by
    obtain ⟨_, ps1, e1, _⟩ := s1.tb P q t
    obtain ⟨k0, ps, k1, k2, k3⟩ := tabC P q t
    refine ⟨⟨(selT_tab e1).trans k0.1, k0.2⟩, ps, k1, k2, fun pos cv e => ?_⟩
    obtain ⟨c, oc, ws, tk, j1, j2, j3, j4⟩ := k3 pos cv e
    refine ⟨c, oc, ws, tk, j1, j2, ?_, j4⟩
    show selT (W1.H c) (W'.ow c) (if Lost c then none else W1.ow c) = none
    rcases tab_or (W1.H c) with ⟨ps, ht⟩ | nt
    · rw [selT_tab ht]; exact j3
    · rw [selT_no nt]
      by_cases hl : Lost c
      · rw [if_pos hl]
      · rw [if_neg hl]; exact lostC j2 nt hl
  by_cases hb : hasBo vs = true
  · obtain ⟨ps, po⟩ := hbo hb
    let W2 : Wd := ⟨W1.N, fun a => selT (W1.H a) (W'.ow a) (if Lost a then none else W1.ow a), W'.H⟩
    have ow2 : ∀ {a : Addr} {i : Nat}, NoTab (W1.H a) → W2.ow a = some i → ¬ Lost a ∧ W1.ow a = some i := fun {a i} nt h => by
      have h' : selT (W1.H a) (W'.ow a) (if Lost a then none else W1.ow a) = some i := h
      rw [selT_no nt] at h'
      split at h'
      · cases h'
      · rename_i hl; exact ⟨hl, h'⟩
    have ex2 : Ext W1.N W1.H W1.N W'.H := ⟨fun _ h => h, fun a o h q => exc.k a o (.inl h) q, exc.t, exc.f⟩
    refine q v W2 ⟨s1.nN, fun a o h2 h3 => stay (s1.fr a o h2 h3) (notArg (by rw [h2]; simp) h3), fun a h2 => st.th a (s1.th a h2), fun a h2 h3 => un2 h2 h3, s1.nn, tab2⟩ ⟨?_, fun j s' hj hn => ?_, fun a i h z => ?_, fun a h => st.th a (r1.nin a h), fun a i h => ?_, fun P q k => tab2 P q (r.tb P q k)⟩ ⟨rv.1, ?_⟩
    · rw [putBack_len]; exact r1.len
    · have hg := gt_get hj
      by_cases hr : ∃ p : Nat, vs[p]? = some (AV.rf j)
      · obtain ⟨p, hp⟩ := hr
        obtain ⟨a, d, g1, g2, g3, g4, g5⟩ := rfAt hp
        have hlt : p < outs.length := by rw [louts]; exact (List.getElem?_eq_some_iff.mp hp).1
        have ho : outs[p]? = some outs[p] := List.getElem?_eq_getElem hlt
        generalize outs[p] = o at ho
        have hjl : j < env1.length := gt_lt (by rw [g1]; exact fun z => nomatch z)
        have := putBack_at (e := env1) hok hp ho hjl
        rw [this] at hg
        subst hg
        refine ⟨.ref a, g2, ?_⟩
        have ra := outAt g3 ho hn
        have pr := pureOuts_at po hp ho
        cases o with
        | no => exact absurd rfl hn
        | ob _ _ => exact ra.elim
        | fn _ => exact ra
        | sh d' => exact pure_rp _ (by simpa [pureSl] using pr) ra
        | ow d' =>
          obtain ⟨b, eb, q1, q2⟩ := ra
          cases eb
          refine ⟨a, rfl, ?_, pure_rt pr q2⟩
          show selT (W1.H a) (W'.ow a) (if Lost a then none else W1.ow a) = some j
          rw [selT_no (rfNo hp g3).1, if_neg, g4]
          rintro ⟨p', i', l1, l2, l3⟩
          obtain ⟨_, _, _, _, m3, m4, m5⟩ := rfAt l1
          rw [l2] at m3; cases m3
          rw [g5] at m5; cases m5
          exact l3 d' ho
      · have hr' : ∀ p : Nat, vs[p]? ≠ some (AV.rf j) := fun p z => hr ⟨p, z⟩
        rw [putBack_keep fun b hb z => by subst z; obtain ⟨p, hp⟩ := List.getElem?_of_mem hb; exact hr' p hp] at hg
        have hn1 : gt env1 j ≠ .no := by rw [hg]; exact hn
        obtain ⟨x, k1, k2⟩ := r1.slot j s' (by rw [gt_some hn1, hg]) hn
        refine ⟨x, k1, RSl.ext2 ex2 (fun a o h2 h3 nf => ⟨stay h3 (nrf (d := .none) nf.1 hr' h2), ?_⟩) k2⟩
        show selT (W1.H a) (W'.ow a) (if Lost a then none else W1.ow a) = some j
        rw [selT_no nf.1, if_neg, h2]
        rintro ⟨p', i', l1, l2, l3⟩
        obtain ⟨_, _, _, _, m3, m4, m5⟩ := rfAt l1
        rw [l2] at m3; cases m3
        rw [show W1.ow a = some j from h2] at m4; cases m4
        exact hr' p' l1
    · rcases tab_or (W1.H a) with ⟨ps, ht⟩ | nt
      · have h : selT (W1.H a) (W'.ow a) (if Lost a then none else W1.ow a) = some i := h
        rw [selT_tab ht] at h
        exact re.apart a i h (st.nN a (.inl z))
      exact r1.apart a i (ow2 nt h).2 z
    · rcases tab_or (W1.H a) with ⟨ps, ht⟩ | nt
      · have h : selT (W1.H a) (W'.ow a) (if Lost a then none else W1.ow a) = some i := h
        rw [selT_tab ht] at h
        exact re.oin a i h
      obtain ⟨nl, h2⟩ := ow2 nt h
      have := r1.oin a i h2
      show Own (W'.H a)
      cases hz : Wc.ow a with
      | none =>
        cases ho : W1.H a with
        | none => rw [ho] at this; exact this.elim
        | some o => rw [ho] at this; rw [stay ho hz]; exact this
      | some p =>
        obtain ⟨d, k1, k2⟩ := aow nt hz
        rcases arg_ow r1 rs hss k1 k2 with ⟨_, _, z, _⟩ | ⟨j, k0, _, _, z, _⟩
        · rw [h2] at z; cases z
        · have hlt : p < outs.length := by rw [louts]; exact (List.getElem?_eq_some_iff.mp k0).1
          have ho : outs[p]? = some outs[p] := List.getElem?_eq_getElem hlt
          generalize outs[p] = o at ho
          have : ∃ d', o = .ow d' := by
            apply Classical.byContradiction
            intro hc
            exact nl ⟨p, j, k0, k1, fun d' hd => by rw [ho] at hd; cases hd; exact hc ⟨d', rfl⟩⟩
          obtain ⟨d', rfl⟩ := this
          obtain ⟨b, eb, q1, q2⟩ := outAt k1 ho (fun z => nomatch z)
          cases eb
          obtain ⟨ob, hob, w⟩ := q2.there
          rw [hob]; exact w
    · have h2 := rv.2
      cases s with
      | no => trivial
      | ob _ _ => exact h2
      | fn _ => exact h2
      | sh d => exact pure_rp _ (by simpa [pureSl] using ps) h2
      | ow d =>
        obtain ⟨a, rfl, ⟨q1, q2, q3, q4⟩, t⟩ := h2
        have hf := r1.free (show W1.H a = none from q1)
        exact ⟨a, rfl, ⟨s1.none q1, by show selT (W1.H a) (W'.ow a) (if Lost a then none else W1.ow a) = none; rw [selT_no (fun ps e => by rw [q1] at e; cases e), hf.1]; split <;> rfl, hf.2, q4⟩, pure_rt ps t⟩
  · have nb : ∀ a, ¬ Bor a := fun a ⟨i, d, p, h2, _⟩ => hb (hasBo_mem h2)
    let W2 : Wd := ⟨W'.N, fun a => selT (W1.H a) (W'.ow a) (if Lost a then none else W1.ow a), W'.H⟩
    have ow2 : ∀ {a : Addr} {i : Nat}, NoTab (W1.H a) → W2.ow a = some i → ¬ Lost a ∧ W1.ow a = some i := fun {a i} nt h => by
      have h' : selT (W1.H a) (W'.ow a) (if Lost a then none else W1.ow a) = some i := h
      rw [selT_no nt] at h'
      split at h'
      · cases h'
      · rename_i hl; exact ⟨hl, h'⟩
    have ex2 : Ext W1.N W1.H W'.N W'.H := ⟨fun a h => exc.n a (.inl h), fun a o h q => exc.k a o (.inl h) q, exc.t, exc.f⟩
    have outOw : ∀ {a : Addr} {p j : Nat}, ¬ Lost a → vs[p]? = some (AV.rf j) → xs[p]? = some (.ref a) → ∃ d, outs[p]? = some (.ow d) ∧ W'.ow a = some p ∧ RT B W'.N W'.H a d := fun {a p j} nl k0 k1 => by
      have hlt : p < outs.length := by rw [louts]; exact (List.getElem?_eq_some_iff.mp k0).1
      have ho : outs[p]? = some outs[p] := List.getElem?_eq_getElem hlt
      generalize outs[p] = o at ho
      have : ∃ d', o = .ow d' := by
        apply Classical.byContradiction
        intro hc
        exact nl ⟨p, j, k0, k1, fun d' hd => by rw [ho] at hd; cases hd; exact hc ⟨d', rfl⟩⟩
      obtain ⟨d', rfl⟩ := this
      obtain ⟨b, eb, q1, q2⟩ := outAt k1 ho (fun z => nomatch z)
      cases eb
      exact ⟨d', ho, q1, q2⟩
    refine q v W2 ⟨fun a h => ex2.n a (s1.nN a h), fun a o h2 h3 => stay (s1.fr a o h2 h3) (notArg (by rw [h2]; simp) h3), fun a h2 => st.th a (s1.th a h2), fun a h2 h3 => un2 h2 h3, fun a h2 h3 h4 => ?_, tab2⟩ ⟨?_, fun j s' hj hn => ?_, fun a i h => ?_, fun a h => re.nin a h, fun a i h => ?_, fun P q k => tab2 P q (r.tb P q k)⟩ ⟨rv.1, ?_⟩
    · rcases newN (s1.th a h2) (notArg h2 h3) h4 with z | z
      · exact s1.nn a h2 h3 z
      · exact (nb a z).elim
    · rw [putBack_len]; exact r1.len
    · have hg := gt_get hj
      by_cases hr : ∃ p : Nat, vs[p]? = some (AV.rf j)
      · obtain ⟨p, hp⟩ := hr
        obtain ⟨a, d, g1, g2, g3, g4, g5⟩ := rfAt hp
        have hlt : p < outs.length := by rw [louts]; exact (List.getElem?_eq_some_iff.mp hp).1
        have ho : outs[p]? = some outs[p] := List.getElem?_eq_getElem hlt
        generalize outs[p] = o at ho
        have hjl : j < env1.length := gt_lt (by rw [g1]; exact fun z => nomatch z)
        have := putBack_at (e := env1) hok hp ho hjl
        rw [this] at hg
        subst hg
        refine ⟨.ref a, g2, ?_⟩
        have ra := outAt g3 ho hn
        cases o with
        | no => exact absurd rfl hn
        | ob _ _ => exact ra.elim
        | fn _ => exact ra
        | sh d' => exact ra
        | ow d' =>
          obtain ⟨b, eb, q1, q2⟩ := ra
          cases eb
          refine ⟨a, rfl, ?_, q2⟩
          show selT (W1.H a) (W'.ow a) (if Lost a then none else W1.ow a) = some j
          rw [selT_no (rfNo hp g3).1, if_neg, g4]
          rintro ⟨p', i', l1, l2, l3⟩
          obtain ⟨_, _, _, _, m3, m4, m5⟩ := rfAt l1
          rw [l2] at m3; cases m3
          rw [g5] at m5; cases m5
          exact l3 d' ho
      · have hr' : ∀ p : Nat, vs[p]? ≠ some (AV.rf j) := fun p z => hr ⟨p, z⟩
        rw [putBack_keep fun b hb z => by subst z; obtain ⟨p, hp⟩ := List.getElem?_of_mem hb; exact hr' p hp] at hg
        have hn1 : gt env1 j ≠ .no := by rw [hg]; exact hn
        obtain ⟨x, k1, k2⟩ := r1.slot j s' (by rw [gt_some hn1, hg]) hn
        refine ⟨x, k1, RSl.ext2 ex2 (fun a o h2 h3 nf => ⟨stay h3 (nrf (d := .none) nf.1 hr' h2), ?_⟩) k2⟩
        show selT (W1.H a) (W'.ow a) (if Lost a then none else W1.ow a) = some j
        rw [selT_no nf.1, if_neg, h2]
        rintro ⟨p', i', l1, l2, l3⟩
        obtain ⟨_, _, _, _, m3, m4, m5⟩ := rfAt l1
        rw [l2] at m3; cases m3
        rw [show W1.ow a = some j from h2] at m4; cases m4
        exact hr' p' l1
    · rcases tab_or (W1.H a) with ⟨ps, ht⟩ | nt
      · have h : selT (W1.H a) (W'.ow a) (if Lost a then none else W1.ow a) = some i := h
        rw [selT_tab ht] at h
        exact re.apart a i h
      obtain ⟨nl, h2⟩ := ow2 nt h
      cases hz : Wc.ow a with
      | none =>
        intro z
        rcases newN (thereOw h2) hz z with z | z
        · exact ownedN h2 z
        · exact nb a z
      | some p =>
        obtain ⟨d, k1, k2⟩ := aow nt hz
        rcases arg_ow r1 rs hss k1 k2 with ⟨_, _, z, _⟩ | ⟨j, k0, _, _, z, _⟩
        · rw [h2] at z; cases z
        · obtain ⟨d', _, q1, _⟩ := outOw nl k0 k1
          exact re.apart a p q1
    · rcases tab_or (W1.H a) with ⟨ps, ht⟩ | nt
      · have h : selT (W1.H a) (W'.ow a) (if Lost a then none else W1.ow a) = some i := h
        rw [selT_tab ht] at h
        exact re.oin a i h
      obtain ⟨nl, h2⟩ := ow2 nt h
      have := r1.oin a i h2
      show Own (W'.H a)
      cases hz : Wc.ow a with
      | none =>
        cases ho : W1.H a with
        | none => rw [ho] at this; exact this.elim
        | some o => rw [ho] at this; rw [stay ho hz]; exact this
      | some p =>
        obtain ⟨d, k1, k2⟩ := aow nt hz
        rcases arg_ow r1 rs hss k1 k2 with ⟨_, _, z, _⟩ | ⟨j, k0, _, _, z, _⟩
        · rw [h2] at z; cases z
        · obtain ⟨d', _, _, q2⟩ := outOw nl k0 k1
          obtain ⟨ob, hob, w⟩ := q2.there
          rw [hob]; exact w
    · have h2 := rv.2
      cases s with
      | no => trivial
      | ob _ _ => exact h2
      | fn _ => exact h2
      | sh d => exact h2
      | ow d =>
        obtain ⟨a, rfl, ⟨q1, q2, q3, q4⟩, t⟩ := h2
        have hf := r1.free (show W1.H a = none from q1)
        exact ⟨a, rfl, ⟨s1.none q1, by show selT (W1.H a) (W'.ow a) (if Lost a then none else W1.ow a) = none; rw [selT_no (fun ps e => by rw [q1] at e; cases e), hf.1]; split <;> rfl, q3, q4⟩, t⟩
end
end C
end
section
set_option Elab.async false
set_option linter.all false
set_option maxRecDepth 100000
set_option maxHeartbeats 1000000
/-! A check that a text says what a term of the core language says; what stands behind the check. -/
namespace C
open PySem PySem.Spec L2
variable [Lams]

mutual
def eqD : PyData → PyData → Bool
  | .none, .none => true
  | .bool a, .bool b => a == b
  | .int a, .int b => a == b
  | .str a, .str b => decide (a = b)
  | .list a, .list b => eqDs a b
  | .tuple a, .tuple b => eqDs a b
  | .dict a, .dict b => eqKs a b
  | _, _ => false
def eqDs : List PyData → List PyData → Bool
  | [], [] => true
  | a :: as, b :: bs => eqD a b && eqDs as bs
  | _, _ => false
def eqKs : List (PyData × PyData) → List (PyData × PyData) → Bool
  | [], [] => true
  | (k, v) :: as, (k', v') :: bs => eqD k k' && (eqD v v' && eqKs as bs)
  | _, _ => false
end
mutual
theorem eqD_eq : ∀ {a b : PyData}, eqD a b = true → a = b
  | .none, b, h => by cases b <;> simp [eqD] at h <;> rfl
  | .bool x, b, h => by cases b <;> simp [eqD] at h; rw [h]
  | .int x, b, h => by cases b <;> simp [eqD] at h; rw [h]
  | .str x, b, h => by cases b <;> simp [eqD] at h; rw [h]
  | .list x, b, h => by cases b <;> simp [eqD] at h; rw [eqDs_eq h]
  | .tuple x, b, h => by cases b <;> simp [eqD] at h; rw [eqDs_eq h]
  | .dict x, b, h => by cases b <;> simp [eqD] at h; rw [eqKs_eq h]
theorem eqDs_eq : ∀ {a b : List PyData}, eqDs a b = true → a = b
  | [], [], _ => rfl
  | [], _ :: _, h => by simp [eqDs] at h
  | _ :: _, [], h => by simp [eqDs] at h
  | a :: as, b :: bs, h => by
    simp only [eqDs, Bool.and_eq_true] at h
    rw [eqD_eq h.1, eqDs_eq h.2]
theorem eqKs_eq : ∀ {a b : List (PyData × PyData)}, eqKs a b = true → a = b
  | [], [], _ => rfl
  | [], _ :: _, h => by simp [eqKs] at h
  | _ :: _, [], h => by simp [eqKs] at h
  | (k, v) :: as, (k', v') :: bs, h => by
    simp only [eqKs, Bool.and_eq_true] at h
    rw [eqD_eq h.1, eqD_eq h.2.1, eqKs_eq h.2.2]
end

/-- what the module's names stand for -/
structure GT where
  free : List Str
  defs : List (Str × Nat)
  consts : List (Str × PyData)
/-- a scope: the slots' names, the scope, the block's own scope -/
structure SX where
  N : List Str
  sc : Scope
  bl : Option Scope
  G : GT
  lam : Bool := false
def SX.blk (S : SX) (scope : Scope) : SX := { S with sc := relS scope S.sc, bl := some scope, lam := false }
def SX.kd (S : SX) (x : Str) : Option NameKind := S.sc.names.lookup x
def visB (S : SX) (i : Nat) (x : Str) : Bool := decide (S.N[i]? = some x) && ((match S.kd x with
  | some .local => true
  | some .cell => true
  | some .free => true
  | _ => false) && (!(x == ("__debug__" : Str)) && !(x == ("__classdict__" : Str))))
def locB (S : SX) (i : Nat) (x : Str) : Bool := decide (S.N[i]? = some x) && match S.kd x with
  | some .local => true
  | some .cell => match S.bl with
    | none => true
    | some scope => decide (scope.names.lookup x = some .cell)
  | _ => false
def gloB (S : SX) (x : Str) : Bool := decide (S.kd x = some .globalImplicit) && !(x == ("__debug__" : Str))
def freeB (S : SX) (x nm : Str) : Bool := decide (x = nm) && (gloB S x && S.G.free.contains x)
def plainX : Expr → Bool
  | .Starred .. => false
  | .Set .. => false
  | .Slice .. => false
  | _ => true
def genB : Expr → Bool
  | .BoolOp .. => false
  | .IfExp .. => false
  | .Compare .. => false
  | .UnaryOp .Not _ _ => false
  | _ => true
def boolB : Expr → Bool
  | .BoolOp .. => true
  | _ => false
def compB : Expr → Bool
  | .ListComp .. => true
  | .SetComp .. => true
  | .DictComp .. => true
  | _ => false
def isTup : Expr → Bool
  | .Tuple .. => true
  | _ => false
def cmpOf : Pr → Option CmpOp
  | .eq => some .Eq
  | .ne => some .NotEq
  | .lt => some .Lt
  | .le => some .LtE
  | .gt => some .Gt
  | .ge => some .GtE
  | .isin => some .In
  | .notin => some .NotIn
  | _ => none
def binOf : Pr → Option Operator
  | .add => some .Add
  | .sub => some .Sub
  | .mul => some .Mult
  | .mod => some .Mod
  | .fdiv => some .FloorDiv
  | .pow => some .Pow
  | _ => none
/-- a built-in's name, whether it is a type, its id -/
def bltOf : Pr → Option (Str × Bool × String)
  | .len => some ("len", false, "len")
  | .tuple => some ("tuple", true, "tuple")
  | .list => some ("list", true, "list")
  | .sorted => some ("sorted", false, "sorted")
  | .sum => some ("sum", false, "sum")
  | .any => some ("any", false, "any")
  | .all => some ("all", false, "all")
  | .max1 => some ("max", false, "max")
  | .min1 => some ("min", false, "min")
  | .max2 => some ("max", false, "max")
  | .min2 => some ("min", false, "min")
  | .int => some ("int", true, "int")
  | .abs => some ("abs", false, "abs")
  | .repr => some ("repr", false, "repr")
  | .dictOf => some ("dict", true, "dict")
  | _ => none
def isiTy (t : String) (x : Str) : Bool := (decide (t = "int") && decide (x = ("int" : Str))) || ((decide (t = "bool") && decide (x = ("bool" : Str))) || ((decide (t = "str") && decide (x = ("str" : Str))) || (decide (t = "tuple") && decide (x = ("tuple" : Str)))))
def ckK (S : SX) (d : PyData) : Expr → Bool
  | .Constant (.int i) _ _ => eqD d (.int i)
  | .Constant (.bool b) _ _ => eqD d (.bool b)
  | .Constant .none _ _ => eqD d .none
  | .Constant (.str x) _ _ => eqD d (.str x)
  | .Name x _ => gloB S x && S.G.consts.any fun p => decide (p.1 = x) && eqD p.2 d
  | _ => false
/-- one operand -/
def isEA : CA → Bool
  | .e _ => true
  | _ => false
def ck1 (S : SX) (p : Pr) (ie : Bool) (fa : Expr → Bool) : Expr → Bool
  | .UnaryOp .USub ea _ => decide (p = .neg) && fa ea
  | .UnaryOp .Not ea _ => decide (p = .not) && (ie && fa ea)
  | .Subscript ea (.Slice none none (some (.UnaryOp .USub (.Constant (.int 1) _ _) _)) _) _ => decide (p = .rev) && fa ea
  | .Compare ea [.Is] [.Constant .none _ _] _ => decide (p = .isN) && fa ea
  | .Compare ea [.IsNot] [.Constant .none _ _] _ => decide (p = .notN) && fa ea
  | .Compare ea [.Is] [.Constant (.bool b) _ _] _ => decide (p = .isB b) && fa ea
  | .Compare ea [.IsNot] [.Constant (.bool b) _ _] _ => decide (p = .notB b) && fa ea
  | .Call (.Name x _) [ea, .Name y _] [] _ => match p with
    | .isi t => freeB S x "isinstance" && (isiTy t y && (gloB S y && (S.G.free.contains y && (plainX ea && fa ea))))
    | _ => false
  | _ => false
def ck2 (S : SX) (p : Pr) (fa fb : Expr → Bool) : Expr → Bool
  | .BinOp ea op eb _ => decide (binOf p = some op) && (fa ea && fb eb)
  | .Compare ea [op] [eb] _ => decide (cmpOf p = some op) && (plainX eb && (fa ea && fb eb))
  | .Subscript ea (.Slice (some eb) none none _) _ => decide (p = .sliceFrom) && (fa ea && fb eb)
  | .Subscript ea (.Slice none (some eb) none _) _ => decide (p = .sliceTo) && (fa ea && fb eb)
  | .Subscript ea eb _ => decide (p = .item) && (plainX eb && (fa ea && fb eb))
  | _ => false
mutual
def ckP (S : SX) : Pat → Expr → Bool
  | .v i, .Name x _ => locB S i x
  | .t ps, .Tuple es _ _ => ckPs S ps es
  | _, _ => false
def ckPs (S : SX) : List Pat → List Expr → Bool
  | [], [] => true
  | p :: ps, e :: es => ckP S p e && ckPs S ps es
  | _, _ => false
end
def ownP (S : SX) (own : List Nat) : List (Str × Nat) := own.map fun i => (S.N.getD i "", i)
def muName : Mu → Option (Str × String)
  | .append => some ("append", "list.append")
  | .extend => some ("extend", "list.extend")
  | .insert => some ("insert", "list.insert")
  | .popLast => some ("pop", "list.pop")
  | _ => none
def muAr : Mu → Nat
  | .insert => 2
  | .popLast => 0
  | _ => 1
def casLen : CAs → Nat
  | .nil => 0
  | .cons _ as => casLen as + 1
/-- all parts are expressions -/
def madeB : CAs → Bool
  | .nil => true
  | .cons (.e _) as => madeB as
  | _ => false
def kgB (sc : Scope) (free : List Str) (y nm : Str) : Bool := decide (y = nm) && (decide (sc.names.lookup y = some .globalImplicit) && free.contains y)
def ckX (sc : Scope) (free : List Str) (v : Str) : KX → Expr → Bool
  | .x, e => match e with
    | .Name y _ => decide (y = v) && (decide (sc.names.lookup v = some .local) && !(v == ("__debug__" : Str)))
    | _ => false
  | .len k, e => match e with
    | .Call (.Name y _) [e1] [] _ => kgB sc free y "len" && (plainX e1 && ckX sc free v k e1)
    | _ => false
  | .pair a b, e => match e with
    | .Tuple [x, y] _ _ => (plainX x && ckX sc free v a x) && (plainX y && ckX sc free v b y)
    | _ => false
  | _, _ => false
/-- the lambda's scope: its parameter is its own, nothing is captured -/
def ckL (sc : Scope) (v : Str) : Bool := decide (sc.kind = .function) && (!sc.isCoroutine && (!sc.isGenerator && (sc.names.all (fun y => !decide (y.2 = .cell) && !decide (y.2 = .free)) && decide (sc.names.lookup v = some .local))))
/-- one parameter -/
def lamV (params : Arguments) : Option Str := match params with
  | ⟨[], [⟨v, none, _⟩], none, [], [], none, []⟩ => some v
  | _ => none
def ckSk (S : SX) (key : KX) (fa : Expr → Bool) : Expr → Bool
  | .Call (.Name x _) [ea] [⟨some nm, .Lambda params body scope _, _⟩] _ => match lamV params with
    | some v => freeB S x "sorted" && (decide (nm = "key") && (plainX ea && (S.lam && (ckL scope v && (ckX scope S.G.free v key body && fa ea)))))
    | none => false
  | _ => false
/-- sorted(set(x)) -/
def ckSS (S : SX) (p : Pr) (fa : Expr → Bool) : Expr → Bool
  | .Call (.Name x _) [.Call (.Name y _) [ea] [] _] [] _ => decide (p = .sortedSet) && (freeB S x "sorted" && (freeB S y "set" && (plainX ea && fa ea)))
  | _ => false
mutual
def ckE : SX → CE → Expr → Bool
  | S, .k d, e => ckK S d e
  | S, .v i, e => match e with
    | .Name x _ => visB S i x
    | _ => false
  | S, .fld _ _, _ => false
  | S, .pr p as, e => (match e with
    | .Tuple es _ _ => decide (p = .tup) && (decide (casLen as ≤ 1000) && (madeB as && ckAs S as es))
    | .List es _ => decide (p = .lst) && (decide (casLen as ≤ 1000) && (madeB as && ckAs S as es))
    | .Dict [] [] _ => decide (p = .nil) && ckAs S as []
    | .Call (.Name x _) (ea :: es) [] _ => match bltOf p with
      | some (nm, _, _) => freeB S x nm && ckAs S as (ea :: es)
      | none => false
    | _ => false) || match as with
      | .cons a .nil => ck1 S p (isEA a) (ckA S a) e || ckSS S p (ckA S a) e
      | .cons a (.cons b .nil) => ck2 S p (ckA S a) (ckA S b) e
      | _ => false
  | S, .ite c a b, e => match e with
    | .IfExp ec ea eb _ => ckE S c ec && (ckE S a ea && ckE S b eb)
    | _ => false
  | S, .and a b, e => match e with
    | .BoolOp .And (ea :: eb :: es) pos => ckE S a ea && ckE S b (if es.isEmpty then eb else .BoolOp .And (eb :: es) pos)
    | _ => false
  | S, .or a b, e => match e with
    | .BoolOp .Or (ea :: eb :: es) pos => ckE S a ea && ckE S b (if es.isEmpty then eb else .BoolOp .Or (eb :: es) pos)
    | _ => false
  | S, .chain p q a b c, e => match e with
    | .Compare ea [op, op'] [eb, ec] _ => decide (cmpOf p = some op) && (decide (cmpOf q = some op') && (plainX ec && (ckE S a ea && (ckE S b eb && ckE S c ec))))
    | _ => false
  | S, .call f as, e => match e with
    | .Call (.Name x _) es [] _ => gloB S x && (S.G.defs.any (fun p => decide (p.1 = x) && decide (p.2 = f)) && ckAs S as es)
    | _ => false
  | S, .lc own (.mk p it ifs) elt, e => match e with
    | .ListComp eelt [⟨tg, iter, eifs, a⟩] scope _ => decide (a = 0) && (blkC S.N S.sc scope (ownP S own) && (ckI S it tg iter && (plainX iter && (ckP (S.blk scope) p tg && (ckT (S.blk scope) ifs eifs && (ckE (S.blk scope) elt eelt &&
        ((slotsP p).all (own.contains ·) && (bosI it).all fun i => !own.contains i && (stT i ifs && stE i elt))))))))
    | _ => false
  | S, .lc2 _ _ _ _, _ => false
  | S, .dc own (.mk p it ifs) key val, e => match e with
    | .DictComp ek ev [⟨tg, iter, eifs, a⟩] scope _ => decide (a = 0) && (blkC S.N S.sc scope (ownP S own) && (ckI S it tg iter && (plainX iter && (ckP (S.blk scope) p tg && (ckT (S.blk scope) ifs eifs && (ckE (S.blk scope) key ek && (ckE (S.blk scope) val ev &&
        ((slotsP p).all (own.contains ·) && (bosI it).all fun i => !own.contains i && (stT i ifs && (stE i key && stE i val))))))))))
    | _ => false
  | S, .mu i m as, e => match e with
    | .Call (.Attribute (.Name x _) name apos) es [] cpos => visB S i x && (decide ((muName m).map (·.1) = some name) && ((apos.endLine == cpos.line) && (decide (es.length = muAr m) && ckAs S as es)))
    | _ => false
  | S, .muf _ _ _ _, _ => false
  | S, .sk xs key, e => ckSk S key (ckA S xs) e
  | S, .fv n, e => match e with
    | .Name x _ => gloB S x && S.G.defs.any (fun p => decide (p.1 = x) && decide (p.2 = n))
    | _ => false
  | S, .tst a as, e => match e with
    | .Tuple (.Starred ea _ :: es) _ _ => decide (casLen as ≤ 1000) && (madeB as && (ckE S a ea && ckAs S as es))
    | _ => false
  | S, .callv i as, e => match e with
    | .Call (.Name x _) (e1 :: es) [] _ => visB S i x && ckAs S as (e1 :: es)
    | _ => false
def ckA : SX → CA → Expr → Bool
  | S, .e c, e => ckE S c e
  | S, .bo i, e => match e with
    | .Name x _ => visB S i x
    | _ => false
  | S, .bf _ _, _ => false
  | S, .rf i, e => match e with
    | .Name x _ => visB S i x
    | _ => false
def ckAs : SX → CAs → List Expr → Bool
  | S, .nil, es => es.isEmpty
  | S, .cons a as, es => match es with
    | e :: es => plainX e && (ckA S a e && ckAs S as es)
    | [] => false
def ckI : SX → CI → Expr → Expr → Bool
  | S, .data a, tg, e => ckA S a e
  | S, .range1 a, tg, e => match e with
    | .Call (.Name x _) [ea] [] _ => freeB S x "range" && (plainX ea && ckE S a ea)
    | _ => false
  | S, .range2 a b, tg, e => match e with
    | .Call (.Name x _) [ea, eb] [] _ => freeB S x "range" && (plainX ea && (plainX eb && (ckE S a ea && ckE S b eb)))
    | _ => false
  | S, .range3 a b c, tg, e => match e with
    | .Call (.Name x _) [ea, eb, ec] [] _ => freeB S x "range" && (plainX ea && (plainX eb && (plainX ec && (ckE S a ea && (ckE S b eb && ckE S c ec)))))
    | _ => false
  | S, .zip a b, tg, e => match e with
    | .Call (.Name x _) [ea, eb] [] _ => isTup tg && (freeB S x "zip" && (plainX ea && (plainX eb && (ckA S a ea && ckA S b eb))))
    | _ => false
  | S, .enum (.data a), tg, e => match e with
    | .Call (.Name x _) [ea] [] _ => isTup tg && (freeB S x "enumerate" && (plainX ea && ckA S a ea))
    | _ => false
  | S, .enum _, _, _ => false
def ckT : SX → CT → List Expr → Bool
  | S, .nil, es => es.isEmpty
  | S, .cons c .nil, es => match es with
    | [e] => ckE S c e
    | _ => false
  | S, .cons _ _, _ => false
end
end C
end
section
set_option Elab.async false
set_option linter.all false
set_option maxRecDepth 100000
set_option maxHeartbeats 1000000
/-! dict(pairs). -/
namespace C
open PySem PySem.Spec L2
variable [Lams]
section
variable {X : Cx} {pins : List (Addr × Obj)} {s : Shared} {σ : L2.St} {H : L2.Hp} {N : Addr → Prop}
theorem paired_left {α β : Type} {G : α → β → Prop} {l₁ : List α} {l₂ : List β} (h : Paired G l₁ l₂) : ∀ {i : Nat} {a : α}, l₁[i]? = some a → ∃ b, l₂[i]? = some b ∧ G a b := by
  induction h with
  | nil => intro i a e; simp at e
  | cons r t ih =>
    intro i a e
    cases i with
    | zero => simp at e; subst e; exact ⟨_, rfl, r⟩
    | succ i => exact ih (by simpa using e)
/-- one pair as it stands -/
theorem pair_at (I : Inv X pins σ H s) {v : V} {k d : D} (r : Rp (bsOf X) N H v (.tuple [k, d])) : ∃ T x y, v = .ref T ∧ SqT X.K H T [x, y] ∧ Rp (bsOf X) N H x k ∧ Rp (bsOf X) N H y d := by
  obtain ⟨a, xs, rfl, h, r⟩ := (RA.tuple (.inl r) : ∃ a xs, v = .ref a ∧ SqT (bsOf X).K H a xs ∧ RpA (bsOf X) N H xs [k, d])
  cases r with | cons r1 r => cases r with | cons r2 r => cases r; exact ⟨_, _, _, rfl, h, r1, r2⟩
theorem key_flat {B : Bs} {x : V} {k : D} (h : isStrD k = true ∨ isIntD k = true) (r : Rp B N H x k) : ∃ key : Key, x = kV key ∧ keyD key = k := by
  cases k with
  | int z => exact ⟨.inl z, (RA.int (.inl r)), rfl⟩
  | str z => exact ⟨.inr z, (RA.str (.inl r)), rfl⟩
  | _ => simp [isStrD, isIntD] at h
theorem flat_pairs (I : Inv X pins σ H s) : ∀ {ds : List D} {vs : List V} {kvs : List (D × D)}, RpA (bsOf X) N H vs ds → pairsOf ds = some kvs → (∀ p ∈ kvs, isStrD p.1 = true ∨ isIntD p.1 = true) →
    ∃ (ps : List Addr) (kl : List (Key × V)), vs = ps.map V.ref ∧ Paired (fun p kv => SqT X.K H p [kV kv.1, kv.2]) ps kl ∧ Paired (fun kv p => keyD kv.1 = p.1 ∧ Rp (bsOf X) N H kv.2 p.2) kl kvs
  | [], vs, kvs, r, h, _ => by
    simp only [pairsOf, Option.some.injEq] at h; subst h
    cases r
    exact ⟨[], [], rfl, .nil, .nil⟩
  | d :: ds, vs, kvs, r, h, hk => by
    unfold pairsOf at h
    split at h
    · rename_i z; cases z
    · rename_i k v rr z
      injection z with z1 z2; subst z1; subst z2
      cases e : pairsOf ds with
      | none => rw [e] at h; simp at h
      | some kvs' =>
        rw [e] at h; simp only [Option.map_some, Option.some.injEq] at h; subst h
        cases r with
        | cons r1 r =>
          obtain ⟨T, x, y, rfl, ht, rx, ry⟩ := pair_at I r1
          obtain ⟨key, rfl, e2⟩ := key_flat (hk _ List.mem_cons_self) rx
          obtain ⟨ps, kl, rfl, h1, h2⟩ := flat_pairs I r e fun p hp => hk p (List.mem_cons_of_mem _ hp)
          exact ⟨T :: ps, (key, y) :: kl, rfl, .cons ht h1, .cons ⟨e2, ry⟩ h2⟩
    · cases h
theorem flat_fold {B : Bs} : ∀ {kl : List (Key × V)} {kvs : List (D × D)} {acc : List (Key × V)} {ds : List (D × D)}, Paired (fun kv p => keyD kv.1 = p.1 ∧ Rp B N H kv.2 p.2) kl kvs →
    acc.map (fun p => keyD p.1) = ds.map (·.1) → RpA B N H (acc.map (·.2)) (ds.map (·.2)) →
    (mergeK acc kl).map (fun p => keyD p.1) = (kvs.foldl (fun acc p => dput acc p.1 p.2) ds).map (·.1) ∧ RpA B N H ((mergeK acc kl).map (·.2)) ((kvs.foldl (fun acc p => dput acc p.1 p.2) ds).map (·.2))
  | _, _, acc, ds, .nil, e, r => ⟨e, r⟩
  | _, _, acc, ds, .cons (a := kv) (b := p) ⟨h1, h2⟩ t, e, r => by
    obtain ⟨e2, r2⟩ := put_rel keyD eqv_key kv.1 h2 e r
    rw [h1] at e2 r2
    exact flat_fold (acc := putK acc kv.1 kv.2) (ds := dput ds p.1 p.2) t e2 r2

/-- a pair whose key is a tuple: the pair, the key's worth and place, the value -/
abbrev TP := Addr × NestedKey × Addr × V × Value
def TPok (X : Cx) (s : Shared) (N : Addr → Prop) (H : L2.Hp) (t : TP) (p : D × D) : Prop :=
  PairAt s.heap t.1 (.ref t.2.2.1) t.2.2.2.2 ∧ RelV t.2.2.2.1 t.2.2.2.2 ∧ (nestedKind X.prog X.w).is s.heap t.2.1 t.2.2.1 ∧ Rp (bsOf X) N H (.ref t.2.2.1) t.2.1.data ∧ t.2.1.data = p.1 ∧ Rp (bsOf X) N H t.2.2.2.1 p.2
theorem tup_pairs (I : Inv X pins σ H s) : ∀ {ds : List D} {vs : List V} {kvs : List (D × D)}, RpA (bsOf X) N H vs ds → pairsOf ds = some kvs → (∀ p ∈ kvs, tupKey p.1 = true) →
    ∃ ts : List TP, vs = ts.map (fun t => V.ref t.1) ∧ Paired (TPok X s N H) ts kvs
  | [], vs, kvs, r, h, _ => by
    simp only [pairsOf, Option.some.injEq] at h; subst h
    cases r
    exact ⟨[], rfl, .nil⟩
  | d :: ds, vs, kvs, r, h, hk => by
    unfold pairsOf at h
    split at h
    · rename_i z; cases z
    · rename_i k v rr z
      injection z with z1 z2; subst z1; subst z2
      cases e : pairsOf ds with
      | none => rw [e] at h; simp at h
      | some kvs' =>
        rw [e] at h; simp only [Option.map_some, Option.some.injEq] at h; subst h
        cases r with
        | cons r1 r =>
          obtain ⟨T, x, y, rfl, ht, rx, ry⟩ := pair_at I r1
          obtain ⟨ts, rfl, h2⟩ := tup_pairs I r e fun p hp => hk p (List.mem_cons_of_mem _ hp)
          have hk0 := hk _ List.mem_cons_self
          rcases key_kind (ds := []) I (.inl rx) (by unfold keyOk; simp only [hk0]; simp) with ⟨key, _, e3, _⟩ | ⟨c, nk, rfl, e3, is, rk, _⟩
          · simp only at hk0
            rw [e3, keyD_tup] at hk0; cases hk0
          · obtain ⟨its, rv, tp, _⟩ := I.tuple ht
            cases rv with
            | cons q1 rv => cases rv with
              | cons q2 rv =>
                rename_i u1 _ u2 _
                cases rv; cases q1
                exact ⟨(T, nk, c, y, u2) :: ts, rfl, .cons ⟨.inl tp, q2, is, rk, e3.symm, ry⟩ h2⟩
    · cases h
theorem tup_fold : ∀ {ts : List TP} {kvs : List (D × D)} {acc : List NEnt} {acH : List (NestedKey × Addr × Value)} {ds : List (D × D)}, Paired (TPok X s N H) ts kvs → Paired PN acc acH → acc.map (fun p => p.1.data) = ds.map (·.1) →
    RpA (bsOf X) N H (acc.map (·.2.2)) (ds.map (·.2)) → (∀ p ∈ acc, (nestedKind X.prog X.w).is s.heap p.1 p.2.1 ∧ Rp (bsOf X) N H (.ref p.2.1) p.1.data) →
    ∃ ac', Paired PN ac' (storedAllH acH (ts.map fun t => (t.2.1, t.2.2.1, t.2.2.2.2))) ∧ ac'.map (fun p => p.1.data) = (kvs.foldl (fun acc p => dput acc p.1 p.2) ds).map (·.1) ∧
      RpA (bsOf X) N H (ac'.map (·.2.2)) ((kvs.foldl (fun acc p => dput acc p.1 p.2) ds).map (·.2)) ∧ (∀ p ∈ ac', (nestedKind X.prog X.w).is s.heap p.1 p.2.1 ∧ Rp (bsOf X) N H (.ref p.2.1) p.1.data) ∧ ac'.length ≤ acc.length + ts.length ∧ ((acc ≠ [] ∨ ts ≠ []) → ac' ≠ [])
  | _, _, acc, acH, ds, .nil, pn, e, r, hP => ⟨acc, pn, e, r, hP, by simp, fun h => h.elim id fun h => absurd rfl h⟩
  | _, _, acc, acH, ds, .cons (a := t) (b := p) (l₁ := ts) (l₂ := kvs) ⟨h1, h2, h3, h4, h5, h6⟩ tl, pn, e, r, hP => by
    have hput := put_rel (B := bsOf X) (N := N) (H := H) NestedKey.data eqv_nkd t.2.1 h6 (kvs := acc.map fun p => (p.1, p.2.2)) (ds := ds) (by rw [List.map_map]; exact e) (by rw [List.map_map]; exact r)
    rw [← storedN_put acc t.2.1 t.2.2.1 t.2.2.2.1, List.map_map, List.map_map, h5] at hput
    obtain ⟨ac', a1, a2, a3, a4, a5, a6⟩ := tup_fold tl (storedN_rel pn t.2.1 t.2.2.1 h2) hput.1 hput.2 (storedN_keys (P := fun k b => (nestedKind X.prog X.w).is s.heap k b ∧ Rp (bsOf X) N H (.ref b) k.data) hP ⟨h3, h4⟩)
    refine ⟨ac', a1, a2, a3, a4, ?_, fun _ => a6 (.inl (storedN_ne _ _ _ _))⟩
    have := storedN_length acc t.2.1 t.2.2.1 t.2.2.2.1
    simp only [List.length_cons]
    omega
theorem p_dictOf (hu : X.A.units + 150 < cLine) (hc : X.calm = true) : CallR X (.type "dict") (rP (bsOf X) .dictOf) := by
  intro pins s σ H xs us Q I r h
  obtain ⟨N, x, d, sl, rfl, a, e, q⟩ := rP_ones (p := .dictOf) (fun ds sl e => by
    change pDictOf ds = some sl at e; unfold pDictOf at e; split at e <;> first | exact ⟨_, rfl⟩ | cases e) h
  change pDictOf [d] = some sl at e
  unfold pDictOf at e
  split at e
  · rename_i ps z; injection z with z1 z2; subst z1
    cases e1 : pairsOf ps with
    | none => rw [e1] at e; cases e
    | some kvs =>
      rw [e1] at e
      simp only [Option.bind_some] at e
      split at e <;> cases e
      rename_i hk
      obtain ⟨l, vs, rfl, hl, ra⟩ := a.list
      have flat : (∀ p ∈ kvs, isStrD p.1 = true ∨ isIntD p.1 = true) → wpAny (model X.prog X.w) X.A (call (.type "dict") us) (EP X pins σ Q) X.xe s := fun hf => by
        obtain ⟨ps, kl, rfl, h1, h2⟩ := flat_pairs I ra e1 hf
        refine call_dictP hc pins s σ H _ us Q I r ⟨l, ps, kl, rfl, .inl hl, h1, fun p hp => ?_⟩
        obtain ⟨f1, f2⟩ := flat_fold (acc := []) (ds := []) h2 rfl .nil
        exact q _ _ ⟨same_upd hp, p, rfl, hp, .dk upd_same f1 (f2.ext (Ext.same (same_upd hp)))⟩
      unfold keysOk at hk
      rw [Bool.or_eq_true, Bool.or_eq_true] at hk
      by_cases hne : kvs = []
      · exact flat fun p hp => by rw [hne] at hp; simp at hp
      rcases hk with (hk | hk) | hk
      · exact flat fun p hp => .inl (List.all_eq_true.mp hk p hp)
      · exact flat fun p hp => .inr (List.all_eq_true.mp hk p hp)
      obtain ⟨ts, rfl, tok⟩ := tup_pairs I ra e1 fun p hp => List.all_eq_true.mp hk p hp
      obtain ⟨u, rfl, ru⟩ := vals1 r
      cases ru
      obtain ⟨its, rv, ⟨o, n, ho, hcl, hd, hdat⟩, hz⟩ := I.list (.inl hl)
      have ei : its = ts.map fun t => Value.ref t.1 := by
        have := refs_at (ps := ts.map (·.1)) (us := its) (by rw [List.map_map]; exact rv)
        rw [this, List.map_map]; rfl
      subst ei
      rw [List.length_map] at hz
      obtain ⟨ac, a1, a2, a3, a4, a5, a6⟩ := tup_fold (acc := []) (acH := []) (ds := []) tok .nil rfl .nil (fun _ h => absurd h (by simp))
      have tne : ts ≠ [] := by
        rintro rfl
        cases tok; exact hne rfl
      have his : ∀ t ∈ ts, (nestedKind X.prog X.w).is s.heap t.2.1 t.2.2.1 := fun t ht => by
        obtain ⟨i, hi⟩ := List.getElem?_of_mem ht
        obtain ⟨p, hp, tp⟩ := paired_left tok hi
        exact tp.2.2.1
      refine call_dict_pairsH (knd := nestedKind X.prog X.w) (ps := ts.map fun t => (t.2.1, t.2.2.1, t.2.2.2.2))
        (PairArg.list l (ts.map fun t => Value.ref t.1).toArray (fun i => ((ts[i]?).map (·.1)).getD 0) (ts.map fun t => (Value.ref t.2.2.1, t.2.2.2.2)))
        (I.ok.hd hc) (by show X.A.units + 1 + 1 + 8 < cLine; omega) ⟨⟨o, n, ho, hcl, hd, hdat⟩, ?_, fun j k v ej => ?_⟩ ⟨?_, fun i key v ei => ?_⟩ (fun h' hk x hx => ?_) ?_ fun h' tk dd' hk' => ?_
      · simp
      · rw [List.getElem?_map] at ej
        cases et : ts[j]? with
        | none => rw [et] at ej; cases ej
        | some t =>
          rw [et] at ej; cases ej
          obtain ⟨p, hp, tp⟩ := paired_left tok et
          refine ⟨by simp [et], ?_⟩
          simp only [et, Option.map_some, Option.getD_some]
          exact tp.1
      · simp
      · have ei : (ts.map fun t => (Value.ref t.2.2.1, t.2.2.2.2))[i]? = some (key, v) := ei
        rw [List.getElem?_map] at ei
        cases et : ts[i]? with
        | none => rw [et] at ei; cases ei
        | some t =>
          rw [et] at ei; cases ei
          exact ⟨t.2.1, t.2.2.1, by simp [et], rfl⟩
      · obtain ⟨t, ht, rfl⟩ := List.mem_map.mp hx
        exact (nestedKind_stays (prog := X.prog) (w := X.w)).stays (fun b o' _ _ e _ => hk b o' (Nat.ne_of_lt (Heap.lt_size e)) (by simp) e) (his t ht)
      · rw [List.length_map]; exact hz
      · have hm : (s.heap.objs.size == sysModules) = false := beq_eq_false_iff_ne.mpr (Nat.ne_of_gt I.big)
        have hp := I.hok.fresh (Nat.le_refl _)
        have ne : NE (bsOf X) s.heap.objs.size ac h' := ne_of_dict (by rw [List.length_nil] at a5; omega) hm a1 dd'
        have ext := Ext.same (N := N) (same_upd (o := dN (bsOf X) s.heap.objs.size ac) hp)
        refine ⟨.ref s.heap.objs.size, upd H s.heap.objs.size (dN (bsOf X) s.heap.objs.size ac), I.laid (t' := tk) (fun b o' e => hk' b o' (by simp) e) (Nat.le_refl _) (NE.ok ne), rfl, q _ _ ⟨same_upd hp, _, rfl, hp, .dn upd_same (a6 (.inr tne)) a2 (fun p hp => (a4 p hp).1.2) ?_ (a3.ext ext)⟩⟩
        exact (rpA_keys a2).mpr fun p hp => (a4 p hp).2.ext ext
  · cases e
end
end C
end
section
set_option Elab.async false
set_option linter.all false
set_option maxRecDepth 100000
set_option maxHeartbeats 2000000
/-! The check is sound: expressions. -/
namespace C
open PySem PySem.Spec L2
variable [Lams]

/-- a def of the module, called from any frame over this module -/
def CallOk (P : Program) (w : World) (K : PySem.W.Frag) (mg : Str → Option Value) (base : Heap) (A : Around) (cf : Nat → List Sl → CR) (n : Nat) (f : Addr) : Prop :=
  ∀ X' : Cx, X'.prog = P → X'.w = w → X'.K = K → X'.mg = mg → X'.base = base → X'.A = A → CallR X' (.ref f) (spC ⟨P, w, K⟩ cf n)
structure CtxOk (S : SX) (cf : Nat → List Sl → CR) (X : Cx) : Prop where
  nN : X.N = S.N
  nd : X.N.Nodup
  sc : X.env.scope = S.sc
  fn : ∀ x, (match S.bl with | none => true | some scope => decide (scope.names.lookup x = some .cell)) = true → X.fn x = true
  calm : X.calm = true
  hu : X.A.units + 150 < cLine
  hg : X.A.guards = some []
  free : ∀ x ∈ S.G.free, X.mg x = none
  defs : ∀ p ∈ S.G.defs, ∃ f, X.mg p.1 = some (.ref f) ∧ PySem.W.keepIn X.K (.ref f) = true ∧ CallOk X.prog X.w X.K X.mg X.base X.A cf p.2 f ∧ (p.2, f) ∈ Lams.fns
  fns : ∀ p ∈ Lams.fns, PySem.W.keepIn X.K (.ref p.2) = true ∧ CallOk X.prog X.w X.K X.mg X.base X.A cf p.1 p.2
  consts : ∀ p ∈ S.G.consts, ∃ u v, X.mg p.1 = some u ∧ RelV v u ∧ ∀ N H, Rp (bsOf X) N H v p.2
  room : X.A.depth < recursionLimit
  lam : S.lam = true → ∃ c P, X.env.code = .ref c ∧ LamX.TabB X.base X.mg c P ∧ TK P (X.env.qual ++ "<lambda>")
theorem CtxOk.blk {S : SX} {cf : Nat → List Sl → CR} {X : Cx} (h : CtxOk S cf X) (scope : Scope) (s : Shared) (H : L2.Hp) (C : Addr) (cl : List (Str × Addr)) (fp : List Addr) :
    CtxOk (S.blk scope) cf (X.blk s H scope (compEnvC scope cl C X.env) fp) where
  nN := h.nN
  nd := h.nd
  sc := by
    show relS scope X.env.scope = relS scope S.sc
    rw [h.sc]
  fn := fun x hx => by
    show (scope.names.lookup x == some .cell) = true
    have : scope.names.lookup x = some .cell := of_decide_eq_true hx
    rw [this]; rfl
  calm := h.calm
  hu := h.hu
  hg := h.hg
  free := h.free
  defs := h.defs
  fns := h.fns
  consts := h.consts
  room := h.room
  lam := fun z => by cases z

section
variable {S : SX} {cf : Nat → List Sl → CR} {X : Cx} {e : Expr} {c : CE} {x : Str} {i : Nat}
theorem star_plain {es : List Expr} (h : plainX e = true) (env : PySem.Env) : starEach (e :: es) env = (false, eval e env) :: starEach es env := by
  cases e <;> first | rfl | cases h
theorem star_any {pos : Pos} {env : PySem.Env} : ∀ {es : List Expr}, es.all plainX = true → (backTo pos (starEach es env)).any (·.1) = false
  | [], _ => rfl
  | e :: es, h => by
    rw [List.all_cons] at h
    obtain ⟨h1, h2⟩ := ba2 h
    rw [star_plain h1]
    have := star_any (pos := pos) (env := env) h2
    unfold backTo at this ⊢
    rw [List.map_cons, List.any_cons, this]; rfl
theorem fold_plain (h : plainX e = true) (env : PySem.Env) (v : Value) : foldedSetIterable e env v = pure v := by
  cases e <;> first | rfl | cases h
theorem marks_plain {op : CmpOp} (h : plainX e = true) : behindInMarks op e = false := by
  cases e <;> first | rfl | cases h
theorem ix_plain (h : plainX e = true) : PlainIx e := by
  intro o i
  cases e <;> first | rfl | cases h
theorem gen_true (h : genB e = true) (env : PySem.Env) (whole : Sem Value) : isTrue e env whole = (do let v ← whole; standAt e.pos; holding [v] (truthy v)) := by
  cases e <;> first | rfl | (cases h; done) | skip
  rename_i op a pos
  cases op <;> first | rfl | cases h
theorem swap_plain {t : Option Expr} {l : Nat} {env : PySem.Env} (h : compB e = false) : swapsWith e t l env = pure false := by
  cases e <;> first | rfl | cases h
theorem base_plain {m : Str} {env : PySem.Env} {pos : Pos} {w : Sem Value} : attributeBase (.Name x pos) m env w = w := rfl
theorem vis_ok (ok : CtxOk S cf X) (h : visB S i x = true) : X.N[i]? = some x ∧ Vis X.env.scope x ∧ (x == ("__debug__" : Str)) = false ∧ (x == ("__classdict__" : Str)) = false := by
  unfold visB at h
  obtain ⟨h1, h2⟩ := ba2 h
  obtain ⟨h2, h3⟩ := ba2 h2
  obtain ⟨h3, h4⟩ := ba2 h3
  refine ⟨by rw [ok.nN]; exact of_decide_eq_true h1, ?_, by simpa using h3, by simpa using h4⟩
  unfold Vis
  rw [ok.sc]
  unfold SX.kd at h2
  cases hk : S.sc.names.lookup x with
  | none => rw [hk] at h2; cases h2
  | some k => rw [hk] at h2; cases k <;> first | exact .inl rfl | exact .inr (.inl rfl) | exact .inr (.inr rfl) | cases h2
theorem glo_ok (ok : CtxOk S cf X) (h : gloB S x = true) : Gl X x ∧ (x == ("__debug__" : Str)) = false := by
  unfold gloB at h
  obtain ⟨h1, h2⟩ := ba2 h
  refine ⟨?_, by simpa using h2⟩
  show X.env.scope.names.lookup x = _
  rw [ok.sc]; exact of_decide_eq_true h1
theorem free_ok {nm : Str} (ok : CtxOk S cf X) (h : freeB S x nm = true) : x = nm ∧ Gl X nm ∧ X.mg nm = none := by
  unfold freeB at h
  obtain ⟨h1, h2⟩ := ba2 h
  obtain ⟨h2, h3⟩ := ba2 h2
  have e := of_decide_eq_true h1
  subst e
  exact ⟨rfl, (glo_ok ok h2).1, ok.free _ (by simpa using h3)⟩
theorem p_var (ok : CtxOk S cf X) {pos : Pos} (h : visB S i x = true) : PE X (.Name x pos) (tVar i) := by
  obtain ⟨h1, h2, h3, h4⟩ := vis_ok ok h
  exact pe_var h1 h2 h3 h4

/-- what stands behind an expression -/
structure OKE (cf : Nat → List Sl → CR) (X : Cx) (c : CE) (e : Expr) : Prop where
  pe : PE X e (tE (bsOf X) cf c)
  pt : PT X e (tT (bsOf X) cf c)
  pw : boolB e = true → PW X e (tT (bsOf X) cf c)
theorem oke_of {t : TE} (h : PE X e t) (sem : ∀ σ H Q, tE (bsOf X) cf c σ H Q → t σ H Q) (g : genB e = true) : OKE cf X c e where
  pe := PE.imp h sem
  pt := PT.imp (pt_val (PE.imp h sem) (gen_true g X.env)) fun σ H Q q => tB_of q
  pw := fun z => by cases e <;> first | (cases z; done) | (cases g; done)
theorem oke_test {t : TE} (h : PE X e t) (k : PT X e (tTest t)) (sem : ∀ σ H Q, tE (bsOf X) cf c σ H Q → t σ H Q) (nb : boolB e = false) : OKE cf X c e where
  pe := PE.imp h sem
  pt := PT.imp k fun σ H Q q => sem _ _ _ (tT_of q)
  pw := fun z => by rw [nb] at z; cases z
theorem tCA_imp {B : Bs} {a : CA} {σ : L2.St} {H : L2.Hp} {Q Q' : VK} (h : tCA B cf a σ H Q) (k : ∀ x H1, Q x H1 → Q' x H1) : tCA B cf a σ H Q' := by
  cases a with
  | e c =>
    obtain ⟨W, env, s, env', h1, h2, h3, q⟩ := h
    exact ⟨W, env, s, env', h1, h2, h3, fun v W' a b c => k _ _ (q v W' a b c)⟩
  | bo i => obtain ⟨v, h1, q⟩ := h; exact ⟨v, h1, k _ _ q⟩
  | rf i => obtain ⟨v, h1, q⟩ := h; exact ⟨v, h1, k _ _ q⟩
  | bf i f => exact h.elim
/-! ### constants, names -/
theorem k_sem {B : Bs} {d : PyData} {v : V} (hv : ∀ N H, Rp B N H v d) {σ : L2.St} {H : L2.Hp} {Q : VK} (h : tE B cf (.k d) σ H Q) : tC v σ H Q := by
  obtain ⟨W, env, s, env', rfl, r, e, q⟩ := h
  unfold evE at e
  cases e
  exact q v W (Step.refl W) r (RV.sh (hv _ _))
theorem v_sem {B : Bs} {σ : L2.St} {H : L2.Hp} {Q : VK} (h : tE B cf (.v i) σ H Q) : tVar i σ H Q := by
  obtain ⟨W, env, s, env', rfl, r, e, q⟩ := h
  unfold evE at e
  split at e
  · rename_i d hd
    cases e
    have hn : gt env i ≠ .no := by rw [hd]; exact fun z => nomatch z
    obtain ⟨v, h1, h2⟩ := r.slot i _ (gt_some hn) hn
    rw [hd] at h2
    exact ⟨v, h1, q v W (Step.refl W) r (RV.sh h2)⟩
  · rename_i d hd
    cases e
    have hn : gt env i ≠ .no := by rw [hd]; exact fun z => nomatch z
    obtain ⟨a, h1, h2, h3, h4⟩ := r.freeze (d := d) (by rw [gt_some hn, hd])
    exact ⟨.ref a, h1, q _ (W.give a) h2 h3 (RV.sh h4)⟩
  · cases e
theorem ckK_ok (ok : CtxOk S cf X) {d : PyData} (h : ckK S d e = true) : OKE cf X (.k d) e := by
  unfold ckK at h
  split at h
  · have := eqD_eq h; subst this
    exact oke_of pe_int (fun σ H Q => k_sem fun N H => .int _) rfl
  · have := eqD_eq h; subst this
    exact oke_of pe_bl (fun σ H Q => k_sem fun N H => .bl _) rfl
  · have := eqD_eq h; subst this
    exact oke_of pe_non (fun σ H Q => k_sem fun N H => .non) rfl
  · have := eqD_eq h; subst this
    exact oke_of pe_str (fun σ H Q => k_sem fun N H => .str _) rfl
  · obtain ⟨h1, h2⟩ := ba2 h
    obtain ⟨p, hp, h3⟩ := List.any_eq_true.mp h2
    obtain ⟨h3, h4⟩ := ba2 h3
    have e1 := of_decide_eq_true h3
    have e2 := eqD_eq h4
    subst e1 e2
    obtain ⟨u, v, g1, g2, g3⟩ := ok.consts p hp
    obtain ⟨g4, g5⟩ := glo_ok ok h1
    exact oke_of (pe_glob g4 g1 g2 g5) (fun σ H Q => k_sem fun N H => g3 N H) rfl
  · cases h
/-! ### primitives -/
theorem cmp_ok (ok : CtxOk S cf X) {p : Pr} {op : CmpOp} (h : cmpOf p = some op) : OpR X (compareOp op) (rP2 (bsOf X) p) := by
  cases p <;> simp [cmpOf] at h <;> subst h
  · exact p_eqd ok.hu
  · exact p_ned ok.hu
  · exact p_lt ok.hu
  · exact p_le ok.hu
  · exact p_gt ok.hu
  · exact p_ge ok.hu
  · exact p_isin ok.hu
  · exact p_notin ok.hu
theorem cmp_bool {p : Pr} {op : CmpOp} (h : cmpOf p = some op) {ds : List PyData} {s : Sl} (e : evP p ds = some s) : ∃ k : Bool, s = .sh (.bool k) := by
  cases p <;> simp [cmpOf] at h <;> simp only [evP] at e
  · unfold pEq at e; repeat' (first | (cases e; exact ⟨_, rfl⟩) | (cases e; done) | split at e)
  · unfold pNe at e; repeat' (first | (cases e; exact ⟨_, rfl⟩) | (cases e; done) | split at e)
  · unfold pLt at e; repeat' (first | (cases e; exact ⟨_, rfl⟩) | (cases e; done) | split at e)
  · unfold pLe at e; repeat' (first | (cases e; exact ⟨_, rfl⟩) | (cases e; done) | split at e)
  · unfold pGt at e; repeat' (first | (cases e; exact ⟨_, rfl⟩) | (cases e; done) | split at e)
  · unfold pGe at e; repeat' (first | (cases e; exact ⟨_, rfl⟩) | (cases e; done) | split at e)
  · unfold pIsin at e; repeat' (first | (cases e; exact ⟨_, rfl⟩) | (cases e; done) | split at e)
  · unfold pNotin at e; repeat' (first | (cases e; exact ⟨_, rfl⟩) | (cases e; done) | split at e)
theorem bin_ok {p : Pr} {op : Operator} (h : binOf p = some op) : OpR X (binaryOp op) (rP2 (bsOf X) p) := by
  cases p <;> simp [binOf] at h <;> subst h
  · exact p_add
  · exact p_sub
  · exact p_mul
  · exact p_mod
  · exact p_fdiv
  · exact p_pow
theorem blt_ok (ok : CtxOk S cf X) {p : Pr} {nm : Str} {ty : Bool} {id : String} (h : bltOf p = some (nm, ty, id)) :
    nm ≠ "__name__" ∧ (nm == ("__debug__" : Str)) = false ∧ bootBuiltins nm = some (if ty = true then .type id else .builtin id) ∧ CallR X (if ty = true then .type id else .builtin id) (rP (bsOf X) p) := by
  cases p <;> simp only [bltOf, Option.some.injEq, Prod.mk.injEq, reduceCtorEq] at h <;> obtain ⟨rfl, rfl, rfl⟩ := h
  · exact ⟨by decide, by decide, boot_len, p_len⟩
  · exact ⟨by decide, by decide, PyProof.Rows.boot_tuple, p_tuple⟩
  · exact ⟨by decide, by decide, PyProof.Rows.boot_list, p_list⟩
  · exact ⟨by decide, by decide, PyProof.Rows.boot_sorted, p_sorted ok.hu ok.calm⟩
  · exact ⟨by decide, by decide, PyProof.Rows.boot_sum, p_sum ok.calm⟩
  · exact ⟨by decide, by decide, PyProof.Rows.boot_any, p_any ok.calm⟩
  · exact ⟨by decide, by decide, PyProof.Rows.boot_all, p_all ok.calm⟩
  · exact ⟨by decide, by decide, PyProof.Rows.boot_max, p_max1 ok.calm⟩
  · exact ⟨by decide, by decide, PyProof.Rows.boot_min, p_min1 ok.calm⟩
  · exact ⟨by decide, by decide, PyProof.Rows.boot_max, p_max2 ok.calm⟩
  · exact ⟨by decide, by decide, PyProof.Rows.boot_min, p_min2 ok.calm⟩
  · exact ⟨by decide, by decide, PyProof.Rows.boot_int, p_int⟩
  · exact ⟨by decide, by decide, PyProof.Rows.boot_abs, p_abs⟩
  · exact ⟨by decide, by decide, PyProof.Rows.boot_repr, p_repr ok.hu ok.hg⟩
  · exact ⟨by decide, by decide, PyProof.Rows.boot_dict, p_dictOf ok.hu ok.calm⟩
theorem isN_rel {x : V} {H : L2.Hp} {Q : VK} (h : rP (bsOf X) .isN [x] H Q) : Q (.bl (decide (x = .non))) H := by
  obtain ⟨N, d, sl, a, e, q⟩ := rP_one (p := .isN) (fun ds sl e => by
    change pIsN ds = some sl at e; unfold pIsN at e; split at e <;> first | exact ⟨_, rfl⟩ | cases e) h
  have e' : shB (isNoneD d) = some sl := by rw [← e]; cases d <;> rfl
  cases e'
  rw [ra_none a]
  exact q _ _ (.flat fun _ => .bl _)
theorem notN_rel {x : V} {H : L2.Hp} {Q : VK} (h : rP (bsOf X) .notN [x] H Q) : Q (.bl (!decide (x = .non))) H := by
  obtain ⟨N, d, sl, a, e, q⟩ := rP_one (p := .notN) (fun ds sl e => by
    change pNotN ds = some sl at e; unfold pNotN at e; split at e <;> first | exact ⟨_, rfl⟩ | cases e) h
  have e' : shB (!isNoneD d) = some sl := by rw [← e]; cases d <;> rfl
  cases e'
  rw [ra_none a]
  exact q _ _ (.flat fun _ => .bl _)
theorem isi_ok {t : String} {y : Str} (h : isiTy t y = true) : bootBuiltins y = some (.type t) ∧ y ≠ "__name__" ∧ (y == ("__debug__" : Str)) = false := by
  unfold isiTy at h
  simp only [Bool.or_eq_true, Bool.and_eq_true, decide_eq_true_eq] at h
  rcases h with ⟨rfl, rfl⟩ | ⟨rfl, rfl⟩ | ⟨rfl, rfl⟩ | ⟨rfl, rfl⟩
  · exact ⟨PyProof.Rows.boot_int, by decide, by decide⟩
  · exact ⟨PyProof.Rows.boot_bool, by decide, by decide⟩
  · exact ⟨PyProof.Rows.boot_str, by decide, by decide⟩
  · exact ⟨PyProof.Rows.boot_tuple, by decide, by decide⟩
/-- one operand -/
theorem rev_rel {x : V} {H : L2.Hp} {Q : VK} (h : rP1 (bsOf X) .rev x H Q) : ∃ a xs, x = .ref a ∧ SqL X.K H a xs ∧ ∀ p, H p = none → Q (.ref p) (upd H p (.lst xs.reverse)) := by
  obtain ⟨N, ds, sl, ra, e, q⟩ := h
  cases ra with
  | cons a t =>
    cases t
    rename_i d
    change pRev [d] = some sl at e
    unfold pRev at e
    split at e
    · rename_i zs z
      injection z with z1 _; subst z1
      cases e
      obtain ⟨p, vs, rfl, hp, r1⟩ := a.list
      exact ⟨p, vs, rfl, .inl hp, fun p2 hp2 => q _ _ (.newLst hp2 r1.reverse)⟩
    · cases e
theorem ck1_ok (ok : CtxOk S cf X) {p : Pr} {a : CA} {fa : Expr → Bool} (hfa : ∀ e, fa e = true → PE X e (tCA (bsOf X) cf a)) (hft : ∀ c, a = .e c → ∀ e, fa e = true → PT X e (tT (bsOf X) cf c)) (h : ck1 S p (isEA a) fa e = true) : OKE cf X (.pr p (.cons a .nil)) e := by
  unfold ck1 at h
  split at h
  · obtain ⟨h1, h2⟩ := ba2 h
    have := of_decide_eq_true h1; subst this
    exact oke_of (pe_un p_neg (hfa _ h2)) (fun σ H Q q => pr1 q) rfl
  · obtain ⟨h1, h2⟩ := ba2 h
    obtain ⟨h2, h3⟩ := ba2 h2
    have := of_decide_eq_true h1; subst this
    refine ⟨PE.imp (pe_not (hfa _ h3)) fun σ H Q q => not_sem q, ?_, fun z => by cases z⟩
    cases a with
    | e c => exact PT.imp (pt_not (hft c rfl _ h3)) fun σ H Q q => notT_sem q
    | bo i => cases h2
    | rf i => cases h2
    | bf i f => cases h2
  · obtain ⟨h1, h2⟩ := ba2 h
    have := of_decide_eq_true h1; subst this
    exact oke_of (pe_revL (hfa _ h2)) (fun σ H Q q => tCA_imp (pr1 q) fun x H1 k => rev_rel k) rfl
  · obtain ⟨h1, h2⟩ := ba2 h
    have := of_decide_eq_true h1; subst this
    exact oke_test (pe_cmp (pc_isN (hfa _ h2)) rfl) (pt_cmp (pc_isN (hfa _ h2)) rfl) (fun σ H Q q => tCA_imp (pr1 q) fun x H1 k => isN_rel k) rfl
  · obtain ⟨h1, h2⟩ := ba2 h
    have := of_decide_eq_true h1; subst this
    exact oke_test (pe_cmp (pc_notN (hfa _ h2)) rfl) (pt_cmp (pc_notN (hfa _ h2)) rfl) (fun σ H Q q => tCA_imp (pr1 q) fun x H1 k => notN_rel k) rfl
  · obtain ⟨h1, h2⟩ := ba2 h
    have := of_decide_eq_true h1; subst this
    exact oke_test (pe_cmpR (p_isB _) (hfa _ h2) pe_bl rfl) (pt_cmpR (p_isB _) (hfa _ h2) pe_bl rfl) (fun σ H Q q => tCA_imp (pr1 q) fun x H1 k => ⟨rfl, k⟩) rfl
  · obtain ⟨h1, h2⟩ := ba2 h
    have := of_decide_eq_true h1; subst this
    exact oke_test (pe_cmpR (p_notB _) (hfa _ h2) pe_bl rfl) (pt_cmpR (p_notB _) (hfa _ h2) pe_bl rfl) (fun σ H Q q => tCA_imp (pr1 q) fun x H1 k => ⟨rfl, k⟩) rfl
  · rename_i x px ea y py pos
    split at h
    · rename_i t
      obtain ⟨h1, h2⟩ := ba2 h
      obtain ⟨h2, h3⟩ := ba2 h2
      obtain ⟨h3, h4⟩ := ba2 h3
      obtain ⟨h4, h5⟩ := ba2 h4
      obtain ⟨h5, h6⟩ := ba2 h5
      obtain ⟨e1, g1, g2⟩ := free_ok ok h1
      subst e1
      obtain ⟨k1, k2, k3⟩ := isi_ok h2
      have ha : PA X [ea, .Name y py] (tCons (tCA (bsOf X) cf a) (tCons (tC (.ty t)) tNil)) :=
        pa_cons (hfa _ h6) (pa_cons (pe_bltn (glo_ok ok h3).1 (ok.free _ (by simpa using h4)) k1 rfl k2 k3) pa_nil rfl) (star_plain h5 _)
      exact oke_of (pe_callB (p_isi (t := t)) g1 g2 PyProof.Rows.boot_isinstance ha (by decide) (by decide) (star_plain h5 _) (star_any (es := [.Name y py]) rfl)) (fun σ H Q q => tCA_imp (pr1 q) fun x H1 k => ⟨x, rfl, k⟩) rfl
    · cases h
  · cases h
theorem slFrom_rel {x y : V} {H : L2.Hp} {Q : VK} (h : rP2 (bsOf X) .sliceFrom x y H Q) : ∃ i, y = .int i ∧ rSl (bsOf X) x (some i) none H Q := by
  obtain ⟨N, ds, sl, ra, e, q⟩ := h
  cases ra with
  | cons a t =>
    cases t with
    | cons b t =>
      cases t
      rename_i d1 d2
      change pSliceFrom [d1, d2] = some sl at e
      unfold pSliceFrom at e
      split at e
      · rename_i xs i z; injection z with z1 z2; injection z2 with z2 _; subst z1; subst z2
        cases e
        cases b.int
        exact ⟨i, rfl, N, xs, .inl ⟨a, q⟩⟩
      · rename_i xs i z; injection z with z1 z2; injection z2 with z2 _; subst z1; subst z2
        cases e
        cases b.int
        exact ⟨i, rfl, N, xs, .inr ⟨a, q⟩⟩
      · cases e
theorem slTo_rel {x y : V} {H : L2.Hp} {Q : VK} (h : rP2 (bsOf X) .sliceTo x y H Q) : ∃ i, y = .int i ∧ rSl (bsOf X) x none (some i) H Q := by
  obtain ⟨N, ds, sl, ra, e, q⟩ := h
  cases ra with
  | cons a t =>
    cases t with
    | cons b t =>
      cases t
      rename_i d1 d2
      change pSliceTo [d1, d2] = some sl at e
      unfold pSliceTo at e
      split at e
      · rename_i xs i z; injection z with z1 z2; injection z2 with z2 _; subst z1; subst z2
        cases e
        cases b.int
        exact ⟨i, rfl, N, xs, .inl ⟨a, q⟩⟩
      · rename_i xs i z; injection z with z1 z2; injection z2 with z2 _; subst z1; subst z2
        cases e
        cases b.int
        exact ⟨i, rfl, N, xs, .inr ⟨a, q⟩⟩
      · cases e
theorem ck2_ok (ok : CtxOk S cf X) {p : Pr} {a b : CA} {fa fb : Expr → Bool} (hfa : ∀ e, fa e = true → PE X e (tCA (bsOf X) cf a)) (hfb : ∀ e, fb e = true → PE X e (tCA (bsOf X) cf b)) (h : ck2 S p fa fb e = true) : OKE cf X (.pr p (.cons a (.cons b .nil))) e := by
  unfold ck2 at h
  split at h
  · obtain ⟨h1, h2⟩ := ba2 h
    obtain ⟨h2, h3⟩ := ba2 h2
    exact oke_of (pe_op (bin_ok (of_decide_eq_true h1)) (hfa _ h2) (hfb _ h3)) (fun σ H Q q => pr2 q) rfl
  · obtain ⟨h1, h2⟩ := ba2 h
    obtain ⟨h2, h3⟩ := ba2 h2
    obtain ⟨h3, h4⟩ := ba2 h3
    have ho := cmp_ok ok (of_decide_eq_true h1)
    exact oke_test (pe_cmpR ho (hfa _ h3) (hfb _ h4) (marks_plain h2)) (pt_cmpR ho (hfa _ h3) (hfb _ h4) (marks_plain h2)) (fun σ H Q q => pr2 q) rfl
  · obtain ⟨h1, h2⟩ := ba2 h
    obtain ⟨h2, h3⟩ := ba2 h2
    have := of_decide_eq_true h1; subst this
    exact oke_of (pe_slice p_slice (hfa _ h2) (po_some (hfb _ h3)) po_none) (fun σ H Q q => tCA_imp (pr2 q) fun x H1 k => tCA_imp k fun y H2 k2 => slFrom_rel k2) rfl
  · obtain ⟨h1, h2⟩ := ba2 h
    obtain ⟨h2, h3⟩ := ba2 h2
    have := of_decide_eq_true h1; subst this
    exact oke_of (pe_slice p_slice (hfa _ h2) po_none (po_some (hfb _ h3))) (fun σ H Q q => tCA_imp (pr2 q) fun x H1 k => tCA_imp k fun y H2 k2 => slTo_rel k2) rfl
  · obtain ⟨h1, h2⟩ := ba2 h
    obtain ⟨h2, h3⟩ := ba2 h2
    obtain ⟨h3, h4⟩ := ba2 h3
    have := of_decide_eq_true h1; subst this
    exact oke_of (pe_ix (p_item ok.hu) (hfa _ h3) (hfb _ h4) (ix_plain h2)) (fun σ H Q q => pr2 q) rfl
  · cases h
end
end C
end
section
set_option Elab.async false
set_option linter.all false
set_option maxRecDepth 100000
set_option maxHeartbeats 1000000
/-! A lambda as the key of a sort: its body over the bare heap. -/
namespace C
open PySem PySem.Spec L2
variable [Lams]

/-- the frame of the lambda, and what stands around it -/
structure LEnv (mg : Str → Option Value) (le : PySem.Env) (v : Str) (u : Value) (h : Heap) : Prop where
  kind : le.scope.kind = .function
  loc : ∃ m, h.Ns le.locals m ∧ m v = some u
  glob : le.globals = mainGlobals
  blt : le.builtins = builtinsNs
  ns : h.Ns mainGlobals mg
  bs : ∃ mb, h.Ns builtinsNs mb ∧ ∀ x : Str, x ≠ "__name__" → mb x = bootBuiltins x
theorem LEnv.keeps {mg : Str → Option Value} {le : PySem.Env} {v : Str} {u : Value} {h h' : Heap} (L : LEnv mg le v u h) (k : ∀ b o, h.get? b = some o → h'.get? b = some o) : LEnv mg le v u h' := by
  obtain ⟨m, h1, h2⟩ := L.loc
  obtain ⟨mb, h3, h4⟩ := L.bs
  exact ⟨L.kind, ⟨m, h1.keeps k, h2⟩, L.glob, L.blt, L.ns.keeps k, mb, h3.keeps k, h4⟩
section
variable {P : Program} {w : World} {A : Around} {mg : Str → Option Value} {le : PySem.Env} {v : Str} {u : Value} {free : List Str}
mutual
theorem reads_nil {h : Heap} : ∀ {d : D} {x : Value} {as : List Addr}, pureD d = true → Reads h x d as → as = []
  | .none, _, _, _, r => by cases r; rfl
  | .bool _, _, _, _, r => by cases r; rfl
  | .int _, _, _, _, r => by cases r; rfl
  | .str _, _, _, _, r => by cases r; rfl
  | .tuple ds, _, _, p, r => by cases r with | tuple _ _ _ t => exact reads_nils (by simpa [pureD] using p) t
  | .list _, _, _, p, _ => by simp [pureD] at p
  | .dict _, _, _, p, _ => by simp [pureD] at p
theorem reads_nils {h : Heap} : ∀ {ds : List D} {xs : List Value} {as : List Addr}, pureAll ds = true → ReadsAll h xs ds as → as = []
  | [], _, _, _, r => by cases r; rfl
  | d :: ds, _, _, p, r => by
    simp only [pureAll, Bool.and_eq_true] at p
    cases r with | cons r1 r2 => rw [reads_nil p.1 r1, reads_nils p.2 r2]; rfl
end
theorem all_len {h : Heap} : ∀ {ds : List D} {xs : List Value} {as : List Addr}, ReadsAll h xs ds as → xs.length = ds.length
  | _, _, _, .nil => rfl
  | _, _, _, .cons _ t => by rw [List.length_cons, List.length_cons, all_len t]
theorem kgB_ok {sc : Scope} {y nm : Str} (h : kgB sc free y nm = true) : y = nm ∧ sc.names.lookup y = some .globalImplicit ∧ y ∈ free := by
  unfold kgB at h
  obtain ⟨h1, h⟩ := ba2 h
  obtain ⟨h2, h3⟩ := ba2 h
  exact ⟨of_decide_eq_true h1, of_decide_eq_true h2, by simpa using h3⟩
/-- the key's body -/
theorem kx_run (hf : ∀ x ∈ free, mg x = none) : ∀ (k : KX) (e : Expr), ckX le.scope free v k e = true → ∀ (d r : D), kev k d = some r → pureD d = true → ∀ (s : Shared), Reads s.heap u d [] → LEnv mg le v u s.heap →
    ∀ {Q E : Value → Shared → Prop}, (∀ val h' tk, (∀ b o, s.heap.get? b = some o → h'.get? b = some o) → Reads h' val r [] → pureD r = true → Q val { s with heap := h', toks := tk }) → wpAny (model P w) A (eval e le) Q E s
  | .x, e, hc, d, r, hk, hp, s, rd, L, Q, E, q => by
    unfold ckX at hc
    split at hc
    case h_2 => cases hc
    rename_i y pos
    obtain ⟨h1, hc⟩ := ba2 hc
    obtain ⟨h2, h3⟩ := ba2 hc
    have h1 := of_decide_eq_true h1; subst h1
    have h2 := of_decide_eq_true h2
    simp only [kev, Option.some.injEq] at hk
    subst hk
    obtain ⟨m, l1, l2⟩ := L.loc
    exact wpAny_Name (wpAny_loadName_local L.kind h2 l1 l2 (q u s.heap s.toks (fun _ _ h => h) rd hp)) (by simpa using h3)
  | .len k, e, hc, d, r, hk, hp, s, rd, L, Q, E, q => by
    unfold ckX at hc
    split at hc
    case h_2 => cases hc
    rename_i y p e1 pos
    obtain ⟨h1, hc⟩ := ba2 hc
    obtain ⟨h2, h3⟩ := ba2 hc
    obtain ⟨rfl, g1, g2⟩ := kgB_ok h1
    obtain ⟨mb, b1, b2⟩ := L.bs
    simp only [kev] at hk
    split at hk <;> try cases hk
    rename_i xs hk1
    split at hk <;> cases hk
    rename_i hsz
    rw [lineN_eq] at hsz
    refine wpAny_Call_Name_kw (Calls.Name_function_global L.kind g1 (Calls.loadGlobal_builtin (by rw [L.glob]; exact L.ns) (hf _ g2) (by rw [L.blt]; exact b1) ((b2 _ (by decide)).trans boot_len) ?_) (by decide))
    refine PyProof.Rows.callWith_builtin1 (PyProof.Rows.args_cons (kx_run hf k e1 h3 d _ hk1 hp s rd L fun val h' tk kp rd' pr => PyProof.Rows.args_nil ?_) (star_plain h2 _)) (star_plain h2 _) rfl
    cases rd' with
    | tuple g1 g2 g3 ra =>
      rename_i t o vs n
      have hl : vs.size = xs.length := by have := all_len ra; simpa using this
      have h63 := line63
      refine PyProof.Rows.len_tuple ⟨o, g1, g2, n, g3⟩ (by omega) (q _ h' (tk + 1 + 1) kp (by rw [hl]; exact .int _ _) rfl)
  | .pair a b, e, hc, d, r, hk, hp, s, rd, L, Q, E, q => by
    unfold ckX at hc
    split at hc
    case h_2 => cases hc
    rename_i x y c pos
    obtain ⟨h1, h2⟩ := ba2 hc
    obtain ⟨p1, h1⟩ := ba2 h1
    obtain ⟨p2, h2⟩ := ba2 h2
    simp only [kev] at hk
    split at hk <;> try cases hk
    rename_i d1 d2 hk1 hk2
    refine wpAny_Tuple_spliced (PyProof.Rows.args_cons (kx_run hf a x h1 d _ hk1 hp s rd L fun v1 h' tk kp rd1 pr1 => PyProof.Rows.args_cons (kx_run hf b y h2 d _ hk2 hp { s with heap := h', toks := tk } (PyProof.Rows.Reads.keeps kp rd) (L.keeps kp) fun v2 h2 tk2 kp2 rd2 pr2 => PyProof.Rows.args_nil ?_) (star_plain p2 _)) (star_plain p1 _))
    refine ⟨by rw [sizeLine_eq]; simp, q _ _ _ (fun b o e => Heap.get?_push_of_some _ (kp2 b o (kp b o e))) ?_ (by simp [pureD, pureAll, pr1, pr2])⟩
    have k3 : ∀ b o, h2.get? b = some o → (h2.push { cls := .type "tuple", data := .seq #[v1, v2] }).get? b = some o := fun b o e => Heap.get?_push_of_some _ e
    exact .tuple (as := [] ++ ([] ++ [])) (Heap.get?_push_size _ rfl) rfl rfl (.cons (PyProof.Rows.Reads.keeps (fun b o e => k3 b o (kp2 b o e)) rd1) (.cons (PyProof.Rows.Reads.keeps k3 rd2) .nil))
  | .sum _, e, hc, _, _, _, _, _, _, _, _, _, _ => by simp [ckX] at hc
  | .neg _, e, hc, _, _, _, _, _, _, _, _, _, _ => by simp [ckX] at hc
  | .item _ _, e, hc, _, _, _, _, _, _, _, _, _, _ => by simp [ckX] at hc
/-- the lambda is called -/
theorem lam_call (hf : ∀ x ∈ free, mg x = none) {key : KX} {d r : D} {body : Expr} {scope : Scope} {qual : Str} {f c' : Addr} {pm ctv : Value} {cl : List (Str × Addr)} {params : Arguments} {s : Shared} (hc : ckX scope free v key body = true) (hs : ckL scope v = true)
    (hk : kev key d = some r) (hp : pureD d = true) (rd : Reads s.heap u d []) (ho : s.heap.get? f = some (PySem.W.kla_obj "<lambda>" qual params body scope cl pm c' ctv)) (hcd : s.heap.CodeRec (.ref c') qual)
    (hbind : bindArgs (PySem.W.kla_fn "<lambda>" qual params body scope cl pm (.ref c') ctv) ⟨[u], []⟩ = pure [(v, u)]) (ns : s.heap.Ns mainGlobals mg) (bs : ∃ mb, s.heap.Ns builtinsNs mb ∧ ∀ x : Str, x ≠ "__name__" → mb x = bootBuiltins x) (lim : s.heap.NoLimit) (hr : A.depth < recursionLimit) :
    wpAny (model P w) A (call (.ref f) [u]) (PySem.W.KeyPure r s) (fun _ _ => False) s := by
  unfold ckL at hs
  obtain ⟨s1, hs⟩ := ba2 hs
  obtain ⟨s2, hs⟩ := ba2 hs
  obtain ⟨s3, hs⟩ := ba2 hs
  obtain ⟨s4, s5⟩ := ba2 hs
  have s1 := of_decide_eq_true s1
  have s5 := of_decide_eq_true s5
  refine wpAny_call (PySem.W.kla_callFunE hr ho rfl (by simpa using s2) (by simpa using s3) rfl hcd ?_)
  rw [hbind]
  refine wpAny_pure (wpAny_newFunctionEnv (fun y hy => ?_) (fun y hy => ?_) (fun h₁ hns hsb => ⟨lim.fresh _ hsb, ?_⟩) s1)
  · have := List.all_eq_true.mp s4 y hy
    simp only [Bool.and_eq_true, Bool.not_eq_true', decide_eq_false_iff_not] at this
    exact this.1
  · cases List.mem_singleton.mp hy; exact s5
  · have kp : ∀ b o, s.heap.get? b = some o → h₁.get? b = some o := fun b o e => hsb.extBut b o (Nat.ne_of_lt (Heap.lt_size e)) (Heap.get?_push_of_some _ e)
    show codeAny _ _ (.expr body (PySem.W.envX qual scope s.heap.objs.size f (.ref c') cl)) _ _
    refine PySem.W.kla_codeExpr (kx_run (le := PySem.W.envX qual scope s.heap.objs.size f (.ref c') cl) hf key body hc d r hk hp _ (PyProof.Rows.Reads.keeps kp rd) ⟨s1, ⟨_, hns, by simp⟩, rfl, rfl, ns.keeps kp, ?_⟩ fun val h' tk kp' rd' _ => ⟨h', tk, rfl, fun b o e => kp' b o (kp b o e), rd'⟩)
    obtain ⟨mb, b1, b2⟩ := bs
    exact ⟨mb, b1.keeps kp, b2⟩
end
end C
end
section
set_option Elab.async false
set_option linter.all false
set_option maxRecDepth 100000
set_option maxHeartbeats 1000000
/-! The making of a lambda that is a key (after HandS.Lambda: inv_table, lam_make2), its code object and itself tracked as known things. -/
namespace C
open PySem PySem.Spec L2
variable [Lams]
section
variable {X : Cx} {pins : List (Addr × Obj)} {σ : L2.St} {H : L2.Hp} {s : Shared}
theorem inv_tableF {P c : Addr} {oc : Obj} {ps more : Array Value} {h' : Heap} {t' : Nat} (I : Inv X pins σ H s) (hP : H P = some (.tbl ps)) (k : ∀ b o, b ≠ P → s.heap.get? b = some o → h'.get? b = some o)
    (hm : h'.get? P = some { cls := .none, data := .fields (ps ++ more) }) (hc : s.heap.objs.size ≤ c) (ho : h'.get? c = some oc) :
    Inv X pins σ (upd (upd H P (.tbl (ps ++ more))) c (.frz oc (.own c))) { s with heap := h', toks := t' } := by
  have nC : H c = none := I.hok.fresh hc
  have nPc : P ≠ c := ne_of_none hP nC
  have at_ : ∀ b, b ≠ P → b ≠ c → upd (upd H P (.tbl (ps ++ more))) c (.frz oc (.own c)) b = H b := fun b h1 h2 => by rw [upd_ne h2, upd_ne h1]
  have atP : upd (upd H P (.tbl (ps ++ more))) c (.frz oc (.own c)) P = some (.tbl (ps ++ more)) := by rw [upd_ne nPc, upd_same]
  have nP : ∀ b u, H b = some u → (∀ q, u ≠ .tbl q) → b ≠ P := fun b u e q z => by
    rw [z, hP] at e
    exact q ps (Option.some.inj e).symm
  have nN : ∀ b, H b = none → b ≠ P := fun b e z => by
    rw [z, hP] at e
    cases e
  have lt' : ∀ b o, s.heap.get? b = some o → b ≠ c := fun b o e z => by
    rw [z] at e
    exact Nat.lt_irrefl _ (Nat.lt_of_lt_of_le (Heap.lt_size e) hc)
  have sm : ∀ b u, H b = some u → b ≠ c := fun b u e => ne_of_none e nC
  refine I.step (g' := s.gens) (d' := s.drawn) (ch := []) (fun b hb => absurd hb (by simp)) (fun b o _ _ _ e n => k b o (nN b n) e) (fun b o _ _ _ e n => ⟨o.slots, k b o (nN b n) e⟩)
    (fun b o _ e n => by rw [at_ b (nN b n) (lt' b o e)]; exact n) (fun b o _ e => ?_) (fun b xs e => by rw [at_ b (nP b _ e (fun q z => by cases z)) (sm b _ e)]; exact e) (fun b o u e => by rw [at_ b (nP b _ e (fun q z => by cases z)) (sm b _ e)]; exact e) (fun b qs e => ?_) (fun m hn => ?_) (fun b u e => ?_) I.bare
  · by_cases hb : b = P
    · rw [hb]
      exact ⟨_, hm⟩
    · exact ⟨o, k b o hb e⟩
  · by_cases hb : b = P
    · rw [hb, hP] at e
      cases e
      rw [hb, atP]
      exact ⟨more, rfl⟩
    · rw [at_ b hb (sm b _ e), e]
      exact ⟨#[], by simp⟩
  · obtain ⟨ob, es, ep, ho, r⟩ := hn
    exact ⟨ob, es, ep, k _ ob (nN _ I.free) ho, r⟩
  · by_cases hb : b = c
    · rw [hb, upd_same] at e
      cases e
      rw [hb]
      exact ⟨ho, oc, ho⟩
    · by_cases hb2 : b = P
      · rw [hb2, atP] at e
        cases e
        rw [hb2]
        exact hm
      · rw [at_ b hb2 hb] at e
        refine (I.hok b u e).stay (fun d v hd q => k d v ?_ q) (fun d q => by rw [at_ d (nP d _ q (fun q z => by cases z)) (sm d _ q)]; exact q) fun d xs q => by rw [at_ d (nP d _ q (fun q z => by cases z)) (sm d _ q)]; exact q
        rcases hd with z | z
        · rw [z]
          exact hb2
        · exact nP d _ z (fun q z => by cases z)
/-- the heap behind the making of a lambda f whose code object is c' -/
inductive LamH (P : Addr) (q : Str) (H : L2.Hp) (f c' : Addr) (fo oc : Obj) (vs : Array Value) (t : Tok) : L2.Hp → Prop
  | hit : H f = none → H c' = some (.frz oc (.own c')) → (∃ ps pos, H P = some (.tbl ps) ∧ codeAmong pos ps.toList = some (.ref c')) → oc.data = .fields vs → vs[1]? = some (.str q t) → LamH P q H f c' fo oc vs t (upd H f (.frz fo (.own f)))
  | new {ps : Array Value} {pos : Pos} : H f = none → H c' = none → c' ≠ f → P ≠ f → P ≠ c' → H P = some (.tbl ps) → oc.data = .fields vs → vs[1]? = some (.str q t) →
      LamH P q H f c' fo oc vs t (upd (upd (upd H P (.tbl (ps ++ #[rawInt pos.line, rawInt pos.col, .ref c']))) c' (.frz oc (.own c'))) f (.frz fo (.own f)))
def tLamK (P : Addr) (q : Str) (params : Arguments) (body : Expr) (scope : Scope) (cl : List (Str × Addr)) : TE := fun σ H Q =>
  (∃ ps : Array Value, H P = some (.tbl ps) ∧ TriplesOk ps.toList ∧ ∀ (pos : Pos) (cv : Value), codeAmong pos ps.toList = some cv → ∃ (c : Addr) (oc : Obj) (vs : Array Value) (t : Tok), cv = .ref c ∧ H c = some (.frz oc (.own c)) ∧ oc.data = .fields vs ∧ vs[1]? = some (.str q t)) ∧
  ∀ f c' pm ctv oc vs t H1, LamH P q H f c' (PySem.W.kla_obj "<lambda>" q params body scope cl pm c' ctv) oc vs t H1 → Q (.ref f) H1
theorem pe_lamK {c P : Addr} {params : Arguments} {body : Expr} {scope : Scope} {pos : Pos} (TB : LamX.TabB X.base X.mg c P) (hcode : X.env.code = .ref c)
    (hdef : defaultsOf params X.env = ([], [])) (hfree : ∀ y ∈ scope.names, y.2 = .free → ∃ c, X.env.cells.lookup y.1 = some c) :
    PE X (.Lambda params body scope pos) (tLamK P (X.env.qual ++ "<lambda>") params body scope (cloFrom X.env.cells scope.names [])) := by
  refine ⟨fun pins s σ H Q I h => ?_⟩
  obtain ⟨⟨ps, hP, ht, ha⟩, h⟩ := h
  refine PySem.W.kla_eval hdef ?_
  have bP : s.heap.BuiltinsAt X.mg P := TB.bm.keeps I.bk
  have hP' : s.heap.get? P = some { cls := .none, data := .fields ps } := I.hok P _ hP
  cases hc : codeAmong pos ps.toList with
  | none =>
    refine PySem.W.kla_makeFunction (mg := X.mg) (c := c) (P := P) (ps := ps) (closure_ok hfree) I.ok.glob (I.mod.glob.keeps I.bk) hcode (TB.code.keeps I.bk) hP' ht hc TB.gP bP fun c' ctv h' tk hx hge hlt hrec htb => ?_
    obtain ⟨c2, oc, vs, t, e2, hoc, hd, hv⟩ := hrec
    cases e2
    have hsz : s.heap.objs.size ≤ h'.objs.size := Nat.le_trans hge (Nat.le_of_lt hlt)
    have I1 := inv_tableF (t' := tk) (more := #[rawInt pos.line, rawInt pos.col, .ref c']) (h' := h') I hP (fun b o hb e => hx b o hb e) htb hge hoc
    have n1 : c' ≠ h'.objs.size := Nat.ne_of_lt hlt
    have n2 : P ≠ h'.objs.size := Nat.ne_of_lt (Nat.lt_of_lt_of_le (Heap.lt_size hP') hsz)
    have n3 : P ≠ c' := ne_of_none hP (I.hok.fresh hge)
    have I2 := I1.laid (a := h'.objs.size) (t' := tk) (o := .frz (PySem.W.kla_obj "<lambda>" (X.env.qual ++ "<lambda>") params body scope (cloFrom X.env.cells scope.names []) ((X.mg "__name__").getD .none) c' ctv) (.own h'.objs.size))
      (h' := h'.push (PySem.W.kla_obj "<lambda>" (X.env.qual ++ "<lambda>") params body scope (cloFrom X.env.cells scope.names []) ((X.mg "__name__").getD .none) c' ctv)) (fun b u e => Heap.get?_push_of_some _ e) (Nat.le_refl _) ⟨Heap.get?_push_size _ rfl, _, Heap.get?_push_size _ rfl⟩
    exact ⟨.ref h'.objs.size, _, I2, rfl, h _ c' _ ctv oc vs t _ (.new (I.hok.fresh hsz) (I.hok.fresh hge) n1 n2 n3 hP hd hv)⟩
  | some cv =>
    obtain ⟨c', oc, vs, t, e, hco, hd, hv⟩ := ha pos cv hc
    subst e
    refine PySem.W.kla_makeFunctionHit (mg := X.mg) (c := c) (P := P) (ps := ps) (closure_ok hfree) I.ok.glob (I.mod.glob.keeps I.bk) hcode (TB.code.keeps I.bk) hP' ht hc bP fun ctv h' tk hx hsz => ?_
    have I1 : Inv X pins σ H { s with heap := h', toks := tk } := I.kept hx
    have I2 := I1.laid (a := h'.objs.size) (t' := tk) (o := .frz (PySem.W.kla_obj "<lambda>" (X.env.qual ++ "<lambda>") params body scope (cloFrom X.env.cells scope.names []) ((X.mg "__name__").getD .none) c' ctv) (.own h'.objs.size))
      (h' := h'.push (PySem.W.kla_obj "<lambda>" (X.env.qual ++ "<lambda>") params body scope (cloFrom X.env.cells scope.names []) ((X.mg "__name__").getD .none) c' ctv)) (fun b u e => Heap.get?_push_of_some _ e) (Nat.le_refl _) ⟨Heap.get?_push_size _ rfl, _, Heap.get?_push_size _ rfl⟩
    exact ⟨.ref h'.objs.size, _, I2, rfl, h _ c' _ ctv oc vs t _ (.hit (I.hok.fresh hsz) hco ⟨ps, pos, hP, hc⟩ hd hv)⟩
end
section
variable {B : Bs} {W : Wd} {σ : L2.St} {env : C.Env}
/-- in a world: the lambda is made, the table grown -/
theorem lam_world {P : Addr} {q : Str} {params : Arguments} {body : Expr} {scope : Scope} {cl : List (Str × Addr)} (r : RE B W σ env) (hk : TK P q) {Q : VK}
    (h : ∀ f c' pm ctv oc vs t W1, Step W W1 → RE B W1 σ env → W1.N = W.N → W1.H f = some (.frz (PySem.W.kla_obj "<lambda>" q params body scope cl pm c' ctv) (.own f)) → W1.H c' = some (.frz oc (.own c')) → oc.data = .fields vs → vs[1]? = some (.str q t) → Q (.ref f) W1.H) :
    tLamK P q params body scope cl σ W.H Q := by
  obtain ⟨hph, ps, hP, ht, ha⟩ := r.tb P q hk
  refine ⟨⟨ps, hP, ht, fun pos cv e => ?_⟩, fun f c' pm ctv oc vs t H1 hL => ?_⟩
  · obtain ⟨c, oc, vs, t, e1, e2, _, e4, e5⟩ := ha pos cv e
    exact ⟨c, oc, vs, t, e1, e2, e4, e5⟩
  · cases hL with
    | hit nf hc _ hd hv =>
      have s1 : Same W.H (upd W.H f (.frz (PySem.W.kla_obj "<lambda>" q params body scope cl pm c' ctv) (.own f))) := same_upd nf
      exact h f c' pm ctv oc vs t _ (Step.grow s1) (r.grow s1) rfl upd_same (s1 _ _ hc) hd hv
    | new nf nc n1 n2 n3 hP' hd hv =>
      rename_i ps' pos
      rw [hP] at hP'; cases hP'
      let Ha : L2.Hp := upd (upd W.H P (.tbl (ps ++ #[rawInt pos.line, rawInt pos.col, .ref c']))) c' (.frz oc (.own c'))
      have aC : Ha c' = some (.frz oc (.own c')) := upd_same
      have aP : Ha P = some (.tbl (ps ++ #[rawInt pos.line, rawInt pos.col, .ref c'])) := (upd_ne n3).trans upd_same
      have aO : ∀ b, b ≠ P → b ≠ c' → Ha b = W.H b := fun b h1 h2 => (upd_ne h2).trans (upd_ne h1)
      have keep : ∀ b o, b ≠ P → W.H b = some o → Ha b = some o := fun b o h1 e => (aO b h1 (ne_of_none e nc)).trans e
      have notP : ∀ b o, W.H b = some o → (∀ ps, o ≠ .tbl ps) → b ≠ P := fun b o e nt z => by rw [z, hP] at e; exact nt ps (Option.some.inj e).symm
      have unP : ∀ b, W.ow b = none → b ≠ P := fun b e z => by rw [z, hph.1] at e; cases e
      have owC : W.ow c' = none := (r.free nc).1
      have ext : Ext W.N W.H W.N Ha := ⟨fun _ h => h, fun a o hn e => keep a o (fun z => r.apart P ph hph.1 (z ▸ hn)) e, fun a xs e => keep a _ (notP a _ e (fun _ z => nomatch z)) e, fun a o u e => keep a _ (notP a _ e (fun _ z => nomatch z)) e⟩
      have tab : ∀ P2 q2, TabW W P2 q2 → TabW { W with H := Ha } P2 q2 := fun P2 q2 t2 => by
        obtain ⟨g0, ps2, g1, g2, g3⟩ := t2
        by_cases e : P2 = P
        · subst e
          have eq : q2 = q := Lams.fn _ g0.2 _ hk rfl
          subst eq
          rw [hP] at g1; cases g1
          refine ⟨g0, _, aP, by rw [show (ps ++ #[rawInt pos.line, rawInt pos.col, .ref c']).toList = ps.toList ++ [rawInt pos.line, rawInt pos.col, .ref c'] by simp]; exact PySem.TriplesOk_snoc _ _ _ _ g2, fun p' cv hcv => ?_⟩
          rw [show (ps ++ #[rawInt pos.line, rawInt pos.col, .ref c']).toList = ps.toList ++ [rawInt pos.line, rawInt pos.col, .ref c'] by simp] at hcv
          rcases LamX.among_app _ g2 hcv with z | z
          · obtain ⟨c0, oc0, vs0, t0, e1, e2, e3, e4⟩ := g3 p' cv z
            exact ⟨c0, oc0, vs0, t0, e1, keep _ _ (notP _ _ e2 (fun _ z => nomatch z)) e2, e3, e4⟩
          · exact ⟨c', oc, vs, t, z, aC, owC, hd, hv⟩
        · refine ⟨g0, ps2, keep _ _ e g1, g2, fun p' cv hcv => ?_⟩
          obtain ⟨c0, oc0, vs0, t0, e1, e2, e3, e4⟩ := g3 p' cv hcv
          exact ⟨c0, oc0, vs0, t0, e1, keep _ _ (notP _ _ e2 (fun _ z => nomatch z)) e2, e3, e4⟩
      have st : Step W { W with H := Ha } := ⟨fun _ h => h, fun b o e n => keep b o (unP b n) e, fun b e => by
        cases hb : W.H b with
        | none => exact absurd hb e
        | some o =>
          by_cases z : b = P
          · show Ha b ≠ none; rw [z, aP]; simp
          · show Ha b ≠ none; rw [keep b o z hb]; simp, fun _ _ n => n, fun _ _ _ q => q, tab⟩
      have ra : RE B { W with H := Ha } σ env := by
        refine ⟨r.len, fun i sl e n => ?_, r.apart, fun b hb => st.th b (r.nin b hb), fun b i hb => ?_, fun P2 q2 k => tab P2 q2 (r.tb P2 q2 k)⟩
        · obtain ⟨v, h1, h2⟩ := r.slot i sl e n
          exact ⟨v, h1, RSl.ext2 ext (fun b o hb e nf => ⟨keep b o (fun z => nf.1 ps (by rw [z]; exact hP)) e, hb⟩) h2⟩
        · have own := r.oin b i hb
          cases hb2 : W.H b with
          | none => rw [hb2] at own; exact own.elim
          | some o =>
            by_cases z : b = P
            · show Own (Ha b); rw [z, aP]; trivial
            · show Own (Ha b); rw [keep b o z hb2]; rw [hb2] at own; exact own
      have nfa : Ha f = none := (aO f n2.symm n1.symm).trans nf
      have s1 : Same Ha (upd Ha f (.frz (PySem.W.kla_obj "<lambda>" q params body scope cl pm c' ctv) (.own f))) := same_upd nfa
      have st2 : Step W { ({ W with H := Ha } : Wd) with H := upd Ha f (.frz (PySem.W.kla_obj "<lambda>" q params body scope cl pm c' ctv) (.own f)) } := st.trans (Step.grow s1)
      exact h f c' pm ctv oc vs t _ st2 (ra.grow s1) rfl upd_same (s1 _ _ aC) hd hv
end
end C
end
section
set_option Elab.async false
set_option linter.all false
set_option maxRecDepth 100000
set_option maxHeartbeats 1000000
/-! sorted(xs, key=lambda v: ..) -/
namespace C
open PySem PySem.Spec L2
variable [Lams]
mutual
theorem pure_plain : ∀ {d : D}, pureD d = true → PyData.plain d = true
  | .none, _ => rfl
  | .bool _, _ => rfl
  | .int _, _ => rfl
  | .str _, _ => rfl
  | .tuple ds, h => by unfold PyData.plain; exact pure_plains (by simpa [pureD] using h)
  | .list _, h => by simp [pureD] at h
  | .dict _, h => by simp [pureD] at h
theorem pure_plains : ∀ {ds : List D}, pureAll ds = true → PyData.plainAll ds = true
  | [], _ => rfl
  | d :: ds, h => by
    simp only [pureAll, Bool.and_eq_true] at h
    unfold PyData.plainAll
    rw [pure_plain h.1, pure_plains h.2]; rfl
end
theorem pureAll_mem : ∀ {ds : List D}, pureAll ds = true → ∀ d ∈ ds, pureD d = true
  | [], _, _, h => by simp at h
  | d :: ds, h, e, he => by
    simp only [pureAll, Bool.and_eq_true] at h
    rcases List.mem_cons.mp he with rfl | he
    · exact h.1
    · exact pureAll_mem h.2 e he
theorem kevs_ok {key : KX} : ∀ {ds ks : List D}, kevs key ds = some ks → ks = ds.map (keyD' key) ∧ ∀ d ∈ ds, kev key d = some (keyD' key d)
  | [], ks, h => by cases h; exact ⟨rfl, fun d hd => by simp at hd⟩
  | d :: ds, ks, h => by
    unfold kevs at h
    simp only [Option.bind_eq_some_iff, Option.map_eq_some_iff] at h
    obtain ⟨k, h1, ks', h2, rfl⟩ := h
    obtain ⟨e1, e2⟩ := kevs_ok h2
    have hk : keyD' key d = k := by unfold keyD'; rw [h1]; rfl
    refine ⟨by rw [List.map_cons, hk, e1], fun d' hd => ?_⟩
    rcases List.mem_cons.mp hd with rfl | hd
    · rw [hk]; exact h1
    · exact e2 d' hd
/-- the lambda's text: its scope, parameter, body -/
structure LamT where
  q : Str
  params : Arguments
  body : Expr
  scope : Scope
  cl : List (Str × Addr)
def rSK (B : Bs) (key : KX) (L : LamT) : List V → List V → Hp → VK → Prop := fun xs zs H Q => ∃ N v f c' pm ctv oc vs t ds ks, xs = [v] ∧ zs = [V.ref f] ∧ RA B N H v (.list ds) ∧ H f = some (.frz (PySem.W.kla_obj "<lambda>" L.q L.params L.body L.scope L.cl pm c' ctv) (.own f)) ∧ H c' = some (.frz oc (.own c')) ∧
  oc.data = .fields vs ∧ vs[1]? = some (.str L.q t) ∧ pureAll ds = true ∧ ds.length ≤ lineN ∧ kevs key ds = some ks ∧ sortOk ks = true ∧ noEmp ks = true ∧
  ∀ v' H', Grow B N H H' v' (.ow (.list (ds.mergeSort (PySem.W.dataLe false (keyD' key))))) → Q v' H'
theorem sk_call {X : Cx} {key : KX} {L : LamT} {v : Str} {free : List Str} (hu : X.A.units + 150 < cLine) (hr : X.A.depth < recursionLimit) (hf : ∀ x ∈ free, X.mg x = none) (hc : ckX L.scope free v key L.body = true) (hs : ckL L.scope v = true)
    (hbind : ∀ pm c' ctv u, bindArgs (PySem.W.kla_fn "<lambda>" L.q L.params L.body L.scope L.cl pm (.ref c') ctv) ⟨[u], []⟩ = pure [(v, u)]) : CallRK X (.builtin "sorted") [Str.ofString "key"] (rSK (bsOf X) key L) := by
  intro pins s σ H xs zs us ws Q I r rz h
  obtain ⟨N, d, f, c', pm, ctv, oc, vsc, t, ds, ks, rfl, rfl, a, hfo, hco, hcd, hcv, hpure, hlen, hks, hsk, hne, q⟩ := h
  obtain ⟨u, rfl, ru⟩ := vals1 r
  obtain ⟨w1, rfl, e1⟩ := vals1 rz
  obtain rfl : w1 = Value.ref f := e1
  obtain ⟨p, vs, rfl, hp, ra⟩ := a.list
  cases ru
  obtain ⟨its, rv, pl, hz⟩ := I.list (.inl hp)
  obtain ⟨rfl, hkd⟩ := kevs_ok hks
  obtain ⟨h1, h2, h3⟩ := sortOk_and hsk
  obtain ⟨of, _⟩ := I.hok f _ hfo
  obtain ⟨ofc, _⟩ := I.hok c' _ hco
  have hS : PySem.W.Sortable (ds.map (keyD' key)) := by
    rcases h3 with h3 | h3
    · refine .inl fun d hd => ?_
      have z1 := List.all_eq_true.mp h3 d hd
      have z2 := List.all_eq_true.mp hne d hd
      cases d with
      | tuple l => cases l with
        | nil => cases z2
        | cons x r => exact ⟨x, r, rfl⟩
      | _ => cases z1
    · exact .inr h3
  have hlenE : ds.length = vs.length := ra.length.symm
  have h63 := line63
  refine PySem.W.sorted_key_data (R := fun u d => VD (bsOf X) N H u d ∧ d ∈ ds) (keyD' key) pl.isList (PySem.W.each_mem (each_of rv ra)) h1 hS (by rw [lineN_eq] at hlen; exact hlen) (fun d hd => ?_) (PyProof.Rows.ksk_s1 _ _) (fun _ => PyProof.Rows.ksk_l1 _ _) (fun _ => PyProof.Rows.ksk_t1 _ _) (fun u d hR hd hh tk kp => ?_) (fun out c h' tk kp hn hD hl e => ?_)
  · have := (h2 _ (List.mem_map.mpr ⟨d, hd, rfl⟩)).2
    omega
  · obtain ⟨⟨v1, rv1, rp1⟩, _⟩ := hR
    have pu := pureAll_mem hpure d hd
    obtain ⟨as, rd⟩ := rel_reads I rv1 (.inl rp1) (pure_plain pu)
    have := reads_nil pu rd; subst this
    have nsg : s.heap.Ns mainGlobals X.mg := I.mod.glob.keeps I.bk
    obtain ⟨mb, b1, b2⟩ := I.mod.blt
    exact lam_call (s := { s with heap := hh, toks := tk }) hf hc hs (hkd d hd) pu (PyProof.Rows.Reads.keeps kp rd) (kp _ _ of) ⟨c', oc, vsc, t, rfl, kp _ _ ofc, hcd, hcv⟩ (hbind pm c' ctv u) (nsg.keeps kp) ⟨mb, (b1.keeps I.bk).keeps kp, b2⟩ (I.nolimit.keeps kp) hr
  · obtain ⟨vs', hv', hr'⟩ := of_each (e.mono fun _ _ z => z.1)
    have hlen2 : vs'.length ≤ sizeLine := by rw [hr'.length, List.length_mergeSort]; rw [lineN_eq] at hlen; exact hlen
    exact ⟨.ref (s.heap.objs.size + 1), _, I.laid (t' := tk) (o := .lst vs') kp (Nat.le_succ _) ⟨hlen2, out, c, hv', hD⟩, rfl, q _ _ (.newLst (I.hok.fresh (Nat.le_succ _)) hr')⟩
theorem evE_sk {cf : Nat → List Sl → CR} {xs : CA} {key : KX} {env env' : C.Env} {s : Sl} (h : evE cf (.sk xs key) env = .ok s env') : ∃ v ds ks, evA cf xs env = .ok v env' ∧ avData env' v = some (.list ds) ∧ pureAll ds = true ∧ ds.length ≤ lineN ∧ kevs key ds = some ks ∧ sortOk ks = true ∧ noEmp ks = true ∧ s = .ow (.list (ds.mergeSort (PySem.W.dataLe false (keyD' key)))) := by
  unfold evE at h
  obtain ⟨v, e1, h1, h2⟩ := bind_ok h
  split at h2
  · rename_i ds hd
    split at h2
    · rename_i hp
      obtain ⟨p1, p2⟩ := ba2 hp
      split at h2
      · rename_i ks hk
        split at h2
        · rename_i hs
          obtain ⟨s1, s2⟩ := ba2 hs
          cases h2
          exact ⟨v, ds, ks, h1, hd, p1, of_decide_eq_true p2, hk, s1, s2, rfl⟩
        · cases h2
      · cases h2
    · cases h2
  · cases h2
theorem sk_sem {B : Bs} {cf : Nat → List Sl → CR} {xs : CA} {key : KX} {P : Addr} {L : LamT} (hk : TK P L.q) {σ : L2.St} {H : L2.Hp} {Q : VK} (h : tE B cf (.sk xs key) σ H Q) :
    tCKw (rSK B key L) (tCons (tCA B cf xs) tNil) (tCons (tLamK P L.q L.params L.body L.scope L.cl) tNil) σ H Q := by
  obtain ⟨W, env, s, env', rfl, r, e, q⟩ := h
  obtain ⟨v, ds, ks, h1, hd, hp, hl, hks, hs, hn, rfl⟩ := evE_sk e
  refine tCA_run r h1 fun x W1 s1 r1 ra => ?_
  refine (show tLamK P L.q L.params L.body L.scope L.cl σ W1.H (fun z H2 => rSK B key L [x] [z] H2 Q) from ?_)
  refine lam_world r1 hk fun f c' pm ctv oc vs t W2 s2 r2 nN hf hc hdt hv => ?_
  refine ⟨W2.N, x, f, c', pm, ctv, oc, vs, t, ds, ks, rfl, rfl, (ra.step r1 s2).data r2 hd, hf, hc, hdt, hv, hp, hl, hks, hs, hn, fun v' H' g => ?_⟩
  obtain ⟨g1, g2, g3⟩ := grow_fin r2 g
  exact q v' _ ((s1.trans s2).trans g1) g2 (g3.since (s1.trans s2))
end C
end
section
set_option Elab.async false
set_option linter.all false
set_option maxRecDepth 100000
set_option maxHeartbeats 4000000
/-! set(t), t a tuple of tuples of whole numbers -/
namespace C
open PySem PySem.Spec PyProof.Rows L2
/-- the object of a set that is empty -/
abbrev eSet (w : World) : Obj := { cls := .type "set", dict := none, data := .set #[] 0 (.fresh 0 0 (!w.params.followText "set-order")) }
section
variable {P : Program} {w : World} {A : Around} {E : Value → Shared → Prop} {s : Shared}
/-- what stands once the set has been filled -/
def Filled (P : Program) (w : World) (s : Shared) (ks : List (Addr × List Int)) (s2 : Shared) : Prop := ∃ (h' : Heap) (tk : Nat) (L : List (Addr × List Int)) (es : Array (Int × Value)) (ep : Nat) (t : SetTable), s2 = { s with heap := h', toks := tk } ∧
  SetTR P w h' s.heap.objs.size L es ep t ∧ Got ks ks.length L ∧ ∀ b o, s.heap.get? b = some o → h'.get? b = some o
theorem beyond {h : Heap} {b : Addr} (hb : h.objs.size ≤ b) : h.get? b = none := by
  cases q : h.get? b with
  | none => rfl
  | some o => exact absurd (Heap.lt_size q) (Nat.not_lt.mpr hb)
theorem call_set_tt {l : Addr} {items : Array Value} (ks : List (Addr × List Int)) {Q : Value → Shared → Prop} (hh : A.handled = none) (hl : s.heap.IsTuple l items) (hit : items.toList = ks.map fun p => Value.ref p.1)
    (hk : ∀ p ∈ ks, IsT P w s.heap p.2 p.1) (hfew : ks.length < 64) (hu : A.units + 3 < cLine) (h : ∀ s2, Filled P w s ks s2 → Q (.ref s.heap.objs.size) s2) : wpAny (model P w) A (call (.type "set") [.ref l]) Q E s := by
  have hisz : items.size = ks.length := by rw [← Array.length_toList, hit, List.length_map]
  obtain ⟨c, tl, hmro⟩ := F.called_set.mro
  have hmade := F.called_set.made
  have hsub := F.called_set.sub
  refine wpAny_call (codeAny_of_tree (show wpAny _ _ (callAny (.type "set") _) _ _ _ from ?_))
  refine wpAny_pure ⟨Code.quiet_builtin _ (by decide +kernel), codeAny_builtin F.entry_type_call ?_⟩
  have hun := Around.under_plain (A := A) (weight_type_call_type "set" [.ref l] []) rfl
  rw [hun]
  have h1 := F.called_set.notType
  have h2 := F.called_set.canCreate
  have hct := F.typeCall_set_1 (.ref l)
  repeat (any_goals (first | assumption | wp_step))
  refine codeAny_mono (code_set_led1 (.ref l) (E := E) (Q₁ := fun x s1 => x = .ref s.heap.objs.size ∧ s1 = { s with heap := s.heap.push (eSet w) }) ⟨rfl, rfl⟩) fun r s1 hr => ?_
  cases r with
  | error e => exact hr
  | ok fl =>
    cases fl with
    | next => exact hr.elim
    | brk => exact hr.elim
    | cont => exact hr.elim
    | ret x =>
      obtain ⟨rfl, rfl⟩ := hr
      have hS : (s.heap.push (eSet w)).get? s.heap.objs.size = some (eSet w) := Heap.get?_push_size _ rfl
      have hT : Shared.TypeIs { s with heap := s.heap.push (eSet w) } (.ref s.heap.objs.size) "set" := ⟨_, hS, rfl⟩
      have hli := F.called_set.init.lookup
      have hbi := F.called_set.init.bind (.ref s.heap.objs.size)
      repeat (any_goals (first | assumption | wp_step))
      refine codeAny_mono (codeAny_call_builtin (R := wants (fun r s2 => r = .none ∧ Filled P w s ks s2) E) F.called_set.init.plain F.entry_set_init (check_set_init_1 hT ?_)) fun r2 s2 hr2 => ?_
      · obtain ⟨⟨ocls, odict, odata, oslots⟩, hol, hcl, nl, hdl⟩ := hl
        simp only at hcl hdl
        subst hcl hdl
        have hol' := Heap.get?_push_of_some (eSet w) hol
        have hsls := F.sub_tuple_set
        have hslf := F.sub_tuple_frozenset
        have hne : (Value.type "tuple" == Value.type "dict") = false := by decide
        have hl1 : (s.heap.push (eSet w)).IsTuple l items := ⟨_, hol', rfl, nl, rfl⟩
        unfold Builtin.«set.__init__» noKeywords Builtin.Frozenset.updateFrom
        generalize hPI : pyIter = PI
        wp_walk
        subst hPI
        refine wpAny_pyIter_tuple hl1 (wpAny_bind (wpAny_runValue ?_))
        have hlS := Heap.lt_size hol
        have hz1 : (s.heap.push (eSet w)).objs.size = s.heap.objs.size + 1 := Heap.size_push ..
        have hneI : l ≠ (s.heap.push (eSet w)).objs.size := by rw [hz1]; exact Nat.ne_of_lt (Nat.lt_succ_of_lt hlS)
        have hSf : s.heap.objs.size ∉ [(s.heap.push (eSet w)).objs.size, l] := by
          rw [hz1]
          intro z
          rcases List.mem_cons.mp z with z | z
          · exact absurd z (Nat.ne_of_lt (Nat.lt_succ_self _))
          · rw [List.mem_singleton] at z; exact absurd z (Nat.ne_of_gt hlS)
        have hval : ∀ (i : Nat) (v : Value), items[i]? = some v → ∃ p, ks[i]? = some p ∧ v = .ref p.1 := fun i v hv => by
          have q : (ks.map fun p => Value.ref p.1)[i]? = some v := by rw [← hit, Array.getElem?_toList]; exact hv
          rw [List.getElem?_map, Option.map_eq_some_iff] at q
          obtain ⟨p, q1, q2⟩ := q
          exact ⟨p, q1, q2.symm⟩
        refine set_update_tups ((Walks.tuple (by simp [hh]) _ l hneI items).toS) s.heap.objs.size hSf ks hisz hfew hval s.heap hk (beyond (Nat.le_refl _)) (fun b hb => beyond (by rw [List.mem_singleton.mp hb, hz1]; exact Nat.le_succ _)) hu
          (items.size - 0) 0 _ (by omega) (Nat.zero_le _) ⟨⟨_, Heap.get?_push_size _ rfl, rfl, rfl⟩, hl1.push _⟩ (fun b o e => Heap.get?_push_of_some _ (Heap.get?_push_of_some _ e)) ⟨[], #[], 0, _, setTR_fresh (Heap.get?_push_of_some _ hS), Got.zero ks⟩ ?_
        rintro ⟨h', g2, d', tk', os'⟩ L es ep t hm hS' g' hkp
        obtain rfl : g2 = s.gens := hm.gens
        obtain rfl : d' = s.drawn := hm.drawn
        obtain rfl : os' = s.os := hm.os
        rw [hisz] at g'
        refine wpAny_pure ?_
        exact wpAny_pure ⟨rfl, h', tk', L, es, ep, t, rfl, hS', g', hkp⟩
      · cases r2 with
        | error e => exact hr2
        | ok f2 =>
          cases f2 with
          | next => exact hr2.elim
          | brk => exact hr2.elim
          | cont => exact hr2.elim
          | ret r =>
            obtain ⟨rfl, hf⟩ := hr2
            have hQ := h _ hf
            obtain ⟨h', tk, L, es, ep, t, rfl, _⟩ := hf
            repeat (any_goals (first | assumption | wp_step))
end
end C
end
section
set_option Elab.async false
set_option linter.all false
set_option maxRecDepth 100000
/-! The evaluator's own equations; comprehensions, loops. -/
namespace C
open PySem
section
variable {cf : Nat → List Sl → CR} {wf : Nat} {env env1 env' : Env}

theorem callF_succ {Ds : Nat → Option DefC} {wf n f : Nat} {d : DefC} (h : Ds f = some d) (args : List Sl) : callF Ds wf (n + 1) f args = runDef (callF Ds wf n) wf d args := by
  rw [callF, h]

@[simp] theorem bind_okE {α β : Type} (a : α) (e : Env) (f : α → Env → R β) : (R.ok a e).bind f = f a e := id rfl
@[simp] theorem gt_z (a : Sl) (l : Env) : gt (a :: l) 0 = a := id rfl
@[simp] theorem gt_s (a : Sl) (l : Env) (n : Nat) : gt (a :: l) (n + 1) = gt l n := id rfl
/-! what stands behind a part that has been evaluated: named, so that the kernel compares them by their parts -/
def vK (i : Nat) (env : Env) : Sl → R Sl
  | .sh d => .ok (.sh d) env
  | .ow d => .ok (.sh d) (env.set i (.sh d))
  | _ => .bad
@[simp] theorem vK_sh (i : Nat) (d : D) : vK i env (.sh d) = .ok (.sh d) env := id rfl
@[simp] theorem vK_ow (i : Nat) (d : D) : vK i env (.ow d) = .ok (.sh d) (env.set i (.sh d)) := id rfl
def finP (env : Env) : Option Sl → R Sl
  | some s => .ok s env
  | none => .bad
@[simp] theorem finP_some (s : Sl) : finP env (some s) = .ok s env := id rfl
def prK (p : Pr) (vs : List AV) (env : Env) : R Sl := finP env ((avDatas env vs).bind (evP p))
def iteK (cf : Nat → List Sl → CR) (a b : CE) (s : Sl) (env : Env) : R Sl := match s with
  | .sh (.bool true) => evE cf a env
  | .sh (.bool false) => evE cf b env
  | _ => .bad
@[simp] theorem iteK_t (a b : CE) : iteK cf a b (.sh (.bool true)) env = evE cf a env := id rfl
@[simp] theorem iteK_f (a b : CE) : iteK cf a b (.sh (.bool false)) env = evE cf b env := id rfl
theorem iteK_b (a b : CE) (t : Bool) : iteK cf a b (.sh (.bool t)) env = if t then evE cf a env else evE cf b env := by cases t <;> rfl
def andK (cf : Nat → List Sl → CR) (b : CE) (s : Sl) (env : Env) : R Sl := match s with
  | .sh (.bool true) => evE cf b env
  | .sh (.bool false) => .ok (.sh (.bool false)) env
  | _ => .bad
@[simp] theorem andK_t (b : CE) : andK cf b (.sh (.bool true)) env = evE cf b env := id rfl
@[simp] theorem andK_f (b : CE) : andK cf b (.sh (.bool false)) env = .ok (.sh (.bool false)) env := id rfl
def orK (cf : Nat → List Sl → CR) (b : CE) (s : Sl) (env : Env) : R Sl := match s with
  | .sh (.bool true) => .ok (.sh (.bool true)) env
  | .sh (.bool false) => evE cf b env
  | _ => .bad
@[simp] theorem orK_t (b : CE) : orK cf b (.sh (.bool true)) env = .ok (.sh (.bool true)) env := id rfl
@[simp] theorem orK_f (b : CE) : orK cf b (.sh (.bool false)) env = evE cf b env := id rfl
@[simp] theorem evE_k (d : D) : evE cf (.k d) env = .ok (.sh d) env := by rw [evE]
@[simp] theorem evE_v (i : Nat) : evE cf (.v i) env = vK i env (gt env i) := by
  rw [evE]; cases gt env i <;> rfl
@[simp] theorem evE_prP (p : Pr) (as : CAs) : evE cf (.pr p as) env = (evAs cf as env).bind (prK p) := by
  rw [evE]
  congr
@[simp] theorem evE_ite (c a b : CE) : evE cf (.ite c a b) env = (evE cf c env).bind (iteK cf a b) := by rw [evE] <;> rfl
@[simp] theorem evE_and (a b : CE) : evE cf (.and a b) env = (evE cf a env).bind (andK cf b) := by rw [evE] <;> rfl
@[simp] theorem evE_or (a b : CE) : evE cf (.or a b) env = (evE cf a env).bind (orK cf b) := by rw [evE] <;> rfl
@[simp] theorem prK_q (p : Pr) (vs : List AV) : prK p vs env = finP env ((avDatas env vs).bind (evP p)) := id rfl
/-- a call's behind -/
def callK (vs : List AV) (env1 : Env) : CR → R Sl
  | .ok s outs => if hasBo vs && !(pureSl s && pureOuts vs outs) then .bad else .ok s (putBack env1 vs outs)
  | .ex x outs => .ex x (putBack env1 vs outs)
  | .bad => .bad
@[simp] theorem callK_ok (vs : List AV) (env1 : Env) (s : Sl) (outs : List Sl) : callK vs env1 (.ok s outs) = if hasBo vs && !(pureSl s && pureOuts vs outs) then .bad else .ok s (putBack env1 vs outs) := id rfl
def callA (cf : Nat → List Sl → CR) (f : Nat) (vs : List AV) (env1 : Env) : Option (List Sl) → R Sl
  | some ss => callK vs env1 (cf f ss)
  | none => .bad
@[simp] theorem callA_some (f : Nat) (vs : List AV) (env1 : Env) (ss : List Sl) : callA cf f vs env1 (some ss) = callK vs env1 (cf f ss) := id rfl
def callB (cf : Nat → List Sl → CR) (f : Nat) (vs : List AV) (env1 : Env) : R Sl := if okAvs vs then callA cf f vs env1 (argSls env1 vs) else .bad
@[simp] theorem callB_q (f : Nat) (vs : List AV) (env1 : Env) : callB cf f vs env1 = if okAvs vs then callA cf f vs env1 (argSls env1 vs) else .bad := id rfl
@[simp] theorem evE_callP (f : Nat) (as : CAs) : evE cf (.call f as) env = (evAs cf as env).bind (callB cf f) := by
  rw [evE]
  congr
def muC (i : Nat) (env1 : Env) : Option (D × D) → R Sl
  | some (d', r) => .ok (.sh r) (env1.set i (.ow d'))
  | none => .bad
@[simp] theorem muC_some (i : Nat) (env1 : Env) (d' r : D) : muC i env1 (some (d', r)) = .ok (.sh r) (env1.set i (.ow d')) := id rfl
def muB (i : Nat) (m : Mu) (env1 : Env) : Sl → Option (List D) → R Sl
  | .ow d, some ds => muC i env1 (evM m d ds)
  | _, _ => .bad
@[simp] theorem muB_ow (i : Nat) (m : Mu) (env1 : Env) (d : D) (ds : List D) : muB i m env1 (.ow d) (some ds) = muC i env1 (evM m d ds) := id rfl
def muA (i : Nat) (m : Mu) (vs : List AV) (env1 : Env) : R Sl := if muOk m vs then muB i m env1 (gt env1 i) (avDatas env1 vs) else .bad
@[simp] theorem muA_q (i : Nat) (m : Mu) (vs : List AV) (env1 : Env) : muA i m vs env1 = if muOk m vs then muB i m env1 (gt env1 i) (avDatas env1 vs) else .bad := id rfl
@[simp] theorem evE_muP (i : Nat) (m : Mu) (as : CAs) : evE cf (.mu i m as) env = if muAt m (gt env i) then (evAs cf as env).bind (muA i m) else .bad := by
  rw [evE]
  congr
def chainC (q : Pr) (y : D) (u : Sl) (env3 : Env) : R Sl := finP env3 ((dataOf u).bind fun z => evP q [y, z])
def chainB (cf : Nat → List Sl → CR) (q : Pr) (c : CE) (y : D) (env2 : Env) : Option Sl → R Sl
  | some (.sh (.bool true)) => (evE cf c env2).bind (chainC q y)
  | some (.sh (.bool false)) => .ok (.sh (.bool false)) env2
  | _ => .bad
@[simp] theorem chainB_t (q : Pr) (c : CE) (y : D) (env2 : Env) : chainB cf q c y env2 (some (.sh (.bool true))) = (evE cf c env2).bind (chainC q y) := id rfl
@[simp] theorem chainB_f (q : Pr) (c : CE) (y : D) (env2 : Env) : chainB cf q c y env2 (some (.sh (.bool false))) = .ok (.sh (.bool false)) env2 := id rfl
@[simp] theorem chainC_q (q : Pr) (y : D) (u : Sl) (env3 : Env) : chainC q y u env3 = finP env3 ((dataOf u).bind fun z => evP q [y, z]) := id rfl
def chainA (cf : Nat → List Sl → CR) (p q : Pr) (c : CE) (env2 : Env) : Option D → Option D → R Sl
  | some x, some y => chainB cf q c y env2 (evP p [x, y])
  | _, _ => .bad
@[simp] theorem chainA_some (p q : Pr) (c : CE) (env2 : Env) (x y : D) : chainA cf p q c env2 (some x) (some y) = chainB cf q c y env2 (evP p [x, y]) := id rfl
@[simp] theorem evE_chain (p q : Pr) (a b c : CE) : evE cf (.chain p q a b c) env = (evE cf a env).bind fun s env1 => (evE cf b env1).bind fun t env2 => chainA cf p q c env2 (dataOf s) (dataOf t) := by
  rw [evE]
  congr
  funext s env1
  congr
  funext t env2
  cases dataOf s <;> cases dataOf t <;> try rfl
  rename_i x y
  show (match evP p [x, y] with | some (.sh (.bool true)) => _ | some (.sh (.bool false)) => _ | _ => _) = chainB cf q c y env2 (evP p [x, y])
  unfold chainB
  split <;> try rfl
  congr
  funext u env3
  unfold chainC
  cases dataOf u with
  | none => rfl
  | some z => show (match evP q [y, z] with | some s => _ | none => _) = finP env3 (evP q [y, z]); cases evP q [y, z] <;> rfl
def skC (key : KX) (ds : List D) (env1 : Env) : Option (List D) → R Sl
  | some ks => if sortOk ks && noEmp ks then .ok (.ow (.list (ds.mergeSort (PySem.W.dataLe false (keyD' key))))) env1 else .bad
  | none => .bad
@[simp] theorem skC_some (key : KX) (ds : List D) (env1 : Env) (ks : List D) : skC key ds env1 (some ks) = if sortOk ks && noEmp ks then .ok (.ow (.list (ds.mergeSort (PySem.W.dataLe false (keyD' key))))) env1 else .bad := id rfl
def skB (key : KX) (env1 : Env) : Option D → R Sl
  | some (.list ds) => if pureAll ds && decide (ds.length ≤ lineN) then skC key ds env1 (kevs key ds) else .bad
  | _ => .bad
@[simp] theorem skB_l (key : KX) (env1 : Env) (ds : List D) : skB key env1 (some (.list ds)) = if pureAll ds && decide (ds.length ≤ lineN) then skC key ds env1 (kevs key ds) else .bad := id rfl
@[simp] theorem evE_sk' (xs : CA) (key : KX) : evE cf (.sk xs key) env = (evA cf xs env).bind fun v env1 => skB key env1 (avData env1 v) := by
  rw [evE]
  congr
@[simp] theorem evA_eP (c : CE) : evA cf (.e c) env = (evE cf c env).bind fun s env1 => .ok (.made s) env1 := by rw [evA]
def boK (i : Nat) (env : Env) : Option D → R AV
  | some _ => .ok (.bo i) env
  | none => .bad
@[simp] theorem boK_some (i : Nat) (d : D) : boK i env (some d) = .ok (.bo i) env := id rfl
@[simp] theorem evA_bo (i : Nat) : evA cf (.bo i) env = boK i env (dataOf (gt env i)) := by
  rw [evA]; cases dataOf (gt env i) <;> rfl
def rfK (i : Nat) (env : Env) : Sl → R AV
  | .no => .bad
  | _ => .ok (.rf i) env
@[simp] theorem rfK_ow (i : Nat) (d : D) : rfK i env (.ow d) = .ok (.rf i) env := id rfl
@[simp] theorem evA_rf (i : Nat) : evA cf (.rf i) env = rfK i env (gt env i) := by
  rw [evA]; cases gt env i <;> rfl
@[simp] theorem evAs_nil' : evAs cf .nil env = .ok [] env := by rw [evAs]
@[simp] theorem evAs_cons' (a : CA) (as : CAs) : evAs cf (.cons a as) env = (evA cf a env).bind fun v env1 => (evAs cf as env1).bind fun vs env2 => .ok (v :: vs) env2 := by rw [evAs]
@[simp] theorem evE_fv (n : Nat) : evE cf (.fv n) env = .ok (.fn n) env := by rw [evE]
def callV (cf : Nat → List Sl → CR) (as : CAs) (env : Env) : Sl → R Sl
  | .fn f => (evAs cf as env).bind (callB cf f)
  | _ => .bad
@[simp] theorem callV_fn (as : CAs) (n : Nat) : callV cf as env (.fn n) = (evAs cf as env).bind (callB cf n) := id rfl
@[simp] theorem evE_callv (i : Nat) (as : CAs) : evE cf (.callv i as) env = callV cf as env (gt env i) := by
  rw [evE]
  cases gt env i <;> first | rfl | (show _ = (evAs cf as env).bind _; congr)
def tstK (vs : List AV) (env2 : Env) : Option D → Option (List D) → R Sl
  | some (.tuple xs), some ds => if allMade vs && decide (xs.length + ds.length ≤ lineN) then .ok (.sh (.tuple (xs ++ ds))) env2 else .bad
  | _, _ => .bad
@[simp] theorem tstK_t (vs : List AV) (env2 : Env) (xs ds : List D) : tstK vs env2 (some (.tuple xs)) (some ds) = if allMade vs && decide (xs.length + ds.length ≤ lineN) then .ok (.sh (.tuple (xs ++ ds))) env2 else .bad := id rfl
@[simp] theorem evE_tst (a : CE) (as : CAs) : evE cf (.tst a as) env = (evE cf a env).bind fun s env1 => (evAs cf as env1).bind fun vs env2 => tstK vs env2 (dataOf s) (avDatas env2 vs) := by
  rw [evE]; congr
@[simp] theorem evT_nil : evT cf .nil env = .ok true env := by rw [evT]
def tK (cf : Nat → List Sl → CR) (r : CT) (s : Sl) (env : Env) : R Bool := match s with
  | .sh (.bool true) => evT cf r env
  | .sh (.bool false) => .ok false env
  | _ => .bad
@[simp] theorem tK_t (r : CT) : tK cf r (.sh (.bool true)) env = evT cf r env := id rfl
@[simp] theorem tK_f (r : CT) : tK cf r (.sh (.bool false)) env = .ok false env := id rfl
@[simp] theorem tK_nil (t : Bool) : tK cf .nil (.sh (.bool t)) env = .ok t env := by
  cases t
  · rfl
  · rw [tK_t, evT_nil]
@[simp] theorem evT_cons (c : CE) (r : CT) : evT cf (.cons c r) env = (evE cf c env).bind (tK cf r) := by rw [evT] <;> rfl
@[simp] theorem evG0_mk (p : Pat) (it : CI) (ifs : CT) : evG0 cf (.mk p it ifs) env = evI cf it env := by rw [evG0]
def gtK (cf : Nat → List Sl → CR) (ifs : CT) : Option Env → R Bool
  | some env1 => evT cf ifs env1
  | none => .bad
@[simp] theorem gtK_some (ifs : CT) : gtK cf ifs (some env) = evT cf ifs env := id rfl
@[simp] theorem evGt_mk (p : Pat) (it : CI) (ifs : CT) (x : D) : evGt cf (.mk p it ifs) x env = gtK cf ifs (bindP p x env) := by
  rw [evGt]; cases bindP p x env <;> rfl
@[simp] theorem bindP_v (i : Nat) (d : D) : bindP (.v i) d env = some (env.set i (.sh d)) := by rw [bindP]
@[simp] theorem bindP_t (ps : List Pat) (ds : List D) : bindP (.t ps) (.tuple ds) env = if ps.length = ds.length then bindPs ps ds env else none := by rw [bindP]
@[simp] theorem bindPs_nil : bindPs [] [] env = some env := by rw [bindPs]
@[simp] theorem bindPs_cons (p : Pat) (ps : List Pat) (d : D) (ds : List D) : bindPs (p :: ps) (d :: ds) env = (bindP p d env).bind fun env' => bindPs ps ds env' := by rw [bindPs]
def itK (env1 : Env) : Option D → R (List D)
  | some (.list xs) => .ok xs env1
  | some (.tuple xs) => .ok xs env1
  | some (.str z) => if z.cps.size ≤ lineN then .ok (z.cps.toList.map fun c => .str ⟨#[c]⟩) env1 else .bad
  | _ => .bad
@[simp] theorem itK_l (env1 : Env) (xs : List D) : itK env1 (some (.list xs)) = .ok xs env1 := id rfl
@[simp] theorem itK_t (env1 : Env) (xs : List D) : itK env1 (some (.tuple xs)) = .ok xs env1 := id rfl
theorem evI_data (a : CA) : evI cf (.data a) env = (evA cf a env).bind fun v env1 => itK env1 (avData env1 v) := by
  rw [evI]; congr
theorem evI_range1 (a : CE) : evI cf (.range1 a) env = (evE cf a env).bind fun s env1 =>
    match dataOf s with
    | some (.int n) => if n ≤ lineN ∧ -lineN ≤ n then .ok (rangeSt 0 1 n.toNat) env1 else .bad
    | _ => .bad := by rw [evI] <;> rfl
theorem evI_range2 (a b : CE) : evI cf (.range2 a b) env = (evE cf a env).bind fun s env1 => (evE cf b env1).bind fun t env2 =>
    match dataOf s, dataOf t with
    | some (.int m), some (.int n) => if n ≤ lineN ∧ 0 ≤ m ∧ m ≤ lineN ∧ -lineN ≤ n then .ok (rangeSt m 1 (n - m).toNat) env2 else .bad
    | _, _ => .bad := by rw [evI] <;> rfl
def zipK (env2 : Env) : Option D → Option D → R (List D)
  | some (.list xs), some (.list ys) => .ok (zipD xs ys) env2
  | some (.tuple xs), some (.tuple ys) => .ok (zipD xs ys) env2
  | _, _ => .bad
@[simp] theorem zipK_l (env2 : Env) (xs ys : List D) : zipK env2 (some (.list xs)) (some (.list ys)) = .ok (zipD xs ys) env2 := id rfl
@[simp] theorem zipK_t (env2 : Env) (xs ys : List D) : zipK env2 (some (.tuple xs)) (some (.tuple ys)) = .ok (zipD xs ys) env2 := id rfl
theorem evI_zip (a b : CA) : evI cf (.zip a b) env = (evA cf a env).bind fun v env1 => (evA cf b env1).bind fun w env2 => zipK env2 (avData env2 v) (avData env2 w) := by
  rw [evI]; congr
def enK (env1 : Env) : Option D → R (List D)
  | some (.list xs) => .ok (enumD 0 xs) env1
  | _ => .bad
@[simp] theorem enK_l (env1 : Env) (xs : List D) : enK env1 (some (.list xs)) = .ok (enumD 0 xs) env1 := id rfl
theorem evI_enum (a : CA) : evI cf (.enum (.data a)) env = (evA cf a env).bind fun v env1 => enK env1 (avData env1 v) := by
  rw [evI]; congr

/-! ### data of arguments -/
@[simp] theorem dataOf_sh (d : D) : dataOf (.sh d) = some d := id rfl
@[simp] theorem dataOf_ow (d : D) : dataOf (.ow d) = some d := id rfl
@[simp] theorem avData_made (s : Sl) : avData env (.made s) = dataOf s := id rfl
@[simp] theorem avData_bo (i : Nat) : avData env (.bo i) = dataOf (gt env i) := id rfl
@[simp] theorem avDatas_nil : avDatas env [] = some [] := id rfl
@[simp] theorem avDatas_cons (a : AV) (as : List AV) : avDatas env (a :: as) = (avData env a).bind fun d => (avDatas env as).map (d :: ·) := id rfl
@[simp] theorem argSl_made (s : Sl) : argSl env (.made s) = some s := id rfl
@[simp] theorem argSl_bo (i : Nat) : argSl env (.bo i) = (dataOf (gt env i)).map .sh := id rfl
def rfS : Sl → Option Sl
  | .ow d => some (.ow d)
  | _ => none
@[simp] theorem rfS_ow (d : D) : rfS (.ow d) = some (.ow d) := id rfl
@[simp] theorem argSl_rf (i : Nat) : argSl env (.rf i) = rfS (gt env i) := by
  show (match gt env i with | .ow d => some (Sl.ow d) | _ => none) = _
  cases gt env i <;> rfl
@[simp] theorem argSls_nil : argSls env [] = some [] := id rfl
@[simp] theorem argSls_cons (a : AV) (as : List AV) : argSls env (a :: as) = (argSl env a).bind fun s => (argSls env as).map (s :: ·) := id rfl
@[simp] theorem okAvs_nil : okAvs [] = true := id rfl
@[simp] theorem okAvs_made (s : Sl) (as : List AV) : okAvs (.made s :: as) = okAvs as := id rfl
@[simp] theorem okAvs_rf' (i : Nat) (as : List AV) : okAvs (.rf i :: as) = ((as.all fun b => match b with
    | .rf j => i != j
    | .bo j => i != j
    | .bf j _ => i != j
    | .made _ => true) && okAvs as) := id rfl
@[simp] theorem okAvs_bo (i : Nat) (as : List AV) : okAvs (.bo i :: as) = ((as.all fun b => match b with
    | .rf j => i != j
    | _ => true) && okAvs as) := id rfl
@[simp] theorem hasBo_nil : hasBo [] = false := id rfl
@[simp] theorem hasBo_bo (i : Nat) (as : List AV) : hasBo (.bo i :: as) = true := id rfl
@[simp] theorem hasBo_made (s : Sl) (as : List AV) : hasBo (.made s :: as) = hasBo as := id rfl
@[simp] theorem hasBo_rf (i : Nat) (as : List AV) : hasBo (.rf i :: as) = hasBo as := id rfl
@[simp] theorem putBack_nil : putBack env [] [] = env := id rfl
@[simp] theorem putBack_rf (i : Nat) (as : List AV) (o : Sl) (os : List Sl) : putBack env (.rf i :: as) (o :: os) = putBack (env.set i o) as os := id rfl
@[simp] theorem putBack_made (s : Sl) (as : List AV) (o : Sl) (os : List Sl) : putBack env (.made s :: as) (o :: os) = putBack env as os := id rfl
@[simp] theorem putBack_bo (i : Nat) (as : List AV) (o : Sl) (os : List Sl) : putBack env (.bo i :: as) (o :: os) = putBack env as os := id rfl
@[simp] theorem pureOuts_nil : pureOuts [] [] = true := id rfl
@[simp] theorem pureOuts_rf (i : Nat) (as : List AV) (o : Sl) (os : List Sl) : pureOuts (.rf i :: as) (o :: os) = (pureSl o && pureOuts as os) := id rfl
@[simp] theorem pureOuts_made (s : Sl) (as : List AV) (o : Sl) (os : List Sl) : pureOuts (.made s :: as) (o :: os) = pureOuts as os := id rfl
@[simp] theorem pureOuts_bo (i : Nat) (as : List AV) (o : Sl) (os : List Sl) : pureOuts (.bo i :: as) (o :: os) = pureOuts as os := id rfl
@[simp] theorem muAt_append (xs : List D) : muAt .append (.ow (.list xs)) = true := id rfl
@[simp] theorem muAt_extend (xs : List D) : muAt .extend (.ow (.list xs)) = true := id rfl
@[simp] theorem muAt_popLast (xs : List D) : muAt .popLast (.ow (.list xs)) = true := id rfl
@[simp] theorem muOk_extend (vs : List AV) : muOk .extend vs = true := id rfl
@[simp] theorem muOk_append (vs : List AV) : muOk .append vs = allMade vs := id rfl
@[simp] theorem allMade_nil : allMade [] = true := id rfl
@[simp] theorem allMade_made (s : Sl) (as : List AV) : allMade (.made s :: as) = allMade as := id rfl
theorem app_ok (xs : List D) (x : D) (h : xs.length < 16777216) : evM .append (.list xs) [x] = some (.list (xs ++ [x]), .none) := if_pos h
theorem ext_ok (xs ys : List D) (h : xs.length + ys.length ≤ 16777216) : evM .extend (.list xs) [.list ys] = some (.list (xs ++ ys), .none) := if_pos h
@[simp] theorem frz_ow (d : D) : frz (.ow d) = .sh d := id rfl
@[simp] theorem frz_sh (d : D) : frz (.sh d) = .sh d := id rfl

/-! ### statements -/
@[simp] theorem asgS_sh (keep : Bool) (i : Nat) (d : D) : asgS env keep i (.sh d) = some (env.set i (.sh d)) := by unfold asgS; cases keep <;> rfl
@[simp] theorem asgS_owF (i : Nat) (d : D) : asgS env false i (.ow d) = some (env.set i (.sh d)) := id rfl
@[simp] theorem asgS_owT (i : Nat) (d : D) : asgS env true i (.ow d) = some (env.set i (.ow d)) := id rfl
@[simp] theorem asgAll_nil : asgAll env [] [] = some env := id rfl
@[simp] theorem asgAll_cons (k : Bool) (i : Nat) (ks : List (Bool × Nat)) (s : Sl) (vs : List AV) : asgAll env ((k, i) :: ks) (.made s :: vs) = (asgS env k i s).bind fun e => asgAll e ks vs := id rfl
def nxO : Option Env → SR
  | some e => .nx e
  | none => .bad
@[simp] theorem nxO_some (e : Env) : nxO (some e) = .nx e := id rfl
/-- what follows an evaluated part of a statement -/
def thenS {α : Type} (f : α → Env → SR) : R α → SR
  | .ok a e => f a e
  | .ex x e => .ex x e
  | .bad => .bad
@[simp] theorem thenS_ok {α : Type} (f : α → Env → SR) (a : α) (e : Env) : thenS f (.ok a e) = f a e := id rfl
@[simp] theorem exS_asg (keep : Bool) (i : Nat) (e : CE) : exS cf wf (.asg keep i e) env = thenS (fun s env1 => nxO (asgS env1 keep i s)) (evE cf e env) := by
  rw [exS]
  cases evE cf e env <;> try rfl
@[simp] theorem exS_unp (p : Pat) (e : CE) : exS cf wf (.unp p e) env = thenS (fun s env1 => nxO ((dataOf s).bind fun d => bindP p d env1)) (evE cf e env) := by
  rw [exS]
  cases evE cf e env <;> try rfl
@[simp] theorem exS_par (ks : List (Bool × Nat)) (es : CAs) : exS cf wf (.par ks es) env = thenS (fun vs env1 => nxO (asgAll env1 ks vs)) (evAs cf es env) := by
  rw [exS]
  cases evAs cf es env <;> try rfl
@[simp] theorem exS_ex (e : CE) : exS cf wf (.ex e) env = thenS (fun _ env1 => .nx env1) (evE cf e env) := by
  rw [exS]; cases evE cf e env <;> rfl
def augB (i : Nat) (p : Pr) (env1 : Env) : Option D → Option D → SR
  | some (.int a), some (.int b) => nxO ((evP p [.int a, .int b]).bind fun t => asgS env1 false i t)
  | _, _ => .bad
@[simp] theorem augB_i (i : Nat) (p : Pr) (env1 : Env) (a b : Int) : augB i p env1 (some (.int a)) (some (.int b)) = nxO ((evP p [.int a, .int b]).bind fun t => asgS env1 false i t) := id rfl
def augA (i : Nat) (p : Pr) (r : R Sl) : Option D → SR
  | some _ => thenS (fun s env1 => augB i p env1 (dataOf (gt env1 i)) (dataOf s)) r
  | none => .bad
@[simp] theorem augA_some (i : Nat) (p : Pr) (r : R Sl) (d : D) : augA i p r (some d) = thenS (fun s env1 => augB i p env1 (dataOf (gt env1 i)) (dataOf s)) r := id rfl
@[simp] theorem exS_aug (i : Nat) (p : Pr) (e : CE) : exS cf wf (.aug i p e) env = augA i p (evE cf e env) (dataOf (gt env i)) := by
  rw [exS]
  cases dataOf (gt env i) <;> try rfl
  cases evE cf e env <;> try rfl
  rename_i s e1
  show (match dataOf (gt e1 i), dataOf s with | some (.int a), some (.int b) => _ | _, _ => _) = augB i p e1 (dataOf (gt e1 i)) (dataOf s)
  unfold augB
  split <;> try rfl
  rename_i a b _ _
  show (match evP p [.int a, .int b] with | some t => _ | none => _) = nxO ((evP p [.int a, .int b]).bind fun t => asgS e1 false i t)
  cases evP p [.int a, .int b] <;> try rfl
def setE (i : Nat) (env : Env) : Option (D × D) → SR
  | some (d, _) => .nx (env.set i (.ow d))
  | none => .bad
@[simp] theorem setE_some (i : Nat) (d r : D) : setE i env (some (d, r)) = .nx (env.set i (.ow d)) := id rfl
def setB (i : Nat) (env2 : Env) : Sl → Option D → Option D → SR
  | .ow d, some x, some k => setE i env2 (evM .setItem d [k, x])
  | _, _, _ => .bad
@[simp] theorem setB_ow (i : Nat) (env2 : Env) (d x k : D) : setB i env2 (.ow d) (some x) (some k) = setE i env2 (evM .setItem d [k, x]) := id rfl
def setA (cf : Nat → List Sl → CR) (i : Nat) (key : CE) (s : Sl) (env1 : Env) : Option D → SR
  | some _ => thenS (fun t env2 => setB i env2 (gt env2 i) (dataOf s) (dataOf t)) (evE cf key env1)
  | none => .bad
@[simp] theorem setA_some (i : Nat) (key : CE) (s : Sl) (env1 : Env) (d : D) : setA cf i key s env1 (some d) = thenS (fun t env2 => setB i env2 (gt env2 i) (dataOf s) (dataOf t)) (evE cf key env1) := id rfl
@[simp] theorem exS_seti (i : Nat) (e key : CE) : exS cf wf (.seti i e key) env = thenS (fun s env1 => setA cf i key s env1 (dataOf (gt env1 i))) (evE cf e env) := by
  rw [exS]
  cases evE cf e env <;> try rfl
  rename_i s e1
  show (match dataOf (gt e1 i) with | some _ => _ | none => _) = setA cf i key s e1 (dataOf (gt e1 i))
  cases dataOf (gt e1 i) <;> try rfl
  show (match evE cf key e1 with | .ok t env2 => _ | .ex x e => _ | .bad => _) = thenS _ (evE cf key e1)
  cases evE cf key e1 <;> try rfl
def augID (p : Pr) (k : D) (i : Nat) (env2 : Env) : Sl → D → Option D → SR
  | .ow d2, .int a, some (.int b) => setE i env2 (((evP p [.int a, .int b]).bind dataOf).bind fun y => evM .setItem d2 [k, y])
  | _, _, _ => .bad
@[simp] theorem augID_ow (p : Pr) (k : D) (i : Nat) (env2 : Env) (d2 : D) (a b : Int) : augID p k i env2 (.ow d2) (.int a) (some (.int b)) = setE i env2 (((evP p [.int a, .int b]).bind dataOf).bind fun y => evM .setItem d2 [k, y]) := id rfl
def augIC (cf : Nat → List Sl → CR) (p : Pr) (e : CE) (k : D) (i : Nat) (env1 : Env) : Option D → SR
  | some x => thenS (fun s env2 => augID p k i env2 (gt env2 i) x (dataOf s)) (evE cf e env1)
  | none => .bad
@[simp] theorem augIC_some (p : Pr) (e : CE) (k : D) (i : Nat) (env1 : Env) (x : D) : augIC cf p e k i env1 (some x) = thenS (fun s env2 => augID p k i env2 (gt env2 i) x (dataOf s)) (evE cf e env1) := id rfl
def augIB (cf : Nat → List Sl → CR) (p : Pr) (e : CE) (i : Nat) (env1 : Env) : Sl → Option D → SR
  | .ow d, some k => augIC cf p e k i env1 ((evP .item [d, k]).bind dataOf)
  | _, _ => .bad
@[simp] theorem augIB_ow (p : Pr) (e : CE) (i : Nat) (env1 : Env) (d k : D) : augIB cf p e i env1 (.ow d) (some k) = augIC cf p e k i env1 ((evP .item [d, k]).bind dataOf) := id rfl
def augIA (cf : Nat → List Sl → CR) (i : Nat) (p : Pr) (e : CE) (r : R Sl) : Option D → SR
  | some _ => thenS (fun sk env1 => augIB cf p e i env1 (gt env1 i) (dataOf sk)) r
  | none => .bad
@[simp] theorem augIA_some (i : Nat) (p : Pr) (e : CE) (r : R Sl) (d : D) : augIA cf i p e r (some d) = thenS (fun sk env1 => augIB cf p e i env1 (gt env1 i) (dataOf sk)) r := id rfl
@[simp] theorem exS_augI (i : Nat) (p : Pr) (key e : CE) : exS cf wf (.augI i p key e) env = augIA cf i p e (evE cf key env) (dataOf (gt env i)) := by
  rw [exS]
  cases dataOf (gt env i) <;> try rfl
  cases evE cf key env <;> try rfl
  rename_i sk e1
  show (match gt e1 i, dataOf sk with | .ow d, some k => _ | _, _ => _) = augIB cf p e i e1 (gt e1 i) (dataOf sk)
  unfold augIB
  split <;> try rfl
  rename_i d k _ _
  show (match (evP .item [d, k]).bind dataOf with | some x => _ | none => _) = augIC cf p e k i e1 ((evP .item [d, k]).bind dataOf)
  cases (evP .item [d, k]).bind dataOf <;> try rfl
  rename_i x
  show (match evE cf e e1 with | .ok s env2 => _ | .ex x e => _ | .bad => _) = thenS _ (evE cf e e1)
  cases evE cf e e1 <;> try rfl
  rename_i s e2
  show (match gt e2 i, x, dataOf s with | .ow d2, .int a, some (.int b) => _ | _, _, _ => _) = augID p k i e2 (gt e2 i) x (dataOf s)
  unfold augID
  split <;> try rfl
  rename_i d2 a b _ _
  show (match (evP p [.int a, .int b]).bind dataOf with | some y => _ | none => _) = setE i e2 (((evP p [.int a, .int b]).bind dataOf).bind fun y => evM .setItem d2 [k, y])
  cases (evP p [.int a, .int b]).bind dataOf <;> try rfl
def iffK (cf : Nat → List Sl → CR) (wf : Nat) (a b : CSs) (s : Sl) (env1 : Env) : SR := match s with
  | .sh (.bool true) => exB cf wf a env1
  | .sh (.bool false) => exB cf wf b env1
  | _ => .bad
@[simp] theorem iffK_t (a b : CSs) : iffK cf wf a b (.sh (.bool true)) env = exB cf wf a env := id rfl
@[simp] theorem iffK_f (a b : CSs) : iffK cf wf a b (.sh (.bool false)) env = exB cf wf b env := id rfl
theorem iffK_b (a b : CSs) (t : Bool) : iffK cf wf a b (.sh (.bool t)) env = if t then exB cf wf a env else exB cf wf b env := by cases t <;> rfl
@[simp] theorem exS_iff (c : CE) (a b : CSs) : exS cf wf (.iff c a b) env = thenS (iffK cf wf a b) (evE cf c env) := by
  rw [exS]
  cases evE cf c env with
  | ok s e =>
    cases s <;> try rfl
    rename_i d
    cases d <;> try rfl
    rename_i b
    cases b <;> rfl
  | ex x e => rfl
  | bad => rfl
theorem exS_wh (c : CE) (b : CSs) : exS cf wf (.wh c b) env = loopW (fun e => evE cf c e) (fun e => exB cf wf b e) wf env := by rw [exS]
theorem exS_fr (p : Pat) (it : CI) (b : CSs) : exS cf wf (.fr p it b) env = match evI cf it env with
    | .ok xs env1 => loopF (fun x e => match bindP p x e with
      | some e1 => exB cf wf b e1
      | none => .bad) xs env1
    | .ex x e => .ex x e
    | .bad => .bad := by rw [exS] <;> rfl
@[simp] theorem exS_ret (e : CE) : exS cf wf (.ret e) env = thenS (fun s env1 => .rt s env1) (evE cf e env) := by
  rw [exS]; cases evE cf e env <;> rfl
@[simp] theorem exS_retN : exS cf wf .retN env = .rt (.sh .none) env := by rw [exS]
@[simp] theorem exS_pass : exS cf wf .pass env = .nx env := by rw [exS]
@[simp] theorem exS_cont : exS cf wf .cont env = .ct env := by rw [exS]
@[simp] theorem exB_nil : exB cf wf .nil env = .nx env := by rw [exB]
/-- what comes behind a statement -/
def behind (cf : Nat → List Sl → CR) (wf : Nat) (r : CSs) : SR → SR
  | .nx env1 => exB cf wf r env1
  | x => x
@[simp] theorem behind_nx (r : CSs) (e : Env) : behind cf wf r (.nx e) = exB cf wf r e := id rfl
@[simp] theorem behind_rt (r : CSs) (s : Sl) (e : Env) : behind cf wf r (.rt s e) = .rt s e := id rfl
@[simp] theorem behind_ct (r : CSs) (e : Env) : behind cf wf r (.ct e) = .ct e := id rfl
@[simp] theorem exB_cons (s : CS) (r : CSs) : exB cf wf (.cons s r) env = behind cf wf r (exS cf wf s env) := by
  rw [exB]; cases exS cf wf s env <;> rfl
/-- a def's end -/
def endD (refs : List Nat) (np : Nat) : SR → CR
  | .rt s env => .ok s (outsOf refs env np)
  | .nx env => .ok (.sh .none) (outsOf refs env np)
  | .ex x env => .ex x (outsOf refs env np)
  | _ => .bad
@[simp] theorem endD_rt (refs : List Nat) (np : Nat) (s : Sl) : endD refs np (.rt s env) = .ok s (outsOf refs env np) := id rfl
@[simp] theorem endD_nx (refs : List Nat) (np : Nat) : endD refs np (.nx env) = .ok (.sh .none) (outsOf refs env np) := id rfl
theorem runDef_end (np ns : Nat) (refs : List Nat) (b : CSs) (args : List Sl) (h : args.length = np) : runDef cf wf ⟨np, ns, refs, b⟩ args = endD refs np (exB cf wf b (args ++ List.replicate (ns - np) .no)) := by
  unfold runDef
  rw [if_pos h]
  show (match exB cf wf b (args ++ List.replicate (ns - np) .no) with | .rt s env => _ | .nx env => _ | .ex x env => _ | _ => _) = endD refs np (exB cf wf b (args ++ List.replicate (ns - np) .no))
  cases exB cf wf b (args ++ List.replicate (ns - np) .no) <;> rfl

/-! ### comprehensions -/
theorem wipeE_length : ∀ (own : List Nat) (e : Env), (wipeE e own).length = e.length
  | [], _ => rfl
  | i :: is, e => by unfold wipeE; rw [wipeE_length is, List.length_set]
theorem wipeE_get : ∀ (own : List Nat) (e : Env) (j : Nat), j ∉ own → (wipeE e own)[j]? = e[j]?
  | [], _, _, _ => rfl
  | i :: is, e, j, h => by
    unfold wipeE
    rw [wipeE_get is _ j (fun z => h (List.mem_cons_of_mem _ z)), List.getElem?_set_ne (fun z => h (by rw [z]; exact List.mem_cons_self))]
theorem backE_length : ∀ (own : List Nat) (o e : Env), (backE o e own).length = e.length
  | [], _, _ => rfl
  | i :: is, o, e => by unfold backE; rw [backE_length is, List.length_set]
theorem backE_get : ∀ (own : List Nat) (o e : Env) (j : Nat), o.length = e.length → (backE o e own)[j]? = if j ∈ own then o[j]? else e[j]?
  | [], o, e, j, _ => by simp [backE]
  | i :: is, o, e, j, hl => by
    unfold backE
    rw [backE_get is o _ j (by rw [List.length_set]; exact hl)]
    by_cases h1 : j ∈ is
    · rw [if_pos h1, if_pos (List.mem_cons_of_mem _ h1)]
    · rw [if_neg h1]
      by_cases h2 : j = i
      · subst h2
        rw [if_pos List.mem_cons_self]
        by_cases hj : j < e.length
        · rw [List.getElem?_set_self hj]
          unfold gt
          rw [List.getD_eq_getElem?_getD, List.getElem?_eq_getElem (by omega)]; rfl
        · rw [List.getElem?_eq_none (by rw [List.length_set]; omega), List.getElem?_eq_none (by omega)]
      · rw [if_neg (fun z => (List.mem_cons.mp z).elim h2 h1), List.getElem?_set_ne (fun z => h2 z.symm)]
theorem back_same {own : List Nat} {o e : Env} (h : wipeE e own = wipeE o own) : backE o e own = o := by
  have hl : o.length = e.length := by have := congrArg List.length h; rw [wipeE_length, wipeE_length] at this; exact this.symm
  refine List.ext_getElem? fun j => ?_
  rw [backE_get own o e j hl]
  by_cases hj : j ∈ own
  · rw [if_pos hj]
  · rw [if_neg hj, ← wipeE_get own e j hj, h, wipeE_get own o j hj]
def outK (e : Env) : Option D → R (List D)
  | some d => .ok [d] e
  | none => .bad
@[simp] theorem outK_some (e : Env) (d : D) : outK e (some d) = .ok [d] e := id rfl
def eltK (cf : Nat → List Sl → CR) (elt : CE) (b : Bool) (e1 : Env) : R (List D) := if b then (evE cf elt e1).bind fun s e2 => outK e2 (dataOf s) else .ok [] e1
@[simp] theorem eltK_t (elt : CE) : eltK cf elt true env = (evE cf elt env).bind fun s e2 => outK e2 (dataOf s) := id rfl
@[simp] theorem eltK_f (elt : CE) : eltK cf elt false env = .ok [] env := id rfl
theorem eltK_b (elt : CE) (b : Bool) : eltK cf elt b env = if b then (evE cf elt env).bind fun s e2 => outK e2 (dataOf s) else .ok [] env := id rfl
/-- one turn of a list comprehension -/
def turnCP (cf : Nat → List Sl → CR) (g : CG) (elt : CE) (x : D) (e : Env) : R (List D) := (evGt cf g x e).bind (eltK cf elt)
theorem turnC_q (cf : Nat → List Sl → CR) (g : CG) (elt : CE) (x : D) (e : Env) : turnCP cf g elt x e = (evGt cf g x e).bind (eltK cf elt) := id rfl
theorem evE_lc' (own : List Nat) (g : CG) (elt : CE) : evE cf (.lc own g elt) env = (evG0 cf g env).bind fun xs env1 => if ownFree env1 own then
    (loopC (fun x e => turnCP cf g elt x (wipeE e own)) xs env1).bind fun ds env2 => .ok (.ow (.list ds)) (backE env1 env2 own) else .bad := by
  rw [evE]
  have : (fun (x : D) (e : Env) => turnCP cf g elt x (wipeE e own)) = fun x e => (evGt cf g x (wipeE e own)).bind fun b e1 => if b then (evE cf elt e1).bind fun s e2 =>
        match dataOf s with
        | some d => .ok [d] e2
        | none => .bad
      else .ok [] e1 := by
    funext x e
    unfold turnCP
    congr
  rw [this] <;> rfl
theorem loopC_ok {turn : D → Env → R (List D)} {w : Env} {own : List Nat} {f : D → List D} : ∀ (xs : List D) (env : Env), wipeE env own = w → (∀ x ∈ xs, ∃ e2, turn x w = .ok (f x) e2 ∧ wipeE e2 own = w) →
    ∃ e2, loopC (fun x e => turn x (wipeE e own)) xs env = .ok (xs.flatMap f) e2 ∧ wipeE e2 own = w
  | [], env, h, _ => ⟨env, rfl, h⟩
  | x :: xs, env, h, ht => by
    obtain ⟨e1, h1, h2⟩ := ht x List.mem_cons_self
    obtain ⟨e2, h3, h4⟩ := loopC_ok xs e1 h2 fun y hy => ht y (List.mem_cons_of_mem _ hy)
    refine ⟨e2, ?_, h4⟩
    unfold loopC
    rw [h, h1]
    simp only [bind_okE]
    rw [h3]
    rfl
/-- [.. for x in xs if ..] over what a typed list says; g: what a turn gives, if anything -/
theorem lc_ok {α : Type} {own : List Nat} {p : Pat} {it : CI} {ifs : CT} {elt : CE} (xs : List α) (e : α → D) (g : α → Option D) (hs : evI cf it env = .ok (xs.map e) env1) (ho : ownFree env1 own = true)
    (ht : ∀ x ∈ xs, ∃ e2, turnCP cf (.mk p it ifs) elt (e x) (wipeE env1 own) = .ok (g x).toList e2 ∧ wipeE e2 own = wipeE env1 own) : evE cf (.lc own (.mk p it ifs) elt) env = .ok (.ow (.list (xs.filterMap g))) env1 := by
  rw [evE_lc', evG0_mk, hs, bind_okE, if_pos ho]
  have key : ∀ (l : List α) (en : Env), wipeE en own = wipeE env1 own → (∀ x ∈ l, x ∈ xs) → ∃ e2, loopC (fun x e => turnCP cf (.mk p it ifs) elt x (wipeE e own)) (l.map e) en = .ok (l.filterMap g) e2 ∧ wipeE e2 own = wipeE env1 own := fun l => by
    induction l with
    | nil => exact fun en h _ => ⟨en, rfl, h⟩
    | cons x l ih =>
      intro en h hm
      obtain ⟨e1, h1, h2⟩ := ht x (hm x List.mem_cons_self)
      obtain ⟨e2, h3, h4⟩ := ih e1 h2 fun y hy => hm y (List.mem_cons_of_mem _ hy)
      refine ⟨e2, ?_, h4⟩
      rw [List.map_cons]
      unfold loopC
      rw [h, h1]
      simp only [bind_okE]
      rw [h3]
      simp only [bind_okE]
      rw [List.filterMap_cons]
      cases g x <;> rfl
  obtain ⟨e2, h1, h2⟩ := key xs env1 rfl fun _ h => h
  rw [h1, bind_okE, back_same h2]
theorem filterMap_some {α β : Type} (f : α → β) : ∀ xs : List α, xs.filterMap (fun x => some (f x)) = xs.map f
  | [] => rfl
  | x :: xs => by rw [List.filterMap_cons, List.map_cons, filterMap_some f xs]
/-- .. each giving something -/
theorem lc_map {α β : Type} {own : List Nat} {p : Pat} {it : CI} {ifs : CT} {elt : CE} (xs : List α) (e : α → D) (e' : β → D) (f : α → β) (hs : evI cf it env = .ok (xs.map e) env1) (ho : ownFree env1 own = true)
    (ht : ∀ x ∈ xs, ∃ e2, turnCP cf (.mk p it ifs) elt (e x) (wipeE env1 own) = .ok [e' (f x)] e2 ∧ wipeE e2 own = wipeE env1 own) : evE cf (.lc own (.mk p it ifs) elt) env = .ok (.ow (.list ((xs.map f).map e'))) env1 := by
  rw [lc_ok xs e (fun x => some (e' (f x))) hs ho ht, filterMap_some, List.map_map]; rfl
/-- a comprehension whose turns change slots: R told of what has been walked, what has come out -/
theorem lc_st {α : Type} {own : List Nat} {p : Pat} {it : CI} {ifs : CT} {elt : CE} (xs : List α) (e : α → D) (R : List α → List D → Env → Prop) (hs : evI cf it env = .ok (xs.map e) env1) (ho : ownFree env1 own = true) (h0 : R [] [] env1)
    (ht : ∀ pre x post ds en, xs = pre ++ x :: post → R pre ds en → ∃ ds' e2, turnCP cf (.mk p it ifs) elt (e x) (wipeE en own) = .ok ds' e2 ∧ R (pre ++ [x]) (ds ++ ds') e2) :
    ∃ ds e2, evE cf (.lc own (.mk p it ifs) elt) env = .ok (.ow (.list ds)) (backE env1 e2 own) ∧ R xs ds e2 := by
  have key : ∀ (post pre : List α) (ds : List D) (en : Env), xs = pre ++ post → R pre ds en → ∃ ds' e2, loopC (fun x e => turnCP cf (.mk p it ifs) elt x (wipeE e own)) (post.map e) en = .ok ds' e2 ∧ R xs (ds ++ ds') e2 := fun post => by
    induction post with
    | nil => intro pre ds en h r; exact ⟨[], en, rfl, by rw [h, List.append_nil, List.append_nil]; exact r⟩
    | cons x post ih =>
      intro pre ds en h r
      obtain ⟨d1, e1, h1, h2⟩ := ht pre x post ds en h r
      obtain ⟨d2, e2, h3, h4⟩ := ih (pre ++ [x]) (ds ++ d1) e1 (by rw [h]; simp) h2
      refine ⟨d1 ++ d2, e2, ?_, by rw [← List.append_assoc]; exact h4⟩
      rw [List.map_cons]
      unfold loopC
      rw [h1]
      simp only [bind_okE]
      rw [h3]
      rfl
  obtain ⟨ds, e2, h1, h2⟩ := key xs [] [] env1 rfl h0
  refine ⟨ds, e2, ?_, by simpa using h2⟩
  rw [evE_lc', evG0_mk, hs, bind_okE, if_pos ho, h1, bind_okE]
/-- the source leaves the slots as they are -/
theorem lc0 {α : Type} {own : List Nat} {p : Pat} {it : CI} {ifs : CT} {elt : CE} (xs : List α) (e : α → D) (g : α → Option D) (hs : evI cf it env = .ok (xs.map e) env) (ho : ownFree env own = true)
    (ht : ∀ x ∈ xs, ∃ e2, turnCP cf (.mk p it ifs) elt (e x) (wipeE env own) = .ok (g x).toList e2 ∧ wipeE e2 own = wipeE env own) : evE cf (.lc own (.mk p it ifs) elt) env = .ok (.ow (.list (xs.filterMap g))) env := lc_ok xs e g hs ho ht
theorem lcm {α β : Type} {own : List Nat} {p : Pat} {it : CI} {ifs : CT} {elt : CE} (xs : List α) (e : α → D) (e' : β → D) (f : α → β) (hs : evI cf it env = .ok (xs.map e) env) (ho : ownFree env own = true)
    (ht : ∀ x ∈ xs, ∃ e2, turnCP cf (.mk p it ifs) elt (e x) (wipeE env own) = .ok [e' (f x)] e2 ∧ wipeE e2 own = wipeE env own) : evE cf (.lc own (.mk p it ifs) elt) env = .ok (.ow (.list ((xs.map f).map e'))) env := lc_map xs e e' f hs ho ht
theorem filterMap_if {α : Type} (p : α → Bool) (f : α → D) : ∀ xs : List α, xs.filterMap (fun x => if p x then some (f x) else none) = (xs.filter p).map f
  | [] => rfl
  | x :: xs => by
    rw [List.filterMap_cons, List.filter_cons]
    cases h : p x with
    | true => simp only [if_true, List.map_cons]; rw [filterMap_if p f xs]
    | false => simp only [Bool.false_eq_true, if_false]; rw [filterMap_if p f xs]
/-- [x' for x in xs if q x] -/
theorem lcf {α β : Type} {own : List Nat} {p : Pat} {it : CI} {ifs : CT} {elt : CE} (xs : List α) (e : α → D) (q : α → Bool) (e' : β → D) (f : α → β) (hs : evI cf it env = .ok (xs.map e) env) (ho : ownFree env own = true)
    (ht : ∀ x ∈ xs, ∃ e2, turnCP cf (.mk p it ifs) elt (e x) (wipeE env own) = .ok (if q x then [e' (f x)] else []) e2 ∧ wipeE e2 own = wipeE env own) : evE cf (.lc own (.mk p it ifs) elt) env = .ok (.ow (.list (((xs.filter q).map f).map e'))) env := by
  rw [lc_ok xs e (fun x => if q x then some (e' (f x)) else none) hs ho ?_, filterMap_if, List.map_map]
  · rfl
  · intro x hx
    obtain ⟨e2, h1, h2⟩ := ht x hx
    refine ⟨e2, ?_, h2⟩
    rw [h1]
    cases q x <;> rfl
end
end C
end
section
set_option Elab.async false
set_option linter.all false
set_option maxRecDepth 100000
/-! Types whose values are told as data; primitives over them. -/
namespace C
open PySem

mutual
theorem nest_plainT : ∀ {d : D}, nestD d = true → PyData.plain d = true
  | .none, _ => rfl
  | .bool _, h => by simp [nestD] at h
  | .int _, _ => rfl
  | .str _, _ => rfl
  | .tuple ds, h => by unfold PyData.plain; exact nests_plainT (by simpa [nestD] using h)
  | .list _, h => by simp [nestD] at h
  | .dict _, h => by simp [nestD] at h
theorem nests_plainT : ∀ {ds : List D}, nestAll ds = true → PyData.plainAll ds = true
  | [], _ => rfl
  | d :: ds, h => by
    simp only [nestAll, Bool.and_eq_true] at h
    unfold PyData.plainAll
    rw [nest_plainT h.1, nests_plainT h.2]; rfl
end
mutual
theorem nest_pure : ∀ {d : D}, nestD d = true → pureD d = true
  | .none, _ => rfl
  | .bool _, h => by simp [nestD] at h
  | .int _, _ => rfl
  | .str _, _ => rfl
  | .tuple ds, h => by unfold pureD; exact nests_pure (by simpa [nestD] using h)
  | .list _, h => by simp [nestD] at h
  | .dict _, h => by simp [nestD] at h
theorem nests_pure : ∀ {ds : List D}, nestAll ds = true → pureAll ds = true
  | [], _ => rfl
  | d :: ds, h => by
    simp only [nestAll, Bool.and_eq_true] at h
    unfold pureAll
    rw [nest_pure h.1, nests_pure h.2]; rfl
end
mutual
theorem nest_eqv : ∀ {a b : D}, nestD a = true → nestD b = true → PyData.eqv a b = true → a = b
  | .none, b, _, hb, h => by cases b <;> simp [PyData.eqv, nestD] at h hb ⊢
  | .bool _, b, ha, _, _ => by simp [nestD] at ha
  | .int _, b, _, hb, h => by cases b <;> simp [PyData.eqv, nestD] at h hb ⊢; exact h
  | .str _, b, _, hb, h => by cases b <;> simp [PyData.eqv, nestD] at h hb ⊢; exact h
  | .tuple xs, b, ha, hb, h => by
    cases b <;> simp [PyData.eqv, nestD] at h hb ha ⊢
    exact nests_eqv ha hb h
  | .list _, b, ha, _, _ => by simp [nestD] at ha
  | .dict _, b, ha, _, _ => by simp [nestD] at ha
theorem nests_eqv : ∀ {a b : List D}, nestAll a = true → nestAll b = true → PyData.eqvAll a b = true → a = b
  | [], [], _, _, _ => rfl
  | [], _ :: _, _, _, h => by simp [PyData.eqvAll] at h
  | _ :: _, [], _, _, h => by simp [PyData.eqvAll] at h
  | x :: xs, y :: ys, ha, hb, h => by
    simp only [nestAll, Bool.and_eq_true] at ha hb
    simp only [PyData.eqvAll, Bool.and_eq_true] at h
    rw [nest_eqv ha.1 hb.1 h.1, nests_eqv ha.2 hb.2 h.2]
end
mutual
theorem eqv_refl : ∀ {d : D}, PyData.plain d = true → PyData.eqv d d = true
  | .none, _ => rfl
  | .bool _, _ => by simp [PyData.eqv]
  | .int _, _ => by simp [PyData.eqv]
  | .str _, _ => by simp [PyData.eqv]
  | .tuple ds, h => by unfold PyData.eqv; exact eqvs_refl (by simpa [PyData.plain] using h)
  | .list ds, h => by unfold PyData.eqv; exact eqvs_refl (by simpa [PyData.plain] using h)
  | .dict _, h => by simp [PyData.plain] at h
theorem eqvs_refl : ∀ {ds : List D}, PyData.plainAll ds = true → PyData.eqvAll ds ds = true
  | [], _ => rfl
  | d :: ds, h => by
    simp only [PyData.plainAll, Bool.and_eq_true] at h
    unfold PyData.eqvAll
    rw [eqv_refl h.1, eqvs_refl h.2]; rfl
end

structure Ty (α : Type) where
  e : α → D
  lt : α → α → Bool
  dp : Nat
  inj : ∀ a b, e a = e b → a = b
  nest : ∀ a, nestD (e a) = true
  depth : ∀ a, (e a).depth ≤ dp
  alike : ∀ a b, PySem.W.alike (e a) (e b) = true
  hlt : ∀ a b, PySem.W.dataLt (e a) (e b) = lt a b
  tri : ∀ a b, lt a b = false → lt b a = false → a = b
  kd : (∀ a, isIntD (e a) = true) ∨ (∀ a, isStrD (e a) = true) ∨ (∀ a, isTupD (e a) = true)
namespace Ty
variable {α β : Type} (T : Ty α)
theorem eqv [DecidableEq α] (a b : α) : PyData.eqv (T.e a) (T.e b) = decide (a = b) := by
  by_cases h : a = b
  · subst h; rw [eqv_refl (nest_plainT (T.nest a))]; simp
  · rw [decide_eq_false h]
    cases q : PyData.eqv (T.e a) (T.e b) with
    | false => rfl
    | true => exact absurd (T.inj a b (nest_eqv (T.nest a) (T.nest b) q)) h
theorem nestAll_map : ∀ xs : List α, nestAll (xs.map T.e) = true
  | [] => rfl
  | x :: xs => by rw [List.map_cons]; unfold nestAll; rw [T.nest x, nestAll_map xs]; rfl
theorem plainAll_map (xs : List α) : PyData.plainAll (xs.map T.e) = true := nests_plainT (T.nestAll_map xs)
theorem pureAll_map (xs : List α) : pureAll (xs.map T.e) = true := nests_pure (T.nestAll_map xs)
theorem depthAll_map : ∀ xs : List α, PyData.depthAll (xs.map T.e) ≤ T.dp
  | [] => Nat.zero_le _
  | x :: xs => by rw [List.map_cons]; unfold PyData.depthAll; have := T.depth x; have := depthAll_map xs; omega
theorem map_inj {xs ys : List α} (h : xs.map T.e = ys.map T.e) : xs = ys := by
  induction xs generalizing ys with
  | nil => cases ys with | nil => rfl | cons _ _ => simp at h
  | cons x xs ih =>
    cases ys with
    | nil => simp at h
    | cons y ys =>
      rw [List.map_cons, List.map_cons, List.cons.injEq] at h
      rw [T.inj _ _ h.1, ih h.2]
theorem eqvAll_map [DecidableEq α] (xs ys : List α) : PyData.eqvAll (xs.map T.e) (ys.map T.e) = decide (xs = ys) := by
  by_cases h : xs = ys
  · subst h; rw [eqvs_refl (T.plainAll_map xs)]; simp
  · rw [decide_eq_false h]
    cases q : PyData.eqvAll (xs.map T.e) (ys.map T.e) with
    | false => rfl
    | true => exact absurd (T.map_inj (nests_eqv (T.nestAll_map xs) (T.nestAll_map ys) q)) h
theorem lt_irrefl (a : α) : T.lt a a = false := by rw [← T.hlt]; exact PyProof.Rows.lex_irrefl (O := PyProof.Rows.itemOrd) _
theorem lt_trans {a b c : α} (h : T.lt a b = true) (k : T.lt b c = true) : T.lt a c = true := by
  rw [← T.hlt] at h k ⊢
  exact PyProof.Rows.lex_trans (O := PyProof.Rows.itemOrd) _ _ _ h k
theorem lt_asymm {a b : α} (h : T.lt a b = true) : T.lt b a = false := by
  cases q : T.lt b a with
  | false => rfl
  | true => have := T.lt_trans h q; rw [T.lt_irrefl] at this; cases this
theorem lt_ne {a b : α} (h : T.lt a b = true) : a ≠ b := fun z => by subst z; rw [T.lt_irrefl] at h; cases h
theorem lt_tot {a b : α} (h : a ≠ b) : T.lt a b = true ∨ T.lt b a = true := by
  cases p : T.lt a b with
  | true => exact .inl rfl
  | false =>
    cases q : T.lt b a with
    | true => exact .inr rfl
    | false => exact absurd (T.tri a b p q) h
def le (a b : α) : Bool := !T.lt b a
theorem le_total (a b : α) : (T.le a b || T.le b a) = true := by
  unfold le
  cases p : T.lt b a with
  | false => rfl
  | true => rw [T.lt_asymm p]; rfl
theorem le_trans {a b c : α} (h : T.le a b = true) (k : T.le b c = true) : T.le a c = true := by
  unfold le at h k ⊢
  rw [Bool.not_eq_true'] at h k ⊢
  cases q : T.lt c a with
  | false => rfl
  | true =>
    exfalso
    by_cases e : a = b
    · subst e; rw [q] at k; cases k
    · rcases T.lt_tot e with z | z
      · rw [T.lt_trans q z] at k; cases k
      · rw [z] at h; cases h
/-- sorted -/
def sort (xs : List α) : List α := xs.mergeSort T.le
theorem sort_map (xs : List α) : (xs.map T.e).mergeSort (PySem.W.dataLe false id) = (T.sort xs).map T.e := by
  unfold sort
  refine (List.map_mergeSort (f := T.e) (r := T.le) (s := PySem.W.dataLe false id) fun a _ b _ => ?_).symm
  rw [PySem.W.dataLe_eq]
  show T.le a b = !PySem.W.dataLt (T.e b) (T.e a)
  rw [T.hlt]; rfl
theorem sort_perm (xs : List α) : (T.sort xs).Perm xs := List.mergeSort_perm _ _
theorem sort_le (xs : List α) : (T.sort xs).Pairwise fun a b => T.le a b = true := List.pairwise_mergeSort (le := T.le) (fun _ _ _ => T.le_trans) T.le_total xs
/-- strictly ascending -/
def Asc (xs : List α) : Prop := xs.Pairwise fun a b => T.lt a b = true
theorem Asc.nodup {T : Ty α} {xs : List α} (h : T.Asc xs) : xs.Nodup := h.imp fun z => T.lt_ne z
theorem asc_sort {xs : List α} (h : xs.Nodup) : T.Asc (T.sort xs) := by
  have hn : (T.sort xs).Nodup := (T.sort_perm xs).nodup_iff.mpr h
  have hl := T.sort_le xs
  refine (List.pairwise_and_iff.mpr ⟨hl, hn⟩).imp fun {a b} z => ?_
  rcases T.lt_tot z.2 with q | q
  · exact q
  · have := z.1; unfold le at this; rw [q] at this; cases this
theorem asc_ext {xs ys : List α} (h : T.Asc xs) (k : T.Asc ys) (e : ∀ a, a ∈ xs ↔ a ∈ ys) : xs = ys := by
  induction xs generalizing ys with
  | nil =>
    cases ys with
    | nil => rfl
    | cons y ys => have := (e y).mpr List.mem_cons_self; cases this
  | cons x xs ih =>
    cases ys with
    | nil => have := (e x).mp List.mem_cons_self; cases this
    | cons y ys =>
      have hx := List.pairwise_cons.mp h
      have hy := List.pairwise_cons.mp k
      have exy : x = y := by
        rcases List.mem_cons.mp ((e x).mp List.mem_cons_self) with z | z
        · exact z
        · rcases List.mem_cons.mp ((e y).mpr List.mem_cons_self) with q | q
          · exact q.symm
          · have := T.lt_asymm (hx.1 y q)
            rw [hy.1 x z] at this; cases this
      subst exy
      rw [ih hx.2 hy.2 fun a => ?_]
      constructor
      · intro ha
        rcases List.mem_cons.mp ((e a).mp (List.mem_cons_of_mem _ ha)) with z | z
        · subst z; exact absurd rfl (T.lt_ne (hx.1 a ha))
        · exact z
      · intro ha
        rcases List.mem_cons.mp ((e a).mpr (List.mem_cons_of_mem _ ha)) with z | z
        · subst z; exact absurd rfl (T.lt_ne (hy.1 a ha))
        · exact z
theorem sort_of_asc {xs : List α} (h : T.Asc xs) : T.sort xs = xs := T.asc_ext (T.asc_sort h.nodup) h fun a => (T.sort_perm xs).mem_iff
/-- the keys of a dict made of keys one by one -/
def uniq [DecidableEq α] : List α → List α → List α
  | acc, [] => acc
  | acc, x :: xs => uniq (if x ∈ acc then acc else acc ++ [x]) xs
end Ty

/-! ### the types -/
def tNat : Ty Nat where
  e n := .int n
  lt a b := decide (a < b)
  dp := 0
  inj a b h := by injection h with h; exact Int.ofNat.inj h
  nest _ := rfl
  depth _ := Nat.le_refl _
  alike _ _ := by simp [PySem.W.alike]
  hlt a b := by rw [PySem.W.dataLt_int]; simp
  tri a b h k := by simp at h k; omega
  kd := .inl fun _ => rfl
def tBit : Ty Bool where
  e b := .int (cond b 1 0)
  lt a b := !a && b
  dp := 0
  inj a b h := by cases a <;> cases b <;> simp at h <;> rfl
  nest _ := rfl
  depth _ := Nat.le_refl _
  alike _ _ := by simp [PySem.W.alike]
  hlt a b := by rw [PySem.W.dataLt_int]; cases a <;> cases b <;> rfl
  tri a b h k := by cases a <;> cases b <;> simp at h k <;> rfl
  kd := .inl fun _ => rfl
def tInt : Ty Int where
  e n := .int n
  lt a b := decide (a < b)
  dp := 0
  inj a b h := by injection h
  nest _ := rfl
  depth _ := Nat.le_refl _
  alike _ _ := by simp [PySem.W.alike]
  hlt a b := by rw [PySem.W.dataLt_int]
  tri a b h k := by simp at h k; omega
  kd := .inl fun _ => rfl
def tStr : Ty Str where
  e n := .str n
  lt a b := decide (a.cps.toList < b.cps.toList)
  dp := 0
  inj a b h := by injection h
  nest _ := rfl
  depth _ := Nat.le_refl _
  alike _ _ := by simp [PySem.W.alike]
  hlt a b := by rw [PySem.W.dataLt_str]
  tri a b h k := by
    simp only [decide_eq_false_iff_not] at h k
    exact PySem.W.str_of_cps (List.le_antisymm (List.not_lt.mp k) (List.not_lt.mp h))
  kd := .inr (.inl fun _ => rfl)
def lexB {α : Type} [DecidableEq α] (lt : α → α → Bool) : List α → List α → Bool
  | [], [] => false
  | [], _ :: _ => true
  | _ :: _, [] => false
  | x :: xs, y :: ys => if x = y then lexB lt xs ys else lt x y
def tList {α : Type} [DecidableEq α] (T : Ty α) : Ty (List α) where
  e xs := .tuple (xs.map T.e)
  lt := lexB T.lt
  dp := T.dp + 1
  inj a b h := by injection h with h; exact T.map_inj h
  nest xs := by unfold nestD; exact T.nestAll_map xs
  depth xs := by unfold PyData.depth; have := T.depthAll_map xs; omega
  alike xs ys := by
    unfold PySem.W.alike
    induction xs generalizing ys with
    | nil => cases ys <;> rfl
    | cons x xs ih =>
      cases ys with
      | nil => rfl
      | cons y ys => rw [List.map_cons, List.map_cons]; unfold PySem.W.alikeAll; rw [T.alike, ih]; rfl
  hlt xs ys := by
    rw [PySem.W.dataLt_tuple]
    induction xs generalizing ys with
    | nil =>
      cases ys with
      | nil => rfl
      | cons y ys =>
        show PyProof.Rows.lexLt PyProof.Rows.itemOrd (PySem.W.keyToksAll []) (PySem.W.keyToksAll (T.e y :: ys.map T.e)) = true
        simp [PySem.W.keyToksAll, PyProof.Rows.lexLt, PyProof.Rows.itemLt]
    | cons x xs ih =>
      cases ys with
      | nil =>
        show PyProof.Rows.lexLt PyProof.Rows.itemOrd (PySem.W.keyToksAll (T.e x :: xs.map T.e)) (PySem.W.keyToksAll []) = false
        simp [PySem.W.keyToksAll, PyProof.Rows.lexLt, PyProof.Rows.itemLt]
      | cons y ys =>
        rw [List.map_cons, List.map_cons, PySem.W.dataLt_cons (T.alike x y), T.eqv, lexB, ih]
        by_cases h : x = y
        · simp [h]
        · simp [h, T.hlt]
  tri := by
    intro xs ys
    induction xs generalizing ys with
    | nil => cases ys with
      | nil => intro _ _; rfl
      | cons y ys => intro h; simp [lexB] at h
    | cons x xs ih =>
      cases ys with
      | nil => intro _ h; simp [lexB] at h
      | cons y ys =>
        intro h k
        unfold lexB at h k
        by_cases e : x = y
        · subst e
          rw [if_pos rfl] at h k
          rw [ih ys h k]
        · rw [if_neg e] at h; rw [if_neg fun z => e z.symm] at k
          exact absurd (T.tri x y h k) e
  kd := .inr (.inr fun _ => rfl)
def tPair {α β : Type} [DecidableEq α] [DecidableEq β] (T : Ty α) (U : Ty β) : Ty (α × β) where
  e p := .tuple [T.e p.1, U.e p.2]
  lt p q := if p.1 = q.1 then (if p.2 = q.2 then false else U.lt p.2 q.2) else T.lt p.1 q.1
  dp := max T.dp U.dp + 1
  inj a b h := by
    injection h with h
    simp only [List.cons.injEq, and_true] at h
    exact Prod.ext (T.inj _ _ h.1) (U.inj _ _ h.2)
  nest p := by simp [nestD, nestAll, T.nest, U.nest]
  depth p := by have := T.depth p.1; have := U.depth p.2; simp [PyData.depth, PyData.depthAll]; omega
  alike p q := by simp [PySem.W.alike, PySem.W.alikeAll, T.alike, U.alike]
  hlt p q := by
    rw [PySem.W.dataLt_pair (T.alike _ _) (U.alike _ _), T.eqv, U.eqv]
    simp [T.hlt, U.hlt]
  tri p q h k := by
    by_cases e1 : p.1 = q.1
    · by_cases e2 : p.2 = q.2
      · exact Prod.ext e1 e2
      · rw [if_pos e1, if_neg e2] at h
        rw [if_pos e1.symm, if_neg fun z => e2 z.symm] at k
        exact absurd (U.tri _ _ h k) e2
    · rw [if_neg e1] at h
      rw [if_neg fun z => e1 z.symm] at k
      exact absurd (T.tri _ _ h k) e1
  kd := .inr (.inr fun _ => rfl)
@[simp] theorem tNat_e (n : Nat) : tNat.e n = .int n := id rfl
@[simp] theorem tStr_e (n : Str) : tStr.e n = .str n := id rfl
@[simp] theorem tInt_e (n : Int) : tInt.e n = .int n := id rfl
@[simp] theorem tList_e {α : Type} [DecidableEq α] (T : Ty α) (xs : List α) : (tList T).e xs = .tuple (xs.map T.e) := id rfl
@[simp] theorem tPair_e {α β : Type} [DecidableEq α] [DecidableEq β] (T : Ty α) (U : Ty β) (p : α × β) : (tPair T U).e p = .tuple [T.e p.1, U.e p.2] := id rfl
@[simp] theorem tBit_f : tBit.e false = .int 0 := id rfl
@[simp] theorem tBit_t : tBit.e true = .int 1 := id rfl
@[simp] theorem tNat_dp : tNat.dp = 0 := id rfl
@[simp] theorem tBit_dp : tBit.dp = 0 := id rfl
@[simp] theorem tStr_dp : tStr.dp = 0 := id rfl
@[simp] theorem tInt_dp : tInt.dp = 0 := id rfl
@[simp] theorem tList_dp {α : Type} [DecidableEq α] (T : Ty α) : (tList T).dp = T.dp + 1 := id rfl
@[simp] theorem tPair_dp {α β : Type} [DecidableEq α] [DecidableEq β] (T : Ty α) (U : Ty β) : (tPair T U).dp = max T.dp U.dp + 1 := id rfl
end C
end
section
set_option Elab.async false
set_option linter.all false
set_option maxRecDepth 100000
/-! Primitives over typed data. -/
namespace C
open PySem
section
variable (ds : List D)
@[simp] theorem evP_add : evP .add ds = pAdd ds := id rfl
@[simp] theorem evP_sub : evP .sub ds = pSub ds := id rfl
@[simp] theorem evP_mul : evP .mul ds = pMul ds := id rfl
@[simp] theorem evP_mod : evP .mod ds = pMod ds := id rfl
@[simp] theorem evP_fdiv : evP .fdiv ds = pFdiv ds := id rfl
@[simp] theorem evP_pow : evP .pow ds = pPow ds := id rfl
@[simp] theorem evP_neg : evP .neg ds = pNeg ds := id rfl
@[simp] theorem evP_eq : evP .eq ds = pEq ds := id rfl
@[simp] theorem evP_ne : evP .ne ds = pNe ds := id rfl
@[simp] theorem evP_lt : evP .lt ds = pLt ds := id rfl
@[simp] theorem evP_le : evP .le ds = pLe ds := id rfl
@[simp] theorem evP_gt : evP .gt ds = pGt ds := id rfl
@[simp] theorem evP_ge : evP .ge ds = pGe ds := id rfl
@[simp] theorem evP_isN : evP .isN ds = pIsN ds := id rfl
@[simp] theorem evP_notN : evP .notN ds = pNotN ds := id rfl
@[simp] theorem evP_isB (b : Bool) : evP (.isB b) ds = pIsB b ds := id rfl
@[simp] theorem evP_notB (b : Bool) : evP (.notB b) ds = pNotB b ds := id rfl
@[simp] theorem evP_isin : evP .isin ds = pIsin ds := id rfl
@[simp] theorem evP_notin : evP .notin ds = pNotin ds := id rfl
@[simp] theorem evP_not : evP .not ds = pNot ds := id rfl
@[simp] theorem evP_len : evP .len ds = pLen ds := id rfl
@[simp] theorem evP_tuple : evP .tuple ds = pTuple ds := id rfl
@[simp] theorem evP_list : evP .list ds = pList ds := id rfl
@[simp] theorem evP_sorted : evP .sorted ds = pSorted ds := id rfl
@[simp] theorem evP_sum : evP .sum ds = pSum ds := id rfl
@[simp] theorem evP_any : evP .any ds = pAny ds := id rfl
@[simp] theorem evP_all : evP .all ds = pAll ds := id rfl
@[simp] theorem evP_max1 : evP .max1 ds = pMax1 ds := id rfl
@[simp] theorem evP_min1 : evP .min1 ds = pMin1 ds := id rfl
@[simp] theorem evP_max2 : evP .max2 ds = pMax2 ds := id rfl
@[simp] theorem evP_min2 : evP .min2 ds = pMin2 ds := id rfl
@[simp] theorem evP_intP : evP .int ds = pInt ds := id rfl
@[simp] theorem evP_abs : evP .abs ds = pAbs ds := id rfl
@[simp] theorem evP_repr : evP .repr ds = pRepr ds := id rfl
@[simp] theorem evP_isi (t : String) : evP (.isi t) ds = pIsi t ds := id rfl
@[simp] theorem evP_item : evP .item ds = pItem ds := id rfl
@[simp] theorem evP_slice : evP .slice ds = pSlice ds := id rfl
@[simp] theorem evP_sliceFrom : evP .sliceFrom ds = pSliceFrom ds := id rfl
@[simp] theorem evP_sliceTo : evP .sliceTo ds = pSliceTo ds := id rfl
@[simp] theorem evP_rev : evP .rev ds = pRev ds := id rfl
@[simp] theorem evP_get1 : evP .get1 ds = pGet1 ds := id rfl
@[simp] theorem evP_get2 : evP .get2 ds = pGet2 ds := id rfl
@[simp] theorem evP_index : evP .index ds = pIndex ds := id rfl
@[simp] theorem evP_dictOf : evP .dictOf ds = pDictOf ds := id rfl
@[simp] theorem evP_tup : evP .tup ds = some (.sh (.tuple ds)) := id rfl
@[simp] theorem evP_lst : evP .lst ds = some (.ow (.list ds)) := id rfl
@[simp] theorem evP_nil : evP .nil [] = some (.ow (.dict [])) := id rfl
@[simp] theorem pNot_b (b : Bool) : pNot [.bool b] = some (.sh (.bool (!b))) := id rfl
@[simp] theorem pTuple_l (xs : List D) : pTuple [.list xs] = some (.sh (.tuple xs)) := id rfl
@[simp] theorem pTuple_t (xs : List D) : pTuple [.tuple xs] = some (.sh (.tuple xs)) := id rfl
@[simp] theorem pList_l (xs : List D) : pList [.list xs] = some (.ow (.list xs)) := id rfl
@[simp] theorem pList_t (xs : List D) : pList [.tuple xs] = some (.ow (.list xs)) := id rfl
@[simp] theorem pLen_l (xs : List D) : pLen [.list xs] = some (.sh (.int xs.length)) := id rfl
@[simp] theorem pLen_t (xs : List D) : pLen [.tuple xs] = some (.sh (.int xs.length)) := id rfl
@[simp] theorem pLen_d (xs : List (D × D)) : pLen [.dict xs] = some (.sh (.int xs.length)) := id rfl
@[simp] theorem pAdd_i (i j : Int) : pAdd [.int i, .int j] = some (.sh (.int (i + j))) := id rfl
@[simp] theorem pSub_i (i j : Int) : pSub [.int i, .int j] = some (.sh (.int (i - j))) := id rfl
@[simp] theorem pInt_i (i : Int) : pInt [.int i] = some (.sh (.int i)) := id rfl
@[simp] theorem pInt_b (b : Bool) : pInt [.bool b] = some (.sh (.int (if b then 1 else 0))) := id rfl
@[simp] theorem pAbs_i (i : Int) : pAbs [.int i] = some (.sh (.int (if i < 0 then -i else i))) := id rfl
@[simp] theorem pIsN_n : pIsN [.none] = some (.sh (.bool true)) := id rfl
@[simp] theorem pIsN_t (xs : List D) : pIsN [.tuple xs] = some (.sh (.bool false)) := id rfl
@[simp] theorem pIsN_l (xs : List D) : pIsN [.list xs] = some (.sh (.bool false)) := id rfl
@[simp] theorem pIsN_i (i : Int) : pIsN [.int i] = some (.sh (.bool false)) := id rfl
@[simp] theorem pNotN_n : pNotN [.none] = some (.sh (.bool false)) := id rfl
@[simp] theorem pNotN_t (xs : List D) : pNotN [.tuple xs] = some (.sh (.bool true)) := id rfl
@[simp] theorem pNotN_l (xs : List D) : pNotN [.list xs] = some (.sh (.bool true)) := id rfl
@[simp] theorem pNotN_i (i : Int) : pNotN [.int i] = some (.sh (.bool true)) := id rfl
@[simp] theorem pIsB_b (b c : Bool) : pIsB b [.bool c] = some (.sh (.bool (c == b))) := id rfl
@[simp] theorem pNotB_b (b c : Bool) : pNotB b [.bool c] = some (.sh (.bool (c != b))) := id rfl
theorem pAdd_t (xs ys : List D) (h : xs.length + ys.length ≤ lineN) : pAdd [.tuple xs, .tuple ys] = some (.sh (.tuple (xs ++ ys))) := if_pos h
theorem pAdd_l (xs ys : List D) (h : xs.length + ys.length ≤ lineN) : pAdd [.list xs, .list ys] = some (.ow (.list (xs ++ ys))) := if_pos h
theorem pAny_q (xs : List D) : pAny [.list xs] = (bools xs).bind fun bs => shB (bs.any id) := rfl
theorem pAll_q (xs : List D) : pAll [.list xs] = (bools xs).bind fun bs => shB (bs.all id) := rfl
theorem pItem_qt (xs : List D) (i : Int) : pItem [.tuple xs, .int i] = (idx xs.length i).bind fun j => (xs[j]?).map .sh := rfl
theorem pItem_ql (xs : List D) (i : Int) : pItem [.list xs, .int i] = (idx xs.length i).bind fun j => (xs[j]?).map .sh := rfl
theorem pItem_qd (kvs : List (D × D)) (k : D) : pItem [.dict kvs, k] = if keyOk kvs k then (dlook kvs k).map .sh else none := by cases k <;> rfl
theorem pEq_q (a b : D) : pEq [a, b] = if okEq a && okEq b then shB (PyData.eqv a b) else none := rfl
theorem pNe_q (a b : D) : pNe [a, b] = if okEq a && okEq b then shB (!PyData.eqv a b) else none := rfl
theorem pIsin_ql (x : D) (ys : List D) : pIsin [x, .list ys] = if okEq x && okEq (.list ys) then shB (ys.any fun y => PyData.eqv y x) else none := by cases x <;> rfl
theorem pIsin_qt (x : D) (ys : List D) : pIsin [x, .tuple ys] = if okEq x && okEq (.tuple ys) then shB (ys.any fun y => PyData.eqv y x) else none := by cases x <;> rfl
theorem pIsin_qd (x : D) (ys : List (D × D)) (h : x ≠ .none) : pIsin [x, .dict ys] = if keyOk ys x then shB (dlook ys x).isSome else none := by cases x <;> first | rfl | exact absurd rfl h
theorem pNotin_ql (x : D) (ys : List D) : pNotin [x, .list ys] = if okEq x && okEq (.list ys) then shB (!ys.any fun y => PyData.eqv y x) else none := by cases x <;> rfl
theorem pNotin_qt (x : D) (ys : List D) : pNotin [x, .tuple ys] = if okEq x && okEq (.tuple ys) then shB (!ys.any fun y => PyData.eqv y x) else none := by cases x <;> rfl
theorem pNotin_qd (x : D) (ys : List (D × D)) (h : x ≠ .none) : pNotin [x, .dict ys] = if keyOk ys x then shB (!(dlook ys x).isSome) else none := by cases x <;> first | rfl | exact absurd rfl h
theorem pSorted_ql (xs : List D) : pSorted [.list xs] = if sortOk xs then some (.ow (.list (xs.mergeSort (PySem.W.dataLe false id)))) else none := rfl
theorem pSorted_qt (xs : List D) : pSorted [.tuple xs] = if sortOk xs then some (.ow (.list (xs.mergeSort (PySem.W.dataLe false id)))) else none := rfl
theorem pSorted_qd (kvs : List (D × D)) : pSorted [.dict kvs] = if sortOk (kvs.map (·.1)) then some (.ow (.list ((kvs.map (·.1)).mergeSort (PySem.W.dataLe false id)))) else none := rfl
theorem mSet_qd (kvs : List (D × D)) (k x : D) : mSetItem (.dict kvs) [k, x] = if keyOk kvs k && decide (kvs.length < lineN) then some (.dict (dput kvs k x), .none) else none := rfl
theorem bools_map {α : Type} (p : α → Bool) : ∀ xs : List α, bools (xs.map fun x => .bool (p x)) = some (xs.map p)
  | [] => rfl
  | x :: xs => by rw [List.map_cons]; unfold bools; rw [bools_map p xs]; rfl
theorem pAny_map {α : Type} (p : α → Bool) (xs : List α) : pAny [.list (xs.map fun x => .bool (p x))] = some (.sh (.bool (xs.any p))) := by
  rw [pAny_q, bools_map]; simp [shB, List.any_map, Function.comp_def]
theorem pAll_map {α : Type} (p : α → Bool) (xs : List α) : pAll [.list (xs.map fun x => .bool (p x))] = some (.sh (.bool (xs.all p))) := by
  rw [pAll_q, bools_map]; simp [shB, List.all_map, Function.comp_def]
@[simp] theorem pAny_c {α : Type} (f : α → Bool) (xs : List α) : pAny [.list (xs.map ((fun b => PyData.bool b) ∘ f))] = some (.sh (.bool (xs.any f))) := pAny_map f xs
@[simp] theorem pAll_c {α : Type} (f : α → Bool) (xs : List α) : pAll [.list (xs.map ((fun b => PyData.bool b) ∘ f))] = some (.sh (.bool (xs.all f))) := pAll_map f xs
@[simp] theorem pAny_m (xs : List Bool) : pAny [.list (xs.map fun b => PyData.bool b)] = some (.sh (.bool (xs.any id))) := pAny_map (fun b => b) xs
@[simp] theorem pAll_m (xs : List Bool) : pAll [.list (xs.map fun b => PyData.bool b)] = some (.sh (.bool (xs.all id))) := pAll_map (fun b => b) xs
theorem idx_nat {n k : Nat} (h : k < n) : idx n (k : Int) = some k := by
  unfold idx; rw [if_pos (by omega), if_pos (by omega)]; simp
theorem pItem_t {ds : List D} {k : Nat} {d : D} (h : ds[k]? = some d) : pItem [.tuple ds, .int (k : Int)] = some (.sh d) := by
  rw [pItem_qt, idx_nat (List.getElem?_eq_some_iff.mp h).1, Option.bind_some, h]; rfl
theorem pItem_l {ds : List D} {k : Nat} {d : D} (h : ds[k]? = some d) : pItem [.list ds, .int (k : Int)] = some (.sh d) := by
  rw [pItem_ql, idx_nat (List.getElem?_eq_some_iff.mp h).1, Option.bind_some, h]; rfl
@[simp] theorem pItem_t0 (d : D) (ds : List D) : pItem [.tuple (d :: ds), .int 0] = some (.sh d) := pItem_t (k := 0) rfl
@[simp] theorem pItem_t1 (d d' : D) (ds : List D) : pItem [.tuple (d :: d' :: ds), .int 1] = some (.sh d') := pItem_t (k := 1) rfl
@[simp] theorem pItem_l0 (d : D) (ds : List D) : pItem [.list (d :: ds), .int 0] = some (.sh d) := pItem_l (k := 0) rfl
theorem rangeSt_map : ∀ (n a : Nat), rangeSt (a : Int) 1 n = (List.range' a n).map tNat.e
  | 0, _ => rfl
  | n + 1, a => by
    unfold rangeSt
    rw [List.range'_succ, List.map_cons, ← rangeSt_map n (a + 1)]
    simp [tNat]
theorem rangeSt_0 (n : Nat) : rangeSt 0 1 n = (List.range n).map tNat.e := by
  have := rangeSt_map n 0
  rw [List.range_eq_range']; exact this
theorem okLt_ii (i j : Int) : okLt (.int i) (.int j) = true := by simp [okLt, PySem.W.alike, PyData.plain, PyData.depth, isNoneD]
@[simp] theorem pLt_ii (i j : Int) : pLt [.int i, .int j] = some (.sh (.bool (decide (i < j)))) := by
  show (if okLt (.int i) (.int j) then shB (PySem.W.dataLt (.int i) (.int j)) else none) = _
  rw [okLt_ii, PySem.W.dataLt_int]; rfl
@[simp] theorem pGt_ii (i j : Int) : pGt [.int i, .int j] = some (.sh (.bool (decide (j < i)))) := by
  show (if okLt (.int i) (.int j) then shB (PySem.W.dataLt (.int j) (.int i)) else none) = _
  rw [okLt_ii, PySem.W.dataLt_int]; rfl
@[simp] theorem pLe_ii (i j : Int) : pLe [.int i, .int j] = some (.sh (.bool (decide (i ≤ j)))) := by
  show (if okLt (.int i) (.int j) then shB (!PySem.W.dataLt (.int j) (.int i)) else none) = _
  rw [okLt_ii, PySem.W.dataLt_int, if_pos rfl, PySem.W.not_lt_int]; rfl
@[simp] theorem pGe_ii (i j : Int) : pGe [.int i, .int j] = some (.sh (.bool (decide (j ≤ i)))) := by
  show (if okLt (.int i) (.int j) then shB (!PySem.W.dataLt (.int i) (.int j)) else none) = _
  rw [okLt_ii, PySem.W.dataLt_int, if_pos rfl, PySem.W.not_lt_int]; rfl
theorem okEq_i (i : Int) : okEq (.int i) = true := by simp [okEq, PyData.plain, PyData.depth]
theorem okEq_b (b : Bool) : okEq (.bool b) = true := by simp [okEq, PyData.plain, PyData.depth]
theorem okEq_s (s : Str) : okEq (.str s) = true := by simp [okEq, PyData.plain, PyData.depth]
@[simp] theorem pEq_ii (i j : Int) : pEq [.int i, .int j] = some (.sh (.bool (decide (i = j)))) := by
  rw [pEq_q, okEq_i, okEq_i]; simp [PyData.eqv, shB]; by_cases h : i = j <;> simp [h]
@[simp] theorem pNe_ii (i j : Int) : pNe [.int i, .int j] = some (.sh (.bool (!decide (i = j)))) := by
  rw [pNe_q, okEq_i, okEq_i]; simp [PyData.eqv, shB]; by_cases h : i = j <;> simp [h]
@[simp] theorem pEq_bb (i j : Bool) : pEq [.bool i, .bool j] = some (.sh (.bool (i == j))) := by
  rw [pEq_q, okEq_b, okEq_b]; simp [PyData.eqv, shB]
@[simp] theorem pNe_bb (i j : Bool) : pNe [.bool i, .bool j] = some (.sh (.bool (i != j))) := by
  rw [pNe_q, okEq_b, okEq_b]; simp [PyData.eqv, shB, bne]
@[simp] theorem pEq_ss (i j : Str) : pEq [.str i, .str j] = some (.sh (.bool (decide (i = j)))) := by
  rw [pEq_q, okEq_s, okEq_s]; simp [PyData.eqv, shB]; by_cases h : i = j <;> simp [h]
@[simp] theorem pNe_ss (i j : Str) : pNe [.str i, .str j] = some (.sh (.bool (!decide (i = j)))) := by
  rw [pNe_q, okEq_s, okEq_s]; simp [PyData.eqv, shB]; by_cases h : i = j <;> simp [h]
theorem pMod_i (i j : Int) (h : 0 < j) : pMod [.int i, .int j] = some (.sh (.int (i % j))) := if_pos h
theorem pFdiv_i (i j : Int) (h : 0 < j) (k : j < 1073741824) : pFdiv [.int i, .int j] = some (.sh (.int (i / j))) := if_pos ⟨h, k⟩
theorem pMul_i1 (i j : Int) (h : -bigI < i) (k : i < bigI) : pMul [.int i, .int j] = some (.sh (.int (i * j))) := if_pos (.inl ⟨h, k⟩)
theorem pMul_i2 (i j : Int) (h : -bigI < j) (k : j < bigI) : pMul [.int i, .int j] = some (.sh (.int (i * j))) := if_pos (.inr ⟨h, k⟩)
theorem okEq_nest {d : D} (h : nestD d = true) (k : d.depth ≤ 64) : okEq d = true := by
  unfold okEq; rw [nest_plainT h, Bool.true_and, decide_eq_true k]
end
namespace Ty
variable {α : Type} (T : Ty α)
theorem okEq_e (h : T.dp ≤ 64) (a : α) : okEq (T.e a) = true := okEq_nest (T.nest a) (Nat.le_trans (T.depth a) h)
theorem okEq_l (h : T.dp ≤ 63) (xs : List α) : okEq (.list (xs.map T.e)) = true := by
  unfold okEq PyData.plain PyData.depth
  have := T.depthAll_map xs
  rw [T.plainAll_map, Bool.true_and, decide_eq_true (by omega)]
theorem okEq_t (h : T.dp ≤ 63) (xs : List α) : okEq (.tuple (xs.map T.e)) = true := by
  unfold okEq PyData.plain PyData.depth
  have := T.depthAll_map xs
  rw [T.plainAll_map, Bool.true_and, decide_eq_true (by omega)]
variable [DecidableEq α]
theorem pEq_e (h : T.dp ≤ 64) (a b : α) : pEq [T.e a, T.e b] = some (.sh (.bool (decide (a = b)))) := by
  rw [pEq_q, T.okEq_e h, T.okEq_e h, T.eqv]; rfl
theorem pNe_e (h : T.dp ≤ 64) (a b : α) : pNe [T.e a, T.e b] = some (.sh (.bool (!decide (a = b)))) := by
  rw [pNe_q, T.okEq_e h, T.okEq_e h, T.eqv]; rfl
theorem pEq_l (h : T.dp ≤ 63) (xs ys : List α) : pEq [.list (xs.map T.e), .list (ys.map T.e)] = some (.sh (.bool (decide (xs = ys)))) := by
  rw [pEq_q, T.okEq_l h, T.okEq_l h]; unfold PyData.eqv; rw [T.eqvAll_map]; rfl
theorem pNe_l (h : T.dp ≤ 63) (xs ys : List α) : pNe [.list (xs.map T.e), .list (ys.map T.e)] = some (.sh (.bool (!decide (xs = ys)))) := by
  rw [pNe_q, T.okEq_l h, T.okEq_l h]; unfold PyData.eqv; rw [T.eqvAll_map]; rfl
theorem pEq_lnil (h : T.dp ≤ 63) (xs : List α) : pEq [.list (xs.map T.e), .list []] = some (.sh (.bool xs.isEmpty)) := by
  have := T.pEq_l h xs []
  rw [List.map_nil] at this; rw [this]; cases xs <;> rfl
theorem pNe_lnil (h : T.dp ≤ 63) (xs : List α) : pNe [.list (xs.map T.e), .list []] = some (.sh (.bool (!xs.isEmpty))) := by
  have := T.pNe_l h xs []
  rw [List.map_nil] at this; rw [this]; cases xs <;> rfl
theorem any_eqv (xs : List α) (x : α) : ((xs.map T.e).any fun y => PyData.eqv y (T.e x)) = decide (x ∈ xs) := by
  rw [List.any_map]
  induction xs with
  | nil => rfl
  | cons y ys ih =>
    rw [List.any_cons, ih]
    show (PyData.eqv (T.e y) (T.e x) || _) = _
    rw [T.eqv]
    by_cases h : y = x
    · simp [h]
    · have : ¬ x = y := fun z => h z.symm
      simp [h, this]
theorem pIsin_t (h : T.dp ≤ 63) (x : α) (xs : List α) : pIsin [T.e x, .tuple (xs.map T.e)] = some (.sh (.bool (decide (x ∈ xs)))) := by
  rw [pIsin_qt, T.okEq_e (by omega), T.okEq_t h, T.any_eqv]; rfl
theorem pIsin_l (h : T.dp ≤ 63) (x : α) (xs : List α) : pIsin [T.e x, .list (xs.map T.e)] = some (.sh (.bool (decide (x ∈ xs)))) := by
  rw [pIsin_ql, T.okEq_e (by omega), T.okEq_l h, T.any_eqv]; rfl
theorem pNotin_t (h : T.dp ≤ 63) (x : α) (xs : List α) : pNotin [T.e x, .tuple (xs.map T.e)] = some (.sh (.bool (!decide (x ∈ xs)))) := by
  rw [pNotin_qt, T.okEq_e (by omega), T.okEq_t h, T.any_eqv]; rfl
theorem pNotin_l (h : T.dp ≤ 63) (x : α) (xs : List α) : pNotin [T.e x, .list (xs.map T.e)] = some (.sh (.bool (!decide (x ∈ xs)))) := by
  rw [pNotin_ql, T.okEq_e (by omega), T.okEq_l h, T.any_eqv]; rfl
omit [DecidableEq α] in
theorem sortOk_map (h : T.dp ≤ 50) (xs : List α) : sortOk (xs.map T.e) = true := by
  unfold sortOk
  simp only [Bool.and_eq_true, Bool.or_eq_true, List.all_eq_true, List.mem_map, decide_eq_true_eq]
  refine ⟨⟨?_, ?_⟩, ?_⟩
  · rintro _ ⟨a, _, rfl⟩ _ ⟨b, _, rfl⟩; exact T.alike a b
  · rintro _ ⟨a, _, rfl⟩; exact ⟨nest_plainT (T.nest a), Nat.le_trans (T.depth a) h⟩
  · rcases T.kd with k | k | k
    · right; rintro _ ⟨a, _, rfl⟩; have := k a; revert this; cases T.e a <;> simp [isIntD, isTupD, isNoneD]
    · right; rintro _ ⟨a, _, rfl⟩; have := k a; revert this; cases T.e a <;> simp [isStrD, isTupD, isNoneD]
    · left; rintro _ ⟨a, _, rfl⟩; exact k a
omit [DecidableEq α] in
theorem pSorted_l (h : T.dp ≤ 50) (xs : List α) : pSorted [.list (xs.map T.e)] = some (.ow (.list ((T.sort xs).map T.e))) := by
  rw [pSorted_ql, if_pos (T.sortOk_map h xs), T.sort_map]
omit [DecidableEq α] in
theorem pSorted_t (h : T.dp ≤ 50) (xs : List α) : pSorted [.tuple (xs.map T.e)] = some (.ow (.list ((T.sort xs).map T.e))) := by
  rw [pSorted_qt, if_pos (T.sortOk_map h xs), T.sort_map]
omit [DecidableEq α] in
theorem pSorted_d {β : Type} (h : T.dp ≤ 50) (m : List (α × β)) (f : β → D) : pSorted [.dict (m.map fun p => (T.e p.1, f p.2))] = some (.ow (.list ((T.sort (m.map (·.1))).map T.e))) := by
  rw [pSorted_qd]
  have e : (m.map fun p => (T.e p.1, f p.2)).map (·.1) = (m.map (·.1)).map T.e := by rw [List.map_map, List.map_map]; rfl
  rw [e, if_pos (T.sortOk_map h _), T.sort_map]
/-! ### dicts -/
def ekv {β : Type} (f : β → D) (m : List (α × β)) : List (D × D) := m.map fun p => (T.e p.1, f p.2)
omit [DecidableEq α] in
theorem tupKey_e (hd : T.dp ≤ 7) (a : α) (h : isTupD (T.e a) = true) : tupKey (T.e a) = true := by
  have h1 := T.nest a
  have h2 := T.depth a
  cases e : T.e a <;> rw [e] at h h1 h2 <;> simp [isTupD] at h
  rename_i xs
  unfold nestD at h1
  unfold PyData.depth at h2
  show (nestAll xs && decide (PyData.depthAll xs ≤ 7)) = true
  rw [h1, decide_eq_true (by omega)]; rfl
omit [DecidableEq α] in
theorem keyOk_e {β : Type} (hd : T.dp ≤ 7) (f : β → D) (m : List (α × β)) (a : α) : keyOk (T.ekv f m) (T.e a) = true := by
  unfold keyOk ekv
  simp only [List.all_map, Function.comp_def, Bool.or_eq_true, Bool.and_eq_true, List.all_eq_true]
  rcases T.kd with k | k | k
  · exact .inl (.inr ⟨k a, fun p _ => k p.1⟩)
  · exact .inl (.inl ⟨k a, fun p _ => k p.1⟩)
  · exact .inr ⟨T.tupKey_e hd a (k a), fun p _ => T.tupKey_e hd p.1 (k p.1)⟩
/-- what an assoc list says of a key -/
def look {β : Type} (m : List (α × β)) (a : α) : Option β := (m.find? fun p => decide (p.1 = a)).map (·.2)
def put {β : Type} (m : List (α × β)) (a : α) (b : β) : List (α × β) := if a ∈ m.map (·.1) then m.map (fun p => if p.1 = a then (p.1, b) else p) else m ++ [(a, b)]
theorem dlook_e {β : Type} (f : β → D) (m : List (α × β)) (a : α) : dlook (T.ekv f m) (T.e a) = (look m a).map f := by
  unfold dlook look ekv
  induction m with
  | nil => rfl
  | cons p m ih =>
    rw [List.map_cons, List.find?_cons, List.find?_cons]
    simp only [T.eqv]
    by_cases h : p.1 = a
    · simp [h]
    · simp only [h, decide_false]
      exact ih
theorem dput_e {β : Type} (f : β → D) (m : List (α × β)) (a : α) (b : β) : dput (T.ekv f m) (T.e a) (f b) = T.ekv f (put m a b) := by
  unfold dput put ekv
  have e1 : ((m.map fun p => (T.e p.1, f p.2)).any fun p => PyData.eqv p.1 (T.e a)) = decide (a ∈ m.map (·.1)) := by
    rw [← T.any_eqv (m.map (·.1)) a]
    simp only [List.any_map, Function.comp_def]
  rw [e1]
  by_cases h : a ∈ m.map (·.1)
  · rw [if_pos (decide_eq_true h), if_pos h, List.map_map, List.map_map]
    refine List.map_congr_left fun p _ => ?_
    simp only [Function.comp_def, T.eqv]
    by_cases q : p.1 = a
    · simp [q]
    · simp [q]
  · rw [if_neg (by simpa using h), if_neg h, List.map_append]; rfl
theorem look_put {β : Type} (m : List (α × β)) (a c : α) (b : β) : look (put m a b) c = if c = a then some b else look m c := by
  unfold look put
  by_cases h : a ∈ m.map (·.1)
  · rw [if_pos h]
    induction m with
    | nil => simp at h
    | cons p m ih =>
      rw [List.map_cons, List.find?_cons, List.find?_cons]
      by_cases hp : p.1 = a
      · rw [if_pos hp]
        by_cases hc : c = a
        · subst hc; simp [hp]
        · have : ¬ p.1 = c := fun z => hc (by rw [← z, hp])
          simp only [this, decide_false, if_neg hc]
          by_cases hm : a ∈ m.map (·.1)
          · rw [ih hm, if_neg hc]
          · congr 1
            have : (m.map fun p => if p.1 = a then (p.1, b) else p) = m := by
              conv => rhs; rw [← List.map_id m]
              refine List.map_congr_left fun q hq => ?_
              rw [if_neg fun z => hm (by rw [← z]; exact List.mem_map.mpr ⟨q, hq, rfl⟩)]; rfl
            rw [this]
      · rw [if_neg hp]
        have hm : a ∈ m.map (·.1) := by
          rcases List.mem_cons.mp (by simpa using h : a ∈ p.1 :: m.map (·.1)) with z | z
          · exact absurd z.symm hp
          · exact z
        by_cases hc : p.1 = c
        · have : ¬ c = a := fun z => hp (by rw [hc, z])
          simp [hc, this]
        · simp only [hc, decide_false]
          exact ih hm
  · rw [if_neg h, List.find?_append]
    by_cases hc : c = a
    · subst hc
      have : (m.find? fun p => decide (p.1 = c)) = none := by
        rw [List.find?_eq_none]
        intro p hp z
        exact h (List.mem_map.mpr ⟨p, hp, by simpa using z⟩)
      simp [this]
    · rw [if_neg hc]
      have : ¬ a = c := fun z => hc z.symm
      cases hf : m.find? fun p => decide (p.1 = c) <;> simp [this]
theorem keys_put {β : Type} (m : List (α × β)) (a : α) (b : β) : (put m a b).map (·.1) = if a ∈ m.map (·.1) then m.map (·.1) else m.map (·.1) ++ [a] := by
  unfold put
  by_cases h : a ∈ m.map (·.1)
  · rw [if_pos h, if_pos h, List.map_map]
    refine List.map_congr_left fun p _ => ?_
    show (if p.1 = a then (p.1, b) else p).1 = p.1
    split <;> rfl
  · rw [if_neg h, if_neg h, List.map_append]; rfl
theorem pItem_d {β : Type} (hd : T.dp ≤ 7) (f : β → D) (m : List (α × β)) {a : α} {b : β} (h : look m a = some b) : pItem [.dict (T.ekv f m), T.e a] = some (.sh (f b)) := by
  rw [pItem_qd, T.keyOk_e hd, T.dlook_e, h]; rfl
theorem pIsin_d {β : Type} (hd : T.dp ≤ 7) (f : β → D) (m : List (α × β)) (a : α) (hn : T.e a ≠ .none) : pIsin [T.e a, .dict (T.ekv f m)] = some (.sh (.bool (look m a).isSome)) := by
  rw [pIsin_qd _ _ hn, T.keyOk_e hd, T.dlook_e]; cases look m a <;> rfl
theorem pNotin_d {β : Type} (hd : T.dp ≤ 7) (f : β → D) (m : List (α × β)) (a : α) (hn : T.e a ≠ .none) : pNotin [T.e a, .dict (T.ekv f m)] = some (.sh (.bool (!(look m a).isSome))) := by
  rw [pNotin_qd _ _ hn, T.keyOk_e hd, T.dlook_e]; cases look m a <;> rfl
theorem mSet_d {β : Type} (hd : T.dp ≤ 7) (f : β → D) (m : List (α × β)) (a : α) (b : β) (hl : m.length < lineN) : mSetItem (.dict (T.ekv f m)) [T.e a, f b] = some (.dict (T.ekv f (put m a b)), .none) := by
  rw [mSet_qd]
  have hl2 : (T.ekv f m).length < lineN := by unfold ekv; rw [List.length_map]; exact hl
  simp only [T.keyOk_e hd, hl2, decide_true, Bool.and_self, if_true, T.dput_e]
end Ty
end C
end
section
set_option Elab.async false
set_option linter.all false
set_option maxRecDepth 100000
/-! Loops by invariants. -/
namespace C
open PySem
section
variable {cf : Nat → List Sl → CR} {wf : Nat} {env env1 : Env} {p : Pat} {it : CI} {b : CSs}
/-- one turn of a for -/
def frB (cf : Nat → List Sl → CR) (wf : Nat) (b : CSs) : Option Env → SR
  | some e1 => exB cf wf b e1
  | none => .bad
@[simp] theorem frB_some (e : Env) : frB cf wf b (some e) = exB cf wf b e := id rfl
def turnF (cf : Nat → List Sl → CR) (wf : Nat) (p : Pat) (b : CSs) (x : D) (e : Env) : SR := frB cf wf b (bindP p x e)
theorem turnF_q (cf : Nat → List Sl → CR) (wf : Nat) (p : Pat) (b : CSs) (x : D) (e : Env) : turnF cf wf p b x e = frB cf wf b (bindP p x e) := id rfl
/-- it goes on -/
def Goes (r : SR) (e : Env) : Prop := r = .nx e ∨ r = .ct e
theorem Goes.nx (e : Env) : Goes (.nx e) e := .inl rfl
theorem Goes.ct (e : Env) : Goes (.ct e) e := .inr rfl
@[simp] theorem goes_nx (e e' : Env) : Goes (.nx e) e' ↔ e = e' := ⟨fun h => by rcases h with h | h <;> cases h; rfl, fun h => .inl (by rw [h])⟩
@[simp] theorem goes_ct (e e' : Env) : Goes (.ct e) e' ↔ e = e' := ⟨fun h => by rcases h with h | h <;> cases h; rfl, fun h => .inr (by rw [h])⟩
theorem exS_fr' : exS cf wf (.fr p it b) env = match evI cf it env with
    | .ok xs env1 => loopF (turnF cf wf p b) xs env1
    | .ex x e => .ex x e
    | .bad => .bad := by
  rw [exS_fr]
  cases evI cf it env <;> try rfl
theorem loopF_go {body : D → Env → SR} {x : D} {xs : List D} {e e1 : Env} (h : Goes (body x e) e1) : loopF body (x :: xs) e = loopF body xs e1 := by
  rcases h with h | h <;> (show (match body x e with | .nx env1 => loopF body xs env1 | .ct env1 => loopF body xs env1 | r => r) = _; rw [h])
theorem loopF_rt {body : D → Env → SR} {x : D} {xs : List D} {e e1 : Env} {s : Sl} (h : body x e = .rt s e1) : loopF body (x :: xs) e = .rt s e1 := by
  show (match body x e with | .nx env1 => loopF body xs env1 | .ct env1 => loopF body xs env1 | r => r) = _; rw [h]
/-- a loop that goes through: R told of what has been walked -/
theorem fr_invE {α : Type} (xs : List α) (e : α → D) (R : List α → Env → Prop) (hs : evI cf it env = .ok (xs.map e) env1) (h0 : R [] env1)
    (ht : ∀ pre x post, xs = pre ++ x :: post → ∀ en, R pre en → ∃ en', Goes (turnF cf wf p b (e x) en) en' ∧ R (pre ++ [x]) en') : ∃ en', exS cf wf (.fr p it b) env = .nx en' ∧ R xs en' := by
  rw [exS_fr', hs]
  have key : ∀ (post pre : List α) (en : Env), xs = pre ++ post → R pre en → ∃ en', loopF (turnF cf wf p b) (post.map e) en = .nx en' ∧ R xs en' := fun post => by
    induction post with
    | nil => intro pre en h r; exact ⟨en, rfl, by rw [h, List.append_nil]; exact r⟩
    | cons x post ih =>
      intro pre en h r
      obtain ⟨e1, h1, h2⟩ := ht pre x post h en r
      obtain ⟨e2, h3, h4⟩ := ih (pre ++ [x]) e1 (by rw [h]; simp) h2
      exact ⟨e2, by rw [List.map_cons, loopF_go h1]; exact h3, h4⟩
  exact key xs [] env1 rfl h0
/-- the same by a step over a state -/
theorem fr_foldE {α σ : Type} (xs : List α) (e : α → D) (step : σ → α → σ) (R : σ → Env → Prop) (s0 : σ) (hs : evI cf it env = .ok (xs.map e) env1) (h0 : R s0 env1)
    (ht : ∀ s x, x ∈ xs → ∀ en, R s en → ∃ en', Goes (turnF cf wf p b (e x) en) en' ∧ R (step s x) en') : ∃ en', exS cf wf (.fr p it b) env = .nx en' ∧ R (xs.foldl step s0) en' := by
  refine fr_invE xs e (fun pre en => R (pre.foldl step s0) en) hs h0 fun pre x post h en r => ?_
  rw [List.foldl_append]
  exact ht _ x (by rw [h]; simp) en r
/-- a loop that may return; v: what it returns at the first x of q -/
theorem fr_findE {α : Type} (xs : List α) (e : α → D) (q : α → Bool) (v : α → Sl) (R : Env → Prop) (hs : evI cf it env = .ok (xs.map e) env1) (h0 : R env1)
    (ht : ∀ x ∈ xs, ∀ en, R en → (q x = true → ∃ en', turnF cf wf p b (e x) en = .rt (v x) en' ∧ R en') ∧ (q x = false → ∃ en', Goes (turnF cf wf p b (e x) en) en' ∧ R en')) :
    (match xs.find? q with
      | some x => ∃ en', exS cf wf (.fr p it b) env = .rt (v x) en' ∧ R en'
      | none => ∃ en', exS cf wf (.fr p it b) env = .nx en' ∧ R en') := by
  rw [exS_fr', hs]
  have key : ∀ (l : List α) (en : Env), (∀ x ∈ l, x ∈ xs) → R en → (match l.find? q with
      | some x => ∃ en', loopF (turnF cf wf p b) (l.map e) en = .rt (v x) en' ∧ R en'
      | none => ∃ en', loopF (turnF cf wf p b) (l.map e) en = .nx en' ∧ R en') := fun l => by
    induction l with
    | nil => intro en _ r; exact ⟨en, rfl, r⟩
    | cons x l ih =>
      intro en hm r
      obtain ⟨h1, h2⟩ := ht x (hm x List.mem_cons_self) en r
      rw [List.find?_cons, List.map_cons]
      cases hq : q x with
      | true =>
        obtain ⟨e1, h3, h4⟩ := h1 hq
        exact ⟨e1, loopF_rt h3, h4⟩
      | false =>
        obtain ⟨e1, h3, h4⟩ := h2 hq
        rw [loopF_go h3]
        exact ih e1 (fun y hy => hm y (List.mem_cons_of_mem _ hy)) h4
  exact key xs env1 (fun _ h => h) h0
/-- a loop that does not return: every turn goes on -/
theorem fr_allE {α : Type} (xs : List α) (e : α → D) (R : Env → Prop) (hs : evI cf it env = .ok (xs.map e) env1) (h0 : R env1)
    (ht : ∀ x ∈ xs, ∀ en, R en → ∃ en', Goes (turnF cf wf p b (e x) en) en' ∧ R en') : ∃ en', exS cf wf (.fr p it b) env = .nx en' ∧ R en' :=
  fr_invE xs e (fun _ en => R en) hs h0 fun pre x post h en r => ht x (by rw [h]; simp) en r
/-! the source leaves the slots as they are -/
theorem fr_inv {α : Type} (xs : List α) (e : α → D) (R : List α → Env → Prop) (hs : evI cf it env = .ok (xs.map e) env) (h0 : R [] env)
    (ht : ∀ pre x post, xs = pre ++ x :: post → ∀ en, R pre en → ∃ en', Goes (turnF cf wf p b (e x) en) en' ∧ R (pre ++ [x]) en') : ∃ en', exS cf wf (.fr p it b) env = .nx en' ∧ R xs en' := fr_invE xs e R hs h0 ht
theorem fr_fold {α σ : Type} (xs : List α) (e : α → D) (step : σ → α → σ) (R : σ → Env → Prop) (s0 : σ) (hs : evI cf it env = .ok (xs.map e) env) (h0 : R s0 env)
    (ht : ∀ s x, x ∈ xs → ∀ en, R s en → ∃ en', Goes (turnF cf wf p b (e x) en) en' ∧ R (step s x) en') : ∃ en', exS cf wf (.fr p it b) env = .nx en' ∧ R (xs.foldl step s0) en' := fr_foldE xs e step R s0 hs h0 ht
theorem fr_find {α : Type} (xs : List α) (e : α → D) (q : α → Bool) (v : α → Sl) (R : Env → Prop) (hs : evI cf it env = .ok (xs.map e) env) (h0 : R env)
    (ht : ∀ x ∈ xs, ∀ en, R en → (q x = true → ∃ en', turnF cf wf p b (e x) en = .rt (v x) en' ∧ R en') ∧ (q x = false → ∃ en', Goes (turnF cf wf p b (e x) en) en' ∧ R en')) :
    (match xs.find? q with
      | some x => ∃ en', exS cf wf (.fr p it b) env = .rt (v x) en' ∧ R en'
      | none => ∃ en', exS cf wf (.fr p it b) env = .nx en' ∧ R en') := fr_findE xs e q v R hs h0 ht
theorem fr_all {α : Type} (xs : List α) (e : α → D) (R : Env → Prop) (hs : evI cf it env = .ok (xs.map e) env) (h0 : R env)
    (ht : ∀ x ∈ xs, ∀ en, R en → ∃ en', Goes (turnF cf wf p b (e x) en) en' ∧ R en') : ∃ en', exS cf wf (.fr p it b) env = .nx en' ∧ R en' := fr_allE xs e R hs h0 ht
theorem evI_range (n : Nat) (a : CE) (h : evE cf a env = .ok (.sh (.int n)) env) (hn : n ≤ 16777216) : evI cf (.range1 a) env = .ok ((List.range n).map tNat.e) env := by
  rw [evI_range1, h]
  simp only [bind_okE, dataOf_sh]
  rw [if_pos (by unfold lineN; omega)]
  simp [rangeSt_0]
/-- while, by a measure; Q: what a return within it says -/
theorem wh_ret {σ : Type} {c : CE} (R : σ → Env → Prop) (Q : Sl → Env → Prop) (t : σ → Bool) (m : σ → Nat)
    (hc : ∀ s en, R s en → ∃ en', evE cf c en = .ok (.sh (.bool (t s))) en' ∧ R s en')
    (hb : ∀ s en, t s = true → R s en → (∃ s' en', Goes (exB cf wf b en) en' ∧ R s' en' ∧ m s' < m s) ∨ ∃ v en', exB cf wf b en = .rt v en' ∧ Q v en') (s0 : σ) (h0 : R s0 env) (hw : m s0 < wf) :
    (∃ s en', exS cf wf (.wh c b) env = .nx en' ∧ R s en' ∧ t s = false) ∨ ∃ v en', exS cf wf (.wh c b) env = .rt v en' ∧ Q v en' := by
  rw [exS_wh]
  have key : ∀ (n : Nat) (s : σ) (en : Env), m s < n → R s en → (∃ s' en', loopW (fun e => evE cf c e) (fun e => exB cf wf b e) n en = .nx en' ∧ R s' en' ∧ t s' = false) ∨ ∃ v en', loopW (fun e => evE cf c e) (fun e => exB cf wf b e) n en = .rt v en' ∧ Q v en' := fun n => by
    induction n with
    | zero => intro s en h; omega
    | succ n ih =>
      intro s en h r
      obtain ⟨e1, h1, r1⟩ := hc s en r
      cases hts : t s with
      | false =>
        rw [hts] at h1
        refine .inl ⟨s, e1, ?_, r1, hts⟩
        unfold loopW
        rw [h1]
      | true =>
        rw [hts] at h1
        rcases hb s e1 hts r1 with ⟨s2, e2, h2, r2, hm⟩ | ⟨v, e2, h2, hq⟩
        · rcases ih s2 e2 (by omega) r2 with ⟨s', e3, h3, r3, t3⟩ | ⟨v, e3, h3, q3⟩
          · refine .inl ⟨s', e3, ?_, r3, t3⟩
            unfold loopW
            rw [h1]
            rcases h2 with h2 | h2 <;> (simp only [h2]; exact h3)
          · refine .inr ⟨v, e3, ?_, q3⟩
            unfold loopW
            rw [h1]
            rcases h2 with h2 | h2 <;> (simp only [h2]; exact h3)
        · refine .inr ⟨v, e2, ?_, hq⟩
          unfold loopW
          rw [h1]
          simp only [h2]
  exact key wf s0 env hw h0
theorem wh_inv {σ : Type} {c : CE} (R : σ → Env → Prop) (t : σ → Bool) (m : σ → Nat)
    (hc : ∀ s en, R s en → ∃ en', evE cf c en = .ok (.sh (.bool (t s))) en' ∧ R s en')
    (hb : ∀ s en, t s = true → R s en → ∃ s' en', Goes (exB cf wf b en) en' ∧ R s' en' ∧ m s' < m s) (s0 : σ) (h0 : R s0 env) (hw : m s0 < wf) :
    ∃ s en', exS cf wf (.wh c b) env = .nx en' ∧ R s en' ∧ t s = false := by
  rcases wh_ret (b := b) (wf := wf) (cf := cf) R (fun _ _ => False) t m hc (fun s en h r => .inl (hb s en h r)) s0 h0 hw with h | ⟨_, _, _, h⟩
  · exact h
  · exact h.elim
end
end C
end
section
set_option Elab.async false
set_option linter.all false
set_option maxRecDepth 100000
/-! Dicts that stand for sets; dict comprehensions. -/
namespace C
open PySem
namespace Ty
variable {α : Type} (T : Ty α)
/-- {x: True for x in l} -/
def set (l : List α) : List (D × D) := l.map fun a => (T.e a, .bool true)
theorem set_ekv (l : List α) : T.set l = T.ekv (fun _ : Unit => .bool true) (l.map fun a => (a, ())) := by
  unfold set ekv; rw [List.map_map]; rfl
variable [DecidableEq α]
theorem look_unit (l : List α) (a : α) : look (l.map fun a => (a, ())) a = if a ∈ l then some () else none := by
  unfold look
  induction l with
  | nil => rfl
  | cons x l ih =>
    rw [List.map_cons, List.find?_cons]
    by_cases h : x = a
    · simp [h]
    · have : ¬ a = x := fun z => h z.symm
      simp only [h, decide_false, List.mem_cons, this, false_or]
      exact ih
theorem isin_set (hd : T.dp ≤ 7) (hn : ∀ a, T.e a ≠ .none) (l : List α) (a : α) : pIsin [T.e a, .dict (T.set l)] = some (.sh (.bool (decide (a ∈ l)))) := by
  rw [set_ekv, T.pIsin_d hd _ _ _ (hn a), look_unit]
  by_cases h : a ∈ l <;> simp [h]
theorem notin_set (hd : T.dp ≤ 7) (hn : ∀ a, T.e a ≠ .none) (l : List α) (a : α) : pNotin [T.e a, .dict (T.set l)] = some (.sh (.bool (!decide (a ∈ l)))) := by
  rw [set_ekv, T.pNotin_d hd _ _ _ (hn a), look_unit]
  by_cases h : a ∈ l <;> simp [h]
omit [DecidableEq α] in
theorem sorted_set (h : T.dp ≤ 50) (l : List α) : pSorted [.dict (T.set l)] = some (.ow (.list ((T.sort l).map T.e))) := by
  rw [set_ekv]
  have := T.pSorted_d h (l.map fun a => (a, ())) (fun _ : Unit => .bool true)
  unfold ekv
  rw [this]
  congr 4
  rw [List.map_map]
  exact congrArg T.sort (List.map_id l)
/-- one more -/
def add (l : List α) (a : α) : List α := if a ∈ l then l else l ++ [a]
theorem dput_set (l : List α) (a : α) : dput (T.set l) (T.e a) (.bool true) = T.set (add l a) := by
  rw [set_ekv, set_ekv]
  have := T.dput_e (fun _ : Unit => PyData.bool true) (l.map fun a => (a, ())) a ()
  rw [this]
  congr 1
  unfold put add
  rw [List.map_map]
  have e : l.map ((fun p : α × Unit => p.1) ∘ fun a => (a, ())) = l := List.map_id l
  rw [e]
  by_cases h : a ∈ l
  · rw [if_pos h, if_pos h, List.map_map]
    refine List.map_congr_left fun x _ => ?_
    simp only [Function.comp]
    split <;> rfl
  · rw [if_neg h, if_neg h, List.map_append]; rfl
theorem set_set (hd : T.dp ≤ 7) (l : List α) (a : α) (hl : l.length < 16777216) : evM .setItem (.dict (T.set l)) [T.e a, .bool true] = some (.dict (T.set (add l a)), .none) := by
  rw [show evM .setItem (.dict (T.set l)) [T.e a, .bool true] = mSetItem (.dict (T.set l)) [T.e a, .bool true] from rfl, mSet_qd, dput_set]
  have h1 : keyOk (T.set l) (T.e a) = true := by rw [set_ekv]; exact T.keyOk_e hd _ _ _
  have h2 : (T.set l).length < lineN := by unfold set; rw [List.length_map]; exact hl
  rw [h1, decide_eq_true h2]; rfl
/-- all of them, the first of each kept -/
def dedup (l : List α) : List α := l.foldl add []
omit T in
theorem add_nodup {l : List α} {a : α} (h : l.Nodup) : (add l a).Nodup := by
  unfold add
  by_cases q : a ∈ l
  · rw [if_pos q]; exact h
  · rw [if_neg q]
    rw [List.nodup_append]
    exact ⟨h, by simp, fun x hx y hy z => by simp at hy; subst hy; subst z; exact q hx⟩
omit T in
theorem mem_add {l : List α} {a x : α} : x ∈ add l a ↔ x ∈ l ∨ x = a := by
  unfold add
  by_cases q : a ∈ l
  · rw [if_pos q]
    constructor
    · exact .inl
    · rintro (h | rfl)
      · exact h
      · exact q
  · rw [if_neg q]; simp
omit T in
theorem foldl_add {l : List α} : ∀ {acc : List α}, acc.Nodup → (l.foldl add acc).Nodup ∧ ∀ x, x ∈ l.foldl add acc ↔ x ∈ acc ∨ x ∈ l := by
  induction l with
  | nil => intro acc h; exact ⟨h, by simp⟩
  | cons a l ih =>
    intro acc h
    obtain ⟨h1, h2⟩ := ih (add_nodup (a := a) h)
    refine ⟨h1, fun x => ?_⟩
    rw [List.foldl_cons, h2, mem_add]
    simp only [List.mem_cons]
    constructor
    · rintro ((h | h) | h)
      · exact .inl h
      · exact .inr (.inl h)
      · exact .inr (.inr h)
    · rintro (h | h | h)
      · exact .inl (.inl h)
      · exact .inl (.inr h)
      · exact .inr h
omit T in
theorem dedup_nodup (l : List α) : (dedup l).Nodup := (foldl_add List.nodup_nil).1
omit T in
theorem mem_dedup {l : List α} {x : α} : x ∈ dedup l ↔ x ∈ l := by rw [dedup, (foldl_add List.nodup_nil).2]; simp
theorem dedup_length (l : List α) : (dedup l).length ≤ l.length := by
  have : ∀ (l acc : List α), (l.foldl add acc).length ≤ acc.length + l.length := fun l => by
    induction l with
    | nil => intro acc; simp
    | cons a l ih =>
      intro acc
      have := ih (add acc a)
      have h2 : (add acc a).length ≤ acc.length + 1 := by unfold add; split <;> simp
      rw [List.foldl_cons, List.length_cons]; omega
  have := this l []
  simpa [dedup] using this
theorem foldl_dput (l : List α) : ∀ acc : List α, (l.map fun a => (T.e a, PyData.bool true)).foldl (fun acc p => dput acc p.1 p.2) (T.set acc) = T.set (l.foldl add acc) := by
  induction l with
  | nil => intro acc; rfl
  | cons a l ih => intro acc; rw [List.map_cons, List.foldl_cons, dput_set, ih]; rfl
omit [DecidableEq α] in
theorem pairsOf_map (l : List α) : pairsOf (l.map fun a => PyData.tuple [T.e a, .bool true]) = some (l.map fun a => (T.e a, PyData.bool true)) := by
  induction l with
  | nil => rfl
  | cons a l ih => rw [List.map_cons]; unfold pairsOf; rw [ih]; rfl
/-- dict([(x, True) for x in l]) -/
theorem dictOf_set (hd : T.dp ≤ 7) (l : List α) : pDictOf [.list (l.map fun a => PyData.tuple [T.e a, .bool true])] = some (.ow (.dict (T.set (dedup l)))) := by
  show (pairsOf _).bind _ = _
  rw [pairsOf_map, Option.bind_some]
  have hk : keysOk (l.map fun a => (T.e a, PyData.bool true)) = true := by
    unfold keysOk
    simp only [List.all_map, Function.comp_def, Bool.or_eq_true, List.all_eq_true]
    rcases T.kd with k | k | k
    · exact .inl (.inr fun a _ => k a)
    · exact .inl (.inl fun a _ => k a)
    · exact .inr fun a _ => T.tupKey_e hd a (k a)
  rw [if_pos hk]
  have := T.foldl_dput l []
  rw [show T.set ([] : List α) = [] from rfl] at this
  rw [this]; rfl
end Ty
section
variable {cf : Nat → List Sl → CR} {wf : Nat} {env env1 env' : Env}
def kvK (e3 : Env) : Option D → Option D → R (Option (D × D))
  | some d, some d2 => .ok (some (d, d2)) e3
  | _, _ => .bad
@[simp] theorem kvK_some (e3 : Env) (d d2 : D) : kvK e3 (some d) (some d2) = .ok (some (d, d2)) e3 := id rfl
def keyK (cf : Nat → List Sl → CR) (key val : CE) (b : Bool) (e1 : Env) : R (Option (D × D)) := if b then (evE cf key e1).bind fun s e2 => (evE cf val e2).bind fun t e3 => kvK e3 (dataOf s) (dataOf t) else .ok none e1
@[simp] theorem keyK_t (key val : CE) (e1 : Env) : keyK cf key val true e1 = (evE cf key e1).bind fun s e2 => (evE cf val e2).bind fun t e3 => kvK e3 (dataOf s) (dataOf t) := id rfl
@[simp] theorem keyK_f (key val : CE) (e1 : Env) : keyK cf key val false e1 = .ok none e1 := id rfl
def turnDP (cf : Nat → List Sl → CR) (g : CG) (key val : CE) (x : D) (e : Env) : R (Option (D × D)) := (evGt cf g x e).bind (keyK cf key val)
theorem turnD_q (cf : Nat → List Sl → CR) (g : CG) (key val : CE) (x : D) (e : Env) : turnDP cf g key val x e = (evGt cf g x e).bind (keyK cf key val) := id rfl
theorem evE_dc' (own : List Nat) (g : CG) (key val : CE) : evE cf (.dc own g key val) env = (evG0 cf g env).bind fun xs env1 => if ownFree env1 own then
    (loopD (fun x e => turnDP cf g key val x (wipeE e own)) xs [] env1).bind fun kvs env2 => .ok (.ow (.dict kvs)) (backE env1 env2 own) else .bad := by
  rw [evE]
  have : (fun (x : D) (e : Env) => turnDP cf g key val x (wipeE e own)) = fun x e => (evGt cf g x (wipeE e own)).bind fun b e1 => if b then (evE cf key e1).bind fun s e2 => (evE cf val e2).bind fun t e3 =>
        match dataOf s, dataOf t with
        | some d, some d2 => .ok (some (d, d2)) e3
        | _, _ => .bad
      else .ok none e1 := by
    funext x e
    unfold turnDP
    congr
  rw [this] <;> rfl
/-- {key: True for x in xs} -/
theorem dc_set {α β : Type} [DecidableEq β] {own : List Nat} {p : Pat} {it : CI} {ifs : CT} {key val : CE} (xs : List α) (e : α → D) (T : Ty β) (hd : T.dp ≤ 7) (f : α → Option β) (hs : evI cf it env = .ok (xs.map e) env) (ho : ownFree env own = true)
    (ht : ∀ x ∈ xs, ∃ e2, turnDP cf (.mk p it ifs) key val (e x) (wipeE env own) = .ok ((f x).map fun b => (T.e b, PyData.bool true)) e2 ∧ wipeE e2 own = wipeE env own) :
    evE cf (.dc own (.mk p it ifs) key val) env = .ok (.ow (.dict (T.set (Ty.dedup (xs.filterMap f))))) env := by
  rw [evE_dc', evG0_mk, hs, bind_okE, if_pos ho]
  have go : ∀ (l : List α) (acc : List β) (en : Env), wipeE en own = wipeE env own → (∀ x ∈ l, x ∈ xs) → ∃ e2, loopD (fun x e => turnDP cf (.mk p it ifs) key val x (wipeE e own)) (l.map e) (T.set acc) en = .ok (T.set ((l.filterMap f).foldl Ty.add acc)) e2 ∧ wipeE e2 own = wipeE env own := fun l => by
    induction l with
    | nil => exact fun acc en h _ => ⟨en, rfl, h⟩
    | cons x l ih =>
      intro acc en h hm
      obtain ⟨e1, h1, h2⟩ := ht x (hm x List.mem_cons_self)
      rw [List.map_cons]
      unfold loopD
      rw [h, h1]
      simp only [bind_okE]
      cases hf : f x with
      | none =>
        obtain ⟨e2, h3, h4⟩ := ih acc e1 h2 fun y hy => hm y (List.mem_cons_of_mem _ hy)
        refine ⟨e2, ?_, h4⟩
        simp only [Option.map_none, List.filterMap_cons, hf]
        exact h3
      | some b =>
        obtain ⟨e2, h3, h4⟩ := ih (Ty.add acc b) e1 h2 fun y hy => hm y (List.mem_cons_of_mem _ hy)
        refine ⟨e2, ?_, h4⟩
        simp only [Option.map_some, List.filterMap_cons, hf, List.foldl_cons]
        rw [if_pos (by rw [T.set_ekv]; exact T.keyOk_e hd _ _ _), T.dput_set]
        exact h3
  obtain ⟨e2, h1, h2⟩ := go xs [] env rfl fun _ h => h
  rw [show (T.set ([] : List β)) = [] from rfl] at h1
  rw [h1, bind_okE, back_same h2]; rfl
end
end C
end
section
set_option Elab.async false
set_option linter.all false
set_option maxRecDepth 100000
set_option maxHeartbeats 1000000
/-! sorted(set(rows)): the rows' order by their codes -/
namespace C
open PySem PySem.Spec PyProof.Rows L2
abbrev tIL : Ty (List Int) := tList tInt
theorem code_bd : ∀ {ns : List Int}, TS.Bd 64 ns → 0 ≤ TS.code 64 ns ∧ TS.code 64 ns < 64 ^ ns.length
  | [], _ => by simp [TS.code]
  | n :: ns, h => by
    obtain ⟨h1, h2⟩ := code_bd (ns := ns) fun m hm => h m (List.mem_cons_of_mem _ hm)
    obtain ⟨h3, h4⟩ := h n List.mem_cons_self
    have hp : (0 : Int) ≤ 64 ^ ns.length := Int.le_of_lt (Int.pow_pos (by decide))
    have e : TS.code 64 (n :: ns) = n * 64 ^ ns.length + TS.code 64 ns := rfl
    have q1 : 0 ≤ n * 64 ^ ns.length := Int.mul_nonneg h3 hp
    have q2 : (n + 1) * 64 ^ ns.length ≤ 64 * 64 ^ ns.length := Int.mul_le_mul_of_nonneg_right (by omega) hp
    rw [Int.add_mul, Int.one_mul] at q2
    rw [e, List.length_cons, Int.pow_succ, Int.mul_comm (64 ^ ns.length) 64]
    generalize (64 : Int) ^ ns.length = K at *
    generalize n * K = M at *
    constructor <;> omega
theorem code_lt : ∀ {a b : List Int}, a.length = b.length → TS.Bd 64 a → TS.Bd 64 b → tIL.lt a b = true → TS.code 64 a < TS.code 64 b
  | [], [], _, _, _, h => by cases h
  | [], _ :: _, hl, _, _, _ => by simp at hl
  | _ :: _, [], hl, _, _, _ => by simp at hl
  | x :: xs, y :: ys, hl, ha, hb, h => by
    have hl : xs.length = ys.length := by simpa using hl
    have h' : (if x = y then lexB tInt.lt xs ys else tInt.lt x y) = true := h
    have ha' : TS.Bd 64 xs := fun m hm => ha m (List.mem_cons_of_mem _ hm)
    have hb' : TS.Bd 64 ys := fun m hm => hb m (List.mem_cons_of_mem _ hm)
    obtain ⟨a1, a2⟩ := code_bd ha'
    obtain ⟨b1, b2⟩ := code_bd hb'
    have ea : TS.code 64 (x :: xs) = x * 64 ^ xs.length + TS.code 64 xs := rfl
    have eb : TS.code 64 (y :: ys) = y * 64 ^ ys.length + TS.code 64 ys := rfl
    rw [ea, eb, hl]
    split at h'
    · rename_i e
      have := code_lt hl ha' hb' h'
      rw [e]; omega
    · have hxy : x < y := by simpa [tInt] using h'
      have hp : (0 : Int) ≤ 64 ^ ys.length := Int.le_of_lt (Int.pow_pos (by decide))
      have q : (x + 1) * 64 ^ ys.length ≤ y * 64 ^ ys.length := Int.mul_le_mul_of_nonneg_right (by omega) hp
      rw [Int.add_mul, Int.one_mul] at q
      rw [hl] at a2
      omega
theorem code_asc {d : Nat} : ∀ {xs : List (List Int)}, (∀ a ∈ xs, a.length = d ∧ TS.Bd 64 a) → xs.Nodup → xs.Pairwise (fun a b => TS.code 64 a ≤ TS.code 64 b) → tIL.Asc xs
  | [], _, _, _ => List.Pairwise.nil
  | a :: xs, h, hn, hp => by
    obtain ⟨p1, p2⟩ := List.pairwise_cons.mp hp
    obtain ⟨n1, n2⟩ := List.nodup_cons.mp hn
    refine List.pairwise_cons.mpr ⟨fun b hb => ?_, code_asc (fun c hc => h c (List.mem_cons_of_mem _ hc)) n2 p2⟩
    obtain ⟨l1, l2⟩ := h a List.mem_cons_self
    obtain ⟨l3, l4⟩ := h b (List.mem_cons_of_mem _ hb)
    rcases tIL.lt_tot (show a ≠ b from fun z => n1 (by rw [z]; exact hb)) with q | q
    · exact q
    · have := code_lt (l3.trans l1.symm) l4 l2 q
      have := p1 b hb
      omega
theorem dedupD_map (xs : List (List Int)) : dedupD (xs.map tIL.e) = (Ty.dedup xs).map tIL.e := by
  unfold dedupD Ty.dedup
  have : ∀ (xs acc : List (List Int)), (xs.map tIL.e).foldl (fun acc d => if acc.any (fun x => PyData.eqv x d) then acc else acc ++ [d]) (acc.map tIL.e) = (xs.foldl Ty.add acc).map tIL.e := fun xs => by
    induction xs with
    | nil => intro acc; rfl
    | cons x xs ih =>
      intro acc
      rw [List.map_cons, List.foldl_cons, List.foldl_cons, tIL.any_eqv, ← ih]
      congr 1
      unfold Ty.add
      by_cases h : x ∈ acc <;> simp [h]
  exact this xs []
/-- what stands in the rows -/
theorem rows_ks {B : Bs} {N : Addr → Prop} {H : L2.Hp} {n : Nat} : ∀ {vs : List V} {ds : List PyData}, RpA B N H vs ds → ds.all (rowI n) = true → ∃ ks : List (Addr × List Int), vs = (ks.map fun p => V.ref p.1) ∧ ds = (ks.map (·.2)).map tIL.e ∧ (∀ p ∈ ks, SqT B.K H p.1 (p.2.map V.int) ∧ Rp B N H (.ref p.1) (tIL.e p.2) ∧ p.2.length = n ∧ TS.Bd 64 p.2)
  | _, [], r, _ => by cases r; exact ⟨[], rfl, rfl, fun p hp => by simp at hp⟩
  | _, d :: ds, r, h => by
    cases r with
    | cons r1 r2 =>
      rw [List.all_cons] at h
      obtain ⟨h1, h2⟩ := ba2 h
      obtain ⟨ks, e1, e2, e3⟩ := rows_ks r2 h2
      unfold rowI at h1
      split at h1
      case h_2 => cases h1
      rename_i xs
      split at h1
      case h_2 => cases h1
      rename_i ns hns
      obtain ⟨g1, g2⟩ := ba2 h1
      have hx : ∀ {xs : List PyData} {ns : List Int}, intsD xs = some ns → xs = ns.map tInt.e := fun {xs} => by
        induction xs with
        | nil => intro ns e; cases e; rfl
        | cons x xs ih =>
          intro ns e
          cases x <;> try (cases e; done)
          rename_i i
          have e : (intsD xs).map (i :: ·) = some ns := e
          obtain ⟨m, e1, rfl⟩ := Option.map_eq_some_iff.mp e
          rw [ih e1]; rfl
      have hxs := hx hns
      subst hxs
      cases r1 with
      | mu _ t => cases t
      | tup hq ra =>
        rename_i a vs'
        have hv : ∀ {vs : List V} {ns : List Int}, RpA B N H vs (ns.map tInt.e) → vs = ns.map V.int := fun {vs ns} => by
          induction ns generalizing vs with
          | nil => intro r; cases r; rfl
          | cons i ns ih =>
            intro r
            cases r with
            | cons a b => cases Rp.ra a |>.int; rw [ih b]; rfl
        have := hv ra
        subst this
        refine ⟨(a, ns) :: ks, by rw [e1]; rfl, by rw [e2]; rfl, fun p hp => ?_⟩
        rcases List.mem_cons.mp hp with rfl | hp
        · exact ⟨hq, .tup hq ra, of_decide_eq_true g1, fun m hm => by simpa using List.all_eq_true.mp g2 m hm⟩
        · exact e3 p hp
end C
end
section
set_option Elab.async false
set_option linter.all false
set_option maxRecDepth 100000
set_option maxHeartbeats 1000000
/-! sorted(set(rows)) in the walk -/
namespace C
open PySem PySem.Spec PyProof.Rows L2
variable [Lams]
section
variable {X : Cx}
/-- set(t), t a tuple of tuples of whole numbers -/
def rSetTT (K : PySem.W.Frag) (P : Program) (w : World) : List V → L2.Hp → VK → Prop := fun xs H Q => ∃ (l : Addr) (ks : List (Addr × List Int)), xs = [V.ref l] ∧ SqT K H l (ks.map fun p => V.ref p.1) ∧ (∀ p ∈ ks, SqT K H p.1 (p.2.map V.int)) ∧ ks.length < 64 ∧
  ∀ a L, H a = none → (∀ p ∈ L, p ∈ ks) → (∀ p ∈ ks, p.2 ∈ L.map (·.2)) → Q (.ref a) (upd H a (SetTO P w a L))
theorem cr_setTT (hc : X.calm = true) (hu : X.A.units + 150 < cLine) : CallR X (.type "set") (rSetTT X.K X.prog X.w) := by
  rintro pins s σ H _ us Q I r ⟨l, ks, rfl, hl, hk, hf, q⟩
  rw [Vals.ref1 r]
  obtain ⟨its, rv, ⟨o, ho, hcl, n, hd⟩, hz⟩ := I.tuple hl
  refine call_set_tt (P := X.prog) (w := X.w) ks (I.ok.hd hc) ⟨o, ho, hcl, n, hd⟩ (by simpa using refs_of_vals rv) (fun p hp => I.isT (hk p hp)) hf (by omega) fun s2 hs2 => ?_
  obtain ⟨h', tk, L, es, ep, t, rfl, R, g, kp⟩ := hs2
  exact ⟨.ref s.heap.objs.size, _, I.laid (t' := tk) kp (Nat.le_refl _) (setTO_new R.t0), rfl, q _ L (I.hok.fresh (Nat.le_refl _)) (fun p hp => List.mem_of_mem_take (g.sub p hp)) fun p hp => g.all p (by rw [List.take_length]; exact hp)⟩
theorem ss_rel {x : V} {H : L2.Hp} {Q : VK} (h : rP1 (bsOf X) .sortedSet x H Q) : rSetTT X.K X.prog X.w [x] H fun v H2 => rSortedT X.K X.prog X.w [v] H2 Q := by
  obtain ⟨N, ds, sl, ra, e, q⟩ := h
  cases ra with
  | cons a t =>
    cases t
    rename_i d
    change pSortedSet [d] = some sl at e
    unfold pSortedSet at e
    split at e
    case h_2 => cases e
    rename_i d0 ds z
    injection z with z1 _; subst z1
    split at e <;> cases e
    rename_i hg
    obtain ⟨g1, g2⟩ := ba2 hg
    obtain ⟨g2, g3⟩ := ba2 g2
    have g2 := of_decide_eq_true g2
    have g3 := of_decide_eq_true g3
    obtain ⟨l, vs, rfl, hp, r1⟩ := a.tuple
    obtain ⟨ks, rfl, e2, e3⟩ := rows_ks r1 g1
    have hlen : ks.length < 64 := by have := congrArg List.length e2; simp at this; omega
    refine ⟨l, ks, rfl, hp, fun p hp => (e3 p hp).1, hlen, fun b L hb hL1 hL2 => ?_⟩
    have ex : Ext N H N (upd H b (SetTO X.prog X.w b L)) := Ext.same (same_upd hb)
    refine ⟨b, L, lenD d0, 64, rfl, upd_same, fun p hp => sqT_ext ex (e3 p (hL1 p hp)).1, g2, fun p hp => (e3 p (hL1 p hp)).2.2, fun L' p2 pm nd hfew pw hp2 => ?_⟩
    have hne : p2 ≠ b := fun z => by subst z; rw [upd_same] at hp2; cases hp2
    have hp3 : H p2 = none := by rw [upd_ne hne] at hp2; exact hp2
    have hm : ∀ p ∈ L', p ∈ ks := fun p hp => hL1 p (pm.mem_iff.mp hp)
    have asc : tIL.Asc (L'.map (·.2)) := code_asc (d := lenD d0) (fun c hc => by
      obtain ⟨p, hp, rfl⟩ := List.mem_map.mp hc
      exact (e3 p (hm p hp)).2.2) nd (by rw [List.pairwise_map]; exact pw)
    have hs : (dedupD (d0 :: ds)).mergeSort (PySem.W.dataLe false id) = (L'.map (·.2)).map tIL.e := by
      rw [e2, dedupD_map, tIL.sort_map]
      congr 1
      refine tIL.asc_ext (tIL.asc_sort (Ty.dedup_nodup _)) asc fun c => ?_
      rw [(tIL.sort_perm _).mem_iff, Ty.mem_dedup]
      constructor
      · intro hc
        obtain ⟨p, hp, rfl⟩ := List.mem_map.mp hc
        exact ((pm.map (·.2)).mem_iff).mpr (hL2 p hp)
      · intro hc
        obtain ⟨p, hp, rfl⟩ := List.mem_map.mp hc
        exact List.mem_map.mpr ⟨p, hm p hp, rfl⟩
    have rs : RpA (bsOf X) N (upd H b (SetTO X.prog X.w b L)) (L'.map fun p => V.ref p.1) ((L'.map (·.2)).map tIL.e) := by
      clear hs asc pw nd hfew pm
      induction L' with
      | nil => exact .nil
      | cons p L' ih => exact .cons ((e3 p (hm p List.mem_cons_self)).2.1.ext ex) (ih fun q hq => hm q (List.mem_cons_of_mem _ hq))
    obtain ⟨gs, c, ec, hc, t⟩ := Grow.newLst (B := bsOf X) (N := N) hp2 rs
    cases ec
    rw [hs] at q
    exact q _ _ ⟨(same_upd hb).trans gs, p2, rfl, hp3, t⟩
end
end C
end
section
set_option Elab.async false
set_option linter.all false
set_option maxRecDepth 100000
set_option maxHeartbeats 4000000
/-! The check is sound: all expressions. -/
namespace C
open PySem PySem.Spec L2
variable [Lams]
section
variable {cf : Nat → List Sl → CR}
theorem ckAs_all {S : SX} : ∀ {as : CAs} {es : List Expr}, ckAs S as es = true → es.all plainX = true
  | .nil, es, h => by
    simp only [ckAs, List.isEmpty_iff] at h
    subst h; rfl
  | .cons a as, [], h => by simp [ckAs] at h
  | .cons a as, e :: es, h => by
    simp only [ckAs] at h
    obtain ⟨h1, h2⟩ := ba2 h
    rw [List.all_cons, h1, ckAs_all (ba2 h2).2]; rfl
theorem assign_plain {S : SX} {p : Pat} {e : Expr} (h : ckP S p e = true) (es : List Expr) (env : PySem.Env) : assignEach (e :: es) env = (false, assign e env) :: assignEach es env := by
  cases p <;> cases e <;> first | rfl | (simp [ckP] at h; done)
theorem assign_len {S : SX} : ∀ {ps : List Pat} {es : List Expr}, ckPs S ps es = true → ∀ env : PySem.Env, (assignEach es env).length = ps.length ∧ (assignEach es env).findIdx? (·.1) = none
  | [], [], _, _ => ⟨rfl, rfl⟩
  | [], _ :: _, h, _ => by simp [ckPs] at h
  | _ :: _, [], h, _ => by simp [ckPs] at h
  | p :: ps, e :: es, h, env => by
    simp only [ckPs] at h
    obtain ⟨h1, h2⟩ := ba2 h
    obtain ⟨k1, k2⟩ := assign_len h2 env
    rw [assign_plain h1]
    refine ⟨by rw [List.length_cons, List.length_cons, k1], ?_⟩
    rw [List.findIdx?_cons, k2]; rfl
mutual
theorem ckP_ok {S : SX} {X : Cx} (ok : CtxOk S cf X) : ∀ {p : Pat} {e : Expr}, ckP S p e = true → PG X e (tG (bsOf X) p)
  | .v i, e, h => by
    cases e <;> simp only [ckP] at h <;> try (cases h; done)
    rename_i x pos
    unfold locB at h
    obtain ⟨h1, h2⟩ := ba2 h
    have hi : X.N[i]? = some x := by rw [ok.nN]; exact of_decide_eq_true h1
    have hl : L2.Loc X.env.scope x ∧ (X.fn x = true ∨ X.env.scope.names.lookup x = some .local) := by
      unfold L2.Loc
      rw [ok.sc]
      unfold SX.kd at h2
      cases hk : S.sc.names.lookup x with
      | none => rw [hk] at h2; cases h2
      | some k =>
        rw [hk] at h2
        cases k with
        | «local» => exact ⟨.inl rfl, .inr rfl⟩
        | cell => exact ⟨.inr rfl, .inl (ok.fn x h2)⟩
        | _ => cases h2
    refine ⟨fun pins s σ H v u Q I r hg => (pg_name (pos := pos) ok.nd hi hl.1 hl.2).run pins s σ H v u Q I r (tG_name ?_ hg)⟩
    rw [I.len]; exact (List.getElem?_eq_some_iff.mp hi).1
  | .t ps, e, h => by
    cases e <;> simp only [ckP] at h <;> try (cases h; done)
    obtain ⟨k1, k2⟩ := assign_len h X.env
    have hp : PGs X _ (tGs (bsOf X) ps) := ckPs_ok ok h
    exact ⟨fun pins s σ H v u Q I r hg => (pg_tup (X := X) (n := ps.length) ok.calm hp k1 k2).run pins s σ H v u Q I r (tG_tup hg)⟩
theorem ckPs_ok {S : SX} {X : Cx} (ok : CtxOk S cf X) : ∀ {ps : List Pat} {es : List Expr}, ckPs S ps es = true → PGs X es (tGs (bsOf X) ps)
  | [], [], _ => ⟨fun pins s σ H vs us Q I r hg => pgs_nil.run pins s σ H vs us Q I r (tGs_nil hg)⟩
  | [], _ :: _, h => by simp [ckPs] at h
  | _ :: _, [], h => by simp [ckPs] at h
  | p :: ps, e :: es, h => by
    simp only [ckPs] at h
    obtain ⟨h1, h2⟩ := ba2 h
    have := pgs_cons (ckP_ok ok h1) (ckPs_ok ok h2) (by rw [assign_plain h1]; rfl)
    exact ⟨fun pins s σ H vs us Q I r hg => this.run pins s σ H vs us Q I r (tGs_cons hg)⟩
end
theorem ownP_snd (S : SX) (own : List Nat) : (ownP S own).map (·.2) = own := by
  unfold ownP
  rw [List.map_map]
  exact List.map_id own
theorem PG.impG {X : Cx} {e : Expr} {t t' : TG} (h : PG X e t) (k : ∀ v σ H Q, t' v σ H Q → t v σ H Q) : PG X e t' := ⟨fun pins s σ H v u Q I r q => h.run pins s σ H v u Q I r (k v σ H Q q)⟩
theorem evAs_len : ∀ {as : CAs} {vs : List AV} {e e' : C.Env}, evAs cf as e = .ok vs e' → vs.length = casLen as
  | .nil, vs, e, e', h => by obtain ⟨rfl, _⟩ := evAs_nil h; rfl
  | .cons a as, vs, e, e', h => by
    obtain ⟨v, e1, vs', _, h2, rfl⟩ := evAs_cons h
    rw [List.length_cons, evAs_len h2]; rfl
/-- the parts of a display that have been made are everyone's -/
theorem parts_ok {B : Bs} {W W1 : Wd} {σ : L2.St} {env1 : C.Env} {xs : List V} {vs : List AV} {ds : List PyData} (s1 : Step W W1) (r1 : RE B W1 σ env1) (rs : RAVs B W W1 σ xs vs) (ap : Aprt xs vs) (hm : allMade vs = true) (hd : avDatas env1 vs = some ds) :
    ∃ W2, W2.H = W1.H ∧ Step W W2 ∧ RE B W2 σ env1 ∧ RpA B W2.N W2.H xs ds := by
  obtain ⟨W2, k1, k2, k3, k4, _⟩ := share_all r1 s1 rs ap hm hd
  exact ⟨W2, k1, k2, k3, k4⟩
theorem made_as : ∀ {as : CAs} {vs : List AV} {e e' : C.Env}, madeB as = true → evAs cf as e = .ok vs e' → allMade vs = true
  | .nil, vs, e, e', _, h => by obtain ⟨rfl, _⟩ := evAs_nil h; rfl
  | .cons a as, vs, e, e', hm, h => by
    obtain ⟨v, e1, vs', h1, h2, rfl⟩ := evAs_cons h
    cases a with
    | e c =>
      unfold evA at h1
      obtain ⟨s, e2, _, h3⟩ := bind_ok h1
      cases h3
      have := made_as (as := as) (vs := vs') (by simpa [madeB] using hm) h2
      simpa [allMade] using this
    | bo i => cases hm
    | rf i => cases hm
    | bf i f => cases hm
theorem tup_sem {B : Bs} {as : CAs} {σ : L2.St} {H : L2.Hp} {Q : VK} (hl : casLen as ≤ 1000) (hm : madeB as = true) (h : tE B cf (.pr .tup as) σ H Q) : tTup (tAs B cf as) σ H Q := by
  obtain ⟨W, env, s, env', rfl, r, e, q⟩ := h
  obtain ⟨vs, ds, h1, h3, h4⟩ := evE_pr e
  cases (show some (Sl.sh (.tuple ds)) = some s from h4)
  refine tAs_run r h1 fun xs W1 s1 r1 rs ap => ⟨by rw [rs.len, evAs_len h1, sizeLine_eq]; omega, fun p hp => ?_⟩
  obtain ⟨W2, k1, k2, k3, k4⟩ := parts_ok s1 r1 rs ap (made_as hm h1) h3
  have hp2 : W2.H p = none := by rw [k1]; exact hp
  obtain ⟨g1, g2, g3⟩ := grow_fin k3 (Grow.newTup hp2 k4)
  rw [← k1]
  exact q _ _ (k2.trans g1) g2 (g3.since k2)
theorem lst_sem {B : Bs} {as : CAs} {σ : L2.St} {H : L2.Hp} {Q : VK} (hl : casLen as ≤ 1000) (hm : madeB as = true) (h : tE B cf (.pr .lst as) σ H Q) : tLst (tAs B cf as) σ H Q := by
  obtain ⟨W, env, s, env', rfl, r, e, q⟩ := h
  obtain ⟨vs, ds, h1, h3, h4⟩ := evE_pr e
  cases (show some (Sl.ow (.list ds)) = some s from h4)
  refine tAs_run r h1 fun xs W1 s1 r1 rs ap => ⟨by rw [rs.len, evAs_len h1, sizeLine_eq]; omega, fun p hp => ?_⟩
  obtain ⟨W2, k1, k2, k3, k4⟩ := parts_ok s1 r1 rs ap (made_as hm h1) h3
  have hp2 : W2.H p = none := by rw [k1]; exact hp
  obtain ⟨g1, g2, g3⟩ := grow_fin k3 (Grow.newLst hp2 k4)
  rw [← k1]
  exact q _ _ (k2.trans g1) g2 (g3.since k2)
theorem nil_sem {B : Bs} {σ : L2.St} {H : L2.Hp} {Q : VK} (h : tE B cf (.pr .nil .nil) σ H Q) : tDNewK σ H Q := by
  obtain ⟨W, env, s, env', rfl, r, e, q⟩ := h
  obtain ⟨vs, ds, h1, h3, h4⟩ := evE_pr e
  obtain ⟨rfl, rfl⟩ := evAs_nil h1
  cases h3
  cases (show some (Sl.ow (.dict [])) = some s from h4)
  intro p hp
  obtain ⟨g1, g2, g3⟩ := grow_fin (H' := upd W.H p (.dK [])) (v := .ref p) (s := .ow (.dict [])) r ⟨same_upd hp, p, rfl, hp, .dk upd_same rfl .nil⟩
  exact q _ _ g1 g2 g3
/-- a call of a def of the module -/
theorem call_pe {S : SX} {X : Cx} (ok : CtxOk S cf X) {x : Str} {e : Expr} {es : List Expr} {f : Addr} {n : Nat} {t : TA} {px pos : Pos} (hg : Gl X x) (hdb : (x == ("__debug__" : Str)) = false) (hm : X.mg x = some (.ref f)) (hk : PySem.W.keepIn X.K (.ref f) = true)
    (hc : CallR X (.ref f) (spC (bsOf X) cf n)) (hp : (e :: es).all plainX = true) (ha : PA X (e :: es) t) : PE X (.Call (.Name x px) (e :: es) [] pos) (tCB (spC (bsOf X) cf n) t) := by
  refine ⟨fun pins s σ H Q I h => ?_⟩
  refine wpAny_Call_Name_kw (ld_glob I hg hm ?_ hdb)
  rw [List.all_cons] at hp
  obtain ⟨h1, h2⟩ := ba2 hp
  exact PySem.W.callWith_K (h₀ := X.base) I.ok.mod.kin hk (thn (ha.run pos pins s σ H _ I h) fun us s1 ⟨vs, H1, I1, r, q⟩ => ⟨I1.kIn, hc pins s1 σ H1 vs us Q I1 r q⟩) (star_plain h1 _) (star_any h2)
theorem call_pe0 {S : SX} {X : Cx} (ok : CtxOk S cf X) {x : Str} {f : Addr} {n : Nat} {px pos : Pos} (hg : Gl X x) (hdb : (x == ("__debug__" : Str)) = false) (hm : X.mg x = some (.ref f)) (hk : PySem.W.keepIn X.K (.ref f) = true)
    (hc : CallR X (.ref f) (spC (bsOf X) cf n)) : PE X (.Call (.Name x px) [] [] pos) (tCB (spC (bsOf X) cf n) tNil) := by
  refine ⟨fun pins s σ H Q I h => ?_⟩
  refine wpAny_Call_Name_kw (ld_glob I hg hm ?_ hdb)
  exact PySem.W.callWith_K0 I.kIn hk (hc pins s σ H [] [] Q I .nil h)
/-- a call of what a name in sight holds -/
theorem callv_pe {S : SX} {X : Cx} (ok : CtxOk S cf X) {x : Str} {i : Nat} {e : Expr} {es : List Expr} {as : CAs} {px pos : Pos} (hv : visB S i x = true) (hp : (e :: es).all plainX = true) (ha : PA X (e :: es) (tAs (bsOf X) cf as)) :
    PE X (.Call (.Name x px) (e :: es) [] pos) (tE (bsOf X) cf (.callv i as)) := by
  refine ⟨fun pins s σ H Q I h => ?_⟩
  obtain ⟨W, env, sl, env', rfl, r, ev, q⟩ := h
  unfold evE at ev
  split at ev
  case h_2 => cases ev
  rename_i f hf
  obtain ⟨v, h1, h2⟩ := r.slot i _ (gt_some (by rw [hf]; exact fun z => nomatch z)) (by rw [hf]; exact fun z => nomatch z)
  rw [hf] at h2
  obtain ⟨fa, rfl, hm⟩ := h2
  obtain ⟨hk, hc⟩ := ok.fns _ hm
  have hc : CallR X (.ref fa) (spC (bsOf X) cf f) := hc X rfl rfl rfl rfl rfl rfl
  have ev' : evE cf (.call f as) env = .ok sl env' := by unfold evE; exact ev
  have ht : tCB (spC (bsOf X) cf f) (tAs (bsOf X) cf as) σ W.H Q := call_sem ⟨W, env, sl, env', rfl, r, ev', q⟩
  refine wpAny_Call_Name_kw (thn ((p_var ok (pos := px) hv).run pins s σ W.H (fun v H1 => v = .ref fa ∧ H1 = W.H) I ⟨.ref fa, h1, rfl, rfl⟩) fun u s1 ⟨v, H1, I1, r1, q1⟩ => ?_)
  obtain ⟨rfl, rfl⟩ := q1
  obtain rfl : u = Value.ref fa := r1
  rw [List.all_cons] at hp
  obtain ⟨p1, p2⟩ := ba2 hp
  exact PySem.W.callWith_K (h₀ := X.base) I.ok.mod.kin hk (thn (ha.run pos pins s1 σ W.H _ I1 ht) fun us s2 ⟨vs, H2, I2, r, q⟩ => ⟨I2.kIn, hc pins s2 σ H2 vs us Q I2 r q⟩) (star_plain p1 _) (star_any p2)
theorem fv_sem {B : Bs} {n : Nat} {fa : Addr} (hm : (n, fa) ∈ Lams.fns) {σ : L2.St} {H : L2.Hp} {Q : VK} (h : tE B cf (.fv n) σ H Q) : tC (.ref fa) σ H Q := by
  obtain ⟨W, env, s, env', rfl, r, e, q⟩ := h
  unfold evE at e
  cases e
  exact q _ W (Step.refl W) r ⟨(fun z => nomatch z), fa, rfl, hm⟩
theorem ckSS_ok {S : SX} {X : Cx} (ok : CtxOk S cf X) {p : Pr} {a : CA} {fa : Expr → Bool} {e : Expr} (hfa : ∀ e, fa e = true → PE X e (tCA (bsOf X) cf a)) (h : ckSS S p fa e = true) : OKE cf X (.pr p (.cons a .nil)) e := by
  unfold ckSS at h
  split at h
  case h_2 => cases h
  obtain ⟨h1, h⟩ := ba2 h
  obtain ⟨h2, h⟩ := ba2 h
  obtain ⟨h3, h⟩ := ba2 h
  obtain ⟨h4, h5⟩ := ba2 h
  have := of_decide_eq_true h1; subst this
  obtain ⟨e1, g1, g2⟩ := free_ok ok h2
  obtain ⟨e2, k1, k2⟩ := free_ok ok h3
  subst e1 e2
  exact oke_of (pe_callB (cr_sortedT ok.calm) g1 g2 PyProof.Rows.boot_sorted (pa_cons (pe_callTy (cr_setTT ok.calm ok.hu) k1 k2 PyProof.Rows.boot_set (pa_cons (hfa _ h5) pa_nil (star_plain h4 _)) (by decide) (by decide) (star_plain h4 _) rfl) pa_nil rfl) (by decide) (by decide) rfl rfl)
    (fun σ H Q q => tCA_imp (pr1 q) fun x H1 k => ss_rel k) rfl
theorem pt_ite {X : Cx} {c a b : Expr} {tc ta tb : TT} {pos : Pos} (hc : PT X c tc) (ha : PT X a ta) (hb : PT X b tb) : PT X (.IfExp c a b pos) (fun σ H Q => tc σ H fun k H1 => if k = true then ta σ H1 Q else tb σ H1 Q) := by
  refine ⟨fun pins s σ H Q I h => ?_⟩
  show wpAny _ _ (isTrue c X.env (eval c X.env) >>= fun b' => if b' = true then isTrue a X.env (eval a X.env) else isTrue b X.env (eval b X.env)) _ _ _
  refine wpAny_bind (thn (hc.run pins s σ H _ I h) fun k s1 ⟨H1, I1, q1⟩ => ?_)
  cases k with
  | true => exact ha.run pins s1 σ H1 Q I1 q1
  | false => exact hb.run pins s1 σ H1 Q I1 q1
def ArgsOk (cf : Nat → List Sl → CR) (S : SX) (X : Cx) : CAs → Prop
  | .nil => True
  | .cons a as => (∀ e, ckA S a e = true → PE X e (tCA (bsOf X) cf a) ∧ ∀ c, a = .e c → PT X e (tT (bsOf X) cf c)) ∧ ArgsOk cf S X as
/-- the rule of a method's call with one argument, without any -/
theorem mu_pe1 {S : SX} {X : Cx} (ok : CtxOk S cf X) {x name : Str} {i : Nat} {e : Expr} {id : String} {r : V → List V → L2.Hp → VK → Prop} {t : TA} {px apos cpos : Pos} (hv : visB S i x = true) (slot : Slot "list" name id) (hty : typeOf (.builtin id) = pure (.type "method_descriptor")) (hm : MtR X id r)
    (hl : (apos.endLine == cpos.line) = true) (hp : plainX e = true) (ha : PA X [e] t) : PE X (.Call (.Attribute (.Name x px) name apos) [e] [] cpos) (tBM X.K "list" r (tVar i) t) :=
  pe_bm (PySem.F.plainAttrs_list) slot hty hm (p_var ok hv) ha rfl (by
    rw [star_plain hp]; rfl) hl (star_plain hp _) rfl
theorem mu_pe2 {S : SX} {X : Cx} (ok : CtxOk S cf X) {x name : Str} {i : Nat} {e e2 : Expr} {id : String} {r : V → List V → L2.Hp → VK → Prop} {t : TA} {px apos cpos : Pos} (hv : visB S i x = true) (slot : Slot "list" name id) (hty : typeOf (.builtin id) = pure (.type "method_descriptor")) (hm : MtR X id r)
    (hl : (apos.endLine == cpos.line) = true) (hp : plainX e = true) (hp2 : plainX e2 = true) (ha : PA X [e, e2] t) : PE X (.Call (.Attribute (.Name x px) name apos) [e, e2] [] cpos) (tBM X.K "list" r (tVar i) t) :=
  pe_bm (PySem.F.plainAttrs_list) slot hty hm (p_var ok hv) ha rfl (by
    rw [star_plain hp, star_plain hp2]; rfl) hl (star_plain hp _) (by rw [star_plain hp2]; rfl)
theorem mu_pe0 {S : SX} {X : Cx} (ok : CtxOk S cf X) {x name : Str} {i : Nat} {id : String} {r : V → List V → L2.Hp → VK → Prop} {px apos cpos : Pos} (hv : visB S i x = true) (slot : Slot "list" name id) (hty : typeOf (.builtin id) = pure (.type "method_descriptor")) (hm : MtR X id r)
    (hl : (apos.endLine == cpos.line) = true) : PE X (.Call (.Attribute (.Name x px) name apos) [] [] cpos) (tBM X.K "list" r (tVar i) tNil) :=
  ⟨fun pins s σ H Q I h => (pe_bm0 (PySem.F.plainAttrs_list) slot hty hm (p_var ok (pos := px) hv) rfl hl).run pins s σ H Q I h⟩
/-- (*e, ..) -/
def tStar (K : PySem.W.Frag) (te : TE) (t : TA) : TA := fun σ H Q => te σ H fun v H1 => ∃ a xs, v = .ref a ∧ SqT K H1 a xs ∧ t σ H1 fun ys H2 => Q (xs ++ ys) H2
theorem pa_star {X : Cx} {e : Expr} {es : List Expr} {te : TE} {t : TA} {p : Pos} (he : PE X e te) (hr : PA X es t) : PA X (.Starred e p :: es) (tStar X.K te t) := by
  refine ⟨fun pos pins s σ H Q I h => ?_⟩
  refine PySem.W.items_star (thn (he.run pins s σ H _ I h) fun v s1 ⟨x, H1, I1, r1, q1⟩ => ?_)
  obtain ⟨a, xs, rfl, hs, q⟩ := q1
  obtain rfl : v = Value.ref a := r1
  obtain ⟨its, r, ⟨o, ho, hc, n, hd⟩, hz⟩ := I1.tuple hs
  have hT' : s1.TypeIs (.ref a) "tuple" := ⟨o, ho, hc⟩
  have hl := r.length
  have z : wpAny (model X.prog X.w) X.A (collect (.ref a)) (fun here s₂ => wpAny (model X.prog X.w) X.A (spliced (backTo pos (starEach es X.env))) (fun vs s₃ => (fun us s' => ∃ (vs : List V) (H' : L2.Hp), L2.Inv X pins σ H' s' ∧ Vals vs us ∧ Q vs H') (here ++ vs) s₃) X.xe s₂) X.xe s1 := by
    refine wpAny_collect_seq a (.inr rfl) ho hc hd (fun h' hk => ?_) (by rw [List.size_toArray]; omega)
    refine thn (hr.run pos pins _ σ H1 _ (I1.kept (t' := s1.toks) hk) q) fun us s2 ⟨ys, H2, I2, r2, q2⟩ => ?_
    exact ⟨xs ++ ys, H2, I2, by simpa using r.append r2, q2⟩
  unfold PySem.W.StarOf notIterableAtAll
  exact wpAny_bind (wpAny_specialOf hT' PySem.F.slot_tuple_iter.lookup (wpAny_pure ⟨rfl, z⟩))
theorem tst_sem {B : Bs} {a : CE} {as : CAs} {σ : L2.St} {H : L2.Hp} {Q : VK} (h : tE B cf (.tst a as) σ H Q) : tTup (tStar B.K (tE B cf a) (tAs B cf as)) σ H Q := by
  obtain ⟨W, env, s, env', rfl, r, e, q⟩ := h
  unfold evE at e
  obtain ⟨s1, env1, h1, e1⟩ := bind_ok e
  obtain ⟨vs, env2, h2, e2⟩ := bind_ok e1
  clear e e1
  split at e2
  case h_2 => cases e2
  rename_i dx ds hd1 hd2
  split at e2 <;> cases e2
  rename_i hg
  obtain ⟨hm, hz⟩ := ba2 hg
  have hz := of_decide_eq_true hz
  rw [lineN_eq] at hz
  refine ⟨W, env, s1, env1, rfl, r, h1, fun v W1 st1 r1 rv => ?_⟩
  obtain ⟨p, xs, rfl, hp, rr⟩ := (rv.ra hd1).tuple
  refine ⟨p, xs, rfl, hp, tAs_run r1 h2 fun ys W2 st2 r2 rs ap => ?_⟩
  obtain ⟨W3, k1, k2, k3, k4⟩ := parts_ok st2 r2 rs ap hm hd2
  refine ⟨by rw [List.length_append, rr.length, show ys.length = ds.length by have := k4.length; exact this]; exact hz, fun p2 hp2 => ?_⟩
  have hp3 : W3.H p2 = none := by rw [k1]; exact hp2
  obtain ⟨g1, g2, g3⟩ := grow_fin k3 (Grow.newTup hp3 ((rr.ext (r1.ext k2)).append k4))
  rw [← k1]
  exact q _ _ (st1.trans (k2.trans g1)) g2 (g3.since (st1.trans k2))
theorem lamV_bind {params : Arguments} {v : Str} (h : lamV params = some v) (q : Str) (body : Expr) (scope : Scope) (cl : List (Str × Addr)) (pm : Value) (c' : Addr) (ctv u : Value) (env : PySem.Env) :
    bindArgs (PySem.W.kla_fn "<lambda>" q params body scope cl pm (.ref c') ctv) ⟨[u], []⟩ = pure [(v, u)] ∧ defaultsOf params env = ([], []) := by
  unfold lamV at h
  split at h
  · cases h
    refine ⟨?_, rfl⟩
    have e : ∀ (S : List (Str × Value)), S = [(v, u)] → List.lookup v S = some u := fun S h => by rw [h]; simp
    unfold bindArgs
    simp [PySem.W.kla_fn, seqItems?, List.lookup]
    rfl
  · cases h
theorem ckSk_ok {S : SX} {X : Cx} {xs : CA} {key : KX} {e : Expr} {fa : Expr → Bool} (ok : CtxOk S cf X) (hfa : ∀ e, fa e = true → PE X e (tCA (bsOf X) cf xs)) (h : ckSk S key fa e = true) : OKE cf X (.sk xs key) e := by
  unfold ckSk at h
  split at h
  · rename_i x px ea nm params body scope lpos kpos pos
    split at h
    · rename_i v hv
      obtain ⟨h1, h⟩ := ba2 h
      obtain ⟨h2, h⟩ := ba2 h
      obtain ⟨h3, h⟩ := ba2 h
      obtain ⟨h4, h⟩ := ba2 h
      obtain ⟨h5, h⟩ := ba2 h
      obtain ⟨h6, h7⟩ := ba2 h
      have := of_decide_eq_true h2; subst this
      obtain ⟨rfl, g1, g2⟩ := free_ok ok h1
      obtain ⟨c, P, l1, l2, l3⟩ := ok.lam h4
      have hnf : ∀ y ∈ scope.names, y.2 = .free → ∃ c, X.env.cells.lookup y.1 = some c := fun y hy e => by
        unfold ckL at h5
        obtain ⟨_, h5⟩ := ba2 h5
        obtain ⟨_, h5⟩ := ba2 h5
        obtain ⟨_, h5⟩ := ba2 h5
        obtain ⟨h5, _⟩ := ba2 h5
        have := List.all_eq_true.mp h5 y hy
        rw [e] at this
        simp at this
      have hl := pe_lamK (pos := lpos) (body := body) l2 l1 (lamV_bind hv "" body scope [] .none 0 .none .none X.env).2 hnf
      exact oke_of (pe_callBK ((sk_call (L := ⟨X.env.qual ++ "<lambda>", params, body, scope, cloFrom X.env.cells scope.names []⟩) ok.hu ok.room ok.free h6 h5 fun pm c' ctv u => (lamV_bind hv _ body scope _ pm c' ctv u X.env).1)) g1 g2 PyProof.Rows.boot_sorted (pa_cons (hfa _ h7) pa_nil (star_plain h3 _)) (pk_cons hl pk_nil) (by decide) (by decide) (by rw [star_plain h3]; rfl) (by rw [star_plain h3]; rfl) rfl rfl rfl)
        (fun σ H Q q => sk_sem (L := ⟨X.env.qual ++ "<lambda>", params, body, scope, cloFrom X.env.cells scope.names []⟩) l3 q) rfl
    · cases h
  · cases h
mutual
theorem ckE_ok : ∀ (c : CE) {S : SX} {X : Cx} {e : Expr}, CtxOk S cf X → ckE S c e = true → OKE cf X c e
  | .k d, S, X, e, ok, h => ckK_ok ok (by unfold ckE at h; exact h)
  | .v i, S, X, e, ok, h => by
    unfold ckE at h
    split at h
    · exact oke_of (p_var ok h) (fun σ H Q q => v_sem q) rfl
    · cases h
  | .fld _ _, S, X, e, ok, h => by simp [ckE] at h
  | .pr p as, S, X, e, ok, h => by
    unfold ckE at h
    rw [Bool.or_eq_true] at h
    rcases h with h | h
    · split at h
      · obtain ⟨h1, h2⟩ := ba2 h
        obtain ⟨h2, h3⟩ := ba2 h2
        obtain ⟨h3, h4⟩ := ba2 h3
        have := of_decide_eq_true h1; subst this
        exact oke_of (pe_tup (ckAs_ok as ok h4)) (fun σ H Q q => tup_sem (of_decide_eq_true h2) h3 q) rfl
      · obtain ⟨h1, h2⟩ := ba2 h
        obtain ⟨h2, h3⟩ := ba2 h2
        obtain ⟨h3, h4⟩ := ba2 h3
        have := of_decide_eq_true h1; subst this
        exact oke_of (pe_lst (ckAs_ok as ok h4)) (fun σ H Q q => lst_sem (of_decide_eq_true h2) h3 q) rfl
      · obtain ⟨h1, h2⟩ := ba2 h
        have := of_decide_eq_true h1; subst this
        cases as with
        | nil => exact oke_of pe_dnewK (fun σ H Q q => nil_sem q) rfl
        | cons a as => simp [ckAs] at h2
      · split at h
        · rename_i x px ea es pos nm ty id hb
          obtain ⟨h1, h2⟩ := ba2 h
          obtain ⟨e1, g1, g2⟩ := free_ok ok h1
          subst e1
          obtain ⟨k1, k2, k3, k4⟩ := blt_ok (X := X) ok hb
          have ha := ckAs_ok as ok h2
          have hall := ckAs_all h2
          rw [List.all_cons] at hall
          obtain ⟨q1, q2⟩ := ba2 hall
          cases ty with
          | true => exact oke_of (pe_callTy k4 g1 g2 k3 ha k1 k2 (star_plain q1 _) (star_any q2)) (fun σ H Q q => prN q) rfl
          | false => exact oke_of (pe_callB k4 g1 g2 k3 ha k1 k2 (star_plain q1 _) (star_any q2)) (fun σ H Q q => prN q) rfl
        · cases h
      · cases h
    · have hA := args_ok as ok
      split at h
      · rw [Bool.or_eq_true] at h
        rcases h with h | h
        · exact ck1_ok ok (fun e he => (hA.1 e he).1) (fun c hc e he => (hA.1 e he).2 c hc) h
        · exact ckSS_ok ok (fun e he => (hA.1 e he).1) h
      · exact ck2_ok ok (fun e he => (hA.1 e he).1) (fun e he => (hA.2.1 e he).1) h
      · cases h
  | .ite c a b, S, X, e, ok, h => by
    unfold ckE at h
    split at h
    · obtain ⟨h1, h2⟩ := ba2 h
      obtain ⟨h2, h3⟩ := ba2 h2
      have o1 := ckE_ok c ok h1
      have o2 := ckE_ok a ok h2
      have o3 := ckE_ok b ok h3
      exact ⟨PE.imp (pe_ifExp o1.pt o2.pe o3.pe) fun σ H Q q => ite_sem q, PT.imp (pt_ite o1.pt o2.pt o3.pt) fun σ H Q q => iteT_sem q, fun z => by cases z⟩
    · cases h
  | .and a b, S, X, e, ok, h => by
    unfold ckE at h
    split at h
    · rename_i ea eb es pos
      obtain ⟨h1, h2⟩ := ba2 h
      have o1 := ckE_ok a ok h1
      have o2 := ckE_ok b ok h2
      cases es with
      | nil =>
        have hw : PW X (.BoolOp .And (ea :: eb :: []) pos) (tT (bsOf X) cf (.and a b)) := PW.imp (pw_and o1.pt (pw_and1 o2.pt)) fun σ H Q q => andT_sem q
        exact ⟨PE.imp (pe_and o1.pe (pe_one o2.pe)) fun σ H Q q => and_sem q, hw.pt, fun _ => hw⟩
      | cons ec es =>
        have hw : PW X (.BoolOp .And (ea :: eb :: ec :: es) pos) (tT (bsOf X) cf (.and a b)) := PW.imp (pw_and o1.pt (o2.pw rfl)) fun σ H Q q => andT_sem q
        exact ⟨PE.imp (pe_and o1.pe o2.pe) fun σ H Q q => and_sem q, hw.pt, fun _ => hw⟩
    · cases h
  | .or a b, S, X, e, ok, h => by
    unfold ckE at h
    split at h
    · rename_i ea eb es pos
      obtain ⟨h1, h2⟩ := ba2 h
      have o1 := ckE_ok a ok h1
      have o2 := ckE_ok b ok h2
      cases es with
      | nil =>
        have hw : PW X (.BoolOp .Or (ea :: eb :: []) pos) (tT (bsOf X) cf (.or a b)) := PW.imp (pw_or o1.pt (pw_or1 o2.pt)) fun σ H Q q => orT_sem q
        exact ⟨PE.imp (pe_or o1.pe (pe_one o2.pe)) fun σ H Q q => or_sem q, hw.pt, fun _ => hw⟩
      | cons ec es =>
        have hw : PW X (.BoolOp .Or (ea :: eb :: ec :: es) pos) (tT (bsOf X) cf (.or a b)) := PW.imp (pw_or o1.pt (o2.pw rfl)) fun σ H Q q => orT_sem q
        exact ⟨PE.imp (pe_or o1.pe o2.pe) fun σ H Q q => or_sem q, hw.pt, fun _ => hw⟩
    · cases h
  | .chain p q a b c, S, X, e, ok, h => by
    unfold ckE at h
    split at h
    · obtain ⟨h1, h2⟩ := ba2 h
      obtain ⟨h2, h3⟩ := ba2 h2
      obtain ⟨h3, h4⟩ := ba2 h3
      obtain ⟨h4, h5⟩ := ba2 h4
      obtain ⟨h5, h6⟩ := ba2 h5
      have e1 := of_decide_eq_true h1
      have e2 := of_decide_eq_true h2
      exact oke_test (pe_chain (cmp_ok ok e1) (cmp_ok ok e2) (ckE_ok a ok h4).pe (ckE_ok b ok h5).pe (ckE_ok c ok h6).pe (marks_plain h3)) (pt_chain (cmp_ok ok e1) (cmp_ok ok e2) (ckE_ok a ok h4).pe (ckE_ok b ok h5).pe (ckE_ok c ok h6).pe (marks_plain h3))
        (fun σ H Q q => chain_sem (fun ds s he => cmp_bool e1 he) q) rfl
    · cases h
  | .call f as, S, X, e, ok, h => by
    unfold ckE at h
    split at h
    · rename_i x px es pos
      obtain ⟨h1, h2⟩ := ba2 h
      obtain ⟨h2, h3⟩ := ba2 h2
      obtain ⟨p, hp, h4⟩ := List.any_eq_true.mp h2
      obtain ⟨h4, h5⟩ := ba2 h4
      have e1 := of_decide_eq_true h4
      have e2 := of_decide_eq_true h5
      subst e1 e2
      obtain ⟨fa, g1, g2, g3, _⟩ := ok.defs p hp
      obtain ⟨g4, g5⟩ := glo_ok ok h1
      have hc : CallR X (.ref fa) (spC (bsOf X) cf p.2) := g3 X rfl rfl rfl rfl rfl rfl
      have ha := ckAs_ok as ok h3
      have hall := ckAs_all h3
      cases es with
      | nil =>
        cases as with
        | nil => exact oke_of (call_pe0 ok g4 g5 g1 g2 hc) (fun σ H Q q => call_sem q) rfl
        | cons a as => simp [ckAs] at h3
      | cons e es => exact oke_of (call_pe ok g4 g5 g1 g2 hc hall ha) (fun σ H Q q => call_sem q) rfl
    · cases h
  | .lc own (.mk p it ifs) elt, S, X, e, ok, h => by
    unfold ckE at h
    split at h
    · rename_i eelt tg iter eifs a scope pos
      obtain ⟨h0, h⟩ := ba2 h
      obtain ⟨h1, h⟩ := ba2 h
      obtain ⟨h2, h⟩ := ba2 h
      obtain ⟨h3, h⟩ := ba2 h
      obtain ⟨h4, h⟩ := ba2 h
      obtain ⟨h5, h⟩ := ba2 h
      obtain ⟨h6, h⟩ := ba2 h
      obtain ⟨h7, h8⟩ := ba2 h
      have := of_decide_eq_true h0; subst this
      have hp : ∀ i ∈ slotsP p, i ∈ own := fun i hi => by simpa using List.all_eq_true.mp h7 i hi
      have hb : ∀ i ∈ bosI it, i ∉ own ∧ stT i ifs = true ∧ stE i elt = true := fun i hi => by
        obtain ⟨b1, b2⟩ := ba2 (List.all_eq_true.mp h8 i hi)
        obtain ⟨b2, b3⟩ := ba2 b2
        exact ⟨nin_of b1, b2, b3⟩
      have hblk : BlkOk X.N X.env.scope scope (ownP S own) := by rw [ok.nN, ok.sc]; exact blkOk_by h1
      have := pe_lc (pos := pos) (g := tG (bsOf X) p) (tt := tTs (bsOf X) cf ifs) (te := tE (bsOf X) cf elt) ok.calm ok.nd (ckI_ok it ok h2) hblk (fun s H C cl fp => ckP_ok (ok.blk scope s H C cl fp) h4) (fun s H C cl fp => ckT_ok ifs (ok.blk scope s H C cl fp) h5)
        (fun s H C cl fp => (ckE_ok elt (ok.blk scope s H C cl fp) h6).pe) (fold_plain h3 _)
      rw [ownP_snd] at this
      exact oke_of this (fun σ H Q q => lc_sem hp hb q) rfl
    · cases h
  | .lc2 _ _ _ _, S, X, e, ok, h => by simp [ckE] at h
  | .dc own (.mk p it ifs) key val, S, X, e, ok, h => by
    unfold ckE at h
    split at h
    · rename_i ek ev tg iter eifs a scope pos
      obtain ⟨h0, h⟩ := ba2 h
      obtain ⟨h1, h⟩ := ba2 h
      obtain ⟨h2, h⟩ := ba2 h
      obtain ⟨h3, h⟩ := ba2 h
      obtain ⟨h4, h⟩ := ba2 h
      obtain ⟨h5, h⟩ := ba2 h
      obtain ⟨h6, h⟩ := ba2 h
      obtain ⟨h6', h⟩ := ba2 h
      obtain ⟨h7, h8⟩ := ba2 h
      have := of_decide_eq_true h0; subst this
      have hp : ∀ i ∈ slotsP p, i ∈ own := fun i hi => by simpa using List.all_eq_true.mp h7 i hi
      have hb : ∀ i ∈ bosI it, i ∉ own ∧ stT i ifs = true ∧ stE i key = true ∧ stE i val = true := fun i hi => by
        obtain ⟨b1, b2⟩ := ba2 (List.all_eq_true.mp h8 i hi)
        obtain ⟨b2, b3⟩ := ba2 b2
        obtain ⟨b3, b4⟩ := ba2 b3
        exact ⟨nin_of b1, b2, b3, b4⟩
      have hblk : BlkOk X.N X.env.scope scope (ownP S own) := by rw [ok.nN, ok.sc]; exact blkOk_by h1
      have := pe_dcg (pos := pos) (g := tG (bsOf X) p) (tt := tTs (bsOf X) cf ifs) (tk := tE (bsOf X) cf key) (tv := tE (bsOf X) cf val) ok.hu ok.calm ok.nd (ckI_ok it ok h2) hblk (fun s H C cl fp => ckP_ok (ok.blk scope s H C cl fp) h4) (fun s H C cl fp => ckT_ok ifs (ok.blk scope s H C cl fp) h5)
        (fun s H C cl fp => (ckE_ok key (ok.blk scope s H C cl fp) h6).pe) (fun s H C cl fp => (ckE_ok val (ok.blk scope s H C cl fp) h6').pe) (fold_plain h3 _)
      rw [ownP_snd] at this
      exact oke_of this (fun σ H Q q => dc_sem hp hb q) rfl
    · cases h
  | .mu i m as, S, X, e, ok, h => by
    unfold ckE at h
    split at h
    · rename_i x px name apos es cpos
      obtain ⟨h1, h⟩ := ba2 h
      obtain ⟨h2, h⟩ := ba2 h
      obtain ⟨h3, h⟩ := ba2 h
      obtain ⟨h4, h5⟩ := ba2 h
      have e2 := of_decide_eq_true h2
      have ha := ckAs_ok as ok h5
      have hall := ckAs_all h5
      have hlen := of_decide_eq_true h4
      cases m with
      | append =>
        obtain ⟨ea, rfl⟩ := List.length_eq_one_iff.mp hlen
        rw [List.all_cons] at hall
        have hp := (ba2 hall).1
        have e3 : name = "append" := (Option.some.inj e2).symm
        subst e3
        exact oke_of (mu_pe1 ok h1 F.slot_list_append F.type_list_append p_append h3 hp ha) (fun σ H Q q => mup_sem (.inl rfl) q) rfl
      | extend =>
        obtain ⟨ea, rfl⟩ := List.length_eq_one_iff.mp hlen
        rw [List.all_cons] at hall
        have hp := (ba2 hall).1
        have e3 : name = "extend" := (Option.some.inj e2).symm
        subst e3
        exact oke_of (mu_pe1 ok h1 F.slot_list_extend F.type_list_extend p_extend h3 hp ha) (fun σ H Q q => mua_sem rfl q) rfl
      | insert =>
        obtain ⟨ea, eb, rfl⟩ : ∃ ea eb, es = [ea, eb] := by
          match es, hlen with
          | [ea, eb], _ => exact ⟨ea, eb, rfl⟩
        rw [List.all_cons, List.all_cons] at hall
        have hp := (ba2 hall).1
        have hp2 := (ba2 (ba2 hall).2).1
        have e3 : name = "insert" := (Option.some.inj e2).symm
        subst e3
        exact oke_of (mu_pe2 ok h1 F.slot_list_insert F.type_list_insert p_insert h3 hp hp2 ha) (fun σ H Q q => mup_sem (.inr (.inr rfl)) q) rfl
      | popLast =>
        have := List.eq_nil_of_length_eq_zero hlen
        subst this
        have e3 : name = "pop" := (Option.some.inj e2).symm
        subst e3
        cases as with
        | cons a as => simp [ckAs] at h5
        | nil => exact oke_of (mu_pe0 ok h1 F.slot_list_pop F.type_list_pop p_popLast h3) (fun σ H Q q => mup_sem (.inr (.inl rfl)) q) rfl
      | _ => cases e2
    · cases h
  | .muf _ _ _ _, S, X, e, ok, h => by simp [ckE] at h
  | .fv n, S, X, e, ok, h => by
    unfold ckE at h
    split at h
    · obtain ⟨h1, h2⟩ := ba2 h
      obtain ⟨p, hp, h4⟩ := List.any_eq_true.mp h2
      obtain ⟨h4, h5⟩ := ba2 h4
      have e1 := of_decide_eq_true h4
      have e2 := of_decide_eq_true h5
      subst e1 e2
      obtain ⟨fa, g1, g2, g3, g6⟩ := ok.defs p hp
      obtain ⟨g4, g5⟩ := glo_ok ok h1
      exact oke_of (pe_glob (v := .ref fa) g4 g1 (show RelV (.ref fa) (Value.ref fa) from rfl) g5) (fun σ H Q q => fv_sem g6 q) rfl
    · cases h
  | .tst a as, S, X, e, ok, h => by
    unfold ckE at h
    split at h
    · obtain ⟨h1, h⟩ := ba2 h
      obtain ⟨h2, h⟩ := ba2 h
      obtain ⟨h3, h4⟩ := ba2 h
      exact oke_of (pe_tup (pa_star (ckE_ok a ok h3).pe (ckAs_ok as ok h4))) (fun σ H Q q => tst_sem q) rfl
    · cases h
  | .callv i as, S, X, e, ok, h => by
    unfold ckE at h
    split at h
    · obtain ⟨h1, h2⟩ := ba2 h
      exact oke_of (callv_pe ok h1 (ckAs_all h2) (ckAs_ok as ok h2)) (fun σ H Q q => q) rfl
    · cases h
  | .sk xs key, S, X, e, ok, h => ckSk_ok ok (fun e he => (ckA_ok xs ok he).1) (by unfold ckE at h; exact h)
theorem ckA_ok : ∀ (a : CA) {S : SX} {X : Cx} {e : Expr}, CtxOk S cf X → ckA S a e = true → PE X e (tCA (bsOf X) cf a) ∧ ∀ c, a = .e c → PT X e (tT (bsOf X) cf c)
  | .e c, S, X, e, ok, h =>
    have o := ckE_ok c ok (by unfold ckA at h; exact h)
    ⟨o.pe, fun c' hc => by cases hc; exact o.pt⟩
  | .bo i, S, X, e, ok, h => by
    unfold ckA at h
    split at h
    · exact ⟨p_var ok h, fun c hc => by cases hc⟩
    · cases h
  | .bf _ _, S, X, e, ok, h => by simp [ckA] at h
  | .rf i, S, X, e, ok, h => by
    unfold ckA at h
    split at h
    · exact ⟨p_var ok h, fun c hc => by cases hc⟩
    · cases h
theorem args_ok : ∀ (as : CAs) {S : SX} {X : Cx}, CtxOk S cf X → ArgsOk cf S X as
  | .nil, S, X, ok => trivial
  | .cons a as, S, X, ok => ⟨fun e he => ckA_ok a ok he, args_ok as ok⟩
theorem ckAs_ok : ∀ (as : CAs) {S : SX} {X : Cx} {es : List Expr}, CtxOk S cf X → ckAs S as es = true → PA X es (tAs (bsOf X) cf as)
  | .nil, S, X, es, ok, h => by
    unfold ckAs at h
    rw [List.isEmpty_iff] at h
    subst h
    exact pa_nil
  | .cons a as, S, X, [], ok, h => by simp [ckAs] at h
  | .cons a as, S, X, e :: es, ok, h => by
    unfold ckAs at h
    obtain ⟨h1, h2⟩ := ba2 h
    obtain ⟨h2, h3⟩ := ba2 h2
    exact pa_cons (ckA_ok a ok h2).1 (ckAs_ok as ok h3) (star_plain h1 _)
theorem ckI_ok : ∀ (it : CI) {S : SX} {X : Cx} {tg e : Expr}, CtxOk S cf X → ckI S it tg e = true → PI X tg e (tI (bsOf X) cf it)
  | .data a, S, X, tg, e, ok, h => pi_data (ckA_ok a ok (by unfold ckI at h; exact h)).1
  | .range1 a, S, X, tg, e, ok, h => by
    unfold ckI at h
    split at h
    · obtain ⟨h1, h2⟩ := ba2 h
      obtain ⟨h2, h3⟩ := ba2 h2
      obtain ⟨e1, g1, g2⟩ := free_ok ok h1
      subst e1
      exact PI.imp (pi_range1 g1 g2 (pa_cons (ckE_ok a ok h3).pe pa_nil (star_plain h2 _)) (star_plain h2 _)) fun σ H R q => i_range1 R q
    · cases h
  | .range2 a b, S, X, tg, e, ok, h => by
    unfold ckI at h
    split at h
    · obtain ⟨h1, h2⟩ := ba2 h
      obtain ⟨h2, h3⟩ := ba2 h2
      obtain ⟨h3, h4⟩ := ba2 h3
      obtain ⟨h4, h5⟩ := ba2 h4
      obtain ⟨e1, g1, g2⟩ := free_ok ok h1
      subst e1
      exact PI.imp (pi_range2 g1 g2 (pa_cons (ckE_ok a ok h4).pe (pa_cons (ckE_ok b ok h5).pe pa_nil (star_plain h3 _)) (star_plain h2 _)) (by rw [star_plain h2, star_plain h3]; rfl) (star_plain h3 _)) fun σ H R q => i_range2 R q
    · cases h
  | .range3 a b c, S, X, tg, e, ok, h => by
    unfold ckI at h
    split at h
    · obtain ⟨h1, h2⟩ := ba2 h
      obtain ⟨h2, h3⟩ := ba2 h2
      obtain ⟨h3, h4⟩ := ba2 h3
      obtain ⟨h4, h5⟩ := ba2 h4
      obtain ⟨h5, h6⟩ := ba2 h5
      obtain ⟨h6, h7⟩ := ba2 h6
      obtain ⟨e1, g1, g2⟩ := free_ok ok h1
      subst e1
      exact PI.imp (pi_range3 g1 g2 (pa_cons (ckE_ok a ok h5).pe (pa_cons (ckE_ok b ok h6).pe (pa_cons (ckE_ok c ok h7).pe pa_nil (star_plain h4 _)) (star_plain h3 _)) (star_plain h2 _)) (star_plain h2 _) (star_any (by simp [h3, h4]))) fun σ H R q => i_range3 R q
    · cases h
  | .zip a b, S, X, tg, e, ok, h => by
    unfold ckI at h
    split at h
    · obtain ⟨h0, h⟩ := ba2 h
      obtain ⟨h1, h2⟩ := ba2 h
      obtain ⟨h2, h3⟩ := ba2 h2
      obtain ⟨h3, h4⟩ := ba2 h3
      obtain ⟨h4, h5⟩ := ba2 h4
      obtain ⟨e1, g1, g2⟩ := free_ok ok h1
      subst e1
      cases tg <;> first | (cases h0; done) | skip
      exact PI.imp (RZ.pi_zipA g1 g2 (PA.plus (pa_cons (ckA_ok a ok h4).1 (pa_cons (ckA_ok b ok h5).1 pa_nil (star_plain h3 _)) (star_plain h2 _))) (star_plain h2 _) (star_any (by simp [h3]))) fun σ H R q => i_zip R q
    · cases h
  | .enum (.data a), S, X, tg, e, ok, h => by
    unfold ckI at h
    split at h
    · obtain ⟨h0, h⟩ := ba2 h
      obtain ⟨h1, h2⟩ := ba2 h
      obtain ⟨h2, h3⟩ := ba2 h2
      obtain ⟨e1, g1, g2⟩ := free_ok ok h1
      subst e1
      cases tg <;> first | (cases h0; done) | skip
      exact PI.imp (pi_enum g1 g2 (PA.plus (pa_cons (ckA_ok a ok h3).1 pa_nil (star_plain h2 _))) (star_plain h2 _)) fun σ H R q => i_enum R q
    · cases h
  | .enum (.range1 _), S, X, tg, e, ok, h => by simp [ckI] at h
  | .enum (.range2 _ _), S, X, tg, e, ok, h => by simp [ckI] at h
  | .enum (.range3 _ _ _), S, X, tg, e, ok, h => by simp [ckI] at h
  | .enum (.zip _ _), S, X, tg, e, ok, h => by simp [ckI] at h
  | .enum (.enum _), S, X, tg, e, ok, h => by simp [ckI] at h
theorem ckT_ok : ∀ (t : CT) {S : SX} {X : Cx} {es : List Expr}, CtxOk S cf X → ckT S t es = true → PTs X es (tTs (bsOf X) cf t)
  | .nil, S, X, es, ok, h => by
    unfold ckT at h
    rw [List.isEmpty_iff] at h
    subst h
    exact ⟨fun pins s σ H Q I q => pts_nil.run pins s σ H Q I (tests_nil q)⟩
  | .cons c .nil, S, X, es, ok, h => by
    unfold ckT at h
    split at h
    · exact ⟨fun pins s σ H Q I q => (pts_one (ckE_ok c ok h).pt).run pins s σ H Q I (tests_one q)⟩
    · cases h
  | .cons c (.cons _ _), S, X, es, ok, h => by simp [ckT] at h
end
end
end C
end
section
set_option Elab.async false
set_option linter.all false
set_option maxRecDepth 100000
set_option maxHeartbeats 4000000
/-! The check of statements. -/
namespace C
open PySem PySem.Spec L2
variable [Lams]

def starB : Expr → Bool
  | .Starred .. => true
  | _ => false
def tupB' : Expr → Bool
  | .Tuple .. => true
  | _ => false
def namesOf (S : SX) (ts : List Expr) : List Str := ts.filterMap fun
  | .Name id pos => if S.kd id == some .local && pos.line == (ts.head?.map (·.pos.line)).getD 0 then some id else none
  | _ => none
/-- what the machine makes of a, b = .., .. -/
def swapVal (S : SX) (ts vs : List Expr) : Option (List Str) :=
  if (!(ts.length == 2 || ts.length == 3) || vs.length != ts.length) = true then none
  else if (vs.any fun | .Starred .. => true | _ => false) = true then none
  else if ((namesOf S ts).length != ts.length || (namesOf S ts).eraseDups.length != (namesOf S ts).length) = true then none
  else if vs.all (foldedForSure 8) = true then none
  else some (namesOf S ts)
def swapSure (S : SX) (ts vs : List Expr) : Bool := decide (S.sc.kind = .function) && (!(vs.all (constantsAlone 8)) || vs.all (foldedForSure 8))
theorem swap_val {S : SX} {ts vs : List Expr} {k k2 : Nat} {pt pt2 : Pos} {env : PySem.Env} (hs : env.scope = S.sc) (h : swapSure S ts vs = true) : swappedStores [.Tuple ts k pt] (.Tuple vs k2 pt2) env = pure (swapVal S ts vs) := by
  unfold swapSure at h
  obtain ⟨h1, h2⟩ := ba2 h
  have hk : env.scope.kind = .function := by rw [hs]; exact of_decide_eq_true h1
  have hb : env.blockKind = .function := by unfold Env.blockKind; rw [hk]; rfl
  have hn : ∀ id, env.kindOf id = S.kd id := fun id => by show env.scope.names.lookup id = _; rw [hs]; rfl
  unfold swappedStores swapVal
  simp only [hb, hn]
  have e0 : (ScopeKind.function != ScopeKind.function) = false := rfl
  rw [e0, Bool.or_false]
  by_cases c1 : (!(ts.length == 2 || ts.length == 3) || vs.length != ts.length) = true
  · exact (if_pos c1).trans (congrArg pure (if_pos c1).symm)
  refine (if_neg c1).trans (Eq.trans ?_ (congrArg pure (if_neg c1).symm))
  by_cases c2 : (vs.any fun | .Starred .. => true | _ => false) = true
  · exact (if_pos c2).trans (congrArg pure (if_pos c2).symm)
  refine (if_neg c2).trans (Eq.trans ?_ (congrArg pure (if_neg c2).symm))
  by_cases c3 : ((namesOf S ts).length != ts.length || (namesOf S ts).eraseDups.length != (namesOf S ts).length) = true
  · exact (if_pos c3).trans (congrArg pure (if_pos c3).symm)
  refine (if_neg c3).trans (Eq.trans ?_ (congrArg pure (if_neg c3).symm))
  by_cases c4 : vs.all (foldedForSure 8) = true
  · exact (if_pos c4).trans (congrArg pure (if_pos c4).symm)
  refine (if_neg c4).trans (Eq.trans ?_ (congrArg pure (if_neg c4).symm))
  have c5 : ¬ vs.all (constantsAlone 8) = true := fun z => by
    rw [z] at h2
    simp only [Bool.not_true, Bool.false_or] at h2
    exact c4 h2
  exact if_neg c5
theorem swap_val1 {ts : List Expr} {k : Nat} {pt : Pos} {e : Expr} {env : PySem.Env} (h : tupB' e = false) : swappedStores [.Tuple ts k pt] e env = pure none := by
  cases e <;> first | rfl | cases h
theorem swap_val2 {o i : Expr} {p : Pos} {e : Expr} {env : PySem.Env} : swappedStores [.Subscript o i p] e env = pure none := by
  cases e <;> rfl
/-- [..] stored at a name on the same line -/
def swapC (S : SX) (x : Str) (py : Pos) : Expr → Bool
  | .ListComp _ _ scope pos => decide (S.sc.kind = .function) && (decide (S.kd x = some .local) && ((py.line == pos.line) && !(scope.names.any fun (n, k) => n == x && (k == .local || k == .cell))))
  | .DictComp _ _ _ scope pos => decide (S.sc.kind = .function) && (decide (S.kd x = some .local) && ((py.line == pos.line) && !(scope.names.any fun (n, k) => n == x && (k == .local || k == .cell))))
  | _ => false
/-- no exchange of the stores -/
def swapN (S : SX) (x : Str) (py : Pos) : Expr → Bool
  | .ListComp _ _ scope pos => decide (S.sc.kind = .function) && !(decide (S.kd x = some .local) && ((py.line == pos.line) && !(scope.names.any fun (n, k) => n == x && (k == .local || k == .cell))))
  | .DictComp _ _ _ scope pos => decide (S.sc.kind = .function) && !(decide (S.kd x = some .local) && ((py.line == pos.line) && !(scope.names.any fun (n, k) => n == x && (k == .local || k == .cell))))
  | .SetComp .. => false
  | _ => true
theorem swapC_ok {S : SX} {x : Str} {py : Pos} {e : Expr} {env : PySem.Env} {l : Nat} (hs : env.scope = S.sc) (h : swapC S x py e = true) : swapsWith e (some (.Name x py)) l env = pure true := by
  have hn : env.kindOf x = S.kd x := by show env.scope.names.lookup x = _; rw [hs]; rfl
  cases e <;> simp only [swapC, Bool.false_eq_true] at h <;> (
    obtain ⟨h1, h2⟩ := ba2 h
    obtain ⟨h2, h3⟩ := ba2 h2
    obtain ⟨h3, h4⟩ := ba2 h3
    have hk : env.scope.kind = .function := by rw [hs]; exact of_decide_eq_true h1
    have hb : env.blockKind = .function := by unfold Env.blockKind; rw [hk]; rfl
    have hx := of_decide_eq_true h2
    unfold swapsWith
    simp only [hb, hn, hx, Expr.pos, h3, h4]
    rfl)
theorem swapN_ok {S : SX} {x : Str} {py : Pos} {e : Expr} {env : PySem.Env} {l : Nat} (hs : env.scope = S.sc) (h : swapN S x py e = true) : swapsWith e (some (.Name x py)) l env = pure false := by
  have hn : env.kindOf x = S.kd x := by show env.scope.names.lookup x = _; rw [hs]; rfl
  cases e with
  | ListComp _ _ scope pos =>
    simp only [swapN] at h
    obtain ⟨h1, h2⟩ := ba2 h
    have hk : env.scope.kind = .function := by rw [hs]; exact of_decide_eq_true h1
    have hb : env.blockKind = .function := by unfold Env.blockKind; rw [hk]; rfl
    unfold swapsWith
    simp only [hb, hn, Expr.pos]
    refine congrArg pure ?_
    rw [Bool.not_eq_true'] at h2
    by_cases c : S.kd x = some .local
    · rw [c] at h2 ⊢; simpa using h2
    · have : (S.kd x == some NameKind.local) = false := by simpa using c
      rw [this]; simp
  | DictComp _ _ _ scope pos =>
    simp only [swapN] at h
    obtain ⟨h1, h2⟩ := ba2 h
    have hk : env.scope.kind = .function := by rw [hs]; exact of_decide_eq_true h1
    have hb : env.blockKind = .function := by unfold Env.blockKind; rw [hk]; rfl
    unfold swapsWith
    simp only [hb, hn, Expr.pos]
    refine congrArg pure ?_
    rw [Bool.not_eq_true'] at h2
    by_cases c : S.kd x = some .local
    · rw [c] at h2 ⊢; simpa using h2
    · have : (S.kd x == some NameKind.local) = false := by simpa using c
      rw [this]; simp
  | SetComp _ _ _ _ => cases h
  | _ => rfl

def ckKs (S : SX) : List (Bool × Nat) → List Expr → Bool
  | [], [] => true
  | (_, i) :: ks, .Name x _ :: es => locB S i x && ckKs S ks es
  | _, _ => false
def augOf : Pr → Option Operator
  | .add => some .Add
  | .sub => some .Sub
  | .mul => some .Mult
  | _ => none
def isComp : CE → Bool
  | .lc _ _ _ => true
  | .dc _ _ _ _ => true
  | _ => false
mutual
def ckS : SX → CS → Stmt → Bool
  | S, .asg keep i e, s => match s with
    | .Assign [.Name x py] val _ => locB S i x && (ckE S e val && (swapN S x py val || (swapC S x py val && (isComp e && decide (S.kd x = some .local)))))
    | _ => false
  | S, .unp p e, s => match s with
    | .Assign [.Tuple ts k pt] val _ => ckP S p (.Tuple ts k pt) && (ckE S e val && (!compB val && !tupB' val))
    | _ => false
  | S, .par ks es, s => match s with
    | .Assign [.Tuple ts _ _] (.Tuple vs _ _) _ => ckKs S ks ts && (ckAs S es vs && (decide (ks.length ≤ 1000) && (swapSure S ts vs && (match swapVal S ts vs with
      | none => true
      | some _ => match ks, ts, vs with
        | [(_, i), (_, j)], [.Name x _, .Name y _], [_, _] => decide (i ≠ j) && (decide (swapVal S ts vs = some [x, y]) && (decide (S.kd x = some .local) && decide (S.kd y = some .local)))
        | [(_, i), (_, j), (_, l)], [.Name x _, .Name y _, .Name z _], [_, _, _] => (decide (i ≠ j) && (decide (i ≠ l) && decide (j ≠ l))) && (decide (swapVal S ts vs = some [x, y, z]) && (decide (S.kd x = some .local) && (decide (S.kd y = some .local) && decide (S.kd z = some .local))))
        | _, _, _ => false))))
    | _ => false
  | S, .ex e, s => match s with
    | .Expr val _ => ckE S e val && !compB val
    | _ => false
  | S, .aug i p e, s => match s with
    | .AugAssign (.Name x _) op val _ => locB S i x && (decide (augOf p = some op) && ckE S e val)
    | _ => false
  | S, .augI i p key e, s => match s with
    | .AugAssign (.Subscript (.Name x _) k _) op val _ => visB S i x && (decide (augOf p = some op) && (ckE S key k && (plainX k && ckE S e val)))
    | _ => false
  | S, .seti i e key, s => match s with
    | .Assign [.Subscript (.Name x _) k _] val _ => visB S i x && (ckE S e val && (ckE S key k && (plainX k && !compB val)))
    | _ => false
  | S, .sub2 .., _ => false
  | S, .setf .., _ => false
  | S, .iff c a b, s => match s with
    | .If ec ea eb _ => ckE S c ec && (ckB S a ea && ckB S b eb)
    | _ => false
  | S, .wh c b, s => match s with
    | .While ec eb [] _ => ckE S c ec && ckB S b eb
    | _ => false
  | S, .fr p it b, s => match s with
    | .For tg iter body [] _ => ckI S it tg iter && (plainX iter && (ckP S p tg && (ckB S b body && (bosI it).all fun i => stB i b && (!(asB i b) && !(slotsP p).contains i))))
    | _ => false
  | S, .ret e, s => match s with
    | .Return (some val) _ => ckE S e val
    | _ => false
  | S, .retN, s => match s with
    | .Return none _ => true
    | _ => false
  | S, .pass, s => match s with
    | .Pass _ => true
    | _ => false
  | S, .cont, s => match s with
    | .Continue _ => true
    | _ => false
  | S, .raise _ _, _ => true
  | S, .never, _ => true
def ckB : SX → CSs → List Stmt → Bool
  | S, .nil, s => s.isEmpty
  | S, .cons st rest, s => match s with
    | s :: ss => ckS S st s && ckB S rest ss
    | [] => false
end
end C
end
section
set_option Elab.async false
set_option linter.all false
set_option maxRecDepth 100000
set_option maxHeartbeats 4000000
/-! The check is sound: statements. -/
namespace C
open PySem PySem.Spec L2 PyProof.Rows
variable [Lams]
section
variable {X : Cx}
/-- name = {..} on one line, the name a local -/
theorem ps_setDcg {i : Nat} {y : Str} {py : Pos} {kx vx tg iter : Expr} {ifs : List Expr} {scope : Scope} {own : List (Str × Nat)} {pos spos : Pos} {wi : TI} {g : TG} {tt : TT} {tk tv : TE} (hu : X.A.units + 150 < cLine) (hc : X.calm = true) (hN : X.N.Nodup) (hy : X.N[i]? = some y) (hyl : X.env.scope.names.lookup y = some .local)
    (hsw : swapsWith (.DictComp kx vx [⟨tg, iter, ifs, 0⟩] scope pos) (some (.Name y py)) spos.line X.env = pure true) (hi : PI X tg iter wi) (ok : BlkOk X.N X.env.scope scope own)
    (hg : ∀ (s : Shared) (H : L2.Hp) (C : Addr) (cl : List (Str × Addr)) (fp : List Addr), PG (X.blk s H scope (compEnvC scope cl C X.env) fp) tg g) (ht : ∀ (s : Shared) (H : L2.Hp) (C : Addr) (cl : List (Str × Addr)) (fp : List Addr), PTs (X.blk s H scope (compEnvC scope cl C X.env) fp) ifs tt)
    (hk : ∀ (s : Shared) (H : L2.Hp) (C : Addr) (cl : List (Str × Addr)) (fp : List Addr), PE (X.blk s H scope (compEnvC scope cl C X.env) fp) kx tk)
    (he : ∀ (s : Shared) (H : L2.Hp) (C : Addr) (cl : List (Str × Addr)) (fp : List Addr), PE (X.blk s H scope (compEnvC scope cl C X.env) fp) vx tv) (hs : ∀ x, foldedSetIterable iter X.env x = pure x) :
    PS X (.Assign [.Name y py] (.DictComp kx vx [⟨tg, iter, ifs, 0⟩] scope pos) spos) (tAsg (tDcG X wi g tt tk tv (own.map (·.2))) (gName i)) := by
  refine ⟨fun pins s σ H D I h => ?_⟩
  rw [exec_Assign_Name_used _ _ _ _ hsw]
  refine wpAny_bind (wpAny_standAt (wpAny_bind ?_))
  show wpAny _ X.A (do let _ ← comprehension (.DictComp kx vx [⟨tg, iter, ifs, 0⟩] scope pos) scope X.env (firstIterPos [⟨tg, iter, ifs, 0⟩] pos) newDict false (eval iter X.env) (some (assign (.Name y py) X.env))) _ _ s
  have h : tDcG X wi g tt tk tv (own.map (·.2)) σ H (fun x H1 => gName i x σ H1 D.nx) := h
  refine wpAny_bind (thn (dcg_core (Qf := fun _ s' => SP X pins D .next s') hu hc hN I hi ok hg ht hk he hs h fun L C s' m H' I' q hn f => ?_) fun _ s' hq => wpAny_pure (wpAny_pure hq))
  show wpAny _ _ (assign (.Name y py) X.env (.ref L)) _ _ _
  refine wpAny_assign_Name (store_ok2 (v := V.ref L) I' hN hy (.inl hyl) rfl (fun s2 I2 ⟨a, sb, ha⟩ => ?_) (.inr hyl))
  obtain ⟨f0, f1, f2, f3, f4, f5⟩ := f
  have haC : C ≠ a := by
    rcases ha with z | z
    · rw [z]; exact f1
    · exact fun e => f4 y a z e.symm
  refine ⟨m, hn.sameBut sb haC, fun h3 sb3 => ?_⟩
  exact ⟨_, H', I2.turned (t' := s2.toks) (fun b o hb e => (sb3.2 b hb).trans e) f0 f1 f3 f4 f5, q⟩
end
section
variable {cf : Nat → List Sl → CR} {wf : Nat} {S : SX} {X : Cx}
theorem loc_ok {i : Nat} {x : Str} (ok : CtxOk S cf X) (h : locB S i x = true) : X.N[i]? = some x ∧ L2.Loc X.env.scope x ∧ (X.fn x = true ∨ X.env.scope.names.lookup x = some .local) := by
  unfold locB at h
  obtain ⟨h1, h2⟩ := ba2 h
  have hi : X.N[i]? = some x := by rw [ok.nN]; exact of_decide_eq_true h1
  refine ⟨hi, ?_⟩
  unfold L2.Loc
  rw [ok.sc]
  unfold SX.kd at h2
  cases hk : S.sc.names.lookup x with
  | none => rw [hk] at h2; cases h2
  | some k =>
    rw [hk] at h2
    cases k with
    | «local» => exact ⟨.inl rfl, .inr rfl⟩
    | cell => exact ⟨.inr rfl, .inl (ok.fn x h2)⟩
    | _ => cases h2
theorem slot_lt {pins : List (Addr × Obj)} {σ : L2.St} {H : L2.Hp} {s : Shared} {i : Nat} {x : Str} (I : Inv X pins σ H s) (h : X.N[i]? = some x) : i < σ.length := by
  rw [I.len]; exact (List.getElem?_eq_some_iff.mp h).1
theorem ks_names : ∀ {ks : List (Bool × Nat)} {ts : List Expr}, CtxOk S cf X → ckKs S ks ts = true → PGs X ts (gNames ks) ∧ (assignEach ts X.env).length = ks.length ∧ (assignEach ts X.env).findIdx? (·.1) = none ∧ ∀ q ∈ ks, q.2 < X.N.length
  | [], [], _, _ => ⟨pgs_nil, rfl, rfl, fun q h => absurd h (by simp)⟩
  | [], _ :: _, _, h => by simp [ckKs] at h
  | _ :: _, [], _, h => by simp [ckKs] at h
  | (b, i) :: ks, t :: ts, ok, h => by
    cases t <;> simp only [ckKs, Bool.false_eq_true] at h
    rename_i x px
    obtain ⟨h1, h2⟩ := ba2 h
    obtain ⟨k1, k2, k3⟩ := loc_ok ok h1
    obtain ⟨r1, r2, r3, r4⟩ := ks_names ok h2
    refine ⟨pgs_cons (pg_name ok.nd k1 k2 k3) r1 rfl, ?_, ?_, fun q hq => ?_⟩
    · show (_ :: assignEach ts X.env).length = _
      rw [List.length_cons, List.length_cons, r2]
    · show (_ :: assignEach ts X.env).findIdx? _ = _
      rw [List.findIdx?_cons, r3]; rfl
    · rcases List.mem_cons.mp hq with rfl | hq
      · exact (List.getElem?_eq_some_iff.mp k1).1
      · exact r4 q hq
theorem tAs_imp {B : Bs} : ∀ {as : CAs} {σ : L2.St} {H : L2.Hp} {Q Q' : List V → L2.Hp → Prop}, tAs B cf as σ H Q → (∀ xs H1, Q xs H1 → Q' xs H1) → tAs B cf as σ H Q'
  | .nil, _, _, _, _, h, k => k _ _ h
  | .cons a as, σ, H, Q, Q', h, k => tCA_imp (a := a) h fun x H1 h1 => tAs_imp (as := as) h1 fun xs H2 h2 => k _ _ h2
theorem par_tup_sem {ks : List (Bool × Nat)} {es : CAs} {σ : L2.St} {H : L2.Hp} {D : Ends} {B : Bs} (hk : ks.length ≤ 1000) (hl : ∀ q ∈ ks, q.2 < σ.length) (h : tS B cf wf (.par ks es) D σ H) : tAsg (tTup (tAs B cf es)) (gTup B.K ks.length (gNames ks)) D σ H := by
  have h1 := par_run hl h
  exact tAs_imp h1 fun xs H1 ⟨e, _, q⟩ => ⟨by rw [← e, sizeLine_eq]; omega, fun p hp => ⟨p, xs, rfl, .inl (.inl upd_same), e.symm, gNames_of e (q p hp)⟩⟩
/-- name = [..] exchanged -/
theorem asg_lc {own : List Nat} {g : CG} {elt : CE} {keep : Bool} {i : Nat} {x : Str} {py pos : Pos} {e : Expr} (ok : CtxOk S cf X) (hx : X.N[i]? = some x) (hl : S.kd x = some .local) (h : ckE S (.lc own g elt) e = true) (hs : swapC S x py e = true) :
    PS X (.Assign [.Name x py] e pos) (tAsg (tE (bsOf X) cf (.lc own g elt)) (gName i)) := by
  cases g with
  | mk p it ifs =>
  unfold ckE at h
  split at h
  · rename_i eelt tg iter eifs a scope pos'
    obtain ⟨h0, h⟩ := ba2 h
    obtain ⟨h1, h⟩ := ba2 h
    obtain ⟨h2, h⟩ := ba2 h
    obtain ⟨h3, h⟩ := ba2 h
    obtain ⟨h4, h⟩ := ba2 h
    obtain ⟨h5, h⟩ := ba2 h
    obtain ⟨h6, h⟩ := ba2 h
    obtain ⟨h7, h8⟩ := ba2 h
    have := of_decide_eq_true h0; subst this
    have hp : ∀ i ∈ slotsP p, i ∈ own := fun i hi => by simpa using List.all_eq_true.mp h7 i hi
    have hb : ∀ i ∈ bosI it, i ∉ own ∧ stT i ifs = true ∧ stE i elt = true := fun i hi => by
      obtain ⟨b1, b2⟩ := ba2 (List.all_eq_true.mp h8 i hi)
      obtain ⟨b2, b3⟩ := ba2 b2
      exact ⟨nin_of b1, b2, b3⟩
    have hblk : BlkOk X.N X.env.scope scope (ownP S own) := by rw [ok.nN, ok.sc]; exact blkOk_by h1
    have := ps_setLc (pos := pos') (spos := pos) (py := py) (g := tG (bsOf X) p) (tt := tTs (bsOf X) cf ifs) (te := tE (bsOf X) cf elt) ok.calm ok.nd hx (by rw [ok.sc]; exact hl) (swapC_ok ok.sc hs) (ckI_ok it ok h2) hblk (fun s H C cl fp => ckP_ok (ok.blk scope s H C cl fp) h4) (fun s H C cl fp => ckT_ok ifs (ok.blk scope s H C cl fp) h5)
      (fun s H C cl fp => (ckE_ok elt (ok.blk scope s H C cl fp) h6).pe) (fold_plain h3 _)
    rw [ownP_snd] at this
    exact PS.imp this fun D σ H q => lc_sem hp hb q
  · cases h
theorem asg_dc {own : List Nat} {g : CG} {key val : CE} {keep : Bool} {i : Nat} {x : Str} {py pos : Pos} {e : Expr} (ok : CtxOk S cf X) (hx : X.N[i]? = some x) (hl : S.kd x = some .local) (h : ckE S (.dc own g key val) e = true) (hs : swapC S x py e = true) :
    PS X (.Assign [.Name x py] e pos) (tAsg (tE (bsOf X) cf (.dc own g key val)) (gName i)) := by
  cases g with
  | mk p it ifs =>
  unfold ckE at h
  split at h
  · rename_i ek ev tg iter eifs a scope pos'
    obtain ⟨h0, h⟩ := ba2 h
    obtain ⟨h1, h⟩ := ba2 h
    obtain ⟨h2, h⟩ := ba2 h
    obtain ⟨h3, h⟩ := ba2 h
    obtain ⟨h4, h⟩ := ba2 h
    obtain ⟨h5, h⟩ := ba2 h
    obtain ⟨h6, h⟩ := ba2 h
    obtain ⟨h6', h⟩ := ba2 h
    obtain ⟨h7, h8⟩ := ba2 h
    have := of_decide_eq_true h0; subst this
    have hp : ∀ i ∈ slotsP p, i ∈ own := fun i hi => by simpa using List.all_eq_true.mp h7 i hi
    have hb : ∀ i ∈ bosI it, i ∉ own ∧ stT i ifs = true ∧ stE i key = true ∧ stE i val = true := fun i hi => by
      obtain ⟨b1, b2⟩ := ba2 (List.all_eq_true.mp h8 i hi)
      obtain ⟨b2, b3⟩ := ba2 b2
      obtain ⟨b3, b4⟩ := ba2 b3
      exact ⟨nin_of b1, b2, b3, b4⟩
    have hblk : BlkOk X.N X.env.scope scope (ownP S own) := by rw [ok.nN, ok.sc]; exact blkOk_by h1
    have := ps_setDcg (pos := pos') (spos := pos) (py := py) (g := tG (bsOf X) p) (tt := tTs (bsOf X) cf ifs) (tk := tE (bsOf X) cf key) (tv := tE (bsOf X) cf val) ok.hu ok.calm ok.nd hx (by rw [ok.sc]; exact hl) (swapC_ok ok.sc hs) (ckI_ok it ok h2) hblk (fun s H C cl fp => ckP_ok (ok.blk scope s H C cl fp) h4) (fun s H C cl fp => ckT_ok ifs (ok.blk scope s H C cl fp) h5)
      (fun s H C cl fp => (ckE_ok key (ok.blk scope s H C cl fp) h6).pe) (fun s H C cl fp => (ckE_ok val (ok.blk scope s H C cl fp) h6').pe) (fold_plain h3 _)
    rw [ownP_snd] at this
    exact PS.imp this fun D σ H q => dc_sem hp hb q
  · cases h
theorem aug_ip {p : Pr} {op : Operator} (h : augOf p = some op) : (p = .add ∨ p = .sub ∨ p = .mul) ∧ PIp X op (ipP p) := by
  cases p <;> simp only [augOf, Option.some.injEq, reduceCtorEq] at h <;> subst h
  · refine ⟨.inl rfl, fun pins s σ H x y v u Q I r1 r2 ⟨i, j, k, e1, e2, e3, q⟩ => ip_add pins s σ H x y v u Q I r1 r2 ⟨i, j, e1, e2, ?_⟩⟩
    cases e3; exact q
  · refine ⟨.inr (.inl rfl), fun pins s σ H x y v u Q I r1 r2 ⟨i, j, k, e1, e2, e3, q⟩ => ip_sub pins s σ H x y v u Q I r1 r2 ⟨i, j, e1, e2, ?_⟩⟩
    cases e3; exact q
  · refine ⟨.inr (.inr rfl), fun pins s σ H x y v u Q I r1 r2 ⟨i, j, k, e1, e2, e3, q⟩ => ?_⟩
    have e3 : (if (-bigI < i ∧ i < bigI) ∨ (-bigI < j ∧ j < bigI) then shI (i * j) else none) = some (.sh (.int k)) := e3
    split at e3 <;> cases e3
    rename_i hz
    exact iop_mul pins s σ H x y v u Q I r1 r2 ⟨i, j, e1, e2, hz, q⟩
theorem sole_plain {t e : Expr} {l : Nat} {env : PySem.Env} (h : compB e = false) : swapsWithSole [t] e l env = pure false := by
  show swapsWith e (some t) l env = pure false
  exact swap_plain h
theorem sub_plain {o i : Expr} {p : Pos} {env : PySem.Env} (h : plainX i = true) : ∀ v, assign (.Subscript o i p) env v = (do
      let ov ← holding [v] (eval o env)
      let iv ← holding [v, ov] (eval i env)
      standAt p
      holding [v, ov, iv] (setItem ov iv v)
      release [v, ov, iv] []) := by
  intro v
  cases i <;> first | rfl | cases h
theorem aug_plain {i : Expr} (h : plainX i = true) : ∀ ov iv new, augStore i ov iv new = (do holding [new, ov, iv] (setItem ov iv new); release [new, ov, iv] []; pure .next) := by
  intro ov iv new
  cases i <;> first | rfl | cases h
mutual
theorem ckS_ok : ∀ (st : CS) {S : SX} {X : Cx} {s : Stmt}, CtxOk S cf X → PassesOwn (model X.prog X.w) X.A X.env X.xe → ckS S st s = true → PS X s (tS (bsOf X) cf wf st)
  | .asg keep i e, S, X, s, ok, hp, h => by
    unfold ckS at h
    split at h
    · rename_i x py val pos
      obtain ⟨h1, h2⟩ := ba2 h
      obtain ⟨h2, h3⟩ := ba2 h2
      obtain ⟨k1, k2, k3⟩ := loc_ok ok h1
      rw [Bool.or_eq_true] at h3
      have key : PS X (.Assign [.Name x py] val pos) (tAsg (tE (bsOf X) cf e) (gName i)) := by
        rcases h3 with h3 | h3
        · exact ps_set ok.nd k1 k2 (ckE_ok e ok h2).pe (swapN_ok ok.sc h3) k3
        · obtain ⟨h6, h4⟩ := ba2 h3
          obtain ⟨h4, h5⟩ := ba2 h4
          have hl := of_decide_eq_true h5
          cases e with
          | lc own g elt => exact asg_lc (keep := keep) ok k1 hl h2 h6
          | dc own g k v => exact asg_dc (keep := keep) ok k1 hl h2 h6
          | _ => cases h4
      exact ⟨fun pins s σ H D I q => key.run pins s σ H D I (asg_sem (slot_lt I k1) q)⟩
    · cases h
  | .unp p e, S, X, s, ok, hp, h => by
    unfold ckS at h
    split at h
    · rename_i ts k pt val pos
      obtain ⟨h1, h2⟩ := ba2 h
      obtain ⟨h2, h3⟩ := ba2 h2
      obtain ⟨h3, h4⟩ := ba2 h3
      rw [Bool.not_eq_true'] at h3 h4
      exact PS.imp (ps_asg (ckE_ok e ok h2).pe (ckP_ok ok h1) (sole_plain h3) (swap_val1 h4)) fun D σ H q => unp_sem q
    · cases h
  | .par ks es, S, X, s, ok, hp, h => by
    unfold ckS at h
    split at h
    · rename_i ts k pt vs k2 pt2 pos
      obtain ⟨h1, h2⟩ := ba2 h
      obtain ⟨h2, h3⟩ := ba2 h2
      obtain ⟨h3, h4⟩ := ba2 h3
      obtain ⟨h4, h5⟩ := ba2 h4
      have ha := ckAs_ok es ok h2
      obtain ⟨n1, n2, n3, n4⟩ := ks_names (cf := cf) ok h1
      have hl : ∀ {pins : List (Addr × Obj)} {σ : L2.St} {H : L2.Hp} {s : Shared}, Inv X pins σ H s → ∀ q ∈ ks, q.2 < σ.length := fun I q hq => by rw [I.len]; exact n4 q hq
      have hsw := swap_val (k := k) (k2 := k2) (pt := pt) (pt2 := pt2) ok.sc h4
      split at h5
      · rename_i hv
        rw [hv] at hsw
        have key := ps_asg (pos := pos) (pe_tup (x1 := k2) (pos := pt2) ha) (pg_tup (k := k) (pos := pt) ok.calm n1 n2 n3) rfl hsw
        exact ⟨fun pins s σ H D I q => key.run pins s σ H D I (par_tup_sem (of_decide_eq_true h3) (hl I) q)⟩
      · split at h5
        · rename_i b1 i b2 j x px y py v1 v2
          obtain ⟨g1, g2⟩ := ba2 h5
          obtain ⟨g2, g3⟩ := ba2 g2
          obtain ⟨g3, g4⟩ := ba2 g3
          rw [of_decide_eq_true g2] at hsw
          unfold ckKs at h1
          obtain ⟨q1, q2⟩ := ba2 h1
          unfold ckKs at q2
          obtain ⟨q2, _⟩ := ba2 q2
          have hx := (loc_ok ok q1).1
          have hy := (loc_ok ok q2).1
          have key := ps_par (pos := pos) ok.calm ok.nd hx hy (of_decide_eq_true g1) (by rw [ok.sc]; exact of_decide_eq_true g3) (by rw [ok.sc]; exact of_decide_eq_true g4) ha hsw
          refine ⟨fun pins s σ H D I q => key.run pins s σ H D I (tAs_imp (par_run (hl I) q) fun xs H1 ⟨e, q1, _⟩ => ?_)⟩
          match xs, e with
          | [v, w], _ => exact ⟨v, w, rfl, q1⟩
        · rename_i b1 i b2 j b3 l x px y py z pz v1 v2 v3
          obtain ⟨g1, g2⟩ := ba2 h5
          obtain ⟨g0, g1'⟩ := ba2 g1
          obtain ⟨g1', g1''⟩ := ba2 g1'
          obtain ⟨g2, g3⟩ := ba2 g2
          obtain ⟨g3, g4⟩ := ba2 g3
          obtain ⟨g4, g5⟩ := ba2 g4
          rw [of_decide_eq_true g2] at hsw
          unfold ckKs at h1
          obtain ⟨q1, q2⟩ := ba2 h1
          unfold ckKs at q2
          obtain ⟨q2, q3⟩ := ba2 q2
          unfold ckKs at q3
          obtain ⟨q3, _⟩ := ba2 q3
          have hx := (loc_ok ok q1).1
          have hy := (loc_ok ok q2).1
          have hz := (loc_ok ok q3).1
          have key := ps_par3 (pos := pos) ok.calm ok.nd hx hy hz (of_decide_eq_true g0) (of_decide_eq_true g1') (of_decide_eq_true g1'') (by rw [ok.sc]; exact of_decide_eq_true g3) (by rw [ok.sc]; exact of_decide_eq_true g4) (by rw [ok.sc]; exact of_decide_eq_true g5) ha hsw
          refine ⟨fun pins s σ H D I q => key.run pins s σ H D I (tAs_imp (par_run (hl I) q) fun xs H1 ⟨e, q1, _⟩ => ?_)⟩
          match xs, e with
          | [u, v, w], _ => exact ⟨u, v, w, rfl, q1⟩
        · cases h5
    · cases h
  | .ex e, S, X, s, ok, hp, h => by
    unfold ckS at h
    split at h
    · obtain ⟨h1, h2⟩ := ba2 h
      rw [Bool.not_eq_true'] at h2
      exact PS.imp (ps_expr (ckE_ok e ok h1).pe (swap_plain h2)) fun D σ H q => ex_sem q
    · cases h
  | .aug i p e, S, X, s, ok, hp, h => by
    unfold ckS at h
    split at h
    · obtain ⟨h1, h2⟩ := ba2 h
      obtain ⟨h2, h3⟩ := ba2 h2
      obtain ⟨k1, k2, k3⟩ := loc_ok ok h1
      obtain ⟨a1, a2⟩ := aug_ip (X := X) (of_decide_eq_true h2)
      exact ⟨fun pins s σ H D I q => (ps_aug ok.nd k1 k2 (ckE_ok e ok h3).pe a2 k3).run pins s σ H D I (aug_sem a1 (slot_lt I k1) q)⟩
    · cases h
  | .augI i p key e, S, X, s, ok, hp, h => by
    unfold ckS at h
    split at h
    · obtain ⟨h1, h2⟩ := ba2 h
      obtain ⟨h2, h3⟩ := ba2 h2
      obtain ⟨h3, h4⟩ := ba2 h3
      obtain ⟨h4, h5⟩ := ba2 h4
      obtain ⟨a1, a2⟩ := aug_ip (X := X) (of_decide_eq_true h2)
      exact PS.imp (ps_augS (p_var ok h1) (ckE_ok key ok h3).pe (get_any ok.hu) (ckE_ok e ok h5).pe a2 (put_any ok.hu) (aug_plain h4)) fun D σ H q => augI_sem a1 q
    · cases h
  | .seti i e key, S, X, s, ok, hp, h => by
    unfold ckS at h
    split at h
    · obtain ⟨h1, h2⟩ := ba2 h
      obtain ⟨h2, h3⟩ := ba2 h2
      obtain ⟨h3, h4⟩ := ba2 h3
      obtain ⟨h4, h5⟩ := ba2 h4
      rw [Bool.not_eq_true'] at h5
      exact PS.imp (ps_asg (ckE_ok e ok h2).pe (pg_sub (p_var ok h1) (ckE_ok key ok h3).pe (put_any ok.hu) (sub_plain h4)) (sole_plain h5) swap_val2) fun D σ H q => seti_sem q
    · cases h
  | .sub2 .., S, X, s, ok, hp, h => by unfold ckS at h; cases h
  | .setf .., S, X, s, ok, hp, h => by unfold ckS at h; cases h
  | .iff c a b, S, X, s, ok, hp, h => by
    unfold ckS at h
    split at h
    · obtain ⟨h1, h2⟩ := ba2 h
      obtain ⟨h2, h3⟩ := ba2 h2
      exact PS.imp (ps_if (ckE_ok c ok h1).pt (ckB_ok a ok hp h2) (ckB_ok b ok hp h3)) fun D σ H q => iff_sem q
    · cases h
  | .wh c b, S, X, s, ok, hp, h => by
    unfold ckS at h
    split at h
    · obtain ⟨h1, h2⟩ := ba2 h
      exact PS.imp (ps_while hp (ckE_ok c ok h1).pt (ckB_ok b ok hp h2)) fun D σ H q => wh_sem q
    · cases h
  | .fr p it b, S, X, s, ok, hp, h => by
    unfold ckS at h
    split at h
    · obtain ⟨h1, h2⟩ := ba2 h
      obtain ⟨h2, h3⟩ := ba2 h2
      obtain ⟨h3, h4⟩ := ba2 h3
      obtain ⟨h4, h5⟩ := ba2 h4
      exact PS.imp (ps_for hp ok.calm (ckI_ok it ok h1) (ckP_ok ok h3) (ckB_ok b ok hp h4) (fold_plain h2 _)) fun D σ H q => fr_sem (fun i hi => by
        obtain ⟨b1, b2⟩ := ba2 (List.all_eq_true.mp h5 i hi)
        obtain ⟨b2, b3⟩ := ba2 b2
        exact ⟨b1, by simpa using b2, nin_of b3⟩) q
    · cases h
  | .ret e, S, X, s, ok, hp, h => by
    unfold ckS at h
    split at h
    · exact PS.imp (ps_ret (ckE_ok e ok h).pe) fun D σ H q => ret_sem q
    · cases h
  | .retN, S, X, s, ok, hp, h => by
    unfold ckS at h
    split at h
    · exact PS.imp ps_retN fun D σ H q => retN_sem q
    · cases h
  | .pass, S, X, s, ok, hp, h => by
    unfold ckS at h
    split at h
    · exact PS.imp ps_pass fun D σ H q => pass_sem q
    · cases h
  | .cont, S, X, s, ok, hp, h => by
    unfold ckS at h
    split at h
    · exact PS.imp ps_continue fun D σ H q => cont_sem q
    · cases h
  | .raise c es, S, X, s, ok, hp, h => PS.imp ps_never fun D σ H q => raise_sem q
  | .never, S, X, s, ok, hp, h => PS.imp ps_never fun D σ H q => never_sem q
theorem ckB_ok : ∀ (st : CSs) {S : SX} {X : Cx} {s : List Stmt}, CtxOk S cf X → PassesOwn (model X.prog X.w) X.A X.env X.xe → ckB S st s = true → PSs X s (tSs (bsOf X) cf wf st)
  | .nil, S, X, s, ok, hp, h => by
    unfold ckB at h
    rw [List.isEmpty_iff] at h
    subst h
    exact PSs.imp pss_nil fun D σ H q => ss_nil q
  | .cons st rest, S, X, [], ok, hp, h => by unfold ckB at h; cases h
  | .cons st rest, S, X, s :: ss, ok, hp, h => by
    unfold ckB at h
    obtain ⟨h1, h2⟩ := ba2 h
    exact PSs.imp (pss_cons (ckS_ok st ok hp h1) (ckB_ok rest ok hp h2)) fun D σ H q => ss_cons q
end
end
end C
end
section
set_option Elab.async false
set_option linter.all false
set_option maxRecDepth 100000
set_option maxHeartbeats 2000000
/-! Defs keep what the evaluator says; the law's end. The walks follow HandS.Call (fn_of), HandS.Ends (law_call). -/
namespace C
open PySem PySem.Spec PyProof.Rows L2
variable [Lams]

/-- nothing may be raised -/
def CXF : CXT := fun _ _ _ _ _ _ => False
/-- what a def keeps, called with that many arguments -/
structure FnG (P : Program) (w : World) (K : PySem.W.Frag) (mg : Str → Option Value) (base : Heap) (cf : Nat → List Sl → CR) (k n : Nat) (f : Addr) : Prop where
  run : ∀ (A : Around) (outer : List PySem.Env) (s : Shared) (H : L2.Hp) (us : List Value) (vs : List V) (Q : VK), Room k A → A.guards = some [] → Env0 P w K mg base A outer s H → Vals vs us → spC ⟨P, w, K⟩ cf n vs H Q →
    codeAny (model P w) A (.call (.ref f) ⟨us, []⟩) (L2.CR CXF outer P w H s Q fun _ _ _ => False) s
theorem FnG.call {P : Program} {w : World} {K : PySem.W.Frag} {mg : Str → Option Value} {base : Heap} {cf : Nat → List Sl → CR} {k n : Nat} {f : Addr} {A : Around} (F : FnG P w K mg base cf k n f) (hr : Room k A) (hg : A.guards = some []) : CallOk P w K mg base A cf n f := by
  rintro X rfl rfl rfl rfl rfl rfl pins s σ H vs us Q I r h
  refine wpAny_call (codeAny_mono (F.run X.A X.stack s H us vs Q hr hg I.env0 r h) fun r s' hq => ?_)
  cases r with
  | error e => exact (show False from hq).elim
  | ok fl =>
    cases fl with
    | ret u => exact I.after hq
    | next => exact False.elim hq
    | brk => exact False.elim hq
    | cont => exact False.elim hq
/-- a def's text and what the check says of it -/
structure DefT where
  n : Nat
  d : He.DefD
  c : DefC
  N : List Str
  ps : List Str
  lam : Bool := false
/-- what stands at the table of a def in which a lambda stands -/
def LamOk (K : PySem.W.Frag) (mg : Str → Option Value) (base : Heap) (t : DefT) (f : Addr) : Prop := t.lam = true → ∃ c P, PySem.W.tabIn K t.d.name = some (c, P) ∧ mg t.d.name = some (.ref f) ∧ LamX.TabB base mg c P ∧ TK P ((t.d.qual ++ ".<locals>.") ++ "<lambda>")
/-- the check of one def -/
def ckDef (G : GT) (t : DefT) : Bool :=
  decide (t.ps.length = t.c.np) && (decide (t.N.length = t.c.ns) && (decide (t.c.np ≤ t.c.ns) && (ckB ⟨t.N, t.d.scope, none, G, t.lam⟩ t.c.body t.d.body && (t.c.refs.all fun i => decide (i < t.c.np) && !asB i t.c.body))))
theorem guards_deeper {A : Around} {env : PySem.Env} : (A.deeper env).guards = A.guards := rfl
theorem start_set {N : List Str} {vs : List V} : (start N vs) = vs.map some ++ List.replicate (N.length - vs.length) none := rfl
/-- a def by its body -/
theorem fnG_of {P : Program} {w : World} {K : PySem.W.Frag} {mg : Str → Option Value} {base : Heap} {cf cf' : Nat → List Sl → CR} {wf k n : Nat} {f : Addr} {fd : FuncData} {t : DefT} {G : GT}
    (F : FunD K t.d.name t.d.qual t.d.params t.d.body t.d.scope [] [] f fd) (S : FnScope t.N t.ps t.d.scope)
    (hb : ∀ (kV doc pm : Value) (an : Option Addr) (cdv ct : Value) (us : List Value), us.length = t.ps.length → bindArgs (PySem.W.fnOf t.d.name t.d.qual t.d.params t.d.body t.d.scope .none kV doc pm an cdv ct) ⟨us, []⟩ = pure (t.ps.zip us))
    (hc : ckDef G t = true) (hcf : ∀ args s outs, cf n args = .ok s outs → runDef cf' wf t.c args = .ok s outs)
    (hlam : LamOk K mg base t f)
    (hctx : ∀ A : Around, Room k A → A.guards = some [] → (∀ x ∈ G.free, mg x = none) ∧ (∀ p ∈ G.defs, ∃ f, mg p.1 = some (.ref f) ∧ PySem.W.keepIn K (.ref f) = true ∧ CallOk P w K mg base A cf' p.2 f ∧ (p.2, f) ∈ Lams.fns) ∧ (∀ p ∈ Lams.fns, PySem.W.keepIn K (.ref p.2) = true ∧ CallOk P w K mg base A cf' p.1 p.2) ∧
      ∀ p ∈ G.consts, ∃ u v, mg p.1 = some u ∧ RelV v u ∧ ∀ N H, Rp ⟨P, w, K⟩ N H v p.2) : FnG P w K mg base cf (k + 1) n f := by
  refine ⟨fun A outer s H us vs Q hr hg e0 r hsp => ?_⟩
  obtain ⟨Wc, args, sr, outs, rfl, re, hne, hrun, q⟩ := hsp
  have hrun := hcf _ _ _ hrun
  unfold ckDef at hc
  obtain ⟨c1, hc⟩ := ba2 hc
  obtain ⟨c2, hc⟩ := ba2 hc
  obtain ⟨c3, hc⟩ := ba2 hc
  obtain ⟨c4, c5⟩ := ba2 hc
  have c1 := of_decide_eq_true c1
  have c2 := of_decide_eq_true c2
  have c3 := of_decide_eq_true c3
  unfold runDef at hrun
  split at hrun
  case isFalse => cases hrun
  rename_i hal
  have hvl : vs.length = t.ps.length := by have := re.len; rw [List.length_map] at this; omega
  obtain ⟨oc, od, dV, kV, doc, pm, an, cdv, ct, osl, rfl, lk, hcd, hD, _⟩ := F.ex
  rcases hD with ⟨_, rfl⟩ | ⟨e, _⟩
  case inr => exact absurd rfl e
  have hul : us.length = t.ps.length := by rw [← r.length]; exact hvl
  have KX : K.In s.heap := e0.mod.kin.keeps fun b o e => (e0.bs b o e).1
  have lim : s.heap.NoLimit := e0.mod.nolimit.keeps fun b o e => (e0.bs b o e).1
  have hkind : ∀ y ∈ t.ps.zip us, t.d.scope.names.lookup y.1 = some .local ∨ (t.d.scope.names.lookup y.1 = some .cell ∧ ((cellsFrom (s.heap.objs.size + 1) t.d.scope.names []).lookup y.1).isSome = true) := fun ⟨n, v⟩ hy => by
    rcases S.par n (List.of_mem_zip hy).1 with q | q
    · exact .inl q
    · exact .inr ⟨q, PySem.W.cellsFrom_some _ _ _ (.inl q)⟩
  refine codeAny_call_function hr.depth (KX _ _ lk) rfl S.co S.gen rfl (PySem.W.codeRec_of KX hcd) ((BindsTo.of_eq (hb kV doc pm an cdv ct us hul)) _ _ _ _ ?_)
  refine wpAny_newFunctionEnv_cells S.kind hkind fun env he s1 x => ?_
  subst he
  refine ⟨lim.keeps x.toInCall.keep, codeAny_func ?_⟩
  let X := cxOf CXF P w K mg base t.N t.d.qual t.d.scope f cdv A outer s Wc.H (fun _ _ _ => False)
  have hr' : Room k X.A := hr.deeper _
  obtain ⟨g1, g2, g2', g3⟩ := hctx X.A hr' hg
  have hl : t.lam = true → ∃ c P, X.env.code = .ref c ∧ LamX.TabB X.base X.mg c P ∧ TK P (X.env.qual ++ "<lambda>") := fun z => by
    obtain ⟨c, P, l1, l2, l3, l4⟩ := hlam z
    have e := PySem.W.law_code e0.mod.kin e0.mod.glob l1 l2 (e0.mod.kin _ _ lk) rfl
    exact ⟨c, P, e, l3, l4⟩
  have ok : CtxOk ⟨t.N, t.d.scope, none, G, t.lam⟩ cf' X.nox := ⟨rfl, S.nd, rfl, fun _ _ => rfl, rfl, by have := hr'.un; show X.A.units + 150 < cLine; omega, hg, g1, g2, g2', g3, by have := hr'.dp; show X.A.depth < recursionLimit; omega, hl⟩
  have body : PSs X t.d.body (tSs (bsOf X) cf' wf t.c.body) := PSs.nox (ckB_ok t.c.body ok PassesOwn.never c4)
  have I : Inv X [] (start t.N vs) Wc.H s1 := inv_start S hr.hd e0 hvl r x
  -- the body's world
  have hNs : t.N.length - vs.length = t.c.ns - t.c.np := by omega
  have reB : RE ⟨P, w, K⟩ Wc (start t.N vs) (args ++ List.replicate (t.c.ns - t.c.np) .no) := by
    refine ⟨?_, fun i s hi hn => ?_, re.apart, re.nin, re.oin, re.tb⟩
    · rw [start_set, hNs, List.length_append, List.length_append, re.len, List.length_replicate, List.length_replicate]
    · by_cases hlt : i < args.length
      · rw [List.getElem?_append_left hlt] at hi
        obtain ⟨v, h1, h2⟩ := re.slot i s hi hn
        exact ⟨v, by rw [start_set, List.getElem?_append_left (by rw [re.len]; exact hlt)]; exact h1, h2⟩
      · rw [List.getElem?_append_right (by omega), List.getElem?_replicate] at hi
        split at hi <;> cases hi
        exact absurd rfl hn
  have outsRE : ∀ {σ' : L2.St} {W' : Wd} {env' : C.Env}, RE ⟨P, w, K⟩ W' σ' env' → (∀ i, asB i t.c.body = false → σ'[i]? = (start t.N vs)[i]?) → RE ⟨P, w, K⟩ W' (vs.map some) (outsOf t.c.refs env' t.c.np) := fun {σ' W' env'} r' k' => by
    refine ⟨by unfold outsOf; rw [List.length_map, List.length_map, List.length_range]; omega, fun i s hi hn => ?_, r'.apart, r'.nin, r'.oin, r'.tb⟩
    unfold outsOf at hi
    rw [List.getElem?_map] at hi
    cases hrg : (List.range t.c.np)[i]? with
    | none => rw [hrg] at hi; cases hi
    | some j =>
      obtain ⟨hlt, hj⟩ := List.getElem?_eq_some_iff.mp hrg
      rw [List.getElem_range] at hj
      subst hj
      rw [hrg] at hi
      have hi' : (if i ∈ t.c.refs then gt env' i else .no) = s := Option.some.inj hi
      split at hi'
      · rename_i hmem
        have hs : gt env' i = s := hi'
        obtain ⟨v, h1, h2⟩ := r'.slot i s (by rw [gt_some (by rw [hs]; exact hn), hs]) hn
        obtain ⟨d1, d2⟩ := ba2 (List.all_eq_true.mp c5 i hmem)
        rw [k' i (by simpa using d2)] at h1
        refine ⟨v, ?_, h2⟩
        rw [start_set, List.getElem?_append_left (by rw [List.length_map, hvl]; rw [List.length_range] at hlt; omega)] at h1
        exact h1
      · exact absurd hi'.symm hn
  have hsem : tSs (bsOf X) cf' wf t.c.body { nx := fun _ H' => Q .non H', rt := Q } (start t.N vs) Wc.H := by
    refine ⟨Wc, _, rfl, reB, ?_⟩
    cases hx : exB cf' wf t.c.body (args ++ List.replicate (t.c.ns - t.c.np) .no) with
    | rt s' env' =>
      rw [hx] at hrun
      cases hrun
      exact fun v σ' W' st r' l' k' rv => q v W' st (outsRE r' k') rv
    | nx env' =>
      rw [hx] at hrun
      cases hrun
      exact fun σ' W' st r' l' k' => q .non W' st (outsRE r' k') (RV.sh .non)
    | ct env' => rw [hx] at hrun; cases hrun
    | ex x env' => rw [hx] at hrun; cases hrun
    | bad => rw [hx] at hrun; cases hrun
  refine wpAny_mono (body.run [] s1 (start t.N vs) Wc.H _ I hsem) (fun fl s' hs => ?_) fun e s' hs => hs
  have fin : ∀ {σ' : L2.St} {H' : L2.Hp} {v : V} {u : Value}, Inv X [] σ' H' s' → RelV v u → Q v H' → L2.CE outer P w Wc.H s Q u s' :=
    fun {σ' H' v u} J rv q => ⟨v, H', J.os, J.bare, J.base, J.hok, rv, q⟩
  cases fl with
  | ret u =>
    obtain ⟨v, σ', H', J, rv, q⟩ := hs
    exact fin J rv q
  | next =>
    obtain ⟨σ', H', J, q⟩ := hs
    exact fin (v := V.non) (u := Value.none) J rfl q
  | brk =>
    obtain ⟨_, _, _, q⟩ := hs
    exact False.elim q
  | cont =>
    obtain ⟨_, _, _, q⟩ := hs
    exact False.elim q
end C
end
section
set_option Elab.async false
set_option linter.all false
set_option maxRecDepth 100000
set_option maxHeartbeats 2000000
/-! All defs of a module; the law's end (after HandS.EndTab). -/
namespace C
open PySem PySem.Spec PyProof.Rows L2
section
variable [Lams]
def defsOf (ts : List DefT) : List (Str × Nat) := ts.map fun t => (t.d.name, t.n)
theorem defsOf_mem {ts : List DefT} {p : Str × Nat} (h : p ∈ defsOf ts) : ∃ t ∈ ts, p = (t.d.name, t.n) := by
  obtain ⟨t, h1, h2⟩ := List.mem_map.mp h
  exact ⟨t, h1, h2.symm⟩
def BindOk (t : DefT) : Prop := ∀ (kV doc pm : Value) (an : Option Addr) (cdv ct : Value) (us : List Value), us.length = t.ps.length → bindArgs (PySem.W.fnOf t.d.name t.d.qual t.d.params t.d.body t.d.scope .none kV doc pm an cdv ct) ⟨us, []⟩ = pure (t.ps.zip us)
def scopeB (t : DefT) : Bool := decide (t.d.scope.kind = .function) && (!t.d.scope.isCoroutine && (!t.d.scope.isGenerator && (decide t.N.Nodup && (decide (t.N.take t.ps.length = t.ps) && ((t.ps.all fun x => decide (t.d.scope.names.lookup x = some .local) || decide (t.d.scope.names.lookup x = some .cell)) && t.d.scope.names.all fun y => decide (y.2 ≠ .free))))))
theorem scope_ok {t : DefT} (h : scopeB t = true) : FnScope t.N t.ps t.d.scope := by
  unfold scopeB at h
  obtain ⟨h1, h⟩ := ba2 h
  obtain ⟨h2, h⟩ := ba2 h
  obtain ⟨h3, h⟩ := ba2 h
  obtain ⟨h4, h⟩ := ba2 h
  obtain ⟨h5, h⟩ := ba2 h
  obtain ⟨h6, h7⟩ := ba2 h
  refine ⟨of_decide_eq_true h1, by simpa using h2, by simpa using h3, of_decide_eq_true h4, of_decide_eq_true h5, fun x hx => ?_, fun y hy => of_decide_eq_true (List.all_eq_true.mp h7 y hy)⟩
  have := List.all_eq_true.mp h6 x hx
  simpa using this
/-- the facts that the head gives -/
structure Facts (ts : List DefT) (free : List Str) (consts : List (Str × PyData)) (P : Program) (w : World) (K : PySem.W.Frag) (mg : Str → Option Value) : Prop where
  fn : ∀ t ∈ ts, ∃ fd, FunD K t.d.name t.d.qual t.d.params t.d.body t.d.scope [] [] (He.ga K t.d.name) fd
  glo : ∀ t ∈ ts, mg t.d.name = some (.ref (He.ga K t.d.name))
  free : ∀ x ∈ free, mg x = none
  con : ∀ p ∈ consts, ∃ u v, mg p.1 = some u ∧ RelV v u ∧ ∀ N H, Rp ⟨P, w, K⟩ N H v p.2
def mkG (ts : List DefT) (free : List Str) (consts : List (Str × PyData)) : GT := ⟨free, defsOf ts, consts⟩
theorem all_defs {ts : List DefT} {Ds : Nat → Option DefC} {free : List Str} {consts : List (Str × PyData)} {P : Program} {w : World} {K : PySem.W.Frag} {mg : Str → Option Value} {base : Heap} {wf : Nat} (F : Facts ts free consts P w K mg)
    (hD : ∀ t ∈ ts, Ds t.n = some t.c) (hck : (ts.all fun t => scopeB t && ckDef (mkG ts free consts) t) = true) (hb : ∀ t ∈ ts, BindOk t) (hl : ∀ t ∈ ts, LamOk K mg base t (He.ga K t.d.name)) (hfn : Lams.fns = ts.map fun t => (t.n, He.ga K t.d.name)) : ∀ k t, t ∈ ts → FnG P w K mg base (callF Ds wf k) k t.n (He.ga K t.d.name)
  | 0, t, ht => ⟨fun A outer s H us vs Q hr hg e0 r hsp => by
    obtain ⟨Wc, args, sr, outs, _, _, _, h, _⟩ := hsp
    unfold callF at h
    cases h⟩
  | k + 1, t, hm => by
    obtain ⟨c1, c2⟩ := ba2 (List.all_eq_true.mp hck t hm)
    obtain ⟨fd, hfd⟩ := F.fn t hm
    refine fnG_of (cf' := callF Ds wf k) (wf := wf) hfd (scope_ok c1) (hb t hm) c2 (fun args s outs h => ?_) (hl t hm) fun A hr hg => ⟨F.free, fun p hp => ?_, fun p hp => ?_, F.con⟩
    · unfold callF at h
      rw [hD t hm] at h
      exact h
    · obtain ⟨t', hm', rfl⟩ := defsOf_mem (show p ∈ defsOf ts from hp)
      obtain ⟨fd', hfd'⟩ := F.fn t' hm'
      exact ⟨_, F.glo t' hm', hfd'.kp, (all_defs F hD hck hb hl hfn k t' hm').call hr hg, by rw [hfn]; exact List.mem_map.mpr ⟨t', hm', rfl⟩⟩
    · rw [hfn] at hp
      obtain ⟨t', hm', rfl⟩ := List.mem_map.mp hp
      obtain ⟨fd', hfd'⟩ := F.fn t' hm'
      exact ⟨hfd'.kp, (all_defs F hD hck hb hl hfn k t' hm').call hr hg⟩

/-- the law's def run at the heap behind the top; cs: code objects and their tables -/
theorem law_run {P : Program} {w : World} {K : PySem.W.Frag} {mg mb : Str → Option Value} {cf : Nat → List Sl → CR} {k m : Nat} {fa a : Addr} {cs : List (Addr × Addr)} {s₁ : Shared} {vs : List Value} {ns : List Int}
    (KX : K.In s₁.heap) (hnl : ∀ b o, K.lookup b = some o → o.cls ≠ .type "list") (hns : s₁.heap.Ns mainGlobals mg) (hb : s₁.heap.Ns builtinsNs mb) (hbb : ∀ x : Str, x ≠ "__name__" → mb x = bootBuiltins x) (hlim : s₁.heap.NoLimit) (hg : s₁.gens = #[])
    (hT : ∀ p ∈ cs, s₁.heap.get? p.2 = some { cls := .none, data := .fields #[] }) (nT : ∀ p ∈ cs, K.lookup p.2 = none) (hC : ∀ p ∈ cs, PySem.W.CodeHd s₁.heap p.1 p.2) (hTK : ∀ P q, TK P q → ∃ c, (c, P) ∈ cs)
    (hbm : ∃ (bm : Addr) (ob : Obj), mg "__builtins__" = some (.ref bm) ∧ bm ≠ builtinsNs ∧ s₁.heap.get? bm = some ob ∧ ob.cls = .type "module" ∧ ob.dict = some builtinsNs ∧ ob.data = .plain)
    (ha : s₁.heap.get? a = some { cls := .type "list", data := .seq vs.toArray }) (hi : IntsAre vs ns) (hl : ns.length ≤ sizeLine) (hr : Room k callerA)
    (F : ∀ base : Heap, K.In base → base.Ns mainGlobals mg → (∀ p ∈ cs, LamX.TabB base mg p.1 p.2) → FnG P w K mg base cf k m fa)
    (hsp : ∃ outs, cf m [.sh (.list (ns.map PyData.int))] = .ok (.sh (.bool true)) outs) :
    codeAny (model P w) callerA (.call (.ref fa) ⟨[.ref a], []⟩) (fun r s' => r = .ok (.ret (.bool true)) ∧ OldK s₁.heap s'.heap ∧ s'.os = s₁.os ∧ AllBare s'.gens) s₁ := by
  have rv := vals_ints hi
  have hk : K.lookup a = none := by
    cases q : K.lookup a with
    | none => rfl
    | some o =>
      have e := KX a o q
      rw [ha] at e
      cases e
      exact absurd rfl (hnl a _ q)
  have isT : ∀ b : Addr, b ∈ cs.map (·.2) → s₁.heap.get? b = some { cls := .none, data := .fields #[] } := fun b hb => by
    obtain ⟨p, hp, e⟩ := List.mem_map.mp hb
    rw [← e]
    exact hT p hp
  have aT : a ∉ cs.map (·.2) := fun z => by
    have q := isT a z
    rw [ha] at q
    have z' : Data.seq vs.toArray _ = Data.fields #[] := congrArg Obj.data (Option.some.inj q)
    cases z'
  have memT : ∀ p ∈ cs, p.2 ∈ cs.map (·.2) := fun p hp => List.mem_map.mpr ⟨p, hp, rfl⟩
  let o1 : Obj := { cls := .type "list", data := .seq vs.toArray }
  let H : L2.Hp := fun b => if b = a then some (.frz o1 (.lst (ns.map V.int))) else if b ∈ cs.map (·.2) then some (.tbl #[]) else none
  have Ha : H a = some (.frz o1 (.lst (ns.map V.int))) := if_pos rfl
  have Hp : ∀ {b}, b ≠ a → b ∈ cs.map (·.2) → H b = some (.tbl #[]) := fun h h2 => (if_neg h).trans (if_pos h2)
  have Hn : ∀ {b}, b ≠ a → b ∉ cs.map (·.2) → H b = none := fun h h2 => (if_neg h).trans (if_neg h2)
  have HT : ∀ p ∈ cs, H p.2 = some (.tbl #[]) := fun p hp => Hp (fun z => aT (by rw [← z]; exact memT p hp)) (memT p hp)
  have hA : ∀ b, H b ≠ none → b = a ∨ b ∈ cs.map (·.2) := fun b z => by
    by_cases e : b = a
    · exact .inl e
    · by_cases e2 : b ∈ cs.map (·.2)
      · exact .inr e2
      · exact absurd (Hn e e2) z
  have hok : HOk P w H s₁.heap := fun b u z => by
    by_cases e : b = a
    · subst e; rw [Ha] at z; cases z
      exact ⟨ha, by rw [List.length_map]; exact hl, vs, _, rv, ha⟩
    · by_cases e2 : b ∈ cs.map (·.2)
      · rw [Hp e e2] at z; cases z
        exact isT b e2
      · rw [Hn e e2] at z; cases z
  have base_of : ∀ {b : Addr} {o : Obj}, s₁.heap.get? b = some o → H b = none → (hidT s₁.heap H).get? b = some o := fun e n => hidT_get e n
  have noD : ∀ {b : Addr} {o : Obj}, s₁.heap.get? b = some o → (∀ vs n, o.data ≠ .seq vs n) → o.data ≠ .fields #[] → H b = none := fun {b o} e h1 h2 => by
    cases q : H b with
    | none => rfl
    | some u =>
      rcases hA b (by rw [q]; simp) with e' | e'
      · rw [e', ha] at e
        cases e
        exact (h1 _ _ rfl).elim
      · rw [isT b e'] at e
        cases e
        exact (h2 rfl).elim
  have noA : ∀ {b : Addr} {o : Obj} {es : Array DictEntry} {ep : Nat}, s₁.heap.get? b = some o → o.data = .dict es ep → H b = none := fun {b o es ep} e d => by
    refine noD e (fun vs n z => ?_) fun z => ?_
    · rw [d] at z
      cases z
    · rw [d] at z
      cases z
  have nsK : ∀ {b : Addr} {m : Str → Option Value}, s₁.heap.Ns b m → (hidT s₁.heap H).Ns b m := fun {b m} ⟨o, es, ep, e, d, r⟩ => ⟨o, es, ep, base_of e (noA e d), d, r⟩
  have hKb : K.In (hidT s₁.heap H) := fun b o e => base_of (KX b o e) (by
    cases q : H b with
    | none => rfl
    | some u =>
      rcases hA b (by rw [q]; simp) with e' | e'
      · rw [e', hk] at e; cases e
      · obtain ⟨p, hp, ep⟩ := List.mem_map.mp e'
        rw [← ep, nT p hp] at e
        cases e)
  have hM : L2.Mod K mg (hidT s₁.heap H) := ⟨hKb, nsK hns, ⟨mb, nsK hb, hbb⟩, let ⟨mc, h1, h2⟩ := hlim; ⟨mc, nsK h1, h2⟩⟩
  have TB : ∀ p ∈ cs, LamX.TabB (hidT s₁.heap H) mg p.1 p.2 := fun p hp => by
    have hTp := hT p hp
    refine ⟨?_, ?_, fun z => ?_⟩
    · obtain ⟨o, us, file, tf, flags, tg, inF, text, tt, e1, r1, r2, r3, r4, r5, r6, r7, r8, hne⟩ := hC p hp
      refine ⟨o, us, file, tf, flags, tg, inF, text, tt, base_of e1 (noD e1 (fun vs n z => ?_) fun z => ?_), r1, r2, r3, r4, r5, r6, r7, r8, hne⟩
      · rw [r2] at z
        cases z
      · rw [r2] at z
        cases z
        simp at r3
    · obtain ⟨bm, ob, b1, b2, b3, b4, b5, b6⟩ := hbm
      have nG : bm ≠ mainGlobals := fun q => by
        obtain ⟨o, es, ep, e, hd, _⟩ := hns
        rw [q, e] at b3
        cases b3
        rw [hd] at b6
        cases b6
      have nP : bm ≠ p.2 := fun q => by
        rw [q, hTp] at b3
        cases b3
        cases b6
      refine ⟨bm, ob, b1, b2, nG, nP, base_of b3 (noD b3 (fun vs n z => ?_) fun z => ?_), b4, b5, b6⟩
      · rw [b6] at z
        cases z
      · rw [b6] at z
        cases z
    · obtain ⟨o, es, ep, e, hd, _⟩ := hns
      rw [z, hTp] at e
      cases e
      cases hd
  have e0 : Env0 P w K mg (hidT s₁.heap H) callerA [] s₁ H := ⟨rfl, hM, fun b o e => of_hidT e, Nat.le_of_eq (hidT_size _ _), trivial, fun b hb => absurd (show b ∈ ([] : List Addr) from hb) (by simp), hok, .of_eq hg⟩
  have rpI : ∀ (N : Addr → Prop) (ns : List Int), RpA ⟨P, w, K⟩ N H (ns.map V.int) (ns.map PyData.int) := fun N ns => by
    induction ns with
    | nil => exact .nil
    | cons n ns ih => exact .cons (.int n) ih
  obtain ⟨outs, hsp⟩ := hsp
  classical
  let W0 : Wd := ⟨fun _ => False, fun b => if b ∈ cs.map (·.2) then some ph else none, H⟩
  have owP : ∀ {b i}, W0.ow b = some i → b ∈ cs.map (·.2) ∧ i = ph := fun {b i} z => by
    have z : (if b ∈ cs.map (·.2) then some ph else none) = some i := z
    split at z
    · rename_i h; exact ⟨h, (Option.some.inj z).symm⟩
    · cases z
  have spec : spC ⟨P, w, K⟩ cf m [.ref a] H (fun v _ => v = .bl true) :=
    ⟨W0, [.sh (.list (ns.map PyData.int))], .sh (.bool true), outs, rfl,
      ⟨rfl, fun i s h hn => by
        cases i with
        | zero => simp at h; subst h; exact ⟨_, rfl, .fl Ha (rpI _ ns)⟩
        | succ i => simp at h, (fun _ _ _ z => z.elim), (fun _ h => h.elim), (fun b i z => by
          have hm := (owP z).1
          show Own (H b)
          rw [Hp (fun z => aT (by rw [← z]; exact hm)) hm]; trivial), fun P q k => by
        obtain ⟨c, hc⟩ := hTK P q k
        exact ⟨⟨if_pos (memT _ hc), k⟩, #[], HT _ hc, trivial, fun pos cv e => by
          have z : codeAmong pos [] = some cv := e
          simp [codeAmong] at z⟩⟩,
      (fun x hx => by simp at hx; subst hx; exact (fun z => nomatch z)), hsp, fun v W' st re rv => rv_bool rv⟩
  refine codeAny_mono ((F _ hKb (nsK hns) TB).run callerA [] s₁ H [.ref a] [.ref a] _ hr rfl e0 (.cons rfl .nil) spec) fun r s' h => ?_
  cases r with
  | error e => exact (show False from h).elim
  | ok fl =>
    cases fl with
    | next => exact False.elim h
    | brk => exact False.elim h
    | cont => exact False.elim h
    | ret u =>
      obtain ⟨v, H', os, bare, un, hok', r', q⟩ := h
      have q' : v = .bl true := q
      subst q'
      obtain rfl : u = Value.bool true := r'
      have key : ∀ b o, b ∉ cs.map (·.2) → s₁.heap.get? b = some o → s'.heap.get? b = some o := fun b o nb e => by
        by_cases hb : b = a
        · subst hb
          have z2 := un.frzs b o1 _ Ha
          obtain ⟨e2, _⟩ := hok' b _ z2
          rw [ha] at e; cases e
          exact e2
        · exact un.keep b o e (Hn hb nb) (by intro z; exact absurd (show b ∈ ([] : List Addr) from z) (by simp)) (by simp)
      have grown : ∀ p ∈ cs, ∃ more : Array Value, s'.heap.get? p.2 = some { cls := .none, data := .fields more } := fun p hp => by
        obtain ⟨more, z⟩ := un.tbls p.2 #[] (HT p hp)
        exact ⟨_, hok' p.2 _ z⟩
      refine ⟨rfl, ⟨fun b o e => ?_, fun b o e => ?_⟩, os, bare⟩
      · by_cases hb : b ∈ cs.map (·.2)
        · obtain ⟨p, hp, ep⟩ := List.mem_map.mp hb
          obtain ⟨more, hm⟩ := grown p hp
          rw [← ep] at e ⊢
          rw [hT p hp] at e
          cases e
          exact .inr (.inl ⟨((hC p hp).tab (hT p hp)).isCodeTable, rfl, #[], more, rfl, by rw [Array.empty_append]; exact hm⟩)
        · exact .inl (key b o hb e)
      · by_cases hb : b ∈ cs.map (·.2)
        · obtain ⟨p, hp, ep⟩ := List.mem_map.mp hb
          obtain ⟨more, hm⟩ := grown p hp
          rw [← ep]
          exact ⟨_, hm⟩
        · exact ⟨o, key b o hb e⟩
end
/-- the end of a law -/
theorem walk_ofG {l : PySem.W.OpenLaw} {n k m : Nat} {q : Program} {loose : List Str} {XP : (Str → Option Value) → Heap → Prop} {YP : World → Heap → Prop} {d : DefRec} {cf : Nat → List Sl → CR}
    (hn : l.most = some n) (hn2 : n ≤ sizeLine) (hdf : d.params.defaults = []) (hr : Room k callerA)
    (F : ∀ (w : World) (mg : Str → Option Value) (fa : Addr) (h : Heap), YP w h → h.Ns mainGlobals mg → mg d.name = some (.ref fa) →
      ∃ (L : Lams) (K : PySem.W.Frag) (cs : List (Addr × Addr)), K.In h ∧ (∀ b o, K.lookup b = some o → o.cls ≠ .type "list") ∧ (∀ p ∈ cs, h.get? p.2 = some { cls := .none, data := .fields #[] }) ∧ (∀ p ∈ cs, K.lookup p.2 = none) ∧ (∀ p ∈ cs, PySem.W.CodeHd h p.1 p.2) ∧
        (∀ P q, TK P q → ∃ c, (c, P) ∈ cs) ∧ ∀ base : Heap, K.In base → base.Ns mainGlobals mg → (∀ p ∈ cs, LamX.TabB base mg p.1 p.2) → FnG l.prog w K mg base cf k m fa)
    (law : ∀ ns : List Int, ns.length ≤ n → ∃ outs, cf m [.sh (.list (ns.map PyData.int))] = .ok (.sh (.bool true)) outs) :
    PySem.W.WalkO q loose XP YP l.row.toRowW d [] (fun f vs => PySem.call f vs) := by
  refine Att.attach_callB hn hdf fun w s₀ s₁ mg mb fa o pm cd doc a vs ns G Y ho hd hcd hmg hobj hints hlen hbits hg => ?_
  obtain ⟨L, K, cs, KX, hnl, hT, nT, hC, hTK, hF⟩ := F w mg fa _ Y G.T.g hmg
  exact law_run KX hnl G.T.g G.T.b G.T.builtins G.T.nolimit hg hT nT hC hTK G.T.bmain hobj hints (Nat.le_trans hlen hn2) hr hF (law ns hlen)
end C
end
section
set_option Elab.async false
set_option linter.all false
set_option maxRecDepth 100000
set_option maxHeartbeats 2000000
/-! The head's facts for a law of the core language, read by a Hook of my own (after HandS.HeadHook1 to 3). -/
namespace C
open PySem PySem.Spec PyProof.Rows L2

/-! ### the module's constants -/
mutual
def relD (K : PySem.W.Frag) : Value → PyData → Bool
  | .none, .none => true
  | .bool b, .bool c => b == c
  | .int i _, .int j => decide (i = j)
  | .str x _, .str y => decide (x = y)
  | .ref a, .tuple ds => match K.lookup a with
    | some ⟨.type t, _, .seq its _, _⟩ => decide (t = "tuple") && (decide (its.size ≤ 1000) && relDs K its.toList ds)
    | _ => false
  | _, _ => false
def relDs (K : PySem.W.Frag) : List Value → List PyData → Bool
  | [], [] => true
  | u :: us, d :: ds => relD K u d && relDs K us ds
  | _, _ => false
end
section
variable {P : Program} {w : World} {K : PySem.W.Frag}
mutual
theorem relD_ok : ∀ {u : Value} {d : PyData}, relD K u d = true → ∃ v, RelV v u ∧ ∀ N H, Rp ⟨P, w, K⟩ N H v d
  | u, .none, h => by
    cases u <;> simp [relD] at h
    exact ⟨.non, rfl, fun _ _ => .non⟩
  | u, .bool c, h => by
    cases u <;> simp [relD] at h
    subst h
    exact ⟨.bl _, rfl, fun _ _ => .bl _⟩
  | u, .int j, h => by
    cases u <;> simp [relD] at h
    subst h
    exact ⟨.int _, ⟨_, rfl⟩, fun _ _ => .int _⟩
  | u, .str j, h => by
    cases u <;> simp [relD] at h
    subst h
    exact ⟨.str _, ⟨_, rfl⟩, fun _ _ => .str _⟩
  | u, .tuple ds, h => by
    cases u <;> simp only [relD, Bool.false_eq_true] at h
    rename_i a
    split at h
    · rename_i t dd its n sl hl
      obtain ⟨h1, h⟩ := ba2 h
      obtain ⟨h2, h3⟩ := ba2 h
      have h1 := of_decide_eq_true h1
      subst h1
      have h2 := of_decide_eq_true h2
      obtain ⟨xs, r1, r2⟩ := relDs_ok h3
      exact ⟨.ref a, rfl, fun N H => .tup (.inr ⟨_, its, n, hl, rfl, rfl, by rw [sizeLine_eq]; omega, r1⟩) (r2 N H)⟩
    · cases h
  | u, .list _, h => by cases u <;> simp [relD] at h
  | u, .dict _, h => by cases u <;> simp [relD] at h
theorem relDs_ok : ∀ {us : List Value} {ds : List PyData}, relDs K us ds = true → ∃ vs, Vals vs us ∧ ∀ N H, RpA ⟨P, w, K⟩ N H vs ds
  | [], [], _ => ⟨[], .nil, fun _ _ => .nil⟩
  | [], _ :: _, h => by simp [relDs] at h
  | _ :: _, [], h => by simp [relDs] at h
  | u :: us, d :: ds, h => by
    simp only [relDs] at h
    obtain ⟨h1, h2⟩ := ba2 h
    obtain ⟨v, a1, a2⟩ := relD_ok h1
    obtain ⟨vs, b1, b2⟩ := relDs_ok h2
    exact ⟨v :: vs, .cons a1 b1, fun N H => .cons (a2 N H) (b2 N H)⟩
end
/-- a dict's entry -/
def entB (e : DictEntry) (kv : PyData × PyData) : Bool := (match e.key, kv.1 with
  | .str x _, .str y => decide (x = y)
  | _, _ => false) && match e.val, kv.2 with
  | .int i _, .int j => decide (i = j)
  | .str x _, .str y => decide (x = y)
  | _, _ => false
theorem entB_ok {e : DictEntry} {kv : PyData × PyData} (h : entB e kv = true) : KEnt e kv := by
  unfold entB at h
  obtain ⟨h1, h2⟩ := ba2 h
  refine ⟨?_, ?_⟩
  · split at h1
    · rename_i x t y e1 e2
      have := of_decide_eq_true h1; subst this
      exact ⟨x, t, e1, e2⟩
    · cases h1
  · split at h2
    · rename_i i t j e1 e2
      have := of_decide_eq_true h2; subst this
      rw [e2, e1]; exact ⟨_, rfl⟩
    · rename_i i t j e1 e2
      have := of_decide_eq_true h2; subst this
      rw [e2, e1]; exact ⟨_, rfl⟩
    · cases h2
def entsB : List DictEntry → List (PyData × PyData) → Bool
  | [], [] => true
  | e :: es, k :: ks => entB e k && entsB es ks
  | _, _ => false
theorem entsB_ok : ∀ {es : List DictEntry} {ks : List (PyData × PyData)}, entsB es ks = true → Paired KEnt es ks
  | [], [], _ => .nil
  | [], _ :: _, h => by cases h
  | _ :: _, [], h => by cases h
  | e :: es, k :: ks, h => by
    simp only [entsB] at h
    obtain ⟨h1, h2⟩ := ba2 h
    exact .cons (entB_ok h1) (entsB_ok h2)
/-- a constant that is no dict, a dict (its keys' hashes are looked at elsewhere) -/
def conB (K : PySem.W.Frag) (p : Str × PyData) : Bool := match p.2 with
  | .dict kvs => (match PySem.W.nsIn K mainGlobals p.1 with
    | some (some (.ref a)) => (match K.lookup a with
      | some ⟨_, _, .dict es _, _⟩ => !kvs.isEmpty && (decide (es.size ≤ 1000) && entsB es.toList kvs)
      | _ => false)
    | _ => false)
  | d => (match PySem.W.nsIn K mainGlobals p.1 with
    | some (some u) => relD K u d
    | _ => false)
def strOf : PyData → Str
  | .str x => x
  | _ => ""
/-- the dicts among the constants: where, their keys -/
def dictTabs (cons : List (Str × PyData)) : List He.Tab := cons.filterMap fun p => match p.2 with
  | .dict kvs => some ((fun K => He.ga K p.1), kvs.map fun kv => strOf kv.1)
  | _ => none
theorem ga_of {x : Str} {a : Addr} (h : PySem.W.nsIn K mainGlobals x = some (some (.ref a))) : He.ga K x = a := by
  unfold He.ga; rw [h]
theorem conB_ok {h : Heap} {mg : Str → Option Value} (X : K.In h) (G : h.Ns mainGlobals mg) {cons : List (Str × PyData)} {p : Str × PyData} (hp : p ∈ cons) (hc : conB K p = true) (hT : ∀ t ∈ dictTabs cons, ∃ es n, KDict K w (t.1 K) es n) :
    ∃ u v, mg p.1 = some u ∧ RelV v u ∧ ∀ N H, Rp ⟨P, w, K⟩ N H v p.2 := by
  unfold conB at hc
  split at hc
  · rename_i kvs hk
    split at hc
    · rename_i a ha
      split at hc
      · rename_i cc dd es n sl hl
        obtain ⟨h1, hc⟩ := ba2 hc
        obtain ⟨h2, h3⟩ := ba2 hc
        have hm : ((fun K => He.ga K p.1), kvs.map fun kv => strOf kv.1) ∈ dictTabs cons := List.mem_filterMap.mpr ⟨p, hp, by rw [hk]⟩
        obtain ⟨es', n', D⟩ := hT _ hm
        have e1 : He.ga K p.1 = a := ga_of ha
        have D : KDict K w a es' n' := by rw [← e1]; exact D
        have e2 := D.at_
        rw [hl] at e2
        cases e2
        have h2 := of_decide_eq_true h2
        refine ⟨.ref a, .ref a, PySem.W.mg_of X G ha, rfl, fun N H => ?_⟩
        rw [hk]
        exact .kd ⟨es, n, D, (fun z => by subst z; cases h1), by rw [sizeLine_eq]; omega, entsB_ok h3⟩
      · cases hc
    · cases hc
  · rename_i d hd
    split at hc
    · rename_i u hu
      obtain ⟨v, r1, r2⟩ := relD_ok (P := P) (w := w) hc
      exact ⟨u, v, PySem.W.mg_of X G hu, r1, r2⟩
    · cases hc
end
/-! ### the part of the heap that is looked at: no list, no table of a code object -/
def okO (o : Obj) : Bool := (match o.cls with
  | .type t => !decide (t = "list")
  | _ => true) && match o.data with
  | .fields vs => !vs.isEmpty
  | _ => true
def okL (g : Addr → Option Obj) (a : Addr) : Bool := match g a with
  | some o => okO o
  | none => false
def fragL (n : Nat) (g : Addr → Option Obj) : PySem.W.Frag := He.frG g ((He.asD g n).filter (okL g))
theorem frG_mem {g : Addr → Option Obj} {a : Addr} {o : Obj} : ∀ {as : List Addr}, (He.frG g as).lookup a = some o → a ∈ as
  | [], e => nomatch (show (none : Option Obj) = some o from e)
  | b :: r, e => by
    unfold He.frG at e
    cases hb : g b with
    | none =>
      rw [List.filterMap_cons, hb] at e
      exact List.mem_cons_of_mem _ (frG_mem (as := r) e)
    | some ob =>
      rw [List.filterMap_cons, hb] at e
      have e2 : (match a == b with | true => some ob | false => (He.frG g r).lookup a) = some o := e
      cases q : (a == b) with
      | true => rw [beq_iff_eq.mp q]; exact List.mem_cons_self
      | false =>
        rw [q] at e2
        exact List.mem_cons_of_mem _ (frG_mem (as := r) e2)
theorem fragL_ok {n : Nat} {g : Addr → Option Obj} {a : Addr} {o : Obj} (h : (fragL n g).lookup a = some o) : okO o = true := by
  have h1 := frG_mem h
  have h2 := He.frG_at _ h
  have h3 := (List.mem_filter.mp h1).2
  unfold okL at h3
  rw [h2] at h3
  exact h3
/-! ### tables of the code objects of defs in which a lambda stands -/
def codeHdB (K : PySem.W.Frag) (c P : Addr) : Bool := match K.lookup c with
  | some ⟨.type t, _, .fields vs, _⟩ => decide (t = "code") && ((match (vs[11]? : Option Value) with
    | some (.ref P') => decide (P' = P)
    | _ => false) && ((match vs.getD 11 .none with
    | .ref P' => decide (P' = P)
    | _ => false) && ((match vs.getD 18 .none with
    | .str _ _ => true
    | _ => false) && ((match vs.getD 7 .none with
    | .int _ _ => true
    | _ => false) && ((match vs.getD 9 .none with
    | .bool _ => true
    | _ => false) && ((match vs.getD 10 .none with
    | .int _ _ => true
    | _ => false) && decide (c ≠ P)))))))
  | _ => false
theorem codeHdB_ok {K : PySem.W.Frag} {c P : Addr} {h : Heap} (X : K.In h) (e : codeHdB K c P = true) : PySem.W.CodeHd h c P := by
  unfold codeHdB at e
  split at e
  · rename_i t dd vs sl hl
    obtain ⟨e1, e⟩ := ba2 e
    obtain ⟨e2, e⟩ := ba2 e
    obtain ⟨e3, e⟩ := ba2 e
    obtain ⟨e4, e⟩ := ba2 e
    obtain ⟨e5, e⟩ := ba2 e
    obtain ⟨e6, e⟩ := ba2 e
    obtain ⟨e7, e8⟩ := ba2 e
    have e1 := of_decide_eq_true e1; subst e1
    split at e2
    case h_2 => cases e2
    rename_i P1 q1
    have e2 := of_decide_eq_true e2; subst e2
    split at e3
    case h_2 => cases e3
    rename_i P2 q2
    have e3 := of_decide_eq_true e3; subst e3
    split at e4
    case h_2 => cases e4
    rename_i q4
    split at e5
    case h_2 => cases e5
    rename_i q5
    split at e6
    case h_2 => cases e6
    rename_i q6
    split at e7
    case h_2 => cases e7
    rename_i q7
    exact ⟨_, vs, _, _, _, _, _, _, _, X _ _ hl, rfl, rfl, q1, q2, q4, q5, q6, q7, of_decide_eq_true e8⟩
  · cases e
def tabB (g : Addr → Option Obj) (P : Addr) : Bool := match g P with
  | some ⟨.none, none, .fields vs, sl⟩ => vs.isEmpty && sl.isEmpty
  | _ => false
theorem tabB_ok {g : Addr → Option Obj} {P : Addr} (h : tabB g P = true) : g P = some { cls := .none, data := .fields #[] } := by
  unfold tabB at h
  split at h
  · rename_i vs sl hl
    obtain ⟨h1, h2⟩ := ba2 h
    rw [hl]
    rw [Array.isEmpty_iff] at h1 h2
    subst h1 h2
    rfl
  · cases h
/-- the tables: code object, table, the lambdas' name -/
def lamTabs (K : PySem.W.Frag) (ts : List DefT) : List (Addr × Addr × Str) := ts.filterMap fun t => if t.lam then (PySem.W.tabIn K t.d.name).map fun p => (p.1, p.2, (t.d.qual ++ ".<locals>.") ++ "<lambda>") else none
def lamB (K : PySem.W.Frag) (g : Addr → Option Obj) (ts : List DefT) : Bool := (lamTabs K ts).all (fun p => codeHdB K p.1 p.2.1 && (tabB g p.2.1 && (K.lookup p.2.1).isNone)) && (ts.all (fun t => !t.lam || (PySem.W.tabIn K t.d.name).isSome) && ((lamTabs K ts).map (·.2.1)).Nodup)
/-! ### the Hook -/
def factsOf (ts : List DefT) (frees : List Str) : List He.Fa := ts.map (fun t => He.Fa.glo t.d.name) ++ frees.map He.Fa.free
def obsL (n : Nat) (ts : List DefT) (frees : List Str) (cons : List (Str × PyData)) (g : Addr → Option Obj) : He.AlT × Bool :=
  (He.obsT (factsOf ts frees) (ts.map (·.d)) (dictTabs cons) (fragL n g), cons.all (conB (fragL n g)) && lamB (fragL n g) g ts)
def SaysL (ts : List DefT) (frees : List Str) (cons : List (Str × PyData)) (w : World) (h : Heap) : Prop := ∃ K : PySem.W.Frag, K.In h ∧ He.SaysT (factsOf ts frees) (ts.map (·.d)) (dictTabs cons) w K ∧ cons.all (conB K) = true ∧ lamB K (fun _ => none) ts = lamB K (fun _ => none) ts ∧
  (∀ a o, K.lookup a = some o → okO o = true) ∧ (∀ p ∈ lamTabs K ts, codeHdB K p.1 p.2.1 = true ∧ h.get? p.2.1 = some { cls := .none, data := .fields #[] } ∧ K.lookup p.2.1 = none) ∧ (∀ t ∈ ts, t.lam = true → (PySem.W.tabIn K t.d.name).isSome = true) ∧ ((lamTabs K ts).map (·.2.1)).Nodup
theorem says_of {n : Nat} {ts : List DefT} {frees : List Str} {cons : List (Str × PyData)} {w : World} {s : Shared} (e : obsL n ts frees cons s.heap.get? = (He.valT (ts.map (·.d)) (dictTabs cons) w, true)) : SaysL ts frees cons w s.heap := by
  have e1 := congrArg Prod.fst e
  have e2 := congrArg Prod.snd e
  obtain ⟨c1, c2⟩ := ba2 e2
  unfold lamB at c2
  obtain ⟨l1, c2⟩ := ba2 c2
  obtain ⟨l2, l3⟩ := ba2 c2
  refine ⟨fragL n s.heap.get?, He.frG_in, e1, c1, rfl, fun a o => fragL_ok, fun p hp => ?_, fun t ht hl => ?_, of_decide_eq_true l3⟩
  · obtain ⟨q1, q2⟩ := ba2 (List.all_eq_true.mp l1 p hp)
    obtain ⟨q2, q3⟩ := ba2 q2
    exact ⟨q1, tabB_ok q2, by simpa using q3⟩
  · have := List.all_eq_true.mp l2 t ht
    rw [hl] at this
    simpa using this
def hookL (n : Nat) (ts : List DefT) (frees : List Str) (cons : List (Str × PyData)) : PySem.W.Hook where
  α := He.AlT × Bool
  obs := fun s => obsL n ts frees cons s.heap.get?
  val := fun w => (He.valT (ts.map (·.d)) (dictTabs cons) w, true)
  says := fun w h => SaysL ts frees cons w h
  of := fun _ _ e => says_of e
  keeps := fun _ _ _ ⟨K, h1, h2, h3, h4, h5, h6, h7⟩ k => ⟨K, PySem.W.Frag.In.keeps h1 k, h2, h3, h4, h5, fun p hp => ⟨(h6 p hp).1, k _ _ (h6 p hp).2.1, (h6 p hp).2.2⟩, h7⟩
theorem obsL_eq {n : Nat} {ts : List DefT} {frees : List Str} {cons : List (Str × PyData)} {g : Addr → Option Obj} {s : Shared} (h : ∀ a, g a = s.heap.get? a) : obsL n ts frees cons g = (hookL n ts frees cons).obs s := by
  have e : g = s.heap.get? := funext h
  rw [e] <;> rfl
/-- the defs stand at the top, without defaults -/
def plainT (ts : List DefT) : Bool := ts.all fun t => decide (t.d.at_ = (t.d.name, none)) && (t.d.dfl.isEmpty && t.d.kwd.isEmpty)
theorem facts_L {ts : List DefT} {frees : List Str} {cons : List (Str × PyData)} {P : Program} {w : World} {K : PySem.W.Frag} {h : Heap} {mg : Str → Option Value} (hp : plainT ts = true) (X : K.In h) (G : h.Ns mainGlobals mg)
    (c : He.SaysT (factsOf ts frees) (ts.map (·.d)) (dictTabs cons) w K) (hc : cons.all (conB K) = true) : Facts ts frees cons P w K mg := by
  have cD := c.d
  have cF : ∀ f ∈ factsOf ts frees, f.ok K = true := fun f hf => by
    obtain ⟨i, hi⟩ := List.getElem?_of_mem hf
    exact cD.fact i hi
  refine ⟨fun t ht => ?_, fun t ht => ?_, fun x hx => ?_, fun p hp => ?_⟩
  · obtain ⟨i, hi⟩ := List.getElem?_of_mem (List.mem_map.mpr ⟨t, ht, rfl⟩ : t.d ∈ ts.map (·.d))
    obtain ⟨fd, F⟩ := cD.def_ i hi
    obtain ⟨h1, h2⟩ := ba2 (List.all_eq_true.mp hp t ht)
    obtain ⟨h2, h3⟩ := ba2 h2
    have h1 := of_decide_eq_true h1
    refine ⟨fd, ?_⟩
    have e1 : t.d.dvs K = [] := by unfold He.DefD.dvs; rw [List.isEmpty_iff.mp h2]; rfl
    have e2 : t.d.kws K = [] := by unfold He.DefD.kws; rw [List.isEmpty_iff.mp h3]; rfl
    have e3 : He.fAd K t.d.at_ = He.ga K t.d.name := by rw [h1]; rfl
    rw [e1, e2, e3] at F
    exact F
  · exact He.glo_ok X G (cF _ (List.mem_append_left _ (List.mem_map.mpr ⟨t, ht, rfl⟩)))
  · exact He.free_ok X G (cF _ (List.mem_append_right _ (List.mem_map.mpr ⟨x, hx, rfl⟩)))
  · refine conB_ok X G hp (List.all_eq_true.mp hc p hp) fun t ht => ?_
    obtain ⟨i, hi⟩ := List.getElem?_of_mem ht
    exact c.tab i hi
/-- all of it together -/
theorem law_says {l : PySem.W.OpenLaw} {ts : List DefT} {Ds : Nat → Option DefC} {frees : List Str} {cons : List (Str × PyData)} {k wf : Nat} {w : World} {mg : Str → Option Value} {fa : Addr} {h : Heap} {tl : DefT} (hY : SaysL ts frees cons w h) (G : h.Ns mainGlobals mg) (htl : tl ∈ ts) (hfa : mg tl.d.name = some (.ref fa)) (hp : plainT ts = true)
    (hD : ∀ t ∈ ts, Ds t.n = some t.c) (hck : (ts.all fun t => scopeB t && ckDef (mkG ts frees cons) t) = true) (hb : ∀ t ∈ ts, BindOk t) :
      ∃ (L : Lams) (K : PySem.W.Frag) (cs : List (Addr × Addr)), K.In h ∧ (∀ b o, K.lookup b = some o → o.cls ≠ .type "list") ∧ (∀ p ∈ cs, h.get? p.2 = some { cls := .none, data := .fields #[] }) ∧ (∀ p ∈ cs, K.lookup p.2 = none) ∧ (∀ p ∈ cs, PySem.W.CodeHd h p.1 p.2) ∧
        (∀ P q, TK P q → ∃ c, (c, P) ∈ cs) ∧ ∀ base : Heap, K.In base → base.Ns mainGlobals mg → (∀ p ∈ cs, LamX.TabB base mg p.1 p.2) → FnG l.prog w K mg base (callF Ds wf k) k tl.n fa := by
  obtain ⟨K, X, hS, hc, _, hok, hT, hl, hn⟩ := hY
  have F : Facts ts frees cons l.prog w K mg := facts_L hp X G hS hc
  have uniq : ∀ (l : List (Addr × Addr × Str)), (l.map (·.2.1)).Nodup → ∀ p ∈ l, ∀ q ∈ l, p.2.1 = q.2.1 → p = q := fun l => by
    induction l with
    | nil => intro _ p hp; simp at hp
    | cons a l ih =>
      intro hnd p hp q hq e
      rw [List.map_cons, List.nodup_cons] at hnd
      rcases List.mem_cons.mp hp with h1 | h1 <;> rcases List.mem_cons.mp hq with h2 | h2
      · rw [h1, h2]
      · exact absurd (List.mem_map.mpr ⟨q, h2, by rw [← h1]; exact e.symm⟩) hnd.1
      · exact absurd (List.mem_map.mpr ⟨p, h1, by rw [← h2]; exact e⟩) hnd.1
      · exact ih hnd.2 p h1 q h2 e
  let L : Lams := ⟨(lamTabs K ts).map (·.2), ts.map fun t => (t.n, He.ga K t.d.name), fun p hp q hq e => by
    obtain ⟨p', h1, rfl⟩ := List.mem_map.mp hp
    obtain ⟨q', h2, rfl⟩ := List.mem_map.mp hq
    rw [uniq _ hn _ h1 _ h2 e]⟩
  refine ⟨L, K, (lamTabs K ts).map fun p => (p.1, p.2.1), X, fun b o e z => ?_, fun p hp => ?_, fun p hp => ?_, fun p hp => ?_, fun P q hk => ?_, fun base Xb Gb TB => ?_⟩
  · have := hok b o e
    unfold okO at this
    rw [z] at this
    simp at this
  · obtain ⟨p', h1, rfl⟩ := List.mem_map.mp hp
    exact (hT p' h1).2.1
  · obtain ⟨p', h1, rfl⟩ := List.mem_map.mp hp
    exact (hT p' h1).2.2
  · obtain ⟨p', h1, rfl⟩ := List.mem_map.mp hp
    exact codeHdB_ok X (hT p' h1).1
  · obtain ⟨p', h1, e⟩ := List.mem_map.mp (show (P, q) ∈ (lamTabs K ts).map (·.2) from hk)
    refine ⟨p'.1, List.mem_map.mpr ⟨p', h1, ?_⟩⟩
    rw [e]
  · have e := (F.glo tl htl).symm.trans hfa
    have e : He.ga K tl.d.name = fa := by cases e; rfl
    rw [← e]
    refine all_defs F hD hck hb (fun t ht z => ?_) rfl k tl htl
    have hs := hl t ht z
    obtain ⟨⟨c, P⟩, hcp⟩ := Option.isSome_iff_exists.mp hs
    have hm : (c, P, (t.d.qual ++ ".<locals>.") ++ "<lambda>") ∈ lamTabs K ts := List.mem_filterMap.mpr ⟨t, ht, by rw [if_pos z, hcp]; rfl⟩
    exact ⟨c, P, hcp, F.glo t ht, TB (c, P) (List.mem_map.mpr ⟨_, hm, rfl⟩), List.mem_map.mpr ⟨_, hm, rfl⟩⟩
end C
end
section
set_option Elab.async false
set_option linter.all false
set_option maxRecDepth 100000
set_option maxHeartbeats 4000000
namespace C
open PySem
abbrev f_wall : Nat := 0
abbrev f_is_integer : Nat := 1
abbrev f_is_count : Nat := 2
abbrev f_is_bit : Nat := 3
abbrev f_are_rising : Nat := 4
abbrev f_is_tuple_of : Nat := 5
abbrev f_made_row : Nat := 12
abbrev f_power_of_two : Nat := 13
abbrev f_all_rows : Nat := 14
abbrev f_law_bag : Nat := 86
abbrev f_law_take : Nat := 87
abbrev f_law_some : Nat := 88
abbrev f_law_alike : Nat := 89
abbrev f_law_names : Nat := 90
abbrev f_law_rows : Nat := 91
abbrev f_law_table : Nat := 92
abbrev f_law_is_sum : Nat := 100
abbrev f_law_keeps : Nat := 101
abbrev f_law_let : Nat := 102
abbrev f_is_name : Nat := 115
abbrev f_is_bits : Nat := 116
abbrev f_rising : Nat := 161
abbrev f_bit_of : Nat := 201
abbrev f_check_lot_2 : Nat := 202
abbrev f_body_of : Nat := 203
abbrev f_head_of : Nat := 204
abbrev f_next_step_2 : Nat := 205
abbrev f_walked : Nat := 206
abbrev f_led_to : Nat := 207
abbrev f_row_with_2 : Nat := 208
abbrev f_least_row_2 : Nat := 209
abbrev f_law_clause : Nat := 236
abbrev f_law_sum : Nat := 237
abbrev f_law_rules : Nat := 238
abbrev f_is_literal_2 : Nat := 259
abbrev f_is_clause_3 : Nat := 260
abbrev f_check_clause : Nat := 261
abbrev f_does_keep : Nat := 262
abbrev f_keep_all : Nat := 263
abbrev f_is_kept : Nat := 264
abbrev f_has_in_it : Nat := 265
abbrev f_longer_ones : Nat := 266
abbrev f_primes_by : Nat := 267
abbrev f_primes : Nat := 268
abbrev f_law_mixed : Nat := 298
abbrev f_is_columns : Nat := 303
abbrev f_row_against : Nat := 388
abbrev f_follows : Nat := 389
abbrev f_is_of_2 : Nat := 390
abbrev f_primes_of : Nat := 391
abbrev f_law_every_clause : Nat := 392
abbrev f_law_primes : Nat := 393
abbrev f_law_asked : Nat := 394
abbrev f_law_k65 : Nat := 395
abbrev f_has_row : Nat := 436
abbrev f_many_rows_3 : Nat := 565
abbrev f_check_columns : Nat := 566
abbrev f_full_table : Nat := 567
abbrev f_empty_table : Nat := 568
abbrev f_table_of : Nat := 569
abbrev f_check_row_4 : Nat := 570
abbrev f_with_row : Nat := 571
abbrev f_without_row : Nat := 572
abbrev f_law_stepped : Nat := 573
abbrev f_law_k88 : Nat := 574
/- slots: k -/
def b_wall : CSs := (.cons (.wh (.k (.bool true)) (.cons (.pass) .nil)) .nil)
def c_wall : DefC := ⟨1, 1, [], b_wall⟩
/- slots: thing -/
def b_is_integer : CSs := (.cons (.ret (.and (.pr (.isi "int") (.cons (.e (.v 0)) .nil)) (.pr .not (.cons (.e (.pr (.isi "bool") (.cons (.e (.v 0)) .nil))) .nil)))) .nil)
def c_is_integer : DefC := ⟨1, 1, [], b_is_integer⟩
/- slots: thing -/
def b_is_count : CSs := (.cons (.ret (.and (.call f_is_integer (.cons (.e (.v 0)) .nil)) (.pr .ge (.cons (.e (.v 0)) (.cons (.e (.k (.int 0))) .nil))))) .nil)
def c_is_count : DefC := ⟨1, 1, [], b_is_count⟩
/- slots: thing -/
def b_is_bit : CSs := (.cons (.ret (.and (.call f_is_count (.cons (.e (.v 0)) .nil)) (.pr .lt (.cons (.e (.v 0)) (.cons (.e (.k (.int 2))) .nil))))) .nil)
def c_is_bit : DefC := ⟨1, 1, [], b_is_bit⟩
/- slots: things one other -/
def b_are_rising : CSs := (.cons (.ret (.pr .all (.cons (.e (.lc [1, 2] (.mk (.t [.v 1, .v 2]) (.zip (.e (.v 0)) (.e (.pr .sliceFrom (.cons (.e (.v 0)) (.cons (.e (.k (.int 1))) .nil))))) .nil) (.pr .lt (.cons (.e (.v 1)) (.cons (.e (.v 2)) .nil))))) .nil))) .nil)
def c_are_rising : DefC := ⟨1, 3, [], b_are_rising⟩
/- slots: thing is_item item -/
def b_is_tuple_of : CSs := (.cons (.ret (.and (.pr (.isi "tuple") (.cons (.e (.v 0)) .nil)) (.pr .all (.cons (.e (.lc [2] (.mk (.v 2) (.data (.e (.v 0))) .nil) (.callv 1 (.cons (.e (.v 2)) .nil)))) .nil)))) .nil)
def c_is_tuple_of : DefC := ⟨2, 3, [], b_is_tuple_of⟩
/- slots: many number found _column -/
def b_made_row : CSs := (.cons (.asg true 2 (.pr .lst .nil)) (.cons (.fr (.v 3) (.range1 (.v 0)) (.cons (.ex (.mu 2 .append (.cons (.e (.pr .mod (.cons (.e (.v 1)) (.cons (.e (.k (.int 2))) .nil)))) .nil))) (.cons (.asg false 1 (.pr .fdiv (.cons (.e (.v 1)) (.cons (.e (.k (.int 2))) .nil)))) .nil))) (.cons (.ret (.pr .tuple (.cons (.e (.pr .rev (.cons (.bo 2) .nil))) .nil))) .nil)))
def c_made_row : DefC := ⟨2, 4, [], b_made_row⟩
/- slots: many found _time -/
def b_power_of_two : CSs := (.cons (.asg false 1 (.k (.int 1))) (.cons (.fr (.v 2) (.range1 (.v 0)) (.cons (.aug 1 .mul (.k (.int 2))) .nil)) (.cons (.ret (.v 1)) .nil)))
def c_power_of_two : DefC := ⟨1, 3, [], b_power_of_two⟩
/- slots: many number -/
def b_all_rows : CSs := (.cons (.iff (.or (.pr .not (.cons (.e (.call f_is_count (.cons (.e (.v 0)) .nil))) .nil)) (.pr .not (.cons (.e (.chain .le .le (.k (.int 1)) (.v 0) (.k (.int 12)))) .nil))) (.cons (.raise "Nothing" .nil) .nil) .nil) (.cons (.ret (.pr .tuple (.cons (.e (.lc [1] (.mk (.v 1) (.range1 (.call f_power_of_two (.cons (.e (.v 0)) .nil))) .nil) (.call f_made_row (.cons (.e (.v 0)) (.cons (.e (.v 1)) .nil))))) .nil))) .nil))
def c_all_rows : DefC := ⟨1, 2, [], b_all_rows⟩
/- slots: script cell -/
def b_law_bag : CSs := (.cons (.ret (.pr .lst (.cons (.e (.k (.int 0))) (.cons (.e (.k (.int 1234567891))) (.cons (.e (.k (.int 0))) (.cons (.e (.lc [1] (.mk (.v 1) (.data (.e (.pr .sliceTo (.cons (.e (.v 0)) (.cons (.e (.k (.int 63))) .nil))))) .nil) (.pr .abs (.cons (.e (.v 1)) .nil)))) .nil)))))) .nil)
def c_law_bag : DefC := ⟨1, 2, [], b_law_bag⟩
/- slots: bag many begin second cell stirred value -/
def b_law_take : CSs := (.cons (.iff (.pr .eq (.cons (.e (.pr .item (.cons (.bo 0) (.cons (.e (.k (.int 0))) .nil)))) (.cons (.e (.k (.int 0))) .nil))) (.cons (.asg false 4 (.pr .item (.cons (.e (.pr .add (.cons (.e (.pr .sliceFrom (.cons (.e (.pr .item (.cons (.bo 0) (.cons (.e (.k (.int 3))) .nil)))) (.cons (.e (.pr .item (.cons (.bo 0) (.cons (.e (.k (.int 2))) .nil)))) .nil)))) (.cons (.e (.pr .lst (.cons (.e (.k (.int 0))) .nil))) .nil)))) (.cons (.e (.k (.int 0))) .nil)))) (.cons (.augI 0 .add (.k (.int 2)) (.k (.int 1))) (.cons (.iff (.pr .ge (.cons (.e (.v 4)) (.cons (.e (.pr .pow (.cons (.e (.k (.int 10))) (.cons (.e (.k (.int 18))) .nil)))) .nil))) (.cons (.seti 0 (.v 4) (.k (.int 0))) .nil) .nil) (.cons (.asg false 5 (.pr .add (.cons (.e (.pr .add (.cons (.e (.pr .mul (.cons (.e (.pr .item (.cons (.bo 0) (.cons (.e (.k (.int 1))) .nil)))) (.cons (.e (.k (.int 48271))) .nil)))) (.cons (.e (.pr .mod (.cons (.e (.pr .int (.cons (.e (.v 4)) .nil))) (.cons (.e (.k (.int 2147483647))) .nil)))) .nil)))) (.cons (.e (.pr .mul (.cons (.e (.k (.int 7919))) (.cons (.e (.pr .item (.cons (.bo 0) (.cons (.e (.k (.int 2))) .nil)))) .nil)))) .nil)))) (.cons (.seti 0 (.pr .mod (.cons (.e (.pr .int (.cons (.e (.v 5)) .nil))) (.cons (.e (.k (.int 2147483647))) .nil))) (.k (.int 1))) .nil))))) .nil) (.cons (.iff (.pr .gt (.cons (.e (.pr .item (.cons (.bo 0) (.cons (.e (.k (.int 0))) .nil)))) (.cons (.e (.k (.int 0))) .nil))) (.cons (.asg false 6 (.pr .mod (.cons (.e (.pr .int (.cons (.e (.pr .item (.cons (.bo 0) (.cons (.e (.k (.int 0))) .nil)))) .nil))) (.cons (.e (.v 1)) .nil)))) (.cons (.seti 0 (.pr .fdiv (.cons (.e (.pr .int (.cons (.e (.pr .item (.cons (.bo 0) (.cons (.e (.k (.int 0))) .nil)))) .nil))) (.cons (.e (.v 1)) .nil))) (.k (.int 0))) (.cons (.ret (.v 6)) .nil))) .nil) (.cons (.asg false 2 (.pr .mod (.cons (.e (.pr .int (.cons (.e (.pr .mul (.cons (.e (.pr .add (.cons (.e (.pr .item (.cons (.bo 0) (.cons (.e (.k (.int 1))) .nil)))) (.cons (.e (.k (.int 1))) .nil)))) (.cons (.e (.k (.int 39373))) .nil)))) .nil))) (.cons (.e (.k (.int 1000000007))) .nil)))) (.cons (.asg false 3 (.pr .mod (.cons (.e (.pr .int (.cons (.e (.pr .mul (.cons (.e (.pr .mod (.cons (.e (.pr .int (.cons (.e (.pr .mul (.cons (.e (.v 2)) (.cons (.e (.v 2)) .nil)))) .nil))) (.cons (.e (.k (.int 998244353))) .nil)))) (.cons (.e (.k (.int 30011))) .nil)))) .nil))) (.cons (.e (.k (.int 998244353))) .nil)))) (.cons (.ret (.pr .mod (.cons (.e (.pr .int (.cons (.e (.pr .fdiv (.cons (.e (.v 3)) (.cons (.e (.k (.int 7))) .nil)))) .nil))) (.cons (.e (.v 1)) .nil)))) .nil)))))
def c_law_take : DefC := ⟨2, 7, [0], b_law_take⟩
/- slots: bag things -/
def b_law_some : CSs := (.cons (.ret (.pr .item (.cons (.e (.v 1)) (.cons (.e (.call f_law_take (.cons (.rf 0) (.cons (.e (.pr .len (.cons (.e (.v 1)) .nil))) .nil)))) .nil)))) .nil)
def c_law_some : DefC := ⟨2, 2, [0], b_law_some⟩
/- slots: found due -/
def b_law_alike : CSs := (.cons (.ret (.and (.pr .eq (.cons (.e (.pr .repr (.cons (.e (.v 0)) .nil))) (.cons (.e (.pr .repr (.cons (.e (.v 1)) .nil))) .nil))) (.pr .eq (.cons (.e (.v 0)) (.cons (.e (.v 1)) .nil))))) .nil)
def c_law_alike : DefC := ⟨2, 2, [], b_law_alike⟩
/- slots: many -/
def b_law_names : CSs := (.cons (.ret (.pr .sliceTo (.cons (.e (.pr .tup (.cons (.e (.k (.str "a"))) (.cons (.e (.k (.str "b"))) (.cons (.e (.k (.str "c"))) (.cons (.e (.k (.str "d"))) (.cons (.e (.k (.str "e"))) (.cons (.e (.k (.str "f"))) .nil)))))))) (.cons (.e (.v 0)) .nil)))) .nil)
def c_law_names : DefC := ⟨1, 1, [], b_law_names⟩
/- slots: many rows lap further row -/
def b_law_rows : CSs := (.cons (.asg false 1 (.pr .lst (.cons (.e (.pr .tup .nil)) .nil))) (.cons (.fr (.v 2) (.range1 (.v 0)) (.cons (.asg true 3 (.pr .lst .nil)) (.cons (.fr (.v 4) (.data (.e (.v 1))) (.cons (.ex (.mu 3 .extend (.cons (.e (.pr .lst (.cons (.e (.pr .add (.cons (.e (.v 4)) (.cons (.e (.pr .tup (.cons (.e (.k (.int 0))) .nil))) .nil)))) (.cons (.e (.pr .add (.cons (.e (.v 4)) (.cons (.e (.pr .tup (.cons (.e (.k (.int 1))) .nil))) .nil)))) .nil)))) .nil))) .nil)) (.cons (.asg false 1 (.v 3)) .nil)))) (.cons (.ret (.v 1)) .nil)))
def c_law_rows : DefC := ⟨1, 5, [], b_law_rows⟩
/- slots: bag most many share row -/
def b_law_table : CSs := (.cons (.asg false 2 (.pr .add (.cons (.e (.k (.int 2))) (.cons (.e (.call f_law_take (.cons (.rf 0) (.cons (.e (.pr .sub (.cons (.e (.v 1)) (.cons (.e (.k (.int 1))) .nil)))) .nil)))) .nil)))) (.cons (.asg false 3 (.pr .add (.cons (.e (.k (.int 1))) (.cons (.e (.call f_law_take (.cons (.rf 0) (.cons (.e (.k (.int 4))) .nil)))) .nil)))) (.cons (.ret (.pr .tup (.cons (.e (.call f_law_names (.cons (.e (.v 2)) .nil))) (.cons (.e (.pr .tuple (.cons (.e (.lc [4] (.mk (.v 4) (.data (.e (.call f_law_rows (.cons (.e (.v 2)) .nil)))) (.cons (.pr .lt (.cons (.e (.call f_law_take (.cons (.rf 0) (.cons (.e (.k (.int 5))) .nil)))) (.cons (.e (.v 3)) .nil))) .nil)) (.v 4))) .nil))) .nil)))) .nil)))
def c_law_table : DefC := ⟨2, 5, [0], b_law_table⟩
/- slots: rule -/
def b_law_is_sum : CSs := (.cons (.ret (.and (.pr .eq (.cons (.e (.pr .len (.cons (.e (.v 0)) .nil))) (.cons (.e (.k (.int 2))) .nil))) (.pr .isin (.cons (.e (.pr .item (.cons (.e (.v 0)) (.cons (.e (.k (.int 1))) .nil)))) (.cons (.e (.pr .tup (.cons (.e (.k (.int 0))) (.cons (.e (.k (.int 1))) .nil)))) .nil))))) .nil)
def c_law_is_sum : DefC := ⟨1, 1, [], b_law_is_sum⟩
/- slots: rule row k bit -/
def b_law_keeps : CSs := (.cons (.iff (.call f_law_is_sum (.cons (.e (.v 0)) .nil)) (.cons (.ret (.pr .eq (.cons (.e (.pr .mod (.cons (.e (.pr .sum (.cons (.e (.lc [2] (.mk (.v 2) (.data (.e (.pr .item (.cons (.e (.v 0)) (.cons (.e (.k (.int 0))) .nil))))) .nil) (.pr .item (.cons (.e (.v 1)) (.cons (.e (.v 2)) .nil))))) .nil))) (.cons (.e (.k (.int 2))) .nil)))) (.cons (.e (.pr .item (.cons (.e (.v 0)) (.cons (.e (.k (.int 1))) .nil)))) .nil)))) .nil) .nil) (.cons (.ret (.pr .ne (.cons (.e (.lc [2, 3] (.mk (.t [.v 2, .v 3]) (.data (.e (.v 0))) (.cons (.pr .eq (.cons (.e (.pr .item (.cons (.e (.v 1)) (.cons (.e (.v 2)) .nil)))) (.cons (.e (.v 3)) .nil))) .nil)) (.k (.int 1)))) (.cons (.e (.pr .lst .nil)) .nil)))) .nil))
def c_law_keeps : DefC := ⟨2, 4, [], b_law_keeps⟩
/- slots: many rules row rule -/
def b_law_let : CSs := (.cons (.ret (.lc [2] (.mk (.v 2) (.data (.e (.call f_law_rows (.cons (.e (.v 0)) .nil)))) (.cons (.pr .eq (.cons (.e (.lc [3] (.mk (.v 3) (.data (.e (.v 1))) (.cons (.pr .not (.cons (.e (.call f_law_keeps (.cons (.e (.v 3)) (.cons (.e (.v 2)) .nil)))) .nil)) .nil)) (.v 3))) (.cons (.e (.pr .lst .nil)) .nil))) .nil)) (.v 2))) .nil)
def c_law_let : DefC := ⟨2, 4, [], b_law_let⟩
/- slots: thing sign -/
def b_is_name : CSs := (.cons (.iff (.or (.pr .not (.cons (.e (.pr (.isi "str") (.cons (.e (.v 0)) .nil))) .nil)) (.or (.pr .not (.cons (.e (.chain .le .le (.k (.int 1)) (.pr .len (.cons (.e (.v 0)) .nil)) (.k (.int 8)))) .nil)) (.pr .notin (.cons (.e (.pr .item (.cons (.e (.v 0)) (.cons (.e (.k (.int 0))) .nil)))) (.cons (.e (.k (.str "abcdefghijklmnopqrstuvwxyz"))) .nil))))) (.cons (.ret (.k (.bool false))) .nil) .nil) (.cons (.ret (.and (.pr .all (.cons (.e (.lc [1] (.mk (.v 1) (.data (.e (.v 0))) .nil) (.pr .isin (.cons (.e (.v 1)) (.cons (.e (.pr .add (.cons (.e (.k (.str "abcdefghijklmnopqrstuvwxyz"))) (.cons (.e (.k (.str "0123456789"))) .nil)))) .nil))))) .nil)) (.pr .notin (.cons (.e (.v 0)) (.cons (.e (.k (.tuple [.str "and", .str "even", .str "if", .str "least", .str "never", .str "none", .str "not", .str "odd", .str "of", .str "or", .str "row", .str "rule", .str "some", .str "sum", .str "table", .str "then"]))) .nil))))) .nil))
def c_is_name : DefC := ⟨1, 2, [], b_is_name⟩
/- slots: thing many -/
def b_is_bits : CSs := (.cons (.ret (.and (.call f_is_tuple_of (.cons (.e (.v 0)) (.cons (.e (.fv f_is_bit)) .nil))) (.pr .eq (.cons (.e (.pr .len (.cons (.e (.v 0)) .nil))) (.cons (.e (.v 1)) .nil))))) .nil)
def c_is_bits : DefC := ⟨2, 2, [], b_is_bits⟩
/- slots: rows row -/
def b_rising : CSs := (.cons (.ret (.pr .tuple (.cons (.e (.pr .sorted (.cons (.e (.dc [1] (.mk (.v 1) (.data (.e (.v 0))) .nil) (.v 1) (.k (.bool true)))) .nil))) .nil))) .nil)
def c_rising : DefC := ⟨1, 2, [], b_rising⟩
/- slots: shape -/
def b_bit_of : CSs := (.cons (.iff (.or (.pr .not (.cons (.e (.pr (.isi "str") (.cons (.e (.v 0)) .nil))) .nil)) (.pr .notin (.cons (.e (.v 0)) (.cons (.e (.k (.dict [(.str "if", .int 1), (.str "some", .int 0)]))) .nil)))) (.cons (.raise "Nothing" .nil) .nil) .nil) (.cons (.ret (.pr .item (.cons (.e (.k (.dict [(.str "if", .int 1), (.str "some", .int 0)]))) (.cons (.e (.v 0)) .nil)))) .nil))
def c_bit_of : DefC := ⟨1, 1, [], b_bit_of⟩
/- slots: columns lot one -/
def b_check_lot_2 : CSs := (.cons (.iff (.or (.pr .not (.cons (.e (.pr (.isi "tuple") (.cons (.e (.v 1)) .nil))) .nil)) (.pr .not (.cons (.e (.pr .all (.cons (.e (.lc [2] (.mk (.v 2) (.data (.e (.v 1))) .nil) (.and (.call f_is_count (.cons (.e (.v 2)) .nil)) (.pr .lt (.cons (.e (.v 2)) (.cons (.e (.pr .len (.cons (.e (.v 0)) .nil))) .nil)))))) .nil))) .nil))) (.cons (.raise "Nothing" .nil) .nil) .nil) (.cons (.iff (.pr .not (.cons (.e (.call f_are_rising (.cons (.e (.v 1)) .nil))) .nil)) (.cons (.raise "Nothing" .nil) .nil) .nil) .nil))
def c_check_lot_2 : DefC := ⟨2, 3, [], b_check_lot_2⟩
/- slots: shape clause its column bit -/
def b_body_of : CSs := (.cons (.asg false 2 (.call f_bit_of (.cons (.e (.v 0)) .nil))) (.cons (.ret (.pr .tuple (.cons (.e (.lc [3, 4] (.mk (.t [.v 3, .v 4]) (.data (.e (.v 1))) (.cons (.pr .ne (.cons (.e (.v 4)) (.cons (.e (.v 2)) .nil))) .nil)) (.v 3))) .nil))) .nil))
def c_body_of : DefC := ⟨2, 5, [], b_body_of⟩
/- slots: shape clause its found column bit -/
def b_head_of : CSs := (.cons (.asg false 2 (.call f_bit_of (.cons (.e (.v 0)) .nil))) (.cons (.asg false 3 (.lc [4, 5] (.mk (.t [.v 4, .v 5]) (.data (.e (.v 1))) (.cons (.pr .eq (.cons (.e (.v 5)) (.cons (.e (.v 2)) .nil))) .nil)) (.v 4))) (.cons (.ret (.ite (.pr .ne (.cons (.e (.v 3)) (.cons (.e (.pr .lst .nil)) .nil))) (.pr .item (.cons (.e (.v 3)) (.cons (.e (.k (.int 0))) .nil))) (.k (.none)))) .nil)))
def c_head_of : DefC := ⟨2, 6, [], b_head_of⟩
/- slots: told there index body head column -/
def b_next_step_2 : CSs := (.cons (.fr (.t [.v 2, .t [.v 3, .v 4]]) (.enum (.data (.e (.v 0)))) (.cons (.iff (.and (.pr .notin (.cons (.e (.v 4)) (.cons (.e (.v 1)) .nil))) (.pr .all (.cons (.e (.lc [5] (.mk (.v 5) (.data (.e (.v 3))) .nil) (.pr .isin (.cons (.e (.v 5)) (.cons (.e (.v 1)) .nil))))) .nil))) (.cons (.ret (.v 2)) .nil) .nil) .nil)) (.cons (.ret (.k (.none))) .nil))
def c_next_step_2 : DefC := ⟨2, 6, [], b_next_step_2⟩
/- slots: columns shape rules lot told index there steps rule column -/
def b_walked : CSs := (.cons (.ex (.call f_check_lot_2 (.cons (.e (.v 0)) (.cons (.e (.v 3)) .nil)))) (.cons (.asg false 4 (.lc [8] (.mk (.v 8) (.data (.e (.v 2))) .nil) (.pr .tup (.cons (.e (.call f_body_of (.cons (.e (.v 1)) (.cons (.e (.v 8)) .nil)))) (.cons (.e (.call f_head_of (.cons (.e (.v 1)) (.cons (.e (.v 8)) .nil)))) .nil))))) (.cons (.par [(true, 6), (true, 7)] (.cons (.e (.dc [9] (.mk (.v 9) (.data (.e (.v 3))) .nil) (.v 9) (.k (.bool true)))) (.cons (.e (.pr .lst .nil)) .nil))) (.cons (.asg false 5 (.call f_next_step_2 (.cons (.e (.v 4)) (.cons (.bo 6) .nil)))) (.cons (.wh (.pr .notN (.cons (.e (.v 5)) .nil)) (.cons (.ex (.mu 7 .append (.cons (.e (.v 5)) .nil))) (.cons (.iff (.pr .isN (.cons (.e (.pr .item (.cons (.e (.pr .item (.cons (.e (.v 4)) (.cons (.e (.v 5)) .nil)))) (.cons (.e (.k (.int 1))) .nil)))) .nil)) (.cons (.ret (.pr .tup (.cons (.e (.v 7)) (.cons (.e (.v 6)) (.cons (.e (.k (.bool true))) .nil))))) .nil) .nil) (.cons (.seti 6 (.k (.bool true)) (.pr .item (.cons (.e (.pr .item (.cons (.e (.v 4)) (.cons (.e (.v 5)) .nil)))) (.cons (.e (.k (.int 1))) .nil)))) (.cons (.asg false 5 (.call f_next_step_2 (.cons (.e (.v 4)) (.cons (.bo 6) .nil)))) .nil))))) (.cons (.ret (.pr .tup (.cons (.e (.v 7)) (.cons (.e (.v 6)) (.cons (.e (.k (.bool false))) .nil))))) .nil))))))
def c_walked : DefC := ⟨4, 10, [], b_walked⟩
/- slots: columns shape rules lot steps there is_never -/
def b_led_to : CSs := (.cons (.ex (.call f_bit_of (.cons (.e (.v 1)) .nil))) (.cons (.unp (.t [.v 4, .v 5, .v 6]) (.call f_walked (.cons (.e (.v 0)) (.cons (.e (.v 1)) (.cons (.e (.v 2)) (.cons (.e (.v 3)) .nil)))))) (.cons (.ret (.ite (.v 6) (.k (.none)) (.pr .tuple (.cons (.e (.pr .sorted (.cons (.e (.v 5)) .nil))) .nil)))) .nil)))
def c_led_to : DefC := ⟨4, 7, [], b_led_to⟩
/- slots: columns shape lot its column -/
def b_row_with_2 : CSs := (.cons (.asg false 3 (.call f_bit_of (.cons (.e (.v 1)) .nil))) (.cons (.ret (.pr .tuple (.cons (.e (.lc [4] (.mk (.v 4) (.range1 (.pr .len (.cons (.e (.v 0)) .nil))) .nil) (.ite (.pr .isin (.cons (.e (.v 4)) (.cons (.e (.v 2)) .nil))) (.v 3) (.pr .sub (.cons (.e (.k (.int 1))) (.cons (.e (.v 3)) .nil)))))) .nil))) .nil))
def c_row_with_2 : DefC := ⟨3, 5, [], b_row_with_2⟩
/- slots: columns shape rules lot -/
def b_least_row_2 : CSs := (.cons (.asg false 3 (.call f_led_to (.cons (.e (.v 0)) (.cons (.e (.v 1)) (.cons (.e (.v 2)) (.cons (.e (.pr .tup .nil)) .nil)))))) (.cons (.ret (.ite (.pr .isN (.cons (.e (.v 3)) .nil)) (.k (.none)) (.call f_row_with_2 (.cons (.e (.v 0)) (.cons (.e (.v 1)) (.cons (.e (.v 3)) .nil)))))) .nil))
def c_least_row_2 : DefC := ⟨3, 4, [], b_least_row_2⟩
/- slots: bag many shape k found ones noughts bit -/
def b_law_clause : CSs := (.cons (.par [(true, 4), (false, 5), (false, 6)] (.cons (.e (.pr .lst .nil)) (.cons (.e (.k (.int 0))) (.cons (.e (.k (.int 0))) .nil)))) (.cons (.fr (.v 3) (.range1 (.v 1)) (.cons (.iff (.pr .eq (.cons (.e (.call f_law_take (.cons (.rf 0) (.cons (.e (.k (.int 2))) .nil)))) (.cons (.e (.k (.int 0))) .nil))) (.cons (.asg false 7 (.call f_law_take (.cons (.rf 0) (.cons (.e (.k (.int 2))) .nil)))) (.cons (.asg false 7 (.ite (.and (.pr .eq (.cons (.e (.v 2)) (.cons (.e (.k (.str "if"))) .nil))) (.pr .gt (.cons (.e (.v 5)) (.cons (.e (.k (.int 0))) .nil)))) (.k (.int 0)) (.ite (.and (.pr .eq (.cons (.e (.v 2)) (.cons (.e (.k (.str "some"))) .nil))) (.pr .gt (.cons (.e (.v 6)) (.cons (.e (.k (.int 0))) .nil)))) (.k (.int 1)) (.v 7)))) (.cons (.iff (.and (.pr .not (.cons (.e (.and (.pr .isin (.cons (.e (.v 2)) (.cons (.e (.pr .tup (.cons (.e (.k (.str "two"))) (.cons (.e (.k (.str "order"))) .nil)))) .nil))) (.pr .eq (.cons (.e (.pr .len (.cons (.bo 4) .nil))) (.cons (.e (.k (.int 2))) .nil))))) .nil)) (.pr .not (.cons (.e (.and (.pr .eq (.cons (.e (.v 2)) (.cons (.e (.k (.str "order"))) .nil))) (.and (.pr .ne (.cons (.bo 4) (.cons (.e (.pr .lst .nil)) .nil))) (.pr .eq (.cons (.e (.pr .item (.cons (.e (.pr .item (.cons (.bo 4) (.cons (.e (.k (.int 0))) .nil)))) (.cons (.e (.k (.int 1))) .nil)))) (.cons (.e (.v 7)) .nil)))))) .nil))) (.cons (.ex (.mu 4 .append (.cons (.e (.pr .tup (.cons (.e (.v 3)) (.cons (.e (.v 7)) .nil)))) .nil))) (.cons (.par [(false, 5), (false, 6)] (.cons (.e (.pr .add (.cons (.e (.v 5)) (.cons (.e (.v 7)) .nil)))) (.cons (.e (.pr .sub (.cons (.e (.pr .add (.cons (.e (.v 6)) (.cons (.e (.k (.int 1))) .nil)))) (.cons (.e (.v 7)) .nil)))) .nil))) .nil)) .nil) .nil))) .nil) .nil)) (.cons (.ret (.pr .tuple (.cons (.bo 4) .nil))) .nil)))
def c_law_clause : DefC := ⟨3, 8, [0], b_law_clause⟩
/- slots: bag many k -/
def b_law_sum : CSs := (.cons (.ret (.pr .tup (.cons (.e (.pr .tuple (.cons (.e (.lc [2] (.mk (.v 2) (.range1 (.v 1)) (.cons (.pr .eq (.cons (.e (.call f_law_take (.cons (.rf 0) (.cons (.e (.k (.int 2))) .nil)))) (.cons (.e (.k (.int 0))) .nil))) .nil)) (.v 2))) .nil))) (.cons (.e (.call f_law_take (.cons (.rf 0) (.cons (.e (.k (.int 2))) .nil)))) .nil)))) .nil)
def c_law_sum : DefC := ⟨2, 3, [0], b_law_sum⟩
/- slots: bag many shape some k rule -/
def b_law_rules : CSs := (.cons (.asg false 3 (.lc [4] (.mk (.v 4) (.range1 (.call f_law_take (.cons (.rf 0) (.cons (.e (.k (.int 5))) .nil)))) .nil) (.ite (.pr .eq (.cons (.e (.v 2)) (.cons (.e (.k (.str "sum"))) .nil))) (.call f_law_sum (.cons (.rf 0) (.cons (.e (.v 1)) .nil))) (.call f_law_clause (.cons (.rf 0) (.cons (.e (.v 1)) (.cons (.e (.v 2)) .nil))))))) (.cons (.ret (.pr .tuple (.cons (.e (.pr .sorted (.cons (.e (.pr .dictOf (.cons (.e (.lc [5] (.mk (.v 5) (.data (.e (.v 3))) .nil) (.pr .tup (.cons (.e (.v 5)) (.cons (.e (.k (.bool true))) .nil))))) .nil))) .nil))) .nil))) .nil))
def c_law_rules : DefC := ⟨3, 6, [0], b_law_rules⟩
/- slots: columns thing -/
def b_is_literal_2 : CSs := (.cons (.iff (.or (.pr .not (.cons (.e (.pr (.isi "tuple") (.cons (.e (.v 1)) .nil))) .nil)) (.or (.pr .ne (.cons (.e (.pr .len (.cons (.e (.v 1)) .nil))) (.cons (.e (.k (.int 2))) .nil))) (.or (.pr .not (.cons (.e (.call f_is_count (.cons (.e (.pr .item (.cons (.e (.v 1)) (.cons (.e (.k (.int 0))) .nil)))) .nil))) .nil)) (.pr .not (.cons (.e (.call f_is_count (.cons (.e (.pr .item (.cons (.e (.v 1)) (.cons (.e (.k (.int 1))) .nil)))) .nil))) .nil))))) (.cons (.ret (.k (.bool false))) .nil) .nil) (.cons (.ret (.and (.pr .lt (.cons (.e (.pr .item (.cons (.e (.v 1)) (.cons (.e (.k (.int 0))) .nil)))) (.cons (.e (.pr .len (.cons (.e (.v 0)) .nil))) .nil))) (.pr .lt (.cons (.e (.pr .item (.cons (.e (.v 1)) (.cons (.e (.k (.int 1))) .nil)))) (.cons (.e (.k (.int 2))) .nil))))) .nil))
def c_is_literal_2 : DefC := ⟨2, 2, [], b_is_literal_2⟩
/- slots: columns thing column bit one -/
def b_is_clause_3 : CSs := (.cons (.iff (.or (.pr .not (.cons (.e (.pr (.isi "tuple") (.cons (.e (.v 1)) .nil))) .nil)) (.pr .not (.cons (.e (.pr .all (.cons (.e (.lc [4] (.mk (.v 4) (.data (.e (.v 1))) .nil) (.call f_is_literal_2 (.cons (.e (.v 0)) (.cons (.e (.v 4)) .nil))))) .nil))) .nil))) (.cons (.ret (.k (.bool false))) .nil) .nil) (.cons (.ret (.call f_are_rising (.cons (.e (.lc [2, 3] (.mk (.t [.v 2, .v 3]) (.data (.e (.v 1))) .nil) (.v 2))) .nil))) .nil))
def c_is_clause_3 : DefC := ⟨2, 5, [], b_is_clause_3⟩
/- slots: columns clause -/
def b_check_clause : CSs := (.cons (.iff (.pr .not (.cons (.e (.call f_is_clause_3 (.cons (.e (.v 0)) (.cons (.e (.v 1)) .nil)))) .nil)) (.cons (.raise "Nothing" .nil) .nil) .nil) .nil)
def c_check_clause : DefC := ⟨2, 2, [], b_check_clause⟩
/- slots: clause row column bit -/
def b_does_keep : CSs := (.cons (.ret (.pr .any (.cons (.e (.lc [2, 3] (.mk (.t [.v 2, .v 3]) (.data (.e (.v 0))) .nil) (.pr .eq (.cons (.e (.pr .item (.cons (.e (.v 1)) (.cons (.e (.v 2)) .nil)))) (.cons (.e (.v 3)) .nil))))) .nil))) .nil)
def c_does_keep : DefC := ⟨2, 4, [], b_does_keep⟩
/- slots: rows clause row -/
def b_keep_all : CSs := (.cons (.ret (.pr .all (.cons (.e (.lc [2] (.mk (.v 2) (.data (.e (.v 0))) .nil) (.call f_does_keep (.cons (.e (.v 1)) (.cons (.e (.v 2)) .nil))))) .nil))) .nil)
def c_keep_all : DefC := ⟨2, 3, [], b_keep_all⟩
/- slots: table clause -/
def b_is_kept : CSs := (.cons (.ex (.call f_check_clause (.cons (.e (.pr .item (.cons (.e (.v 0)) (.cons (.e (.k (.int 0))) .nil)))) (.cons (.e (.v 1)) .nil)))) (.cons (.ret (.call f_keep_all (.cons (.e (.pr .item (.cons (.e (.v 0)) (.cons (.e (.k (.int 1))) .nil)))) (.cons (.e (.v 1)) .nil)))) .nil))
def c_is_kept : DefC := ⟨2, 2, [], b_is_kept⟩
/- slots: clause some one literal -/
def b_has_in_it : CSs := (.cons (.ret (.pr .any (.cons (.e (.lc [2] (.mk (.v 2) (.data (.e (.v 1))) .nil) (.pr .all (.cons (.e (.lc [3] (.mk (.v 3) (.data (.e (.v 2))) .nil) (.pr .isin (.cons (.e (.v 3)) (.cons (.e (.v 0)) .nil))))) .nil)))) .nil))) .nil)
def c_has_in_it : DefC := ⟨2, 4, [], b_has_in_it⟩
/- slots: columns clauses found clause first column bit -/
def b_longer_ones : CSs := (.cons (.asg true 2 (.pr .lst .nil)) (.cons (.fr (.v 3) (.data (.e (.v 1))) (.cons (.asg false 4 (.ite (.pr .ne (.cons (.e (.v 3)) (.cons (.e (.pr .tup .nil)) .nil))) (.pr .add (.cons (.e (.pr .item (.cons (.e (.pr .item (.cons (.e (.v 3)) (.cons (.e (.pr .neg (.cons (.e (.k (.int 1))) .nil))) .nil)))) (.cons (.e (.k (.int 0))) .nil)))) (.cons (.e (.k (.int 1))) .nil))) (.k (.int 0)))) (.cons (.fr (.v 5) (.range2 (.v 4) (.pr .len (.cons (.e (.v 0)) .nil))) (.cons (.ex (.mu 2 .extend (.cons (.e (.lc [6] (.mk (.v 6) (.data (.e (.pr .tup (.cons (.e (.k (.int 0))) (.cons (.e (.k (.int 1))) .nil))))) .nil) (.pr .add (.cons (.e (.v 3)) (.cons (.e (.pr .tup (.cons (.e (.pr .tup (.cons (.e (.v 5)) (.cons (.e (.v 6)) .nil)))) .nil))) .nil))))) .nil))) .nil)) .nil))) (.cons (.ret (.pr .sorted (.cons (.bo 2) .nil))) .nil)))
def c_longer_ones : DefC := ⟨2, 7, [], b_longer_ones⟩
/- slots: table most many found line looks left clause -/
def b_primes_by : CSs := (.cons (.par [(true, 3), (false, 4), (false, 5)] (.cons (.e (.pr .lst .nil)) (.cons (.e (.pr .lst (.cons (.e (.pr .tup .nil)) .nil))) (.cons (.e (.k (.int 0))) .nil)))) (.cons (.fr (.v 2) (.range1 (.pr .add (.cons (.e (.v 1)) (.cons (.e (.k (.int 1))) .nil)))) (.cons (.asg true 6 (.pr .lst .nil)) (.cons (.fr (.v 7) (.data (.e (.v 4))) (.cons (.iff (.pr .not (.cons (.e (.call f_has_in_it (.cons (.e (.v 7)) (.cons (.bo 3) .nil)))) .nil)) (.cons (.iff (.pr .eq (.cons (.e (.v 5)) (.cons (.e (.k (.int 20000))) .nil))) (.cons (.raise "TooLarge" (.cons (.e (.k (.str "looks"))) (.cons (.e (.k (.int 20000))) .nil))) .nil) .nil) (.cons (.aug 5 .add (.k (.int 1))) (.cons (.iff (.call f_keep_all (.cons (.e (.pr .item (.cons (.e (.v 0)) (.cons (.e (.k (.int 1))) .nil)))) (.cons (.e (.v 7)) .nil))) (.cons (.ex (.mu 3 .append (.cons (.e (.v 7)) .nil))) .nil) (.cons (.ex (.mu 6 .append (.cons (.e (.v 7)) .nil))) .nil)) .nil))) .nil) .nil)) (.cons (.asg false 4 (.ite (.pr .lt (.cons (.e (.v 2)) (.cons (.e (.v 1)) .nil))) (.call f_longer_ones (.cons (.e (.pr .item (.cons (.e (.v 0)) (.cons (.e (.k (.int 0))) .nil)))) (.cons (.bo 6) .nil))) (.pr .lst .nil))) .nil)))) (.cons (.ret (.v 3)) .nil)))
def c_primes_by : DefC := ⟨2, 8, [], b_primes_by⟩
/- slots: table -/
def b_primes : CSs := (.cons (.ret (.pr .tuple (.cons (.e (.call f_primes_by (.cons (.e (.v 0)) (.cons (.e (.pr .len (.cons (.e (.pr .item (.cons (.e (.v 0)) (.cons (.e (.k (.int 0))) .nil)))) .nil))) .nil)))) .nil))) .nil)
def c_primes : DefC := ⟨1, 1, [], b_primes⟩
/- slots: bag things found thing -/
def b_law_mixed : CSs := (.cons (.asg true 2 (.pr .lst .nil)) (.cons (.fr (.v 3) (.data (.e (.v 1))) (.cons (.ex (.mu 2 .insert (.cons (.e (.call f_law_take (.cons (.rf 0) (.cons (.e (.pr .add (.cons (.e (.pr .len (.cons (.bo 2) .nil))) (.cons (.e (.k (.int 1))) .nil)))) .nil)))) (.cons (.e (.v 3)) .nil)))) .nil)) (.cons (.ret (.v 2)) .nil)))
def c_law_mixed : DefC := ⟨2, 4, [0], b_law_mixed⟩
/- slots: thing name -/
def b_is_columns : CSs := (.cons (.iff (.or (.pr .not (.cons (.e (.call f_is_tuple_of (.cons (.e (.v 0)) (.cons (.e (.fv f_is_name)) .nil)))) .nil)) (.pr .not (.cons (.e (.chain .le .le (.k (.int 1)) (.pr .len (.cons (.e (.v 0)) .nil)) (.k (.int 12)))) .nil))) (.cons (.ret (.k (.bool false))) .nil) .nil) (.cons (.ret (.pr .eq (.cons (.e (.pr .len (.cons (.e (.dc [1] (.mk (.v 1) (.data (.e (.v 0))) .nil) (.v 1) (.k (.bool true)))) .nil))) (.cons (.e (.pr .len (.cons (.e (.v 0)) .nil))) .nil)))) .nil))
def c_is_columns : DefC := ⟨1, 2, [], b_is_columns⟩
/- slots: columns shape rules clause its lot column bit -/
def b_row_against : CSs := (.cons (.asg false 4 (.call f_bit_of (.cons (.e (.v 1)) .nil))) (.cons (.ex (.call f_check_clause (.cons (.e (.v 0)) (.cons (.e (.v 3)) .nil)))) (.cons (.asg false 5 (.call f_led_to (.cons (.e (.v 0)) (.cons (.e (.v 1)) (.cons (.e (.v 2)) (.cons (.e (.call f_body_of (.cons (.e (.v 1)) (.cons (.e (.v 3)) .nil)))) .nil)))))) (.cons (.iff (.or (.pr .isN (.cons (.e (.v 5)) .nil)) (.pr .any (.cons (.e (.lc [6, 7] (.mk (.t [.v 6, .v 7]) (.data (.e (.v 3))) .nil) (.and (.pr .eq (.cons (.e (.v 7)) (.cons (.e (.v 4)) .nil))) (.pr .isin (.cons (.e (.v 6)) (.cons (.e (.v 5)) .nil)))))) .nil))) (.cons (.ret (.k (.none))) .nil) .nil) (.cons (.ret (.call f_row_with_2 (.cons (.e (.v 0)) (.cons (.e (.v 1)) (.cons (.e (.v 5)) .nil))))) .nil)))))
def c_row_against : DefC := ⟨4, 8, [], b_row_against⟩
/- slots: columns shape rules clause -/
def b_follows : CSs := (.cons (.ret (.pr .isN (.cons (.e (.call f_row_against (.cons (.e (.v 0)) (.cons (.e (.v 1)) (.cons (.e (.v 2)) (.cons (.e (.v 3)) .nil)))))) .nil))) .nil)
def c_follows : DefC := ⟨4, 4, [], b_follows⟩
/- slots: shape clause ones column bit -/
def b_is_of_2 : CSs := (.cons (.asg false 2 (.pr .len (.cons (.e (.lc [3, 4] (.mk (.t [.v 3, .v 4]) (.data (.e (.v 1))) (.cons (.pr .eq (.cons (.e (.v 4)) (.cons (.e (.k (.int 1))) .nil))) .nil)) (.v 4))) .nil))) (.cons (.iff (.pr .eq (.cons (.e (.v 0)) (.cons (.e (.k (.str "two"))) .nil))) (.cons (.ret (.pr .lt (.cons (.e (.pr .len (.cons (.e (.v 1)) .nil))) (.cons (.e (.k (.int 3))) .nil)))) .nil) .nil) (.cons (.iff (.pr .isin (.cons (.e (.v 0)) (.cons (.e (.pr .tup (.cons (.e (.k (.str "if"))) (.cons (.e (.k (.str "down"))) .nil)))) .nil))) (.cons (.ret (.pr .le (.cons (.e (.v 2)) (.cons (.e (.ite (.pr .eq (.cons (.e (.v 0)) (.cons (.e (.k (.str "if"))) .nil))) (.k (.int 1)) (.k (.int 0)))) .nil)))) .nil) .nil) (.cons (.ret (.pr .le (.cons (.e (.pr .sub (.cons (.e (.pr .len (.cons (.e (.v 1)) .nil))) (.cons (.e (.v 2)) .nil)))) (.cons (.e (.ite (.pr .eq (.cons (.e (.v 0)) (.cons (.e (.k (.str "some"))) .nil))) (.k (.int 1)) (.k (.int 0)))) .nil)))) .nil))))
def c_is_of_2 : DefC := ⟨2, 5, [], b_is_of_2⟩
/- slots: table shape found clause -/
def b_primes_of : CSs := (.cons (.iff (.or (.pr .not (.cons (.e (.pr (.isi "str") (.cons (.e (.v 1)) .nil))) .nil)) (.pr .notin (.cons (.e (.v 1)) (.cons (.e (.k (.tuple [.str "if", .str "some", .str "two", .str "up", .str "down"]))) .nil)))) (.cons (.raise "Nothing" .nil) .nil) .nil) (.cons (.asg false 2 (.call f_primes_by (.cons (.e (.v 0)) (.cons (.e (.ite (.pr .eq (.cons (.e (.v 1)) (.cons (.e (.k (.str "two"))) .nil))) (.pr .min2 (.cons (.e (.k (.int 2))) (.cons (.e (.pr .len (.cons (.e (.pr .item (.cons (.e (.v 0)) (.cons (.e (.k (.int 0))) .nil)))) .nil))) .nil))) (.pr .len (.cons (.e (.pr .item (.cons (.e (.v 0)) (.cons (.e (.k (.int 0))) .nil)))) .nil)))) .nil)))) (.cons (.ret (.pr .tuple (.cons (.e (.lc [3] (.mk (.v 3) (.data (.e (.v 2))) (.cons (.call f_is_of_2 (.cons (.e (.v 1)) (.cons (.e (.v 3)) .nil))) .nil)) (.v 3))) .nil))) .nil)))
def c_primes_of : DefC := ⟨2, 4, [], b_primes_of⟩
/- slots: many lots k further clause -/
def b_law_every_clause : CSs := (.cons (.asg false 1 (.pr .lst (.cons (.e (.pr .tup .nil)) .nil))) (.cons (.fr (.v 2) (.range1 (.v 0)) (.cons (.asg true 3 (.pr .lst .nil)) (.cons (.fr (.v 4) (.data (.e (.v 1))) (.cons (.ex (.mu 3 .extend (.cons (.e (.pr .lst (.cons (.e (.v 4)) (.cons (.e (.pr .add (.cons (.e (.v 4)) (.cons (.e (.pr .tup (.cons (.e (.pr .tup (.cons (.e (.v 2)) (.cons (.e (.k (.int 0))) .nil)))) .nil))) .nil)))) (.cons (.e (.pr .add (.cons (.e (.v 4)) (.cons (.e (.pr .tup (.cons (.e (.pr .tup (.cons (.e (.v 2)) (.cons (.e (.k (.int 1))) .nil)))) .nil))) .nil)))) .nil))))) .nil))) .nil)) (.cons (.asg false 1 (.v 3)) .nil)))) (.cons (.ret (.sk (.e (.v 1)) (.pair (.len (.x)) (.x)))) .nil)))
def c_law_every_clause : DefC := ⟨1, 5, [], b_law_every_clause⟩
/- slots: table kept found clause one row literal -/
def b_law_primes : CSs := (.cons (.asg false 1 (.lc [3] (.mk (.v 3) (.data (.e (.call f_law_every_clause (.cons (.e (.pr .len (.cons (.e (.pr .item (.cons (.e (.v 0)) (.cons (.e (.k (.int 0))) .nil)))) .nil))) .nil)))) (.cons (.pr .eq (.cons (.e (.lc [5] (.mk (.v 5) (.data (.e (.pr .item (.cons (.e (.v 0)) (.cons (.e (.k (.int 1))) .nil))))) (.cons (.pr .not (.cons (.e (.call f_law_keeps (.cons (.e (.v 3)) (.cons (.e (.v 5)) .nil)))) .nil)) .nil)) (.v 5))) (.cons (.e (.pr .lst .nil)) .nil))) .nil)) (.v 3))) (.cons (.asg true 2 (.pr .lst .nil)) (.cons (.fr (.v 3) (.data (.e (.v 1))) (.cons (.iff (.pr .eq (.cons (.e (.lc [4] (.mk (.v 4) (.data (.bo 2)) (.cons (.pr .eq (.cons (.e (.lc [6] (.mk (.v 6) (.data (.e (.v 4))) (.cons (.pr .notin (.cons (.e (.v 6)) (.cons (.e (.v 3)) .nil))) .nil)) (.v 6))) (.cons (.e (.pr .lst .nil)) .nil))) .nil)) (.v 4))) (.cons (.e (.pr .lst .nil)) .nil))) (.cons (.ex (.mu 2 .append (.cons (.e (.v 3)) .nil))) .nil) .nil) .nil)) (.cons (.ret (.v 2)) .nil))))
def c_law_primes : DefC := ⟨1, 7, [], b_law_primes⟩
/- slots: columns shape rules rows clause due row -/
def b_law_asked : CSs := (.cons (.fr (.v 4) (.data (.e (.call f_law_every_clause (.cons (.e (.pr .len (.cons (.e (.v 0)) .nil))) .nil)))) (.cons (.asg false 5 (.pr .eq (.cons (.e (.lc [6] (.mk (.v 6) (.data (.e (.v 3))) (.cons (.pr .not (.cons (.e (.call f_law_keeps (.cons (.e (.v 4)) (.cons (.e (.v 6)) .nil)))) .nil)) .nil)) (.v 6))) (.cons (.e (.pr .lst .nil)) .nil)))) (.cons (.iff (.or (.pr .not (.cons (.e (.call f_law_alike (.cons (.e (.call f_follows (.cons (.e (.v 0)) (.cons (.e (.v 1)) (.cons (.e (.v 2)) (.cons (.e (.v 4)) .nil)))))) (.cons (.e (.v 5)) .nil)))) .nil)) (.pr .not (.cons (.e (.call f_law_alike (.cons (.e (.call f_is_kept (.cons (.e (.pr .tup (.cons (.e (.v 0)) (.cons (.e (.pr .tuple (.cons (.e (.v 3)) .nil))) .nil)))) (.cons (.e (.v 4)) .nil)))) (.cons (.e (.v 5)) .nil)))) .nil))) (.cons (.ret (.k (.bool false))) .nil) .nil) (.cons (.asg false 6 (.call f_row_against (.cons (.e (.v 0)) (.cons (.e (.v 1)) (.cons (.e (.v 2)) (.cons (.e (.v 4)) .nil)))))) (.cons (.iff (.or (.pr .ne (.cons (.e (.pr .isN (.cons (.e (.v 6)) .nil))) (.cons (.e (.v 5)) .nil))) (.and (.pr .notN (.cons (.e (.v 6)) .nil)) (.or (.pr .notin (.cons (.e (.v 6)) (.cons (.e (.v 3)) .nil))) (.call f_law_keeps (.cons (.e (.v 4)) (.cons (.e (.v 6)) .nil)))))) (.cons (.ret (.k (.bool false))) .nil) .nil) .nil))))) (.cons (.ret (.k (.bool true))) .nil))
def c_law_asked : DefC := ⟨4, 7, [], b_law_asked⟩
/- slots: script bag lap least table told many shape columns rules rows bit clause k row -/
def b_law_k65 : CSs := (.cons (.asg true 1 (.call f_law_bag (.cons (.e (.v 0)) .nil))) (.cons (.fr (.v 2) (.range1 (.k (.int 3))) (.cons (.par [(false, 6), (false, 7)] (.cons (.e (.pr .add (.cons (.e (.k (.int 2))) (.cons (.e (.call f_law_take (.cons (.rf 1) (.cons (.e (.k (.int 2))) .nil)))) .nil)))) (.cons (.e (.call f_law_some (.cons (.rf 1) (.cons (.e (.pr .lst (.cons (.e (.k (.str "if"))) (.cons (.e (.k (.str "some"))) .nil)))) .nil)))) .nil))) (.cons (.par [(false, 8), (false, 9)] (.cons (.e (.call f_law_names (.cons (.e (.v 6)) .nil))) (.cons (.e (.call f_law_rules (.cons (.rf 1) (.cons (.e (.v 6)) (.cons (.e (.v 7)) .nil))))) .nil))) (.cons (.par [(false, 10), (false, 11)] (.cons (.e (.call f_law_let (.cons (.e (.v 6)) (.cons (.e (.v 9)) .nil)))) (.cons (.e (.pr .int (.cons (.e (.pr .eq (.cons (.e (.v 7)) (.cons (.e (.k (.str "if"))) .nil)))) .nil))) .nil))) (.cons (.asg false 3 (.k (.none))) (.cons (.iff (.pr .ne (.cons (.e (.v 10)) (.cons (.e (.pr .lst .nil)) .nil))) (.cons (.asg false 3 (.pr .tuple (.cons (.e (.lc [13] (.mk (.v 13) (.range1 (.v 6)) .nil) (.ite (.pr .eq (.cons (.e (.v 11)) (.cons (.e (.k (.int 1))) .nil))) (.pr .min1 (.cons (.e (.lc [14] (.mk (.v 14) (.data (.e (.v 10))) .nil) (.pr .item (.cons (.e (.v 14)) (.cons (.e (.v 13)) .nil))))) .nil)) (.pr .max1 (.cons (.e (.lc [14] (.mk (.v 14) (.data (.e (.v 10))) .nil) (.pr .item (.cons (.e (.v 14)) (.cons (.e (.v 13)) .nil))))) .nil))))) .nil))) .nil) .nil) (.cons (.iff (.or (.pr .not (.cons (.e (.call f_law_alike (.cons (.e (.call f_least_row_2 (.cons (.e (.v 8)) (.cons (.e (.v 7)) (.cons (.e (.v 9)) .nil))))) (.cons (.e (.v 3)) .nil)))) .nil)) (.pr .not (.cons (.e (.call f_law_asked (.cons (.e (.v 8)) (.cons (.e (.v 7)) (.cons (.e (.v 9)) (.cons (.e (.v 10)) .nil)))))) .nil))) (.cons (.ret (.k (.bool false))) .nil) .nil) (.cons (.asg false 4 (.pr .tup (.cons (.e (.v 8)) (.cons (.e (.pr .tuple (.cons (.e (.v 10)) .nil))) .nil)))) (.cons (.asg false 5 (.call f_primes (.cons (.e (.v 4)) .nil))) (.cons (.iff (.or (.pr .not (.cons (.e (.call f_law_alike (.cons (.e (.v 5)) (.cons (.e (.pr .tuple (.cons (.e (.call f_law_primes (.cons (.e (.v 4)) .nil))) .nil))) .nil)))) .nil)) (.pr .not (.cons (.e (.call f_law_alike (.cons (.e (.call f_primes_of (.cons (.e (.v 4)) (.cons (.e (.v 7)) .nil)))) (.cons (.e (.v 5)) .nil)))) .nil))) (.cons (.ret (.k (.bool false))) .nil) .nil) (.cons (.iff (.pr .ne (.cons (.e (.lc [12] (.mk (.v 12) (.data (.e (.v 5))) (.cons (.pr (.notB true) (.cons (.e (.call f_follows (.cons (.e (.v 8)) (.cons (.e (.v 7)) (.cons (.e (.v 9)) (.cons (.e (.v 12)) .nil)))))) .nil)) .nil)) (.v 12))) (.cons (.e (.pr .lst .nil)) .nil))) (.cons (.ret (.k (.bool false))) .nil) .nil) (.cons (.iff (.pr .ne (.cons (.e (.call f_law_let (.cons (.e (.v 6)) (.cons (.e (.v 5)) .nil)))) (.cons (.e (.v 10)) .nil))) (.cons (.ret (.k (.bool false))) .nil) .nil) .nil)))))))))))) (.cons (.ret (.k (.bool true))) .nil)))
def c_law_k65 : DefC := ⟨1, 15, [], b_law_k65⟩
/- slots: table row -/
def b_has_row : CSs := (.cons (.ret (.and (.call f_is_bits (.cons (.e (.v 1)) (.cons (.e (.pr .len (.cons (.e (.pr .item (.cons (.e (.v 0)) (.cons (.e (.k (.int 0))) .nil)))) .nil))) .nil))) (.pr .isin (.cons (.e (.v 1)) (.cons (.e (.pr .item (.cons (.e (.v 0)) (.cons (.e (.k (.int 1))) .nil)))) .nil))))) .nil)
def c_has_row : DefC := ⟨2, 2, [], b_has_row⟩
/- slots: table -/
def b_many_rows_3 : CSs := (.cons (.ret (.pr .len (.cons (.e (.pr .item (.cons (.e (.v 0)) (.cons (.e (.k (.int 1))) .nil)))) .nil))) .nil)
def c_many_rows_3 : DefC := ⟨1, 1, [], b_many_rows_3⟩
/- slots: columns -/
def b_check_columns : CSs := (.cons (.iff (.pr .not (.cons (.e (.call f_is_columns (.cons (.e (.v 0)) .nil))) .nil)) (.cons (.raise "Nothing" .nil) .nil) .nil) .nil)
def c_check_columns : DefC := ⟨1, 1, [], b_check_columns⟩
/- slots: columns -/
def b_full_table : CSs := (.cons (.ex (.call f_check_columns (.cons (.e (.v 0)) .nil))) (.cons (.ret (.pr .tup (.cons (.e (.v 0)) (.cons (.e (.call f_all_rows (.cons (.e (.pr .len (.cons (.e (.v 0)) .nil))) .nil))) .nil)))) .nil))
def c_full_table : DefC := ⟨1, 1, [], b_full_table⟩
/- slots: columns -/
def b_empty_table : CSs := (.cons (.ex (.call f_check_columns (.cons (.e (.v 0)) .nil))) (.cons (.ret (.pr .tup (.cons (.e (.v 0)) (.cons (.e (.pr .tup .nil)) .nil)))) .nil))
def c_empty_table : DefC := ⟨1, 1, [], b_empty_table⟩
/- slots: columns rows row -/
def b_table_of : CSs := (.cons (.ex (.call f_check_columns (.cons (.e (.v 0)) .nil))) (.cons (.iff (.or (.pr .not (.cons (.e (.pr (.isi "tuple") (.cons (.e (.v 1)) .nil))) .nil)) (.pr .not (.cons (.e (.pr .all (.cons (.e (.lc [2] (.mk (.v 2) (.data (.e (.v 1))) .nil) (.call f_is_bits (.cons (.e (.v 2)) (.cons (.e (.pr .len (.cons (.e (.v 0)) .nil))) .nil))))) .nil))) .nil))) (.cons (.raise "Nothing" .nil) .nil) .nil) (.cons (.ret (.pr .tup (.cons (.e (.v 0)) (.cons (.e (.call f_rising (.cons (.e (.v 1)) .nil))) .nil)))) .nil)))
def c_table_of : DefC := ⟨2, 3, [], b_table_of⟩
/- slots: table row -/
def b_check_row_4 : CSs := (.cons (.iff (.pr .not (.cons (.e (.call f_is_bits (.cons (.e (.v 1)) (.cons (.e (.pr .len (.cons (.e (.pr .item (.cons (.e (.v 0)) (.cons (.e (.k (.int 0))) .nil)))) .nil))) .nil)))) .nil)) (.cons (.raise "Nothing" .nil) .nil) .nil) .nil)
def c_check_row_4 : DefC := ⟨2, 2, [], b_check_row_4⟩
/- slots: table row -/
def b_with_row : CSs := (.cons (.ex (.call f_check_row_4 (.cons (.e (.v 0)) (.cons (.e (.v 1)) .nil)))) (.cons (.ret (.pr .tup (.cons (.e (.pr .item (.cons (.e (.v 0)) (.cons (.e (.k (.int 0))) .nil)))) (.cons (.e (.call f_rising (.cons (.e (.tst (.pr .item (.cons (.e (.v 0)) (.cons (.e (.k (.int 1))) .nil))) (.cons (.e (.v 1)) .nil))) .nil))) .nil)))) .nil))
def c_with_row : DefC := ⟨2, 2, [], b_with_row⟩
/- slots: table row one -/
def b_without_row : CSs := (.cons (.ex (.call f_check_row_4 (.cons (.e (.v 0)) (.cons (.e (.v 1)) .nil)))) (.cons (.iff (.pr .notin (.cons (.e (.v 1)) (.cons (.e (.pr .item (.cons (.e (.v 0)) (.cons (.e (.k (.int 1))) .nil)))) .nil))) (.cons (.raise "Nothing" .nil) .nil) .nil) (.cons (.ret (.pr .tup (.cons (.e (.pr .item (.cons (.e (.v 0)) (.cons (.e (.k (.int 0))) .nil)))) (.cons (.e (.pr .tuple (.cons (.e (.lc [2] (.mk (.v 2) (.data (.e (.pr .item (.cons (.e (.v 0)) (.cons (.e (.k (.int 1))) .nil))))) (.cons (.pr .ne (.cons (.e (.v 2)) (.cons (.e (.v 1)) .nil))) .nil)) (.v 2))) .nil))) .nil)))) .nil)))
def c_without_row : DefC := ⟨2, 3, [], b_without_row⟩
/- slots: table row later clause told one its literal -/
def b_law_stepped : CSs := (.cons (.asg false 2 (.call f_with_row (.cons (.e (.v 0)) (.cons (.e (.v 1)) .nil)))) (.cons (.iff (.or (.pr .not (.cons (.e (.call f_law_alike (.cons (.e (.v 2)) (.cons (.e (.pr .tup (.cons (.e (.pr .item (.cons (.e (.v 0)) (.cons (.e (.k (.int 0))) .nil)))) (.cons (.e (.pr .tuple (.cons (.e (.pr .sortedSet (.cons (.e (.pr .add (.cons (.e (.pr .item (.cons (.e (.v 0)) (.cons (.e (.k (.int 1))) .nil)))) (.cons (.e (.pr .tup (.cons (.e (.v 1)) .nil))) .nil)))) .nil))) .nil))) .nil)))) .nil)))) .nil)) (.pr (.notB true) (.cons (.e (.call f_has_row (.cons (.e (.v 2)) (.cons (.e (.v 1)) .nil)))) .nil))) (.cons (.ret (.k (.bool false))) .nil) .nil) (.cons (.fr (.v 3) (.data (.e (.call f_law_every_clause (.cons (.e (.pr .len (.cons (.e (.pr .item (.cons (.e (.v 0)) (.cons (.e (.k (.int 0))) .nil)))) .nil))) .nil)))) (.cons (.iff (.pr .not (.cons (.e (.call f_law_alike (.cons (.e (.call f_is_kept (.cons (.e (.v 2)) (.cons (.e (.v 3)) .nil)))) (.cons (.e (.and (.call f_is_kept (.cons (.e (.v 0)) (.cons (.e (.v 3)) .nil))) (.call f_law_keeps (.cons (.e (.v 3)) (.cons (.e (.v 1)) .nil))))) .nil)))) .nil)) (.cons (.ret (.k (.bool false))) .nil) .nil) .nil)) (.cons (.asg false 4 (.call f_primes (.cons (.e (.v 2)) .nil))) (.cons (.fr (.v 3) (.data (.e (.call f_primes (.cons (.e (.v 0)) .nil)))) (.cons (.iff (.and (.call f_law_keeps (.cons (.e (.v 3)) (.cons (.e (.v 1)) .nil))) (.pr .notin (.cons (.e (.v 3)) (.cons (.e (.v 4)) .nil)))) (.cons (.ret (.k (.bool false))) .nil) .nil) .nil)) (.cons (.iff (.pr .ne (.cons (.e (.lc [5] (.mk (.v 5) (.data (.e (.v 4))) (.cons (.pr .eq (.cons (.e (.lc [6] (.mk (.v 6) (.data (.e (.call f_primes (.cons (.e (.v 0)) .nil)))) (.cons (.pr .eq (.cons (.e (.lc [7] (.mk (.v 7) (.data (.e (.v 6))) (.cons (.pr .notin (.cons (.e (.v 7)) (.cons (.e (.v 5)) .nil))) .nil)) (.v 7))) (.cons (.e (.pr .lst .nil)) .nil))) .nil)) (.v 6))) (.cons (.e (.pr .lst .nil)) .nil))) .nil)) (.v 5))) (.cons (.e (.pr .lst .nil)) .nil))) (.cons (.ret (.k (.bool false))) .nil) .nil) (.cons (.iff (.pr .notin (.cons (.e (.v 1)) (.cons (.e (.pr .item (.cons (.e (.v 0)) (.cons (.e (.k (.int 1))) .nil)))) .nil))) (.cons (.ret (.and (.call f_law_alike (.cons (.e (.call f_without_row (.cons (.e (.v 2)) (.cons (.e (.v 1)) .nil)))) (.cons (.e (.v 0)) .nil))) (.pr .eq (.cons (.e (.call f_many_rows_3 (.cons (.e (.v 2)) .nil))) (.cons (.e (.pr .add (.cons (.e (.call f_many_rows_3 (.cons (.e (.v 0)) .nil))) (.cons (.e (.k (.int 1))) .nil)))) .nil))))) .nil) .nil) (.cons (.ret (.pr .eq (.cons (.e (.v 2)) (.cons (.e (.v 0)) .nil)))) .nil))))))))
def c_law_stepped : DefC := ⟨2, 8, [], b_law_stepped⟩
/- slots: script bag lap table many turn mixed built row -/
def b_law_k88 : CSs := (.cons (.asg true 1 (.call f_law_bag (.cons (.e (.v 0)) .nil))) (.cons (.fr (.v 2) (.range1 (.k (.int 3))) (.cons (.asg false 3 (.call f_law_table (.cons (.rf 1) (.cons (.e (.k (.int 4))) .nil)))) (.cons (.asg false 4 (.pr .len (.cons (.e (.pr .item (.cons (.e (.v 3)) (.cons (.e (.k (.int 0))) .nil)))) .nil))) (.cons (.fr (.v 5) (.range1 (.k (.int 2))) (.cons (.iff (.pr .not (.cons (.e (.call f_law_stepped (.cons (.e (.v 3)) (.cons (.e (.call f_law_some (.cons (.rf 1) (.cons (.e (.call f_law_rows (.cons (.e (.v 4)) .nil))) .nil)))) .nil)))) .nil)) (.cons (.ret (.k (.bool false))) .nil) .nil) .nil)) (.cons (.iff (.or (.pr .not (.cons (.e (.call f_law_alike (.cons (.e (.call f_primes (.cons (.e (.call f_full_table (.cons (.e (.pr .item (.cons (.e (.v 3)) (.cons (.e (.k (.int 0))) .nil)))) .nil))) .nil))) (.cons (.e (.pr .tup .nil)) .nil)))) .nil)) (.pr .not (.cons (.e (.call f_law_alike (.cons (.e (.call f_primes (.cons (.e (.call f_empty_table (.cons (.e (.pr .item (.cons (.e (.v 3)) (.cons (.e (.k (.int 0))) .nil)))) .nil))) .nil))) (.cons (.e (.pr .tup (.cons (.e (.pr .tup .nil)) .nil))) .nil)))) .nil))) (.cons (.ret (.k (.bool false))) .nil) .nil) (.cons (.asg false 6 (.pr .tuple (.cons (.e (.call f_law_mixed (.cons (.rf 1) (.cons (.e (.pr .list (.cons (.e (.pr .add (.cons (.e (.pr .item (.cons (.e (.v 3)) (.cons (.e (.k (.int 1))) .nil)))) (.cons (.e (.pr .sliceTo (.cons (.e (.pr .item (.cons (.e (.v 3)) (.cons (.e (.k (.int 1))) .nil)))) (.cons (.e (.k (.int 1))) .nil)))) .nil)))) .nil))) .nil)))) .nil))) (.cons (.iff (.pr .not (.cons (.e (.call f_law_alike (.cons (.e (.call f_table_of (.cons (.e (.pr .item (.cons (.e (.v 3)) (.cons (.e (.k (.int 0))) .nil)))) (.cons (.e (.v 6)) .nil)))) (.cons (.e (.v 3)) .nil)))) .nil)) (.cons (.ret (.k (.bool false))) .nil) .nil) (.cons (.asg false 7 (.call f_empty_table (.cons (.e (.pr .item (.cons (.e (.v 3)) (.cons (.e (.k (.int 0))) .nil)))) .nil))) (.cons (.fr (.v 8) (.data (.e (.call f_law_mixed (.cons (.rf 1) (.cons (.e (.pr .list (.cons (.e (.pr .item (.cons (.e (.v 3)) (.cons (.e (.k (.int 1))) .nil)))) .nil))) .nil))))) (.cons (.asg false 7 (.call f_with_row (.cons (.e (.v 7)) (.cons (.e (.v 8)) .nil)))) .nil)) (.cons (.iff (.or (.pr .ne (.cons (.e (.v 7)) (.cons (.e (.v 3)) .nil))) (.pr .not (.cons (.e (.call f_law_alike (.cons (.e (.call f_primes (.cons (.e (.v 7)) .nil))) (.cons (.e (.pr .tuple (.cons (.e (.call f_law_primes (.cons (.e (.v 3)) .nil))) .nil))) .nil)))) .nil))) (.cons (.ret (.k (.bool false))) .nil) .nil) .nil)))))))))) (.cons (.ret (.k (.bool true))) .nil)))
def c_law_k88 : DefC := ⟨1, 9, [], b_law_k88⟩
def DsL : List (Nat × DefC) := [(f_wall, c_wall), (f_is_integer, c_is_integer), (f_is_count, c_is_count), (f_is_bit, c_is_bit), (f_are_rising, c_are_rising), (f_is_tuple_of, c_is_tuple_of), (f_made_row, c_made_row), (f_power_of_two, c_power_of_two), (f_all_rows, c_all_rows), (f_law_bag, c_law_bag), (f_law_take, c_law_take), (f_law_some, c_law_some), (f_law_alike, c_law_alike), (f_law_names, c_law_names), (f_law_rows, c_law_rows), (f_law_table, c_law_table), (f_law_is_sum, c_law_is_sum), (f_law_keeps, c_law_keeps), (f_law_let, c_law_let), (f_is_name, c_is_name), (f_is_bits, c_is_bits), (f_rising, c_rising), (f_bit_of, c_bit_of), (f_check_lot_2, c_check_lot_2), (f_body_of, c_body_of), (f_head_of, c_head_of), (f_next_step_2, c_next_step_2), (f_walked, c_walked), (f_led_to, c_led_to), (f_row_with_2, c_row_with_2), (f_least_row_2, c_least_row_2), (f_law_clause, c_law_clause), (f_law_sum, c_law_sum), (f_law_rules, c_law_rules), (f_is_literal_2, c_is_literal_2), (f_is_clause_3, c_is_clause_3), (f_check_clause, c_check_clause), (f_does_keep, c_does_keep), (f_keep_all, c_keep_all), (f_is_kept, c_is_kept), (f_has_in_it, c_has_in_it), (f_longer_ones, c_longer_ones), (f_primes_by, c_primes_by), (f_primes, c_primes), (f_law_mixed, c_law_mixed), (f_is_columns, c_is_columns), (f_row_against, c_row_against), (f_follows, c_follows), (f_is_of_2, c_is_of_2), (f_primes_of, c_primes_of), (f_law_every_clause, c_law_every_clause), (f_law_primes, c_law_primes), (f_law_asked, c_law_asked), (f_law_k65, c_law_k65), (f_has_row, c_has_row), (f_many_rows_3, c_many_rows_3), (f_check_columns, c_check_columns), (f_full_table, c_full_table), (f_empty_table, c_empty_table), (f_table_of, c_table_of), (f_check_row_4, c_check_row_4), (f_with_row, c_with_row), (f_without_row, c_without_row), (f_law_stepped, c_law_stepped), (f_law_k88, c_law_k88)]
def Ds (n : Nat) : Option DefC := DsL.lookup n
def cF (k : Nat) : Nat → List Sl → CR := callF Ds 100000 k
theorem cF_run {n f : Nat} {d : DefC} (h : Ds f = some d) (args env : List Sl) (hl : args.length = d.np) (he : args ++ List.replicate (d.ns - d.np) .no = env) : cF (n + 1) f args = endD d.refs d.np (exB (cF n) 100000 d.body env) := by
  subst he; exact (callF_succ h args).trans (runDef_end d.np d.ns d.refs d.body args hl)
theorem D_wall : Ds f_wall = some c_wall := rfl
theorem R_wall (n : Nat) (x0 : Sl) : cF (n + 1) f_wall [x0] = endD [] 1 (exB (cF n) 100000 b_wall [x0]) := cF_run D_wall _ _ rfl rfl
theorem D_is_integer : Ds f_is_integer = some c_is_integer := rfl
theorem R_is_integer (n : Nat) (x0 : Sl) : cF (n + 1) f_is_integer [x0] = endD [] 1 (exB (cF n) 100000 b_is_integer [x0]) := cF_run D_is_integer _ _ rfl rfl
theorem D_is_count : Ds f_is_count = some c_is_count := rfl
theorem R_is_count (n : Nat) (x0 : Sl) : cF (n + 1) f_is_count [x0] = endD [] 1 (exB (cF n) 100000 b_is_count [x0]) := cF_run D_is_count _ _ rfl rfl
theorem D_is_bit : Ds f_is_bit = some c_is_bit := rfl
theorem R_is_bit (n : Nat) (x0 : Sl) : cF (n + 1) f_is_bit [x0] = endD [] 1 (exB (cF n) 100000 b_is_bit [x0]) := cF_run D_is_bit _ _ rfl rfl
theorem D_are_rising : Ds f_are_rising = some c_are_rising := rfl
theorem R_are_rising (n : Nat) (x0 : Sl) : cF (n + 1) f_are_rising [x0] = endD [] 1 (exB (cF n) 100000 b_are_rising [x0, .no, .no]) := cF_run D_are_rising _ _ rfl rfl
theorem D_is_tuple_of : Ds f_is_tuple_of = some c_is_tuple_of := rfl
theorem R_is_tuple_of (n : Nat) (x0 x1 : Sl) : cF (n + 1) f_is_tuple_of [x0, x1] = endD [] 2 (exB (cF n) 100000 b_is_tuple_of [x0, x1, .no]) := cF_run D_is_tuple_of _ _ rfl rfl
theorem D_made_row : Ds f_made_row = some c_made_row := rfl
theorem R_made_row (n : Nat) (x0 x1 : Sl) : cF (n + 1) f_made_row [x0, x1] = endD [] 2 (exB (cF n) 100000 b_made_row [x0, x1, .no, .no]) := cF_run D_made_row _ _ rfl rfl
theorem D_power_of_two : Ds f_power_of_two = some c_power_of_two := rfl
theorem R_power_of_two (n : Nat) (x0 : Sl) : cF (n + 1) f_power_of_two [x0] = endD [] 1 (exB (cF n) 100000 b_power_of_two [x0, .no, .no]) := cF_run D_power_of_two _ _ rfl rfl
theorem D_all_rows : Ds f_all_rows = some c_all_rows := rfl
theorem R_all_rows (n : Nat) (x0 : Sl) : cF (n + 1) f_all_rows [x0] = endD [] 1 (exB (cF n) 100000 b_all_rows [x0, .no]) := cF_run D_all_rows _ _ rfl rfl
theorem D_law_bag : Ds f_law_bag = some c_law_bag := rfl
theorem R_law_bag (n : Nat) (x0 : Sl) : cF (n + 1) f_law_bag [x0] = endD [] 1 (exB (cF n) 100000 b_law_bag [x0, .no]) := cF_run D_law_bag _ _ rfl rfl
theorem D_law_take : Ds f_law_take = some c_law_take := rfl
theorem R_law_take (n : Nat) (x0 x1 : Sl) : cF (n + 1) f_law_take [x0, x1] = endD [0] 2 (exB (cF n) 100000 b_law_take [x0, x1, .no, .no, .no, .no, .no]) := cF_run D_law_take _ _ rfl rfl
theorem D_law_some : Ds f_law_some = some c_law_some := rfl
theorem R_law_some (n : Nat) (x0 x1 : Sl) : cF (n + 1) f_law_some [x0, x1] = endD [0] 2 (exB (cF n) 100000 b_law_some [x0, x1]) := cF_run D_law_some _ _ rfl rfl
theorem D_law_alike : Ds f_law_alike = some c_law_alike := rfl
theorem R_law_alike (n : Nat) (x0 x1 : Sl) : cF (n + 1) f_law_alike [x0, x1] = endD [] 2 (exB (cF n) 100000 b_law_alike [x0, x1]) := cF_run D_law_alike _ _ rfl rfl
theorem D_law_names : Ds f_law_names = some c_law_names := rfl
theorem R_law_names (n : Nat) (x0 : Sl) : cF (n + 1) f_law_names [x0] = endD [] 1 (exB (cF n) 100000 b_law_names [x0]) := cF_run D_law_names _ _ rfl rfl
theorem D_law_rows : Ds f_law_rows = some c_law_rows := rfl
theorem R_law_rows (n : Nat) (x0 : Sl) : cF (n + 1) f_law_rows [x0] = endD [] 1 (exB (cF n) 100000 b_law_rows [x0, .no, .no, .no, .no]) := cF_run D_law_rows _ _ rfl rfl
theorem D_law_table : Ds f_law_table = some c_law_table := rfl
theorem R_law_table (n : Nat) (x0 x1 : Sl) : cF (n + 1) f_law_table [x0, x1] = endD [0] 2 (exB (cF n) 100000 b_law_table [x0, x1, .no, .no, .no]) := cF_run D_law_table _ _ rfl rfl
theorem D_law_is_sum : Ds f_law_is_sum = some c_law_is_sum := rfl
theorem R_law_is_sum (n : Nat) (x0 : Sl) : cF (n + 1) f_law_is_sum [x0] = endD [] 1 (exB (cF n) 100000 b_law_is_sum [x0]) := cF_run D_law_is_sum _ _ rfl rfl
theorem D_law_keeps : Ds f_law_keeps = some c_law_keeps := rfl
theorem R_law_keeps (n : Nat) (x0 x1 : Sl) : cF (n + 1) f_law_keeps [x0, x1] = endD [] 2 (exB (cF n) 100000 b_law_keeps [x0, x1, .no, .no]) := cF_run D_law_keeps _ _ rfl rfl
theorem D_law_let : Ds f_law_let = some c_law_let := rfl
theorem R_law_let (n : Nat) (x0 x1 : Sl) : cF (n + 1) f_law_let [x0, x1] = endD [] 2 (exB (cF n) 100000 b_law_let [x0, x1, .no, .no]) := cF_run D_law_let _ _ rfl rfl
theorem D_is_name : Ds f_is_name = some c_is_name := rfl
theorem R_is_name (n : Nat) (x0 : Sl) : cF (n + 1) f_is_name [x0] = endD [] 1 (exB (cF n) 100000 b_is_name [x0, .no]) := cF_run D_is_name _ _ rfl rfl
theorem D_is_bits : Ds f_is_bits = some c_is_bits := rfl
theorem R_is_bits (n : Nat) (x0 x1 : Sl) : cF (n + 1) f_is_bits [x0, x1] = endD [] 2 (exB (cF n) 100000 b_is_bits [x0, x1]) := cF_run D_is_bits _ _ rfl rfl
theorem D_rising : Ds f_rising = some c_rising := rfl
theorem R_rising (n : Nat) (x0 : Sl) : cF (n + 1) f_rising [x0] = endD [] 1 (exB (cF n) 100000 b_rising [x0, .no]) := cF_run D_rising _ _ rfl rfl
theorem D_bit_of : Ds f_bit_of = some c_bit_of := rfl
theorem R_bit_of (n : Nat) (x0 : Sl) : cF (n + 1) f_bit_of [x0] = endD [] 1 (exB (cF n) 100000 b_bit_of [x0]) := cF_run D_bit_of _ _ rfl rfl
theorem D_check_lot_2 : Ds f_check_lot_2 = some c_check_lot_2 := rfl
theorem R_check_lot_2 (n : Nat) (x0 x1 : Sl) : cF (n + 1) f_check_lot_2 [x0, x1] = endD [] 2 (exB (cF n) 100000 b_check_lot_2 [x0, x1, .no]) := cF_run D_check_lot_2 _ _ rfl rfl
theorem D_body_of : Ds f_body_of = some c_body_of := rfl
theorem R_body_of (n : Nat) (x0 x1 : Sl) : cF (n + 1) f_body_of [x0, x1] = endD [] 2 (exB (cF n) 100000 b_body_of [x0, x1, .no, .no, .no]) := cF_run D_body_of _ _ rfl rfl
theorem D_head_of : Ds f_head_of = some c_head_of := rfl
theorem R_head_of (n : Nat) (x0 x1 : Sl) : cF (n + 1) f_head_of [x0, x1] = endD [] 2 (exB (cF n) 100000 b_head_of [x0, x1, .no, .no, .no, .no]) := cF_run D_head_of _ _ rfl rfl
theorem D_next_step_2 : Ds f_next_step_2 = some c_next_step_2 := rfl
theorem R_next_step_2 (n : Nat) (x0 x1 : Sl) : cF (n + 1) f_next_step_2 [x0, x1] = endD [] 2 (exB (cF n) 100000 b_next_step_2 [x0, x1, .no, .no, .no, .no]) := cF_run D_next_step_2 _ _ rfl rfl
theorem D_walked : Ds f_walked = some c_walked := rfl
theorem R_walked (n : Nat) (x0 x1 x2 x3 : Sl) : cF (n + 1) f_walked [x0, x1, x2, x3] = endD [] 4 (exB (cF n) 100000 b_walked [x0, x1, x2, x3, .no, .no, .no, .no, .no, .no]) := cF_run D_walked _ _ rfl rfl
theorem D_led_to : Ds f_led_to = some c_led_to := rfl
theorem R_led_to (n : Nat) (x0 x1 x2 x3 : Sl) : cF (n + 1) f_led_to [x0, x1, x2, x3] = endD [] 4 (exB (cF n) 100000 b_led_to [x0, x1, x2, x3, .no, .no, .no]) := cF_run D_led_to _ _ rfl rfl
theorem D_row_with_2 : Ds f_row_with_2 = some c_row_with_2 := rfl
theorem R_row_with_2 (n : Nat) (x0 x1 x2 : Sl) : cF (n + 1) f_row_with_2 [x0, x1, x2] = endD [] 3 (exB (cF n) 100000 b_row_with_2 [x0, x1, x2, .no, .no]) := cF_run D_row_with_2 _ _ rfl rfl
theorem D_least_row_2 : Ds f_least_row_2 = some c_least_row_2 := rfl
theorem R_least_row_2 (n : Nat) (x0 x1 x2 : Sl) : cF (n + 1) f_least_row_2 [x0, x1, x2] = endD [] 3 (exB (cF n) 100000 b_least_row_2 [x0, x1, x2, .no]) := cF_run D_least_row_2 _ _ rfl rfl
theorem D_law_clause : Ds f_law_clause = some c_law_clause := rfl
theorem R_law_clause (n : Nat) (x0 x1 x2 : Sl) : cF (n + 1) f_law_clause [x0, x1, x2] = endD [0] 3 (exB (cF n) 100000 b_law_clause [x0, x1, x2, .no, .no, .no, .no, .no]) := cF_run D_law_clause _ _ rfl rfl
theorem D_law_sum : Ds f_law_sum = some c_law_sum := rfl
theorem R_law_sum (n : Nat) (x0 x1 : Sl) : cF (n + 1) f_law_sum [x0, x1] = endD [0] 2 (exB (cF n) 100000 b_law_sum [x0, x1, .no]) := cF_run D_law_sum _ _ rfl rfl
theorem D_law_rules : Ds f_law_rules = some c_law_rules := rfl
theorem R_law_rules (n : Nat) (x0 x1 x2 : Sl) : cF (n + 1) f_law_rules [x0, x1, x2] = endD [0] 3 (exB (cF n) 100000 b_law_rules [x0, x1, x2, .no, .no, .no]) := cF_run D_law_rules _ _ rfl rfl
theorem D_is_literal_2 : Ds f_is_literal_2 = some c_is_literal_2 := rfl
theorem R_is_literal_2 (n : Nat) (x0 x1 : Sl) : cF (n + 1) f_is_literal_2 [x0, x1] = endD [] 2 (exB (cF n) 100000 b_is_literal_2 [x0, x1]) := cF_run D_is_literal_2 _ _ rfl rfl
theorem D_is_clause_3 : Ds f_is_clause_3 = some c_is_clause_3 := rfl
theorem R_is_clause_3 (n : Nat) (x0 x1 : Sl) : cF (n + 1) f_is_clause_3 [x0, x1] = endD [] 2 (exB (cF n) 100000 b_is_clause_3 [x0, x1, .no, .no, .no]) := cF_run D_is_clause_3 _ _ rfl rfl
theorem D_check_clause : Ds f_check_clause = some c_check_clause := rfl
theorem R_check_clause (n : Nat) (x0 x1 : Sl) : cF (n + 1) f_check_clause [x0, x1] = endD [] 2 (exB (cF n) 100000 b_check_clause [x0, x1]) := cF_run D_check_clause _ _ rfl rfl
theorem D_does_keep : Ds f_does_keep = some c_does_keep := rfl
theorem R_does_keep (n : Nat) (x0 x1 : Sl) : cF (n + 1) f_does_keep [x0, x1] = endD [] 2 (exB (cF n) 100000 b_does_keep [x0, x1, .no, .no]) := cF_run D_does_keep _ _ rfl rfl
theorem D_keep_all : Ds f_keep_all = some c_keep_all := rfl
theorem R_keep_all (n : Nat) (x0 x1 : Sl) : cF (n + 1) f_keep_all [x0, x1] = endD [] 2 (exB (cF n) 100000 b_keep_all [x0, x1, .no]) := cF_run D_keep_all _ _ rfl rfl
theorem D_is_kept : Ds f_is_kept = some c_is_kept := rfl
theorem R_is_kept (n : Nat) (x0 x1 : Sl) : cF (n + 1) f_is_kept [x0, x1] = endD [] 2 (exB (cF n) 100000 b_is_kept [x0, x1]) := cF_run D_is_kept _ _ rfl rfl
theorem D_has_in_it : Ds f_has_in_it = some c_has_in_it := rfl
theorem R_has_in_it (n : Nat) (x0 x1 : Sl) : cF (n + 1) f_has_in_it [x0, x1] = endD [] 2 (exB (cF n) 100000 b_has_in_it [x0, x1, .no, .no]) := cF_run D_has_in_it _ _ rfl rfl
theorem D_longer_ones : Ds f_longer_ones = some c_longer_ones := rfl
theorem R_longer_ones (n : Nat) (x0 x1 : Sl) : cF (n + 1) f_longer_ones [x0, x1] = endD [] 2 (exB (cF n) 100000 b_longer_ones [x0, x1, .no, .no, .no, .no, .no]) := cF_run D_longer_ones _ _ rfl rfl
theorem D_primes_by : Ds f_primes_by = some c_primes_by := rfl
theorem R_primes_by (n : Nat) (x0 x1 : Sl) : cF (n + 1) f_primes_by [x0, x1] = endD [] 2 (exB (cF n) 100000 b_primes_by [x0, x1, .no, .no, .no, .no, .no, .no]) := cF_run D_primes_by _ _ rfl rfl
theorem D_primes : Ds f_primes = some c_primes := rfl
theorem R_primes (n : Nat) (x0 : Sl) : cF (n + 1) f_primes [x0] = endD [] 1 (exB (cF n) 100000 b_primes [x0]) := cF_run D_primes _ _ rfl rfl
theorem D_law_mixed : Ds f_law_mixed = some c_law_mixed := rfl
theorem R_law_mixed (n : Nat) (x0 x1 : Sl) : cF (n + 1) f_law_mixed [x0, x1] = endD [0] 2 (exB (cF n) 100000 b_law_mixed [x0, x1, .no, .no]) := cF_run D_law_mixed _ _ rfl rfl
theorem D_is_columns : Ds f_is_columns = some c_is_columns := rfl
theorem R_is_columns (n : Nat) (x0 : Sl) : cF (n + 1) f_is_columns [x0] = endD [] 1 (exB (cF n) 100000 b_is_columns [x0, .no]) := cF_run D_is_columns _ _ rfl rfl
theorem D_row_against : Ds f_row_against = some c_row_against := rfl
theorem R_row_against (n : Nat) (x0 x1 x2 x3 : Sl) : cF (n + 1) f_row_against [x0, x1, x2, x3] = endD [] 4 (exB (cF n) 100000 b_row_against [x0, x1, x2, x3, .no, .no, .no, .no]) := cF_run D_row_against _ _ rfl rfl
theorem D_follows : Ds f_follows = some c_follows := rfl
theorem R_follows (n : Nat) (x0 x1 x2 x3 : Sl) : cF (n + 1) f_follows [x0, x1, x2, x3] = endD [] 4 (exB (cF n) 100000 b_follows [x0, x1, x2, x3]) := cF_run D_follows _ _ rfl rfl
theorem D_is_of_2 : Ds f_is_of_2 = some c_is_of_2 := rfl
theorem R_is_of_2 (n : Nat) (x0 x1 : Sl) : cF (n + 1) f_is_of_2 [x0, x1] = endD [] 2 (exB (cF n) 100000 b_is_of_2 [x0, x1, .no, .no, .no]) := cF_run D_is_of_2 _ _ rfl rfl
theorem D_primes_of : Ds f_primes_of = some c_primes_of := rfl
theorem R_primes_of (n : Nat) (x0 x1 : Sl) : cF (n + 1) f_primes_of [x0, x1] = endD [] 2 (exB (cF n) 100000 b_primes_of [x0, x1, .no, .no]) := cF_run D_primes_of _ _ rfl rfl
theorem D_law_every_clause : Ds f_law_every_clause = some c_law_every_clause := rfl
theorem R_law_every_clause (n : Nat) (x0 : Sl) : cF (n + 1) f_law_every_clause [x0] = endD [] 1 (exB (cF n) 100000 b_law_every_clause [x0, .no, .no, .no, .no]) := cF_run D_law_every_clause _ _ rfl rfl
theorem D_law_primes : Ds f_law_primes = some c_law_primes := rfl
theorem R_law_primes (n : Nat) (x0 : Sl) : cF (n + 1) f_law_primes [x0] = endD [] 1 (exB (cF n) 100000 b_law_primes [x0, .no, .no, .no, .no, .no, .no]) := cF_run D_law_primes _ _ rfl rfl
theorem D_law_asked : Ds f_law_asked = some c_law_asked := rfl
theorem R_law_asked (n : Nat) (x0 x1 x2 x3 : Sl) : cF (n + 1) f_law_asked [x0, x1, x2, x3] = endD [] 4 (exB (cF n) 100000 b_law_asked [x0, x1, x2, x3, .no, .no, .no]) := cF_run D_law_asked _ _ rfl rfl
theorem D_law_k65 : Ds f_law_k65 = some c_law_k65 := rfl
theorem R_law_k65 (n : Nat) (x0 : Sl) : cF (n + 1) f_law_k65 [x0] = endD [] 1 (exB (cF n) 100000 b_law_k65 [x0, .no, .no, .no, .no, .no, .no, .no, .no, .no, .no, .no, .no, .no, .no]) := cF_run D_law_k65 _ _ rfl rfl
theorem D_has_row : Ds f_has_row = some c_has_row := rfl
theorem R_has_row (n : Nat) (x0 x1 : Sl) : cF (n + 1) f_has_row [x0, x1] = endD [] 2 (exB (cF n) 100000 b_has_row [x0, x1]) := cF_run D_has_row _ _ rfl rfl
theorem D_many_rows_3 : Ds f_many_rows_3 = some c_many_rows_3 := rfl
theorem R_many_rows_3 (n : Nat) (x0 : Sl) : cF (n + 1) f_many_rows_3 [x0] = endD [] 1 (exB (cF n) 100000 b_many_rows_3 [x0]) := cF_run D_many_rows_3 _ _ rfl rfl
theorem D_check_columns : Ds f_check_columns = some c_check_columns := rfl
theorem R_check_columns (n : Nat) (x0 : Sl) : cF (n + 1) f_check_columns [x0] = endD [] 1 (exB (cF n) 100000 b_check_columns [x0]) := cF_run D_check_columns _ _ rfl rfl
theorem D_full_table : Ds f_full_table = some c_full_table := rfl
theorem R_full_table (n : Nat) (x0 : Sl) : cF (n + 1) f_full_table [x0] = endD [] 1 (exB (cF n) 100000 b_full_table [x0]) := cF_run D_full_table _ _ rfl rfl
theorem D_empty_table : Ds f_empty_table = some c_empty_table := rfl
theorem R_empty_table (n : Nat) (x0 : Sl) : cF (n + 1) f_empty_table [x0] = endD [] 1 (exB (cF n) 100000 b_empty_table [x0]) := cF_run D_empty_table _ _ rfl rfl
theorem D_table_of : Ds f_table_of = some c_table_of := rfl
theorem R_table_of (n : Nat) (x0 x1 : Sl) : cF (n + 1) f_table_of [x0, x1] = endD [] 2 (exB (cF n) 100000 b_table_of [x0, x1, .no]) := cF_run D_table_of _ _ rfl rfl
theorem D_check_row_4 : Ds f_check_row_4 = some c_check_row_4 := rfl
theorem R_check_row_4 (n : Nat) (x0 x1 : Sl) : cF (n + 1) f_check_row_4 [x0, x1] = endD [] 2 (exB (cF n) 100000 b_check_row_4 [x0, x1]) := cF_run D_check_row_4 _ _ rfl rfl
theorem D_with_row : Ds f_with_row = some c_with_row := rfl
theorem R_with_row (n : Nat) (x0 x1 : Sl) : cF (n + 1) f_with_row [x0, x1] = endD [] 2 (exB (cF n) 100000 b_with_row [x0, x1]) := cF_run D_with_row _ _ rfl rfl
theorem D_without_row : Ds f_without_row = some c_without_row := rfl
theorem R_without_row (n : Nat) (x0 x1 : Sl) : cF (n + 1) f_without_row [x0, x1] = endD [] 2 (exB (cF n) 100000 b_without_row [x0, x1, .no]) := cF_run D_without_row _ _ rfl rfl
theorem D_law_stepped : Ds f_law_stepped = some c_law_stepped := rfl
theorem R_law_stepped (n : Nat) (x0 x1 : Sl) : cF (n + 1) f_law_stepped [x0, x1] = endD [] 2 (exB (cF n) 100000 b_law_stepped [x0, x1, .no, .no, .no, .no, .no, .no]) := cF_run D_law_stepped _ _ rfl rfl
theorem D_law_k88 : Ds f_law_k88 = some c_law_k88 := rfl
theorem R_law_k88 (n : Nat) (x0 : Sl) : cF (n + 1) f_law_k88 [x0] = endD [] 1 (exB (cF n) 100000 b_law_k88 [x0, .no, .no, .no, .no, .no, .no, .no, .no]) := cF_run D_law_k88 _ _ rfl rfl
end C
end
section
set_option Elab.async false
set_option linter.all false
set_option maxRecDepth 100000
set_option maxHeartbeats 4000000
namespace C
open PySem PySem.Spec L2
abbrev prg : Program := PySem.Challenge.pw_tableshapes_k88_whole_rows_put_in_and_wh
def top (i : Nat) : Stmt := prg.main.body.getD i (.Pass ⟨0, 0, 0, 0⟩)
def t_wall : DefT := ⟨f_wall, ⟨("_wall", none), "_wall", "_wall", defArgs (top 0), defBody (top 0), defScope (top 0), [], []⟩, c_wall, ["k"], ["k"], false⟩
def t_is_integer : DefT := ⟨f_is_integer, ⟨("is_integer", none), "is_integer", "is_integer", defArgs (top 11), defBody (top 11), defScope (top 11), [], []⟩, c_is_integer, ["thing"], ["thing"], false⟩
def t_is_count : DefT := ⟨f_is_count, ⟨("is_count", none), "is_count", "is_count", defArgs (top 12), defBody (top 12), defScope (top 12), [], []⟩, c_is_count, ["thing"], ["thing"], false⟩
def t_is_bit : DefT := ⟨f_is_bit, ⟨("is_bit", none), "is_bit", "is_bit", defArgs (top 13), defBody (top 13), defScope (top 13), [], []⟩, c_is_bit, ["thing"], ["thing"], false⟩
def t_is_name : DefT := ⟨f_is_name, ⟨("is_name", none), "is_name", "is_name", defArgs (top 14), defBody (top 14), defScope (top 14), [], []⟩, c_is_name, ["thing", "sign"], ["thing"], false⟩
def t_is_tuple_of : DefT := ⟨f_is_tuple_of, ⟨("is_tuple_of", none), "is_tuple_of", "is_tuple_of", defArgs (top 15), defBody (top 15), defScope (top 15), [], []⟩, c_is_tuple_of, ["thing", "is_item", "item"], ["thing", "is_item"], false⟩
def t_is_columns : DefT := ⟨f_is_columns, ⟨("is_columns", none), "is_columns", "is_columns", defArgs (top 16), defBody (top 16), defScope (top 16), [], []⟩, c_is_columns, ["thing", "name"], ["thing"], false⟩
def t_is_bits : DefT := ⟨f_is_bits, ⟨("is_bits", none), "is_bits", "is_bits", defArgs (top 17), defBody (top 17), defScope (top 17), [], []⟩, c_is_bits, ["thing", "many"], ["thing", "many"], false⟩
def t_are_rising : DefT := ⟨f_are_rising, ⟨("are_rising", none), "are_rising", "are_rising", defArgs (top 19), defBody (top 19), defScope (top 19), [], []⟩, c_are_rising, ["things", "one", "other"], ["things"], false⟩
def t_is_literal_2 : DefT := ⟨f_is_literal_2, ⟨("is_literal", none), "is_literal", "is_literal", defArgs (top 20), defBody (top 20), defScope (top 20), [], []⟩, c_is_literal_2, ["columns", "thing"], ["columns", "thing"], false⟩
def t_is_clause_3 : DefT := ⟨f_is_clause_3, ⟨("is_clause", none), "is_clause", "is_clause", defArgs (top 21), defBody (top 21), defScope (top 21), [], []⟩, c_is_clause_3, ["columns", "thing", "column", "bit", "one"], ["columns", "thing"], false⟩
def t_check_clause : DefT := ⟨f_check_clause, ⟨("check_clause", none), "check_clause", "check_clause", defArgs (top 22), defBody (top 22), defScope (top 22), [], []⟩, c_check_clause, ["columns", "clause"], ["columns", "clause"], false⟩
def t_does_keep : DefT := ⟨f_does_keep, ⟨("does_keep", none), "does_keep", "does_keep", defArgs (top 24), defBody (top 24), defScope (top 24), [], []⟩, c_does_keep, ["clause", "row", "column", "bit"], ["clause", "row"], false⟩
def t_keep_all : DefT := ⟨f_keep_all, ⟨("keep_all", none), "keep_all", "keep_all", defArgs (top 27), defBody (top 27), defScope (top 27), [], []⟩, c_keep_all, ["rows", "clause", "row"], ["rows", "clause"], false⟩
def t_is_kept : DefT := ⟨f_is_kept, ⟨("is_kept", none), "is_kept", "is_kept", defArgs (top 28), defBody (top 28), defScope (top 28), [], []⟩, c_is_kept, ["table", "clause"], ["table", "clause"], false⟩
def t_has_in_it : DefT := ⟨f_has_in_it, ⟨("has_in_it", none), "has_in_it", "has_in_it", defArgs (top 29), defBody (top 29), defScope (top 29), [], []⟩, c_has_in_it, ["clause", "some", "one", "literal"], ["clause", "some"], false⟩
def t_longer_ones : DefT := ⟨f_longer_ones, ⟨("longer_ones", none), "longer_ones", "longer_ones", defArgs (top 30), defBody (top 30), defScope (top 30), [], []⟩, c_longer_ones, ["columns", "clauses", "found", "clause", "first", "column", "bit"], ["columns", "clauses"], false⟩
def t_primes_by : DefT := ⟨f_primes_by, ⟨("primes_by", none), "primes_by", "primes_by", defArgs (top 31), defBody (top 31), defScope (top 31), [], []⟩, c_primes_by, ["table", "most", "many", "found", "line", "looks", "left", "clause"], ["table", "most"], false⟩
def t_primes : DefT := ⟨f_primes, ⟨("primes", none), "primes", "primes", defArgs (top 32), defBody (top 32), defScope (top 32), [], []⟩, c_primes, ["table"], ["table"], false⟩
def t_made_row : DefT := ⟨f_made_row, ⟨("made_row", none), "made_row", "made_row", defArgs (top 34), defBody (top 34), defScope (top 34), [], []⟩, c_made_row, ["many", "number", "found", "_column"], ["many", "number"], false⟩
def t_power_of_two : DefT := ⟨f_power_of_two, ⟨("power_of_two", none), "power_of_two", "power_of_two", defArgs (top 35), defBody (top 35), defScope (top 35), [], []⟩, c_power_of_two, ["many", "found", "_time"], ["many"], false⟩
def t_all_rows : DefT := ⟨f_all_rows, ⟨("all_rows", none), "all_rows", "all_rows", defArgs (top 36), defBody (top 36), defScope (top 36), [], []⟩, c_all_rows, ["many", "number"], ["many"], false⟩
def t_many_rows_3 : DefT := ⟨f_many_rows_3, ⟨("many_rows", none), "many_rows", "many_rows", defArgs (top 38), defBody (top 38), defScope (top 38), [], []⟩, c_many_rows_3, ["table"], ["table"], false⟩
def t_has_row : DefT := ⟨f_has_row, ⟨("has_row", none), "has_row", "has_row", defArgs (top 39), defBody (top 39), defScope (top 39), [], []⟩, c_has_row, ["table", "row"], ["table", "row"], false⟩
def t_check_columns : DefT := ⟨f_check_columns, ⟨("check_columns", none), "check_columns", "check_columns", defArgs (top 40), defBody (top 40), defScope (top 40), [], []⟩, c_check_columns, ["columns"], ["columns"], false⟩
def t_full_table : DefT := ⟨f_full_table, ⟨("full_table", none), "full_table", "full_table", defArgs (top 41), defBody (top 41), defScope (top 41), [], []⟩, c_full_table, ["columns"], ["columns"], false⟩
def t_empty_table : DefT := ⟨f_empty_table, ⟨("empty_table", none), "empty_table", "empty_table", defArgs (top 42), defBody (top 42), defScope (top 42), [], []⟩, c_empty_table, ["columns"], ["columns"], false⟩
def t_rising : DefT := ⟨f_rising, ⟨("rising", none), "rising", "rising", defArgs (top 44), defBody (top 44), defScope (top 44), [], []⟩, c_rising, ["rows", "row"], ["rows"], false⟩
def t_table_of : DefT := ⟨f_table_of, ⟨("table_of", none), "table_of", "table_of", defArgs (top 45), defBody (top 45), defScope (top 45), [], []⟩, c_table_of, ["columns", "rows", "row"], ["columns", "rows"], false⟩
def t_check_row_4 : DefT := ⟨f_check_row_4, ⟨("check_row", none), "check_row", "check_row", defArgs (top 46), defBody (top 46), defScope (top 46), [], []⟩, c_check_row_4, ["table", "row"], ["table", "row"], false⟩
def t_with_row : DefT := ⟨f_with_row, ⟨("with_row", none), "with_row", "with_row", defArgs (top 47), defBody (top 47), defScope (top 47), [], []⟩, c_with_row, ["table", "row"], ["table", "row"], false⟩
def t_without_row : DefT := ⟨f_without_row, ⟨("without_row", none), "without_row", "without_row", defArgs (top 48), defBody (top 48), defScope (top 48), [], []⟩, c_without_row, ["table", "row", "one"], ["table", "row"], false⟩
def t_law_bag : DefT := ⟨f_law_bag, ⟨("_law_bag", none), "_law_bag", "_law_bag", defArgs (top 50), defBody (top 50), defScope (top 50), [], []⟩, c_law_bag, ["script", "cell"], ["script"], false⟩
def t_law_take : DefT := ⟨f_law_take, ⟨("_law_take", none), "_law_take", "_law_take", defArgs (top 51), defBody (top 51), defScope (top 51), [], []⟩, c_law_take, ["bag", "many", "begin", "second", "cell", "stirred", "value"], ["bag", "many"], false⟩
def t_law_some : DefT := ⟨f_law_some, ⟨("_law_some", none), "_law_some", "_law_some", defArgs (top 52), defBody (top 52), defScope (top 52), [], []⟩, c_law_some, ["bag", "things"], ["bag", "things"], false⟩
def t_law_alike : DefT := ⟨f_law_alike, ⟨("_law_alike", none), "_law_alike", "_law_alike", defArgs (top 53), defBody (top 53), defScope (top 53), [], []⟩, c_law_alike, ["found", "due"], ["found", "due"], false⟩
def t_law_names : DefT := ⟨f_law_names, ⟨("_law_names", none), "_law_names", "_law_names", defArgs (top 54), defBody (top 54), defScope (top 54), [], []⟩, c_law_names, ["many"], ["many"], false⟩
def t_law_rows : DefT := ⟨f_law_rows, ⟨("_law_rows", none), "_law_rows", "_law_rows", defArgs (top 55), defBody (top 55), defScope (top 55), [], []⟩, c_law_rows, ["many", "rows", "lap", "further", "row"], ["many"], false⟩
def t_law_table : DefT := ⟨f_law_table, ⟨("_law_table", none), "_law_table", "_law_table", defArgs (top 56), defBody (top 56), defScope (top 56), [], []⟩, c_law_table, ["bag", "most", "many", "share", "row"], ["bag", "most"], false⟩
def t_law_is_sum : DefT := ⟨f_law_is_sum, ⟨("_law_is_sum", none), "_law_is_sum", "_law_is_sum", defArgs (top 57), defBody (top 57), defScope (top 57), [], []⟩, c_law_is_sum, ["rule"], ["rule"], false⟩
def t_law_keeps : DefT := ⟨f_law_keeps, ⟨("_law_keeps", none), "_law_keeps", "_law_keeps", defArgs (top 58), defBody (top 58), defScope (top 58), [], []⟩, c_law_keeps, ["rule", "row", "k", "bit"], ["rule", "row"], false⟩
def t_law_every_clause : DefT := ⟨f_law_every_clause, ⟨("_law_every_clause", none), "_law_every_clause", "_law_every_clause", defArgs (top 59), defBody (top 59), defScope (top 59), [], []⟩, c_law_every_clause, ["many", "lots", "k", "further", "clause"], ["many"], true⟩
def t_law_primes : DefT := ⟨f_law_primes, ⟨("_law_primes", none), "_law_primes", "_law_primes", defArgs (top 60), defBody (top 60), defScope (top 60), [], []⟩, c_law_primes, ["table", "kept", "found", "clause", "one", "row", "literal"], ["table"], false⟩
def t_law_mixed : DefT := ⟨f_law_mixed, ⟨("_law_mixed", none), "_law_mixed", "_law_mixed", defArgs (top 61), defBody (top 61), defScope (top 61), [], []⟩, c_law_mixed, ["bag", "things", "found", "thing"], ["bag", "things"], false⟩
def t_law_stepped : DefT := ⟨f_law_stepped, ⟨("_law_stepped", none), "_law_stepped", "_law_stepped", defArgs (top 62), defBody (top 62), defScope (top 62), [], []⟩, c_law_stepped, ["table", "row", "later", "clause", "told", "one", "its", "literal"], ["table", "row"], false⟩
def t_law_k88 : DefT := ⟨f_law_k88, ⟨("law", none), "law", "law", defArgs (top 63), defBody (top 63), defScope (top 63), [], []⟩, c_law_k88, ["script", "bag", "lap", "table", "many", "turn", "mixed", "built", "row"], ["script"], false⟩
def ts : List DefT := [t_wall, t_is_integer, t_is_count, t_is_bit, t_is_name, t_is_tuple_of, t_is_columns, t_is_bits, t_are_rising, t_is_literal_2, t_is_clause_3, t_check_clause, t_does_keep, t_keep_all, t_is_kept, t_has_in_it, t_longer_ones, t_primes_by, t_primes, t_made_row, t_power_of_two, t_all_rows, t_many_rows_3, t_has_row, t_check_columns, t_full_table, t_empty_table, t_rising, t_table_of, t_check_row_4, t_with_row, t_without_row, t_law_bag, t_law_take, t_law_some, t_law_alike, t_law_names, t_law_rows, t_law_table, t_law_is_sum, t_law_keeps, t_law_every_clause, t_law_primes, t_law_mixed, t_law_stepped, t_law_k88]
def frees : List Str := ["abs", "all", "any", "bool", "int", "isinstance", "len", "list", "range", "repr", "set", "sorted", "str", "sum", "tuple", "zip"]
def cons : List (Str × PyData) := [("LETTERS", .str "abcdefghijklmnopqrstuvwxyz"), ("DIGITS", .str "0123456789"), ("MOST_LETTERS", .int 8), ("MOST_COLUMNS", .int 12), ("RESERVED", .tuple [.str "and", .str "even", .str "if", .str "least", .str "never", .str "none", .str "not", .str "odd", .str "of", .str "or", .str "row", .str "rule", .str "some", .str "sum", .str "table", .str "then"]), ("MOST_LOOKS", .int 20000)]
theorem bd_wall : BindOk t_wall := fun _ _ _ _ _ _ us hl => match us, hl with | [_], _ => rfl
theorem bd_is_integer : BindOk t_is_integer := fun _ _ _ _ _ _ us hl => match us, hl with | [_], _ => rfl
theorem bd_is_count : BindOk t_is_count := fun _ _ _ _ _ _ us hl => match us, hl with | [_], _ => rfl
theorem bd_is_bit : BindOk t_is_bit := fun _ _ _ _ _ _ us hl => match us, hl with | [_], _ => rfl
theorem bd_is_name : BindOk t_is_name := fun _ _ _ _ _ _ us hl => match us, hl with | [_], _ => rfl
theorem bd_is_tuple_of : BindOk t_is_tuple_of := fun _ _ _ _ _ _ us hl => match us, hl with | [_, _], _ => rfl
theorem bd_is_columns : BindOk t_is_columns := fun _ _ _ _ _ _ us hl => match us, hl with | [_], _ => rfl
theorem bd_is_bits : BindOk t_is_bits := fun _ _ _ _ _ _ us hl => match us, hl with | [_, _], _ => rfl
theorem bd_are_rising : BindOk t_are_rising := fun _ _ _ _ _ _ us hl => match us, hl with | [_], _ => rfl
theorem bd_is_literal_2 : BindOk t_is_literal_2 := fun _ _ _ _ _ _ us hl => match us, hl with | [_, _], _ => rfl
theorem bd_is_clause_3 : BindOk t_is_clause_3 := fun _ _ _ _ _ _ us hl => match us, hl with | [_, _], _ => rfl
theorem bd_check_clause : BindOk t_check_clause := fun _ _ _ _ _ _ us hl => match us, hl with | [_, _], _ => rfl
theorem bd_does_keep : BindOk t_does_keep := fun _ _ _ _ _ _ us hl => match us, hl with | [_, _], _ => rfl
theorem bd_keep_all : BindOk t_keep_all := fun _ _ _ _ _ _ us hl => match us, hl with | [_, _], _ => rfl
theorem bd_is_kept : BindOk t_is_kept := fun _ _ _ _ _ _ us hl => match us, hl with | [_, _], _ => rfl
theorem bd_has_in_it : BindOk t_has_in_it := fun _ _ _ _ _ _ us hl => match us, hl with | [_, _], _ => rfl
theorem bd_longer_ones : BindOk t_longer_ones := fun _ _ _ _ _ _ us hl => match us, hl with | [_, _], _ => rfl
theorem bd_primes_by : BindOk t_primes_by := fun _ _ _ _ _ _ us hl => match us, hl with | [_, _], _ => rfl
theorem bd_primes : BindOk t_primes := fun _ _ _ _ _ _ us hl => match us, hl with | [_], _ => rfl
theorem bd_made_row : BindOk t_made_row := fun _ _ _ _ _ _ us hl => match us, hl with | [_, _], _ => rfl
theorem bd_power_of_two : BindOk t_power_of_two := fun _ _ _ _ _ _ us hl => match us, hl with | [_], _ => rfl
theorem bd_all_rows : BindOk t_all_rows := fun _ _ _ _ _ _ us hl => match us, hl with | [_], _ => rfl
theorem bd_many_rows_3 : BindOk t_many_rows_3 := fun _ _ _ _ _ _ us hl => match us, hl with | [_], _ => rfl
theorem bd_has_row : BindOk t_has_row := fun _ _ _ _ _ _ us hl => match us, hl with | [_, _], _ => rfl
theorem bd_check_columns : BindOk t_check_columns := fun _ _ _ _ _ _ us hl => match us, hl with | [_], _ => rfl
theorem bd_full_table : BindOk t_full_table := fun _ _ _ _ _ _ us hl => match us, hl with | [_], _ => rfl
theorem bd_empty_table : BindOk t_empty_table := fun _ _ _ _ _ _ us hl => match us, hl with | [_], _ => rfl
theorem bd_rising : BindOk t_rising := fun _ _ _ _ _ _ us hl => match us, hl with | [_], _ => rfl
theorem bd_table_of : BindOk t_table_of := fun _ _ _ _ _ _ us hl => match us, hl with | [_, _], _ => rfl
theorem bd_check_row_4 : BindOk t_check_row_4 := fun _ _ _ _ _ _ us hl => match us, hl with | [_, _], _ => rfl
theorem bd_with_row : BindOk t_with_row := fun _ _ _ _ _ _ us hl => match us, hl with | [_, _], _ => rfl
theorem bd_without_row : BindOk t_without_row := fun _ _ _ _ _ _ us hl => match us, hl with | [_, _], _ => rfl
theorem bd_law_bag : BindOk t_law_bag := fun _ _ _ _ _ _ us hl => match us, hl with | [_], _ => rfl
theorem bd_law_take : BindOk t_law_take := fun _ _ _ _ _ _ us hl => match us, hl with | [_, _], _ => rfl
theorem bd_law_some : BindOk t_law_some := fun _ _ _ _ _ _ us hl => match us, hl with | [_, _], _ => rfl
theorem bd_law_alike : BindOk t_law_alike := fun _ _ _ _ _ _ us hl => match us, hl with | [_, _], _ => rfl
theorem bd_law_names : BindOk t_law_names := fun _ _ _ _ _ _ us hl => match us, hl with | [_], _ => rfl
theorem bd_law_rows : BindOk t_law_rows := fun _ _ _ _ _ _ us hl => match us, hl with | [_], _ => rfl
theorem bd_law_table : BindOk t_law_table := fun _ _ _ _ _ _ us hl => match us, hl with | [_, _], _ => rfl
theorem bd_law_is_sum : BindOk t_law_is_sum := fun _ _ _ _ _ _ us hl => match us, hl with | [_], _ => rfl
theorem bd_law_keeps : BindOk t_law_keeps := fun _ _ _ _ _ _ us hl => match us, hl with | [_, _], _ => rfl
theorem bd_law_every_clause : BindOk t_law_every_clause := fun _ _ _ _ _ _ us hl => match us, hl with | [_], _ => rfl
theorem bd_law_primes : BindOk t_law_primes := fun _ _ _ _ _ _ us hl => match us, hl with | [_], _ => rfl
theorem bd_law_mixed : BindOk t_law_mixed := fun _ _ _ _ _ _ us hl => match us, hl with | [_, _], _ => rfl
theorem bd_law_stepped : BindOk t_law_stepped := fun _ _ _ _ _ _ us hl => match us, hl with | [_, _], _ => rfl
theorem bd_law_k88 : BindOk t_law_k88 := fun _ _ _ _ _ _ us hl => match us, hl with | [_], _ => rfl
theorem binds : ∀ t ∈ ts, BindOk t := by
  intro t ht
  simp only [ts, List.mem_cons, List.not_mem_nil, or_false] at ht
  rcases ht with rfl | rfl | rfl | rfl | rfl | rfl | rfl | rfl | rfl | rfl | rfl | rfl | rfl | rfl | rfl | rfl | rfl | rfl | rfl | rfl | rfl | rfl | rfl | rfl | rfl | rfl | rfl | rfl | rfl | rfl | rfl | rfl | rfl | rfl | rfl | rfl | rfl | rfl | rfl | rfl | rfl | rfl | rfl | rfl | rfl | rfl
  · exact bd_wall
  · exact bd_is_integer
  · exact bd_is_count
  · exact bd_is_bit
  · exact bd_is_name
  · exact bd_is_tuple_of
  · exact bd_is_columns
  · exact bd_is_bits
  · exact bd_are_rising
  · exact bd_is_literal_2
  · exact bd_is_clause_3
  · exact bd_check_clause
  · exact bd_does_keep
  · exact bd_keep_all
  · exact bd_is_kept
  · exact bd_has_in_it
  · exact bd_longer_ones
  · exact bd_primes_by
  · exact bd_primes
  · exact bd_made_row
  · exact bd_power_of_two
  · exact bd_all_rows
  · exact bd_many_rows_3
  · exact bd_has_row
  · exact bd_check_columns
  · exact bd_full_table
  · exact bd_empty_table
  · exact bd_rising
  · exact bd_table_of
  · exact bd_check_row_4
  · exact bd_with_row
  · exact bd_without_row
  · exact bd_law_bag
  · exact bd_law_take
  · exact bd_law_some
  · exact bd_law_alike
  · exact bd_law_names
  · exact bd_law_rows
  · exact bd_law_table
  · exact bd_law_is_sum
  · exact bd_law_keeps
  · exact bd_law_every_clause
  · exact bd_law_primes
  · exact bd_law_mixed
  · exact bd_law_stepped
  · exact bd_law_k88
theorem dsOk : ∀ t ∈ ts, Ds t.n = some t.c := by
  intro t ht
  simp only [ts, List.mem_cons, List.not_mem_nil, or_false] at ht
  rcases ht with rfl | rfl | rfl | rfl | rfl | rfl | rfl | rfl | rfl | rfl | rfl | rfl | rfl | rfl | rfl | rfl | rfl | rfl | rfl | rfl | rfl | rfl | rfl | rfl | rfl | rfl | rfl | rfl | rfl | rfl | rfl | rfl | rfl | rfl | rfl | rfl | rfl | rfl | rfl | rfl | rfl | rfl | rfl | rfl | rfl | rfl
  · exact D_wall
  · exact D_is_integer
  · exact D_is_count
  · exact D_is_bit
  · exact D_is_name
  · exact D_is_tuple_of
  · exact D_is_columns
  · exact D_is_bits
  · exact D_are_rising
  · exact D_is_literal_2
  · exact D_is_clause_3
  · exact D_check_clause
  · exact D_does_keep
  · exact D_keep_all
  · exact D_is_kept
  · exact D_has_in_it
  · exact D_longer_ones
  · exact D_primes_by
  · exact D_primes
  · exact D_made_row
  · exact D_power_of_two
  · exact D_all_rows
  · exact D_many_rows_3
  · exact D_has_row
  · exact D_check_columns
  · exact D_full_table
  · exact D_empty_table
  · exact D_rising
  · exact D_table_of
  · exact D_check_row_4
  · exact D_with_row
  · exact D_without_row
  · exact D_law_bag
  · exact D_law_take
  · exact D_law_some
  · exact D_law_alike
  · exact D_law_names
  · exact D_law_rows
  · exact D_law_table
  · exact D_law_is_sum
  · exact D_law_keeps
  · exact D_law_every_clause
  · exact D_law_primes
  · exact D_law_mixed
  · exact D_law_stepped
  · exact D_law_k88
end C
end
section
set_option Elab.async false
set_option linter.all false
set_option maxRecDepth 100000
set_option maxHeartbeats 0
namespace C
open PySem PySem.Spec L2
theorem checked : (ts.all fun t => scopeB t && ckDef (mkG ts frees cons) t) = true := by decide +kernel
theorem plaints : plainT ts = true := by decide +kernel
abbrev rwL : PySem.W.OpenLaw := PySem.Challenge.rw_tableshapes_k88_whole_rows_put_in_and_wh
abbrev rw : PySem.W.OpenRow := PySem.W.OpenLaw.row rwL
abbrev hk : PySem.W.Hook := hookL 4 ts frees cons
def ob (s : PySem.W.SharedT) : He.AlT × Bool := obsL 4 ts frees cons (HandSHeadRun.getT s)
theorem ob_eq (s : PySem.W.SharedT) : ob s = hk.obs s.abs := obsL_eq (HandSHeadRun.getT_eq s)
def loose0 : List Str := ["_wall", "ShapeError", "Nothing", "TooLarge", "LETTERS", "DIGITS", "MOST_LETTERS", "MOST_COLUMNS", "RESERVED", "is_integer", "is_count", "is_bit", "is_name", "is_tuple_of", "is_columns", "is_bits", "are_rising", "is_literal", "is_clause", "check_clause", "does_keep", "MOST_LOOKS", "keep_all", "is_kept", "has_in_it", "longer_ones", "primes_by", "primes", "made_row", "power_of_two"]
def loose1 : List Str := ["all_rows", "many_rows", "has_row", "check_columns", "full_table", "empty_table", "rising", "table_of", "check_row", "with_row", "without_row", "_law_bag", "_law_take", "_law_some", "_law_alike", "_law_names", "_law_rows", "_law_table", "_law_is_sum", "_law_keeps", "_law_every_clause", "_law_primes", "_law_mixed", "_law_stepped"]
def loose : List Str := loose0 ++ loose1
theorem run_false (w : World) : HandSHeadRun.RunEq rw (PySem.W.view rw.prog [63]) hk ob 10000 loose (w.withFollow "special-get-raises" false) := by
  intro os
  kernel_rfl
theorem run_true (w : World) : HandSHeadRun.RunEq rw (PySem.W.view rw.prog [63]) hk ob 10000 loose (w.withFollow "special-get-raises" true) := by
  intro os
  kernel_rfl
theorem run (w : World) : HandSHeadRun.RunEq rw (PySem.W.view rw.prog [63]) hk ob 10000 loose w := PySem.W.byRow2 "special-get-raises" (P := fun w => HandSHeadRun.RunEq rw (PySem.W.view rw.prog [63]) hk ob 10000 loose w) run_false run_true w
theorem memL : t_law_k88 ∈ ts := List.mem_of_getElem? (i := 45) rfl
theorem ended (law : ∀ ns : List Int, ns.length ≤ 63 → ∃ outs, callF Ds 100000 40 f_law_k88 [.sh (.list (ns.map PyData.int))] = .ok (.sh (.bool true)) outs) : PySem.W.WalkO (PySem.W.view rw.prog [63]) loose (PySem.W.XL (PySem.W.view rw.prog [63]) []) hk.says rw.toRowW (HandSHeadRun.topDef rw.prog 63) [] (fun f vs => PySem.call f vs) := by
  refine walk_ofG (l := rwL) (n := 63) (k := 40) (m := f_law_k88) (cf := callF Ds 100000 40) rfl (by decide) (by kernel_rfl) ⟨rfl, by decide, by decide⟩ ?F law
  intro w mg fa h Y G hmg0
  have hmg : mg ("law" : Str) = some (.ref fa) := by
    have e : (HandSHeadRun.topDef rw.prog 63).name = ("law" : Str) := by kernel_rfl
    rw [← e]; exact hmg0
  exact law_says (l := rwL) (tl := t_law_k88) Y G memL hmg plaints dsOk checked binds
end C
end
section
set_option Elab.async false
set_option linter.all false
set_option maxRecDepth 100000
/-! Rows, clauses, least clauses: plain mathematics. -/
namespace C
open PySem
abbrev Row := List Bool
abbrev Lit := Nat × Bool
abbrev Cls := List Lit
abbrev tRow : Ty Row := tList tBit
abbrev tLit : Ty Lit := tPair tNat tBit
abbrev tCls : Ty Cls := tList tLit
/-- whether a clause has a literal of a row -/
def dk (c : Cls) (r : Row) : Bool := c.any fun l => r.getD l.1 false == l.2
/-- whether all rows keep a clause -/
def ka (rows : List Row) (c : Cls) : Bool := rows.all fun r => dk c r
/-- a clause of so many columns -/
structure VC (n : Nat) (c : Cls) : Prop where
  asc : c.Pairwise fun a b => a.1 < b.1
  lt : ∀ l ∈ c, l.1 < n
def VR (n : Nat) (rows : List Row) : Prop := ∀ r ∈ rows, r.length = n
/-- p within c -/
def sub (p c : Cls) : Bool := p.all fun l => decide (l ∈ c)
theorem sub_iff {p c : Cls} : sub p c = true ↔ ∀ l ∈ p, l ∈ c := by simp [sub]
theorem sub_refl (c : Cls) : sub c c = true := sub_iff.mpr fun _ h => h
theorem sub_trans {a b c : Cls} (h : sub a b = true) (k : sub b c = true) : sub a c = true := sub_iff.mpr fun l hl => sub_iff.mp k l (sub_iff.mp h l hl)
theorem dk_iff {c : Cls} {r : Row} : dk c r = true ↔ ∃ l ∈ c, r.getD l.1 false = l.2 := by simp [dk]
theorem dk_sub {p c : Cls} {r : Row} (h : sub p c = true) (k : dk p r = true) : dk c r = true := by
  obtain ⟨l, h1, h2⟩ := dk_iff.mp k
  exact dk_iff.mpr ⟨l, sub_iff.mp h l h1, h2⟩
theorem ka_iff {rows : List Row} {c : Cls} : ka rows c = true ↔ ∀ r ∈ rows, dk c r = true := by simp [ka]
theorem ka_sub {p c : Cls} {rows : List Row} (h : sub p c = true) (k : ka rows p = true) : ka rows c = true := ka_iff.mpr fun r hr => dk_sub h (ka_iff.mp k r hr)
theorem VC.nil (n : Nat) : VC n [] := ⟨List.Pairwise.nil, fun _ h => by simp at h⟩
theorem asc_sublist : ∀ {c p : Cls}, p.Pairwise (fun a b => a.1 < b.1) → c.Pairwise (fun a b => a.1 < b.1) → (∀ l ∈ p, l ∈ c) → p.Sublist c
  | [], p, _, _, h => by cases p with | nil => exact List.Sublist.slnil | cons x p => have := h x List.mem_cons_self; simp at this
  | y :: c, [], _, _, _ => List.nil_sublist _
  | y :: c, x :: p, hp, hc, h => by
    have p1 := List.pairwise_cons.mp hp
    have c1 := List.pairwise_cons.mp hc
    by_cases e : x = y
    · subst e
      refine (asc_sublist p1.2 c1.2 fun l hl => ?_).cons₂ _
      rcases List.mem_cons.mp (h l (List.mem_cons_of_mem _ hl)) with z | z
      · have := p1.1 l hl; rw [z] at this; omega
      · exact z
    · have hx : x ∈ c := by
        rcases List.mem_cons.mp (h x List.mem_cons_self) with z | z
        · exact absurd z e
        · exact z
      refine (asc_sublist hp c1.2 fun l hl => ?_).cons _
      rcases List.mem_cons.mp (h l hl) with z | z
      · subst z
        rcases List.mem_cons.mp hl with q | q
        · exact absurd q.symm e
        · have a1 := p1.1 l q
          have a2 := c1.1 x hx
          omega
      · exact z
theorem sub_sublist {n : Nat} {p c : Cls} (hp : VC n p) (hc : VC n c) (h : sub p c = true) : p.Sublist c := asc_sublist hp.asc hc.asc (sub_iff.mp h)
theorem sub_len {n : Nat} {p c : Cls} (hp : VC n p) (hc : VC n c) (h : sub p c = true) : p.length ≤ c.length := (sub_sublist hp hc h).length_le
theorem sub_eq {n : Nat} {p c : Cls} (hp : VC n p) (hc : VC n c) (h : sub p c = true) (hl : c.length ≤ p.length) : p = c := (sub_sublist hp hc h).eq_of_length_le hl
theorem sub_anti {n : Nat} {p c : Cls} (hp : VC n p) (hc : VC n c) (h : sub p c = true) (k : sub c p = true) : p = c := sub_eq hp hc h (sub_len hc hp k)
theorem VC.sublist {n : Nat} {p c : Cls} (hc : VC n c) (h : p.Sublist c) : VC n p := ⟨hc.asc.sublist h, fun l hl => hc.lt l (h.subset hl)⟩
theorem sublist_sub {p c : Cls} (h : p.Sublist c) : sub p c = true := sub_iff.mpr fun _ hl => h.subset hl
theorem VC.len {n : Nat} {c : Cls} (h : VC n c) : c.length ≤ n := by
  have h1 : (c.map (·.1)).Nodup := by
    rw [List.Nodup, List.pairwise_map]
    exact h.asc.imp fun z => by omega
  have h2 : ∀ k ∈ c.map (·.1), k < n := fun k hk => by
    obtain ⟨l, hl, rfl⟩ := List.mem_map.mp hk
    exact h.lt l hl
  have : (c.map (·.1)).length ≤ n := by
    have hs := (List.nodup_range (n := n))
    have : ∀ (l : List Nat) (n : Nat), l.Nodup → (∀ k ∈ l, k < n) → l.length ≤ n := by
      intro l n
      induction n generalizing l with
      | zero => intro _ hk; cases l with | nil => simp | cons x l => have := hk x List.mem_cons_self; omega
      | succ n ih =>
        intro hn hk
        have h3 := ih (l.filter (· != n)) (hn.filter _) fun k hk2 => by
          have := List.mem_filter.mp hk2
          have a := hk k this.1
          have b : k ≠ n := by simpa using this.2
          omega
        have h4 : l.length ≤ (l.filter (· != n)).length + 1 := by
          clear ih h3 hk
          induction l with
          | nil => simp
          | cons x l ih2 =>
            have hx := List.nodup_cons.mp hn
            by_cases e : x = n
            · subst e
              have : l.filter (· != x) = l := List.filter_eq_self.mpr fun k hk => by
                have : k ≠ x := fun z => hx.1 (z ▸ hk)
                simpa using this
              simp [this]
            · have := ih2 hx.2
              rw [List.filter_cons_of_pos (by simpa using e)]
              simp only [List.length_cons]; omega
        omega
    exact this _ _ h1 h2
  simpa using this
theorem VC.snoc {n k : Nat} {c : Cls} {b : Bool} (h : VC k c) (hk : k < n) : VC n (c ++ [(k, b)]) := by
  refine ⟨?_, fun l hl => ?_⟩
  · rw [List.pairwise_append]
    exact ⟨h.asc, List.pairwise_singleton _ _, fun a ha b hb => by simp at hb; subst hb; exact h.lt a ha⟩
  · rcases List.mem_append.mp hl with z | z
    · have := h.lt l z; omega
    · simp at z; subst z; exact hk
theorem VC.mono {n m : Nat} {c : Cls} (h : VC n c) (k : n ≤ m) : VC m c := ⟨h.asc, fun l hl => Nat.lt_of_lt_of_le (h.lt l hl) k⟩
/-- the last literal told apart -/
theorem VC.last {n : Nat} {c : Cls} (h : VC n c) (hc : c ≠ []) : ∃ p k b, c = p ++ [(k, b)] ∧ k < n ∧ VC k p := by
  refine ⟨c.dropLast, (c.getLast hc).1, (c.getLast hc).2, (List.dropLast_concat_getLast hc).symm, h.lt _ (List.getLast_mem hc), ?_⟩
  have e := (List.dropLast_concat_getLast hc).symm
  have ha := h.asc
  rw [e, List.pairwise_append] at ha
  exact ⟨ha.1, fun l hl => ha.2.2 l hl _ (by simp)⟩
/-! ### all clauses -/
def extC (k : Nat) (c : Cls) : List Cls := [c, c ++ [(k, false)], c ++ [(k, true)]]
def allC : Nat → List Cls
  | 0 => [[]]
  | n + 1 => (allC n).flatMap (extC n)
theorem allC_mem : ∀ {n : Nat} {c : Cls}, c ∈ allC n ↔ VC n c
  | 0, c => by
    simp only [allC, List.mem_singleton]
    constructor
    · rintro rfl; exact VC.nil 0
    · intro h
      cases c with
      | nil => rfl
      | cons l c => have := h.lt l List.mem_cons_self; omega
  | n + 1, c => by
    show c ∈ (allC n).flatMap (extC n) ↔ _
    rw [List.mem_flatMap]
    constructor
    · rintro ⟨a, ha, hc⟩
      have va := allC_mem.mp ha
      simp only [extC, List.mem_cons, List.not_mem_nil, or_false] at hc
      rcases hc with rfl | rfl | rfl
      · exact va.mono (by omega)
      · exact va.snoc (by omega)
      · exact va.snoc (by omega)
    · intro h
      by_cases hc : c = []
      · subst hc; exact ⟨[], allC_mem.mpr (VC.nil n), by simp [extC]⟩
      · obtain ⟨p, k, b, rfl, hk, hp⟩ := h.last hc
        by_cases e : k = n
        · subst e
          refine ⟨p, allC_mem.mpr hp, ?_⟩
          cases b <;> simp [extC]
        · exact ⟨p ++ [(k, b)], allC_mem.mpr (hp.snoc (by omega)), by simp [extC]⟩
theorem sum_const {α : Type} (c : Nat) : ∀ xs : List α, (xs.map fun _ => c).sum = xs.length * c
  | [] => by simp
  | x :: xs => by rw [List.map_cons, List.sum_cons, sum_const c xs, List.length_cons, Nat.add_mul]; omega
theorem extC_length (k : Nat) (cs : List Cls) : (cs.flatMap (extC k)).length = cs.length * 3 := by
  rw [List.length_flatMap]; exact sum_const 3 cs
theorem allC_length : ∀ n, (allC n).length = 3 ^ n
  | 0 => rfl
  | n + 1 => by
    show ((allC n).flatMap (extC n)).length = _
    rw [extC_length, allC_length n, Nat.pow_succ]
/-- a list without doubles within another one -/
theorem nodup_le {α : Type} [DecidableEq α] : ∀ {l m : List α}, l.Nodup → (∀ a ∈ l, a ∈ m) → l.length ≤ m.length
  | [], _, _, _ => Nat.zero_le _
  | a :: l, m, h, k => by
    have h1 := List.nodup_cons.mp h
    have hm := k a List.mem_cons_self
    have := nodup_le (m := m.erase a) h1.2 fun x hx => by
      have hne : x ≠ a := fun z => h1.1 (z ▸ hx)
      exact (List.mem_erase_of_ne hne).mpr (k x (List.mem_cons_of_mem _ hx))
    rw [List.length_erase_of_mem hm] at this
    have : 0 < m.length := List.length_pos_of_mem hm
    simp only [List.length_cons]; omega
theorem VC_count {n : Nat} {l : List Cls} (h : l.Nodup) (k : ∀ c ∈ l, VC n c) : l.length ≤ 3 ^ n := by
  rw [← allC_length]; exact nodup_le h fun c hc => allC_mem.mpr (k c hc)
/-! ### fewer literals ahead, then ascending -/
abbrev tKey : Ty (Nat × Cls) := tPair tNat tCls
def kap (c : Cls) : Nat × Cls := (c.length, c)
def klt (a b : Cls) : Bool := tKey.lt (kap a) (kap b)
def kle (a b : Cls) : Bool := tKey.le (kap a) (kap b)
theorem klt_len {a b : Cls} (h : klt a b = true) : a.length ≤ b.length := by
  unfold klt kap tKey tPair at h
  simp only at h
  split at h
  · rename_i e; omega
  · rename_i e; simp [tNat] at h; omega
theorem klt_of_len {a b : Cls} (h : a.length < b.length) : klt a b = true := by
  unfold klt kap tKey tPair
  simp only
  rw [if_neg (by omega)]
  simp [tNat, h]
theorem klt_same {a b : Cls} (h : a.length = b.length) : klt a b = tCls.lt a b := by
  unfold klt kap tKey tPair
  simp only
  rw [if_pos h]
  by_cases e : a = b
  · rw [if_pos e]; subst e; exact (tCls.lt_irrefl a).symm
  · rw [if_neg e]
theorem kle_len {a b : Cls} (h : kle a b = true) : a.length ≤ b.length := by
  by_cases e : a.length ≤ b.length
  · exact e
  · have := klt_of_len (a := b) (b := a) (by omega)
    unfold kle Ty.le at h
    rw [show tKey.lt (kap b) (kap a) = true from this] at h
    cases h
theorem klt_of_le {a b : Cls} (h : kle a b = true) (n : a ≠ b) : klt a b = true := by
  have hn : kap a ≠ kap b := fun z => n (congrArg Prod.snd z)
  rcases tKey.lt_tot hn with z | z
  · exact z
  · unfold kle Ty.le at h
    rw [z] at h; cases h
theorem klt_ne {a b : Cls} (h : klt a b = true) : a ≠ b := fun z => by subst z; have := tKey.lt_irrefl (kap a); unfold klt at h; rw [this] at h; cases h
/-- two lists that ascend so, of the same clauses, are one -/
theorem kext {xs ys : List Cls} (h : xs.Pairwise fun a b => klt a b = true) (k : ys.Pairwise fun a b => klt a b = true) (e : ∀ a, a ∈ xs ↔ a ∈ ys) : xs = ys := by
  have h1 : tKey.Asc (xs.map kap) := by unfold Ty.Asc; rw [List.pairwise_map]; exact h
  have h2 : tKey.Asc (ys.map kap) := by unfold Ty.Asc; rw [List.pairwise_map]; exact k
  have := tKey.asc_ext h1 h2 fun p => by
    simp only [List.mem_map]
    constructor
    · rintro ⟨c, hc, rfl⟩; exact ⟨c, (e c).mp hc, rfl⟩
    · rintro ⟨c, hc, rfl⟩; exact ⟨c, (e c).mpr hc, rfl⟩
  have h3 := congrArg (List.map Prod.snd) this
  rw [List.map_map, List.map_map] at h3
  have id1 : ∀ l : List Cls, l.map (Prod.snd ∘ kap) = l := fun l => List.map_id l
  rw [id1, id1] at h3
  exact h3
def ecs (n : Nat) : List Cls := (allC n).mergeSort kle
theorem ecs_mem {n : Nat} {c : Cls} : c ∈ ecs n ↔ VC n c := by unfold ecs; rw [List.mem_mergeSort, allC_mem]
theorem ecs_le (n : Nat) : (ecs n).Pairwise fun a b => kle a b = true :=
  List.pairwise_mergeSort (le := kle) (fun _ _ _ h k => tKey.le_trans h k) (fun a b => tKey.le_total (kap a) (kap b)) _
/-! ### least clauses -/
/-- a least clause that all rows keep -/
structure Prime (n : Nat) (rows : List Row) (c : Cls) : Prop where
  vc : VC n c
  ka : ka rows c = true
  least : ∀ p, VC n p → C.ka rows p = true → sub p c = true → p = c
theorem prime_below {n : Nat} {rows : List Row} : ∀ (m : Nat) {c : Cls}, c.length ≤ m → VC n c → ka rows c = true → ∃ p, Prime n rows p ∧ sub p c = true
  | m, c, hm, hv, hk => by
    by_cases h : ∀ p, VC n p → ka rows p = true → sub p c = true → p = c
    · exact ⟨c, ⟨hv, hk, h⟩, sub_refl c⟩
    · simp only [Classical.not_forall] at h
      obtain ⟨p, vp, kp, sp, hne⟩ := h
      have hl : p.length < c.length := by
        have h1 := sub_len vp hv sp
        have h2 : p.length ≠ c.length := fun z => hne (sub_eq vp hv sp (by omega))
        omega
      cases m with
      | zero => omega
      | succ m =>
        obtain ⟨q, hq, sq⟩ := prime_below m (by omega) vp kp
        exact ⟨q, hq, sub_trans sq sp⟩
theorem exists_prime {n : Nat} {rows : List Row} {c : Cls} (hv : VC n c) (hk : ka rows c = true) : ∃ p, Prime n rows p ∧ sub p c = true := prime_below _ (Nat.le_refl _) hv hk
/-- the law's own way -/
def lp1 (found : List Cls) (c : Cls) : List Cls := if found.any (fun p => sub p c) then found else found ++ [c]
def lprimes (n : Nat) (rows : List Row) : List Cls := ((ecs n).filter fun c => ka rows c).foldl lp1 []
structure LpInv (n : Nat) (pre found : List Cls) : Prop where
  cov : ∀ c ∈ pre, ∃ p ∈ found, sub p c = true
  mem : ∀ p ∈ found, p ∈ pre
  lst : ∀ p ∈ found, ∀ q ∈ found, sub p q = true → p = q
  asc : found.Pairwise fun a b => klt a b = true
theorem lp_inv {n : Nat} : ∀ (post pre found : List Cls), (pre ++ post).Pairwise (fun a b => kle a b = true) → (∀ c ∈ pre ++ post, VC n c) → LpInv n pre found → LpInv n (pre ++ post) (post.foldl lp1 found)
  | [], pre, found, _, _, h => by rw [List.append_nil]; exact h
  | x :: post, pre, found, hp, hv, h => by
    have hx : VC n x := hv x (by simp)
    have key : LpInv n (pre ++ [x]) (lp1 found x) := by
      have hle : ∀ p ∈ pre, kle p x = true := fun p hp2 => (List.pairwise_append.mp hp).2.2 p hp2 x List.mem_cons_self
      unfold lp1
      by_cases hf : found.any (fun p => sub p x) = true
      · rw [if_pos hf]
        obtain ⟨p, hp1, hp2⟩ := List.any_eq_true.mp hf
        refine ⟨fun c hc => ?_, fun p hp => List.mem_append_left _ (h.mem p hp), h.lst, h.asc⟩
        rcases List.mem_append.mp hc with z | z
        · exact h.cov c z
        · simp at z; subst z; exact ⟨p, hp1, hp2⟩
      · rw [if_neg hf]
        have hno : ∀ p ∈ found, sub p x = false := fun p hp => by
          cases q : sub p x with
          | false => rfl
          | true => exact absurd (List.any_eq_true.mpr ⟨p, hp, q⟩) hf
        refine ⟨fun c hc => ?_, fun p hp => ?_, fun p hp q hq s => ?_, ?_⟩
        · rcases List.mem_append.mp hc with z | z
          · obtain ⟨p, h1, h2⟩ := h.cov c z
            exact ⟨p, List.mem_append_left _ h1, h2⟩
          · simp at z; subst z; exact ⟨c, by simp, sub_refl c⟩
        · rcases List.mem_append.mp hp with z | z
          · exact List.mem_append_left _ (h.mem p z)
          · exact List.mem_append_right _ z
        · rcases List.mem_append.mp hp with zp | zp <;> rcases List.mem_append.mp hq with zq | zq
          · exact h.lst p zp q zq s
          · simp at zq; subst zq; rw [hno p zp] at s; cases s
          · simp at zp; subst zp
            have vq := hv q (List.mem_append_left _ (h.mem q zq))
            have l1 := kle_len (hle q (h.mem q zq))
            exact sub_eq hx vq s l1
          · simp at zp zq; rw [zp, zq]
        · rw [List.pairwise_append]
          refine ⟨h.asc, List.pairwise_singleton _ _, fun p2 hp2 q hq => ?_⟩
          have hqx : q = x := by simpa using hq
          rw [hqx]
          exact klt_of_le (hle p2 (h.mem p2 hp2)) fun z => by have := hno p2 hp2; rw [z, sub_refl] at this; cases this
    have e : pre ++ x :: post = (pre ++ [x]) ++ post := by simp
    rw [e] at hp hv ⊢
    exact lp_inv post (pre ++ [x]) _ hp hv key
theorem lprimes_inv (n : Nat) (rows : List Row) : LpInv n ((ecs n).filter fun c => ka rows c) (lprimes n rows) := by
  have := lp_inv (n := n) ((ecs n).filter fun c => ka rows c) [] [] ((ecs_le n).filter _) (fun c hc => ecs_mem.mp ((List.mem_filter.mp hc).1)) ⟨fun c h => by simp at h, fun p h => by simp at h, fun p h => by simp at h, List.Pairwise.nil⟩
  exact this
theorem lprimes_mem {n : Nat} {rows : List Row} {c : Cls} : c ∈ lprimes n rows ↔ Prime n rows c := by
  have I := lprimes_inv n rows
  have hm : ∀ c, c ∈ (ecs n).filter (fun c => ka rows c) ↔ VC n c ∧ ka rows c = true := fun c => by rw [List.mem_filter, ecs_mem]
  constructor
  · intro h
    obtain ⟨h1, h2⟩ := (hm c).mp (I.mem c h)
    refine ⟨h1, h2, fun p vp kp sp => ?_⟩
    obtain ⟨q, hq, sq⟩ := I.cov p ((hm p).mpr ⟨vp, kp⟩)
    have e := I.lst q hq c h (sub_trans sq sp)
    subst e
    exact sub_anti vp h1 sp sq
  · intro h
    obtain ⟨q, hq, sq⟩ := I.cov c ((hm c).mpr ⟨h.vc, h.ka⟩)
    obtain ⟨v, k⟩ := (hm q).mp (I.mem q hq)
    rw [← h.least q v k sq]; exact hq
theorem lprimes_asc (n : Nat) (rows : List Row) : (lprimes n rows).Pairwise fun a b => klt a b = true := (lprimes_inv n rows).asc
theorem lprimes_len (n : Nat) (rows : List Row) : (lprimes n rows).length ≤ 3 ^ n := VC_count ((lprimes_asc n rows).imp fun z => klt_ne z) fun c hc => (lprimes_mem.mp hc).vc
end C
end
section
set_option Elab.async false
set_option linter.all false
set_option maxRecDepth 100000
/-! The program's way to the least clauses, level by level. -/
namespace C
open PySem
variable {n : Nat} {rows : List Row}
/-- nothing within it is kept -/
def Free (n : Nat) (rows : List Row) (c : Cls) : Prop := ∀ p, VC n p → ka rows p = true → sub p c = false
def first (c : Cls) : Nat := match c.getLast? with
  | none => 0
  | some l => l.1 + 1
def longer1 (n : Nat) (c : Cls) : List Cls := (List.range' (first c) (n - first c)).flatMap fun k => [c ++ [(k, false)], c ++ [(k, true)]]
def longer (n : Nat) (cs : List Cls) : List Cls := tCls.sort (cs.flatMap (longer1 n))
theorem longer1_mem {c x : Cls} : x ∈ longer1 n c ↔ ∃ k b, first c ≤ k ∧ k < n ∧ x = c ++ [(k, b)] := by
  unfold longer1
  rw [List.mem_flatMap]
  constructor
  · rintro ⟨k, hk, hx⟩
    rw [List.mem_range'_1] at hk
    simp only [List.mem_cons, List.not_mem_nil, or_false] at hx
    rcases hx with rfl | rfl
    · exact ⟨k, false, by omega, by omega, rfl⟩
    · exact ⟨k, true, by omega, by omega, rfl⟩
  · rintro ⟨k, b, h1, h2, rfl⟩
    refine ⟨k, by rw [List.mem_range'_1]; omega, ?_⟩
    cases b <;> simp
theorem first_VC {c : Cls} {k : Nat} (h : VC n c) (hk : first c ≤ k) : VC k c := by
  by_cases hc : c = []
  · subst hc; exact VC.nil k
  · obtain ⟨p, j, b, rfl, hj, hp⟩ := h.last hc
    have : j + 1 ≤ k := by simpa [first] using hk
    exact hp.snoc (by omega)
theorem VC_first {c : Cls} {k : Nat} (h : VC k c) : first c ≤ k := by
  by_cases hc : c = []
  · subst hc; exact Nat.zero_le _
  · obtain ⟨p, j, b, rfl, hj, hp⟩ := h.last hc
    simp [first]; omega
theorem snoc_inj {c d : Cls} {l m : Lit} (h : c ++ [l] = d ++ [m]) : c = d ∧ l = m := by
  have := List.append_inj' h rfl
  exact ⟨this.1, by simpa using this.2⟩
theorem longer_nodup {cs : List Cls} (h : cs.Nodup) : (cs.flatMap (longer1 n)).Nodup := by
  unfold List.Nodup
  rw [List.pairwise_flatMap]
  refine ⟨fun c hc => ?_, h.imp fun {a b} hab x hx y hy z => ?_⟩
  · unfold longer1
    rw [List.pairwise_flatMap]
    refine ⟨fun k hk => ?_, (List.nodup_range' (step := 1)).imp fun {a b} hab x hx y hy z => ?_⟩
    · rw [List.pairwise_cons]
      exact ⟨fun y hy z => by simp at hy; rw [hy] at z; have := snoc_inj z; simp at this, List.pairwise_singleton _ _⟩
    · subst z
      simp only [List.mem_cons, List.not_mem_nil, or_false] at hx hy
      rcases hx with rfl | rfl <;> rcases hy with q | q <;> (have := (snoc_inj q).2; simp at this; try exact hab this)
  · subst z
    obtain ⟨k, b, _, _, rfl⟩ := longer1_mem.mp hx
    obtain ⟨k2, b2, _, _, q⟩ := longer1_mem.mp hy
    exact hab (snoc_inj q).1
theorem longer_mem {cs : List Cls} {x : Cls} : x ∈ longer n cs ↔ ∃ c ∈ cs, ∃ k b, first c ≤ k ∧ k < n ∧ x = c ++ [(k, b)] := by
  unfold longer
  rw [(tCls.sort_perm _).mem_iff, List.mem_flatMap]
  constructor
  · rintro ⟨c, hc, hx⟩; exact ⟨c, hc, longer1_mem.mp hx⟩
  · rintro ⟨c, hc, hx⟩; exact ⟨c, hc, longer1_mem.mpr hx⟩
theorem longer1_length (c : Cls) : (longer1 n c).length ≤ 2 * n := by
  unfold longer1
  rw [List.length_flatMap]
  have := sum_const 2 (List.range' (first c) (n - first c))
  have e : (List.range' (first c) (n - first c)).map (fun k => [c ++ [(k, false)], c ++ [(k, true)]].length) = (List.range' (first c) (n - first c)).map fun _ => 2 := rfl
  rw [e, this, List.length_range']; omega

structure LF (n : Nat) (rows : List Row) (m : Nat) (found : List Cls) : Prop where
  f : ∀ c, c ∈ found ↔ Prime n rows c ∧ c.length < m
  fa : found.Pairwise fun a b => klt a b = true
structure LL (n : Nat) (rows : List Row) (m : Nat) (line : List Cls) : Prop where
  l : ∀ c, c ∈ line ↔ VC n c ∧ c.length = m ∧ ∀ p l, c = p ++ [l] → Free n rows p
  la : tCls.Asc line
structure LIn (n : Nat) (rows : List Row) (m : Nat) (pre found left : List Cls) : Prop where
  f : ∀ c, c ∈ found ↔ Prime n rows c ∧ (c.length < m ∨ c ∈ pre)
  fa : found.Pairwise fun a b => klt a b = true
  l : ∀ c, c ∈ left ↔ c ∈ pre ∧ Free n rows c
  ln : left.Nodup
theorem LF.zero : LF n rows 0 [] := ⟨fun c => by simp, List.Pairwise.nil⟩
theorem LL.zero : LL n rows 0 [[]] := ⟨fun c => by
  simp only [List.mem_singleton]
  constructor
  · rintro rfl; exact ⟨VC.nil n, rfl, fun p l h => by simp at h⟩
  · rintro ⟨_, h, _⟩; exact List.length_eq_zero_iff.mp h, List.pairwise_singleton _ _⟩
theorem LIn.zero {m : Nat} {found : List Cls} (h : LF n rows m found) : LIn n rows m [] found [] := ⟨fun c => by simp [h.f], h.fa, fun c => by simp, List.nodup_nil⟩
/-- what is kept within x is x itself, when no found one lies within it -/
theorem only_self {m : Nat} {pre post found left : List Cls} {x : Cls} (L : LL n rows m (pre ++ x :: post)) (I : LIn n rows m pre found left) (h : found.any (fun p => sub p x) = false) : ∀ p, VC n p → ka rows p = true → sub p x = true → p = x := fun p vp kp sp => by
  obtain ⟨vx, lx, _⟩ := (L.l x).mp (by simp)
  obtain ⟨q, hq, sq⟩ := exists_prime vp kp
  have sqx := sub_trans sq sp
  by_cases e : q.length < m
  · have : found.any (fun p => sub p x) = true := List.any_eq_true.mpr ⟨q, (I.f q).mpr ⟨hq, .inl e⟩, sqx⟩
    rw [h] at this; cases this
  · have e1 : q = x := sub_eq hq.vc vx sqx (by omega)
    subst e1
    exact sub_anti vp vx sp sq
theorem not_pre {m : Nat} {pre post : List Cls} {x : Cls} (L : LL n rows m (pre ++ x :: post)) : x ∉ pre := fun hx => by
  have := (List.pairwise_append.mp L.la).2.2 x hx x List.mem_cons_self
  rw [tCls.lt_irrefl] at this; cases this
theorem LIn.skip {m : Nat} {pre post found left : List Cls} {x : Cls} (L : LL n rows m (pre ++ x :: post)) (I : LIn n rows m pre found left) (h : found.any (fun p => sub p x) = true) : LIn n rows m (pre ++ [x]) found left := by
  obtain ⟨p, hp, sp⟩ := List.any_eq_true.mp h
  obtain ⟨vx, lx, _⟩ := (L.l x).mp (by simp)
  obtain ⟨pp, pl⟩ := (I.f p).mp hp
  refine ⟨fun c => ?_, I.fa, fun c => ?_, I.ln⟩
  · rw [I.f]
    constructor
    · rintro ⟨h1, h2 | h2⟩
      · exact ⟨h1, .inl h2⟩
      · exact ⟨h1, .inr (List.mem_append_left _ h2)⟩
    · rintro ⟨h1, h2 | h2⟩
      · exact ⟨h1, .inl h2⟩
      · rcases List.mem_append.mp h2 with z | z
        · exact ⟨h1, .inr z⟩
        · simp at z; subst z
          have e := h1.least p pp.vc pp.ka sp
          subst e
          exact ⟨h1, pl⟩
  · rw [I.l]
    constructor
    · rintro ⟨h1, h2⟩; exact ⟨List.mem_append_left _ h1, h2⟩
    · rintro ⟨h1, h2⟩
      rcases List.mem_append.mp h1 with z | z
      · exact ⟨z, h2⟩
      · simp at z; subst z
        have := h2 p pp.vc pp.ka
        rw [sp] at this; cases this
theorem LIn.put {m : Nat} {pre post found left : List Cls} {x : Cls} (L : LL n rows m (pre ++ x :: post)) (I : LIn n rows m pre found left) (h : found.any (fun p => sub p x) = false) (k : ka rows x = true) : LIn n rows m (pre ++ [x]) (found ++ [x]) left := by
  have os := only_self L I h
  obtain ⟨vx, lx, _⟩ := (L.l x).mp (by simp)
  have px : Prime n rows x := ⟨vx, k, os⟩
  refine ⟨fun c => ?_, ?_, fun c => ?_, I.ln⟩
  · rw [List.mem_append, I.f, List.mem_append]
    simp only [List.mem_singleton]
    constructor
    · rintro (⟨h1, h2 | h2⟩ | rfl)
      · exact ⟨h1, .inl h2⟩
      · exact ⟨h1, .inr (.inl h2)⟩
      · exact ⟨px, .inr (.inr rfl)⟩
    · rintro ⟨h1, h2 | h2 | rfl⟩
      · exact .inl ⟨h1, .inl h2⟩
      · exact .inl ⟨h1, .inr h2⟩
      · exact .inr rfl
  · rw [List.pairwise_append]
    refine ⟨I.fa, List.pairwise_singleton _ _, fun p hp q hq => ?_⟩
    have hqx : q = x := by simpa using hq
    rw [hqx]
    obtain ⟨_, h2 | h2⟩ := (I.f p).mp hp
    · exact klt_of_len (by omega)
    · have hl := ((L.l p).mp (List.mem_append_left _ h2)).2.1
      rw [klt_same (by omega)]
      exact (List.pairwise_append.mp L.la).2.2 p h2 x List.mem_cons_self
  · rw [I.l]
    constructor
    · rintro ⟨h1, h2⟩; exact ⟨List.mem_append_left _ h1, h2⟩
    · rintro ⟨h1, h2⟩
      rcases List.mem_append.mp h1 with z | z
      · exact ⟨z, h2⟩
      · simp at z; subst z
        have := h2 c vx k
        rw [sub_refl] at this; cases this
theorem LIn.leave {m : Nat} {pre post found left : List Cls} {x : Cls} (L : LL n rows m (pre ++ x :: post)) (I : LIn n rows m pre found left) (h : found.any (fun p => sub p x) = false) (k : ka rows x = false) : LIn n rows m (pre ++ [x]) found (left ++ [x]) := by
  have os := only_self L I h
  have fx : Free n rows x := fun p vp kp => by
    cases q : sub p x with
    | false => rfl
    | true => have := os p vp kp q; subst this; rw [k] at kp; cases kp
  refine ⟨fun c => ?_, I.fa, fun c => ?_, ?_⟩
  · rw [I.f]
    constructor
    · rintro ⟨h1, h2 | h2⟩
      · exact ⟨h1, .inl h2⟩
      · exact ⟨h1, .inr (List.mem_append_left _ h2)⟩
    · rintro ⟨h1, h2 | h2⟩
      · exact ⟨h1, .inl h2⟩
      · rcases List.mem_append.mp h2 with z | z
        · exact ⟨h1, .inr z⟩
        · simp at z; subst z
          have := h1.ka
          rw [k] at this; cases this
  · rw [List.mem_append, I.l, List.mem_append]
    simp only [List.mem_singleton]
    constructor
    · rintro (⟨h1, h2⟩ | rfl)
      · exact ⟨.inl h1, h2⟩
      · exact ⟨.inr rfl, fx⟩
    · rintro ⟨h1 | rfl, h2⟩
      · exact .inl ⟨h1, h2⟩
      · exact .inr rfl
  · rw [List.nodup_append]
    refine ⟨I.ln, by simp, fun a ha b hb z => ?_⟩
    have hb : b = x := by simpa using hb
    rw [hb] at z; subst z
    exact not_pre L ((I.l a).mp ha).1
theorem Free.prefix {p : Cls} {l : Lit} (h : Free n rows (p ++ [l])) : Free n rows p := fun q vq kq => by
  cases e : sub q p with
  | false => rfl
  | true =>
    have := h q vq kq
    rw [sub_trans e (sublist_sub (List.sublist_append_left p [l]))] at this; cases this
theorem LIn.done {m : Nat} {line found left : List Cls} (L : LL n rows m line) (I : LIn n rows m line found left) : LF n rows (m + 1) found ∧ LL n rows (m + 1) (longer n left) := by
  refine ⟨⟨fun c => ?_, I.fa⟩, ⟨fun x => ?_, tCls.asc_sort (longer_nodup I.ln)⟩⟩
  · rw [I.f]
    constructor
    · rintro ⟨h1, h2 | h2⟩
      · exact ⟨h1, by omega⟩
      · exact ⟨h1, by have := ((L.l c).mp h2).2.1; omega⟩
    · rintro ⟨h1, h2⟩
      by_cases e : c.length < m
      · exact ⟨h1, .inl e⟩
      · refine ⟨h1, .inr ((L.l c).mpr ⟨h1.vc, by omega, fun p l hp q vq kq => ?_⟩)⟩
        cases s : sub q p with
        | false => rfl
        | true =>
          exfalso
          have s2 := sub_trans s (sublist_sub (List.sublist_append_left p [l]))
          rw [← hp] at s2
          have e1 := h1.least q vq kq s2
          subst e1
          have vp : VC n p := h1.vc.sublist (by rw [hp]; exact List.sublist_append_left _ _)
          have := sub_len h1.vc vp s
          rw [hp] at this; simp at this; omega
  · rw [longer_mem]
    constructor
    · rintro ⟨c, hc, k, b, h1, h2, rfl⟩
      obtain ⟨h3, h4⟩ := (I.l c).mp hc
      obtain ⟨v, hl, _⟩ := (L.l c).mp h3
      refine ⟨(first_VC v h1).snoc h2, by simp [hl], fun p l hp => ?_⟩
      rw [← (snoc_inj hp).1]; exact h4
    · rintro ⟨v, hl, hf⟩
      have hne : x ≠ [] := fun z => by rw [z] at hl; simp at hl
      obtain ⟨p, k, b, rfl, hk, hp⟩ := v.last hne
      have fp := hf p (k, b) rfl
      have vp : VC n p := hp.mono (by omega)
      have lp : p.length = m := by simpa using hl
      refine ⟨p, (I.l p).mpr ⟨(L.l p).mpr ⟨vp, lp, fun q l hq => ?_⟩, fp⟩, k, b, VC_first hp, hk, rfl⟩
      subst hq
      exact fp.prefix
theorem LF.end {m : Nat} {found : List Cls} (h : LF n rows m found) (hm : n < m) : found = lprimes n rows := kext h.fa (lprimes_asc n rows) fun c => by
  rw [h.f, lprimes_mem]
  exact ⟨fun z => z.1, fun z => ⟨z, by have := z.vc.len; omega⟩⟩
/-- how many have been looked at -/
theorem looks_bound {m : Nat} {pre post : List Cls} (L : LL n rows m (pre ++ post)) : ((allC n).filter fun c => decide (c.length < m)).length + pre.length ≤ ((allC n).filter fun c => decide (c.length < m + 1)).length := by
  have h1 : pre.length ≤ ((allC n).filter fun c => decide (c.length = m)).length := nodup_le ((List.pairwise_append.mp L.la.nodup).1) fun c hc => by
    obtain ⟨v, hl, _⟩ := (L.l c).mp (List.mem_append_left _ hc)
    exact List.mem_filter.mpr ⟨allC_mem.mpr v, by simpa using hl⟩
  have h2 : ∀ l : List Cls, (l.filter fun c => decide (c.length < m)).length + (l.filter fun c => decide (c.length = m)).length = (l.filter fun c => decide (c.length < m + 1)).length := fun l => by
    induction l with
    | nil => rfl
    | cons c l ih =>
      simp only [List.filter_cons]
      by_cases a : c.length < m
      · have : ¬ c.length = m := by omega
        have : c.length < m + 1 := by omega
        simp [*]; omega
      · by_cases b : c.length = m
        · have : c.length < m + 1 := by omega
          simp [*]; omega
        · have : ¬ c.length < m + 1 := by omega
          simp [*]
  have := h2 (allC n)
  omega
theorem filter_bound (m : Nat) : ((allC n).filter fun c => decide (c.length < m)).length ≤ 3 ^ n := by
  rw [← allC_length n]; exact List.length_filter_le _ _
end C
end
section
set_option Elab.async false
set_option linter.all false
set_option maxRecDepth 100000
set_option maxHeartbeats 1000000
/-! What the laws' common defs compute. -/
namespace C
open PySem
@[simp] theorem outs0 (env : Env) : ∀ np, outsOf [] env np = List.replicate np .no := fun np => by
  unfold outsOf
  simp [List.map_const']
theorem is_integer_i (k : Nat) (i : Int) : cF (k + 1) f_is_integer [.sh (.int i)] = .ok (.sh (.bool true)) [.no] := by
  rw [R_is_integer]
  simp [b_is_integer, outs0, pIsi, PyData.plain, isIt, PyData.isInt, PyData.isBool, shB]
theorem is_count_n (k : Nat) (n : Nat) : cF (k + 2) f_is_count [.sh (.int n)] = .ok (.sh (.bool true)) [.no] := by
  rw [R_is_count]
  simp [b_is_count, outs0, is_integer_i]
theorem row_at {r : Row} {n : Nat} (h : n < r.length) : (r.map tBit.e)[n]? = some (tBit.e (r.getD n false)) := by
  rw [List.getElem?_map, List.getD_eq_getElem?_getD, List.getElem?_eq_getElem h]; rfl
theorem item_row {r : Row} {n : Nat} (h : n < r.length) : pItem [.tuple (r.map tBit.e), .int (n : Int)] = some (.sh (tBit.e (r.getD n false))) := pItem_t (row_at h)
theorem eq_bit (a b : Bool) : pEq [tBit.e a, tBit.e b] = some (.sh (.bool (a == b))) := by
  rw [tBit.pEq_e (by decide)]; cases a <;> cases b <;> rfl
theorem does_keep_ok (k : Nat) (c : Cls) (r : Row) (h : ∀ l ∈ c, l.1 < r.length) : cF (k + 1) f_does_keep [.sh (tCls.e c), .sh (tRow.e r)] = .ok (.sh (.bool (dk c r))) [.no, .no] := by
  rw [R_does_keep]
  simp [b_does_keep, outs0]
  rw [lcm c tLit.e (fun b => .bool b) (fun l => r.getD l.1 false == l.2) (by simp [evI_data]) (by simp [ownFree]) ?_]
  · simp [dk]
  · intro l hl
    simp [turnC_q, wipeE, item_row (h l hl), eq_bit]
theorem keep_all_ok (k : Nat) (rows : List Row) (c : Cls) (h : ∀ r ∈ rows, ∀ l ∈ c, l.1 < r.length) : cF (k + 2) f_keep_all [.sh (.tuple (rows.map tRow.e)), .sh (tCls.e c)] = .ok (.sh (.bool (ka rows c))) [.no, .no] := by
  rw [R_keep_all]
  simp [b_keep_all, outs0]
  rw [lcm rows tRow.e (fun b => .bool b) (fun r => dk c r) (by simp [evI_data]) (by simp [ownFree]) ?_]
  · simp [ka]
  · intro r hr
    have := does_keep_ok k c r (h r hr)
    simp at this
    simp [turnC_q, wipeE, this]

/-! ### the bag -/
structure IsBag (d : D) : Prop where
  ex : ∃ (b0 b1 : Int) (b2 : Nat) (cells : List Int), d = .list [.int b0, .int b1, .int b2, .list (cells.map tInt.e)] ∧ 0 ≤ b0 ∧ 0 ≤ b1 ∧ b1 < 2147483647 ∧ cells.length ≤ 63 ∧ ∀ c ∈ cells, 0 ≤ c
theorem cut_to {α : Type} (xs : List α) (n : Nat) : cut xs none (some (n : Int)) = xs.take n := by
  unfold cut
  rw [HT.sIx_nat, HT.sIx_none]
  simp [List.take_eq_take_min]
theorem cut_from {α : Type} (xs : List α) (n : Nat) : cut xs (some (n : Int)) none = xs.drop n := by
  unfold cut
  rw [HT.sIx_nat, HT.sIx_none]
  by_cases h : n ≤ xs.length
  · rw [Nat.min_eq_left h, List.take_of_length_le (by simp)]
  · rw [Nat.min_eq_right (by omega), List.drop_of_length_le (by omega : xs.length ≤ n)]; simp
theorem sliceTo_l (xs : List D) (n : Nat) : pSliceTo [.list xs, .int (n : Int)] = some (.ow (.list (xs.take n))) := by
  show some (Sl.ow (.list (cut xs none (some (n : Int))))) = _; rw [cut_to]
theorem sliceTo_t (xs : List D) (n : Nat) : pSliceTo [.tuple xs, .int (n : Int)] = some (.sh (.tuple (xs.take n))) := by
  show some (Sl.sh (.tuple (cut xs none (some (n : Int))))) = _; rw [cut_to]
theorem sliceFrom_l (xs : List D) (n : Nat) : pSliceFrom [.list xs, .int (n : Int)] = some (.ow (.list (xs.drop n))) := by
  show some (Sl.ow (.list (cut xs (some (n : Int)) none))) = _; rw [cut_from]
theorem sliceFrom_t (xs : List D) (n : Nat) : pSliceFrom [.tuple xs, .int (n : Int)] = some (.sh (.tuple (xs.drop n))) := by
  show some (Sl.sh (.tuple (cut xs (some (n : Int)) none))) = _; rw [cut_from]
theorem law_bag_ok (k : Nat) (ns : List Int) (h : ns.length ≤ 63) : ∃ d, cF (k + 1) f_law_bag [.sh (.list (ns.map PyData.int))] = .ok (.ow d) [.no] ∧ IsBag d := by
  rw [R_law_bag]
  simp [b_law_bag, outs0]
  rw [lcm ns tInt.e tInt.e (fun i => if i < 0 then -i else i) (by
    have := sliceTo_l (ns.map PyData.int) 63
    rw [List.take_of_length_le (by simpa using h)] at this
    have e : (tInt.e : Int → D) = PyData.int := by funext i; rfl
    simp [evI_data, e] at this ⊢
    simp [this]) (by simp [ownFree]) ?_]
  · simp
    refine ⟨⟨0, 1234567891, 0, ns.map (fun i => if i < 0 then -i else i), by simp, by omega, by omega, by omega, by simpa using h, fun c hc => ?_⟩⟩
    obtain ⟨i, _, rfl⟩ := List.mem_map.mp hc
    split <;> omega
  · intro i hi
    simp [turnC_q, wipeE]
theorem evM_set0 (d x : D) (ds : List D) : evM .setItem (.list (d :: ds)) [.int 0, x] = some (.list (x :: ds), .none) := by
  show (idx (ds.length + 1) ((0 : Nat) : Int)).map _ = _
  rw [idx_nat (by omega)]; rfl
theorem evM_set1 (d d1 x : D) (ds : List D) : evM .setItem (.list (d :: d1 :: ds)) [.int 1, x] = some (.list (d :: x :: ds), .none) := by
  show (idx (ds.length + 1 + 1) ((1 : Nat) : Int)).map _ = _
  rw [idx_nat (by omega)]; rfl
theorem evM_set2 (d d1 d2 x : D) (ds : List D) : evM .setItem (.list (d :: d1 :: d2 :: ds)) [.int 2, x] = some (.list (d :: d1 :: x :: ds), .none) := by
  show (idx (ds.length + 1 + 1 + 1) ((2 : Nat) : Int)).map _ = _
  rw [idx_nat (by omega)]; rfl
@[simp] theorem pItem_l1 (d d' : D) (ds : List D) : pItem [.list (d :: d' :: ds), .int 1] = some (.sh d') := pItem_l (k := 1) rfl
@[simp] theorem pItem_l2 (d d' d2 : D) (ds : List D) : pItem [.list (d :: d' :: d2 :: ds), .int 2] = some (.sh d2) := pItem_l (k := 2) rfl
@[simp] theorem pItem_l3 (d d' d2 d3 : D) (ds : List D) : pItem [.list (d :: d' :: d2 :: d3 :: ds), .int 3] = some (.sh d3) := pItem_l (k := 3) rfl
theorem lineN_val : lineN = 16777216 := rfl
theorem pPow_18 : pPow [.int 10, .int 18] = some (.sh (.int 1000000000000000000)) := rfl
def takeF : CS := match b_law_take with
  | .cons s _ => s
  | _ => .pass
def takeR : CSs := match b_law_take with
  | .cons _ r => r
  | r => r
theorem take_eq : b_law_take = .cons takeF takeR := rfl
theorem takeR_ok {cf : Nat → List Sl → CR} {many : Nat} {cells : List Int} (hm : 0 < many) (hm2 : many < 1073741824) (hl : cells.length ≤ 63) (hc : ∀ c ∈ cells, 0 ≤ c) (b0 b1 : Int) (b2 : Nat) (h0 : 0 ≤ b0) (h1 : 0 ≤ b1) (h1' : b1 < 2147483647) (s2 s3 s4 s5 s6 : Sl) :
    ∃ (v : Nat) (d' : D) (e : Env), exB cf 100000 takeR [.ow (.list [.int b0, .int b1, .int b2, .list (cells.map tInt.e)]), .sh (.int many), s2, s3, s4, s5, s6] = .rt (.sh (.int v)) (.ow d' :: e) ∧ v < many ∧ IsBag d' := by
  by_cases hb : 0 < b0
  · have e1 := pMod_i b0 many (by omega)
    have e2 := pFdiv_i b0 many (by omega) (by omega)
    simp [takeR, b_law_take, hb, e1, e2, evM_set0]
    refine ⟨(b0 % many).toNat, _, ⟨?_, rfl⟩, ?_, ?_⟩
    · have := Int.emod_nonneg b0 (show (many : Int) ≠ 0 by omega); omega
    · have := Int.emod_nonneg b0 (show (many : Int) ≠ 0 by omega); have := Int.emod_lt_of_pos b0 (show (0 : Int) < many by omega); omega
    · exact ⟨_, _, _, _, rfl, Int.ediv_nonneg h0 (by omega), h1, h1', hl, hc⟩
  · have e1 := pMul_i2 (b1 + 1) 39373 (by decide) (by decide)
    have e2 := pMod_i ((b1 + 1) * 39373) 1000000007 (by decide)
    have g1 := Int.emod_nonneg ((b1 + 1) * 39373) (show (1000000007 : Int) ≠ 0 by decide)
    have g2 := Int.emod_lt_of_pos ((b1 + 1) * 39373) (show (0 : Int) < 1000000007 by decide)
    generalize (b1 + 1) * 39373 % 1000000007 = bg at e2 g1 g2
    have e3 := pMul_i1 bg bg (by unfold bigI; omega) (by unfold bigI; omega)
    have e4 := pMod_i (bg * bg) 998244353 (by decide)
    generalize bg * bg % 998244353 = b2' at e4
    have e5 := pMul_i2 b2' 30011 (by decide) (by decide)
    have e6 := pMod_i (b2' * 30011) 998244353 (by decide)
    generalize b2' * 30011 % 998244353 = b3 at e6
    have e7 := pFdiv_i b3 7 (by decide) (by decide)
    have e8 := pMod_i (b3 / 7) many (by omega)
    simp [takeR, b_law_take, hb, e1, e2, e3, e4, e5, e6, e7, e8]
    refine ⟨(b3 / 7 % many).toNat, _, ⟨?_, rfl⟩, ?_, ?_⟩
    · have := Int.emod_nonneg (b3 / 7) (show (many : Int) ≠ 0 by omega); omega
    · have := Int.emod_nonneg (b3 / 7) (show (many : Int) ≠ 0 by omega); have := Int.emod_lt_of_pos (b3 / 7) (show (0 : Int) < many by omega); omega
    · exact ⟨_, _, _, _, rfl, h0, h1, h1', hl, hc⟩
theorem takeF_ok {cf : Nat → List Sl → CR} {many : Nat} {cells : List Int} (hl : cells.length ≤ 63) (hc : ∀ c ∈ cells, 0 ≤ c) (b0 b1 : Int) (b2 : Nat) (h0 : 0 ≤ b0) (h1 : 0 ≤ b1) (h1' : b1 < 2147483647) :
    ∃ (b0' b1' : Int) (b2' : Nat) (s2 s3 s4 s5 s6 : Sl), exS cf 100000 takeF [.ow (.list [.int b0, .int b1, .int b2, .list (cells.map tInt.e)]), .sh (.int many), .no, .no, .no, .no, .no] = .nx [.ow (.list [.int b0', .int b1', .int b2', .list (cells.map tInt.e)]), .sh (.int many), s2, s3, s4, s5, s6] ∧ 0 ≤ b0' ∧ 0 ≤ b1' ∧ b1' < 2147483647 := by
  by_cases hb : b0 = 0
  · subst hb
    have a1 := sliceFrom_l (cells.map tInt.e) b2
    have a2 := pAdd_l ((cells.map tInt.e).drop b2) [.int 0] (by rw [lineN_val]; simp; omega)
    have a3 : ∃ (c : Int) (r : List D), ((cells.map tInt.e).drop b2) ++ [PyData.int 0] = .int c :: r ∧ 0 ≤ c := by
      rw [← List.map_drop]
      cases e : cells.drop b2 with
      | nil => exact ⟨0, [], rfl, by omega⟩
      | cons c r => exact ⟨c, _, rfl, hc c (List.mem_of_mem_drop (by rw [e]; exact List.mem_cons_self))⟩
    obtain ⟨c, r, e3, hc0⟩ := a3
    rw [e3] at a2
    have e4 := pMul_i2 b1 48271 (by decide) (by decide)
    have e5 := pMod_i c 2147483647 (by decide)
    have e6 := pMul_i1 7919 ((b2 : Int) + 1) (by decide) (by decide)
    have e7 := pMod_i (b1 * 48271 + c % 2147483647 + 7919 * ((b2 : Int) + 1)) 2147483647 (by decide)
    have g1 := Int.emod_nonneg (b1 * 48271 + c % 2147483647 + 7919 * ((b2 : Int) + 1)) (show (2147483647 : Int) ≠ 0 by decide)
    have g2 := Int.emod_lt_of_pos (b1 * 48271 + c % 2147483647 + 7919 * ((b2 : Int) + 1)) (show (0 : Int) < 2147483647 by decide)
    by_cases hbig : 1000000000000000000 ≤ c
    · simp [takeF, b_law_take, a1, a2, evM_set0, evM_set1, evM_set2, pPow_18, hbig, e4, e5, e6, e7]
      exact ⟨_, _, ⟨rfl, rfl, b2 + 1, by simp⟩, hc0, g1, g2⟩
    · simp [takeF, b_law_take, a1, a2, evM_set0, evM_set1, evM_set2, pPow_18, hbig, e4, e5, e6, e7]
      exact ⟨_, _, ⟨rfl, rfl, b2 + 1, by simp⟩, by omega, g1, g2⟩
  · refine ⟨b0, b1, b2, .no, .no, .no, .no, .no, ?_, h0, h1, h1'⟩
    simp [takeF, b_law_take, hb]
/-- a number is drawn -/
theorem law_take_ok (k : Nat) (d : D) (many : Nat) (hd : IsBag d) (hm : 0 < many) (hm2 : many < 1073741824) : ∃ (v : Nat) (d' : D), cF (k + 1) f_law_take [.ow d, .sh (.int many)] = .ok (.sh (.int v)) [.ow d', .no] ∧ v < many ∧ IsBag d' := by
  obtain ⟨b0, b1, b2, cells, rfl, h0, h1, h1', hl, hc⟩ := hd.ex
  obtain ⟨c0, c1, c2, s2, s3, s4, s5, s6, q1, q2, q3, q4⟩ := takeF_ok (cf := cF k) (many := many) hl hc b0 b1 b2 h0 h1 h1'
  obtain ⟨v, d', e, r1, r2, r3⟩ := takeR_ok (cf := cF k) hm hm2 hl hc c0 c1 c2 q2 q3 q4 s2 s3 s4 s5 s6
  refine ⟨v, d', ?_, r2, r3⟩
  rw [R_law_take, take_eq]
  simp [q1, r1, outsOf, List.range_succ]

/-! ### rows -/
def ext1 (r : Row) : List Row := [r ++ [false], r ++ [true]]
def allRows : Nat → List Row
  | 0 => [[]]
  | n + 1 => (allRows n).flatMap ext1
theorem ext1_length (rs : List Row) : (rs.flatMap ext1).length = rs.length * 2 := by
  rw [List.length_flatMap]; exact sum_const 2 rs
theorem allRows_length : ∀ n, (allRows n).length = 2 ^ n
  | 0 => rfl
  | n + 1 => by
    show ((allRows n).flatMap ext1).length = _
    rw [ext1_length, allRows_length n, Nat.pow_succ]
theorem allRows_mem : ∀ {n : Nat} {r : Row}, r ∈ allRows n ↔ r.length = n
  | 0, r => by simp [allRows]
  | n + 1, r => by
    show r ∈ (allRows n).flatMap ext1 ↔ _
    rw [List.mem_flatMap]
    constructor
    · rintro ⟨a, ha, hr⟩
      have := allRows_mem.mp ha
      simp only [ext1, List.mem_cons, List.not_mem_nil, or_false] at hr
      rcases hr with rfl | rfl <;> simp [this]
    · intro h
      refine ⟨r.dropLast, allRows_mem.mpr (by simp [h]), ?_⟩
      have hne : r ≠ [] := fun z => by rw [z] at h; simp at h
      have e := List.dropLast_concat_getLast hne
      cases hb : r.getLast hne with
      | false => rw [hb] at e; simp only [ext1, List.mem_cons]; exact .inl e.symm
      | true => rw [hb] at e; simp only [ext1, List.mem_cons]; exact .inr (.inl e.symm)
theorem bit0 : PyData.int 0 = tBit.e false := rfl
theorem bit1 : PyData.int 1 = tBit.e true := rfl
theorem law_rows_ok (k n : Nat) (hn : n ≤ 12) : cF (k + 1) f_law_rows [.sh (.int n)] = .ok (.sh (.list ((allRows n).map tRow.e))) [.no] := by
  rw [R_law_rows]
  simp [b_law_rows, outs0]
  generalize hr : exS (cF k) 100000 (.fr _ _ _) _ = r
  have key : ∃ en', r = .nx en' ∧ ∃ s2 s3 s4, en' = [.sh (.int n), .sh (.list ((allRows (List.range n).length).map tRow.e)), s2, s3, s4] := by
    subst hr
    refine fr_inv (List.range n) tNat.e (fun pre en => ∃ s2 s3 s4, en = [.sh (.int n), .sh (.list ((allRows pre.length).map tRow.e)), s2, s3, s4]) (evI_range n _ (by simp) (by omega)) ⟨_, _, _, rfl⟩ ?_
    rintro pre x post hx en ⟨s2, s3, s4, rfl⟩
    have hl : pre.length < n := by have := congrArg List.length hx; simp at this; omega
    simp [turnF_q]
    generalize hr : exS (cF k) 100000 (.fr _ _ _) _ = r
    have key : ∃ en', r = .nx en' ∧ ∃ s4, en' = [.sh (.int n), .sh (.list ((allRows pre.length).map tRow.e)), .sh (.int x), .ow (.list (((allRows pre.length).flatMap ext1).map tRow.e)), s4] := by
      subst hr
      refine fr_inv (allRows pre.length) tRow.e (fun p2 en => ∃ s4, en = [.sh (.int n), .sh (.list ((allRows pre.length).map tRow.e)), .sh (.int x), .ow (.list ((p2.flatMap ext1).map tRow.e)), s4]) (by simp [evI_data]) ⟨_, rfl⟩ ?_
      rintro p2 r p3 h2 en ⟨s4, rfl⟩
      have hr : r.length = pre.length := allRows_mem.mp (by rw [h2]; simp)
      have hp : p2.length ≤ 2 ^ pre.length := by rw [← allRows_length, h2]; simp
      have h12 : 2 ^ pre.length ≤ 2 ^ 12 := Nat.pow_le_pow_right (by omega) (by omega)
      have hf := ext1_length p2
      have a1 := pAdd_t (r.map tBit.e) [.int 0] (by rw [lineN_val]; simp; omega)
      have a2 := pAdd_t (r.map tBit.e) [.int 1] (by rw [lineN_val]; simp; omega)
      have a3 := ext_ok ((p2.flatMap ext1).map tRow.e) [.tuple (r.map tBit.e ++ [.int 0]), .tuple (r.map tBit.e ++ [.int 1])] (by rw [List.length_map, hf]; simp; omega)
      simp [turnF_q, a1, a2, a3]
      simp [ext1]
    obtain ⟨_, rfl, s4', rfl⟩ := key
    simp [allRows]
  obtain ⟨_, rfl, _, _, _, rfl⟩ := key
  simp
end C
end
section
set_option Elab.async false
set_option linter.all false
set_option maxRecDepth 100000
set_option maxHeartbeats 1000000
/-! tableshapes.primes -/
namespace C
open PySem
theorem eq_lit (h : 64 ≤ 64) (a b : Lit) : pEq [tLit.e a, tLit.e b] = some (.sh (.bool (decide (a = b)))) := tLit.pEq_e (by decide) a b
theorem has_in_it_ok (k : Nat) (c : Cls) (cs : List Cls) : cF (k + 1) f_has_in_it [.sh (.tuple (c.map tLit.e)), .sh (.list (cs.map tCls.e))] = .ok (.sh (.bool (cs.any fun p => sub p c))) [.no, .no] := by
  rw [R_has_in_it]
  simp [b_has_in_it, outs0]
  rw [lcm cs tCls.e (fun b => .bool b) (fun p => sub p c) (by simp [evI_data]) (by simp [ownFree]) ?_]
  · simp
  · intro p hp
    simp [turnC_q, wipeE]
    rw [lcm p tLit.e (fun b => .bool b) (fun l => decide (l ∈ c)) (by simp [evI_data]) (by simp [ownFree]) ?_]
    · simp [sub]
    · intro l hl
      have := tLit.pIsin_t (by decide) l c
      simp at this
      simp [turnC_q, wipeE, this]
theorem evI_range2' {cf : Nat → List Sl → CR} {env : Env} (a n : Nat) (x y : CE) (h : evE cf x env = .ok (.sh (.int a)) env) (h2 : evE cf y env = .ok (.sh (.int n)) env) (ha : a ≤ 16777216) (hn : n ≤ 16777216) : evI cf (.range2 x y) env = .ok ((List.range' a (n - a)).map tNat.e) env := by
  rw [evI_range2, h]
  simp only [bind_okE, h2, dataOf_sh]
  rw [if_pos (by unfold lineN; omega), ← rangeSt_map]
  congr 2
  omega
theorem item_last (ds : List D) (d : D) : pItem [.tuple (ds ++ [d]), .int (-1)] = some (.sh d) := by
  rw [pItem_qt]
  have : idx (ds ++ [d]).length (-1) = some ds.length := by
    unfold idx
    rw [if_neg (by omega), if_pos (by simp; omega)]
    congr 1
    simp; omega
  rw [this, Option.bind_some]; simp
theorem first_le {n : Nat} {c : Cls} (h : VC n c) : first c ≤ n := VC_first h
theorem longer_ones_ok (k n : Nat) (cols : List D) (hc : cols.length = n) (hn : n ≤ 8) (cs : List Cls) (hv : ∀ c ∈ cs, VC n c) (hl : cs.length ≤ 6561) :
    cF (k + 1) f_longer_ones [.sh (.tuple cols), .sh (.list (cs.map tCls.e))] = .ok (.ow (.list ((longer n cs).map tCls.e))) [.no, .no] := by
  rw [R_longer_ones]
  simp [b_longer_ones, outs0]
  generalize hr : exS (cF k) 100000 (.fr _ _ _) _ = r
  have key : ∃ en', r = .nx en' ∧ ∃ s3 s4 s5, en' = [.sh (.tuple cols), .sh (.list (cs.map tCls.e)), .ow (.list ((cs.flatMap (longer1 n)).map tCls.e)), s3, s4, s5, .no] := by
    subst hr
    refine fr_inv cs tCls.e (fun pre en => ∃ s3 s4 s5, en = [.sh (.tuple cols), .sh (.list (cs.map tCls.e)), .ow (.list ((pre.flatMap (longer1 n)).map tCls.e)), s3, s4, s5, .no]) (by simp [evI_data]) ⟨_, _, _, rfl⟩ ?_
    rintro pre c post hx en ⟨s3, s4, s5, rfl⟩
    have vc : VC n c := hv c (by rw [hx]; simp)
    have hlen : pre.length ≤ 6560 := by rw [hx] at hl; simp at hl; omega
    have hpl : (pre.flatMap (longer1 n)).length ≤ 6560 * 16 := by
      rw [List.length_flatMap]
      have : ∀ l : List Cls, (l.map fun a => (longer1 n a).length).sum ≤ l.length * 16 := fun l => by
        induction l with
        | nil => simp
        | cons a l ih =>
          have := longer1_length (n := n) a
          simp only [List.map_cons, List.sum_cons, List.length_cons]; omega
      have := this pre; omega
    have e1 : evE (cF k) (.ite (.pr .ne (.cons (.e (.v 3)) (.cons (.e (.pr .tup .nil)) .nil))) (.pr .add (.cons (.e (.pr .item (.cons (.e (.pr .item (.cons (.e (.v 3)) (.cons (.e (.pr .neg (.cons (.e (.k (.int 1))) .nil))) .nil)))) (.cons (.e (.k (.int 0))) .nil)))) (.cons (.e (.k (.int 1))) .nil))) (.k (.int 0))) [.sh (.tuple cols), .sh (.list (cs.map tCls.e)), .ow (.list ((pre.flatMap (longer1 n)).map tCls.e)), .sh (.tuple (c.map tLit.e)), s4, s5, .no] = .ok (.sh (.int (first c))) [.sh (.tuple cols), .sh (.list (cs.map tCls.e)), .ow (.list ((pre.flatMap (longer1 n)).map tCls.e)), .sh (.tuple (c.map tLit.e)), s4, s5, .no] := by
      have h1 := tCls.pNe_e (by decide) c []
      simp at h1
      by_cases hc0 : c = []
      · subst hc0
        simp at h1
        simp [h1, first]
      · obtain ⟨p, j, b, rfl, _, _⟩ := vc.last hc0
        simp at h1
        have h2 := item_last (p.map tLit.e) (tLit.e (j, b))
        simp at h2
        simp [h1, h2, first, pNeg, shI]
    simp only [turnF_q, bindP_v]
    simp only [tList_e, List.set_cons_succ, List.set_cons_zero, frB_some, exB_cons, exS_asg]
    rw [e1]
    simp
    generalize hr : exS (cF k) 100000 (.fr _ _ _) _ = r
    have key : ∃ en', r = .nx en' ∧ ∃ s5, en' = [.sh (.tuple cols), .sh (.list (cs.map tCls.e)), .ow (.list ((pre.flatMap (longer1 n)).map tCls.e ++ (longer1 n c).map tCls.e)), .sh (.tuple (c.map tLit.e)), .sh (.int (first c)), s5, .no] := by
      subst hr
      refine fr_inv (List.range' (first c) (n - first c)) tNat.e (fun p2 en => ∃ s5, en = [.sh (.tuple cols), .sh (.list (cs.map tCls.e)), .ow (.list ((pre.flatMap (longer1 n)).map tCls.e ++ (p2.flatMap fun k => [c ++ [(k, false)], c ++ [(k, true)]]).map tCls.e)), .sh (.tuple (c.map tLit.e)), .sh (.int (first c)), s5, .no])
        (evI_range2' (first c) n _ _ (by simp) (by simp [hc]) (by have := first_le vc; omega) (by omega)) ⟨s5, by simp⟩ ?_
      rintro p2 j p3 h2 en ⟨s5, rfl⟩
      have hp2 : p2.length ≤ 8 := by have := congrArg List.length h2; simp at this; omega
      have hcl := vc.len
      have hg : (p2.flatMap fun k => [c ++ [(k, false)], c ++ [(k, true)]]).length ≤ 16 := by
        rw [List.length_flatMap]
        have := sum_const 2 p2
        rw [show (p2.map fun a => [c ++ [(a, false)], c ++ [(a, true)]].length) = p2.map fun _ => 2 from rfl, this]; omega
      simp [turnF_q]
      rw [lcm [false, true] tBit.e tCls.e (fun b => c ++ [(j, b)]) (by simp [evI_data]) (by simp [ownFree]) (by
        intro b hb
        have := pAdd_t (c.map tLit.e) [.tuple [.int j, tBit.e b]] (by rw [lineN_val]; simp; omega)
        simp [turnC_q, wipeE, this])]
      have := ext_ok ((pre.flatMap (longer1 n)).map tCls.e ++ (p2.flatMap fun k => [c ++ [(k, false)], c ++ [(k, true)]]).map tCls.e) (([false, true].map fun b => c ++ [(j, b)]).map tCls.e) (by simp only [List.length_append, List.length_map, List.length_cons, List.length_nil]; omega)
      simp at this
      simp [this]
    obtain ⟨_, rfl, s5', rfl⟩ := key
    simp
  obtain ⟨_, rfl, s3, s4, s5, rfl⟩ := key
  have := tCls.pSorted_l (by decide) (cs.flatMap (longer1 n))
  simp [this, longer]
@[simp] theorem pureSl_b (b : Bool) : pureSl (.sh (.bool b)) = true := id rfl
@[simp] theorem pureSl_i (b : Int) : pureSl (.sh (.int b)) = true := id rfl
@[simp] theorem pureSl_n : pureSl (.sh .none) = true := id rfl
theorem pureSl_l {α : Type} (T : Ty α) (xs : List α) : pureSl (.ow (.list (xs.map T.e))) = true := T.pureAll_map xs
theorem LF.len {n m : Nat} {rows : List Row} {found : List Cls} (h : LF n rows m found) : found.length ≤ 3 ^ n := VC_count (h.fa.imp fun z => klt_ne z) fun c hc => ((h.f c).mp hc).1.vc
theorem LIn.len {n m : Nat} {rows : List Row} {pre found left : List Cls} (h : LIn n rows m pre found left) : found.length ≤ 3 ^ n := VC_count (h.fa.imp fun z => klt_ne z) fun c hc => ((h.f c).mp hc).1.vc
theorem LIn.left_len {n m : Nat} {rows : List Row} {pre post found left : List Cls} (L : LL n rows m (pre ++ post)) (h : LIn n rows m pre found left) : left.length ≤ 3 ^ n := VC_count h.ln fun c hc => ((L.l c).mp (List.mem_append_left _ ((h.l c).mp hc).1)).1
def eTab (cols : List D) (rows : List Row) : D := .tuple [.tuple cols, .tuple (rows.map tRow.e)]
theorem primes_by_ok (k n most : Nat) (cols : List D) (rows : List Row) (hc : cols.length = n) (hn : n ≤ 8) (hr : VR n rows) (hm : most ≤ n) :
    ∃ found, cF (k + 3) f_primes_by [.sh (eTab cols rows), .sh (.int most)] = .ok (.sh (.list (found.map tCls.e))) [.no, .no] ∧ LF n rows (most + 1) found := by
  rw [R_primes_by]
  simp [b_primes_by, outs0, eTab]
  have h3 : 3 ^ n ≤ 6561 := by
    have : 3 ^ n ≤ 3 ^ 8 := Nat.pow_le_pow_right (by omega) hn
    omega
  generalize hr' : exS (cF (k + 2)) 100000 (.fr _ _ _) _ = r
  have key : ∃ en', r = .nx en' ∧ ∃ found line lk s2 s6 s7, en' = [.sh (.tuple [.tuple cols, .tuple (rows.map tRow.e)]), .sh (.int most), s2, .ow (.list (found.map tCls.e)), .sh (.list (line.map tCls.e)), .sh (.int (lk : Nat)), s6, s7] ∧ LF n rows (List.range (most + 1)).length found ∧
      ((List.range (most + 1)).length ≤ most → LL n rows (List.range (most + 1)).length line) ∧ lk ≤ ((allC n).filter fun c => decide (c.length < (List.range (most + 1)).length)).length := by
    subst hr'
    refine fr_inv (List.range (most + 1)) tNat.e (fun pre en => ∃ found line lk s2 s6 s7, en = [.sh (.tuple [.tuple cols, .tuple (rows.map tRow.e)]), .sh (.int most), s2, .ow (.list (found.map tCls.e)), .sh (.list (line.map tCls.e)), .sh (.int (lk : Nat)), s6, s7] ∧ LF n rows pre.length found ∧
      (pre.length ≤ most → LL n rows pre.length line) ∧ lk ≤ ((allC n).filter fun c => decide (c.length < pre.length)).length) (evI_range (most + 1) _ (by simp) (by omega)) ⟨[], [[]], 0, .no, .no, .no, by simp, LF.zero, fun _ => LL.zero, by simp⟩ ?_
    rintro pre m post hx en ⟨found, line, lk, s2, s6, s7, rfl, lf, ll, hlk⟩
    have hpl : pre.length ≤ most := by have := congrArg List.length hx; simp at this; omega
    have hmm : m = pre.length := by
      have h1 : (List.range (most + 1))[pre.length]? = some m := by rw [hx]; simp
      rw [List.getElem?_range (by omega)] at h1
      exact (Option.some.inj h1).symm
    subst hmm
    have ll := ll hpl
    simp [turnF_q]
    generalize hr' : exS (cF (k + 2)) 100000 (.fr _ _ _) _ = r
    have key : ∃ en', r = .nx en' ∧ ∃ found left lk s7, en' = [.sh (.tuple [.tuple cols, .tuple (rows.map tRow.e)]), .sh (.int most), .sh (.int pre.length), .ow (.list (found.map tCls.e)), .sh (.list (line.map tCls.e)), .sh (.int (lk : Nat)), .ow (.list (left.map tCls.e)), s7] ∧ LIn n rows pre.length line found left ∧
        lk ≤ ((allC n).filter fun c => decide (c.length < pre.length)).length + line.length := by
      subst hr'
      refine fr_inv line tCls.e (fun p2 en => ∃ found left lk s7, en = [.sh (.tuple [.tuple cols, .tuple (rows.map tRow.e)]), .sh (.int most), .sh (.int pre.length), .ow (.list (found.map tCls.e)), .sh (.list (line.map tCls.e)), .sh (.int (lk : Nat)), .ow (.list (left.map tCls.e)), s7] ∧ LIn n rows pre.length p2 found left ∧
        lk ≤ ((allC n).filter fun c => decide (c.length < pre.length)).length + p2.length) ?_ ?_ ?_
      · simp [evI_data]
      · exact ⟨found, [], lk, s7, by simp, LIn.zero lf, by simpa using hlk⟩
      rintro p2 c p3 h2 en ⟨found, left, lk, s7, rfl, I, hlk⟩
      have L : LL n rows pre.length (p2 ++ c :: p3) := by rw [← h2]; exact ll
      have hh := has_in_it_ok (k + 1) c found
      have vc : VC n c := ((L.l c).mp (by simp)).1
      have hb1 := looks_bound (pre := p2) (post := c :: p3) L
      have hb2 := filter_bound (n := n) (pre.length + 1)
      have hfl := I.len
      have hll := LIn.left_len L I
      simp only [turnF_q, bindP_v]
      cases hs : found.any (fun p => sub p c) with
      | true =>
        rw [hs] at hh
        simp [hh]
        exact ⟨found, left, lk, ⟨rfl, rfl, rfl⟩, I.skip L hs, by omega⟩
      | false =>
        rw [hs] at hh
        have hne : ¬ ((lk : Int) = 20000) := by omega
        have hk := keep_all_ok k rows c fun r hr2 l hl => by rw [hr r hr2]; exact vc.lt l hl
        cases hka : ka rows c with
        | true =>
          rw [hka] at hk; simp at hk
          have ha := app_ok (found.map tCls.e) (.tuple (c.map tLit.e)) (by rw [List.length_map]; omega)
          simp [hh, hne, hk, ha]
          exact ⟨found ++ [c], left, lk + 1, ⟨by simp, by simp, rfl⟩, I.put L hs hka, by omega⟩
        | false =>
          rw [hka] at hk; simp at hk
          have ha := app_ok (left.map tCls.e) (.tuple (c.map tLit.e)) (by rw [List.length_map]; omega)
          simp [hh, hne, hk, ha]
          exact ⟨found, left ++ [c], lk + 1, ⟨rfl, by simp, by simp⟩, I.leave L hs hka, by omega⟩
    obtain ⟨_, rfl, found, left, lk, s7, rfl, I, hlk⟩ := key
    obtain ⟨d1, d2⟩ := I.done ll
    have hb1 := looks_bound (pre := line) (post := []) (by rw [List.append_nil]; exact ll)
    by_cases hlt : pre.length < most
    · have hlo := longer_ones_ok (k + 1) n cols hc hn left (fun c hc => ((ll.l c).mp ((I.l c).mp hc).1).1) (by have := LIn.left_len (post := []) (by rw [List.append_nil]; exact ll) I; omega)
      have hp := pureSl_l tCls (longer n left)
      simp [hlt, hlo, hp]
      exact ⟨found, longer n left, lk, ⟨rfl, rfl, rfl⟩, d1, fun _ => d2, by omega⟩
    · simp [hlt]
      exact ⟨found, [], lk, ⟨rfl, rfl, rfl⟩, d1, by omega⟩
  obtain ⟨_, rfl, found, line, lk, s2, s6, s7, rfl, lf, _, _⟩ := key
  refine ⟨found, ?_, by simpa using lf⟩
  simp
theorem primes_ok (k n : Nat) (cols : List D) (rows : List Row) (hc : cols.length = n) (hn : n ≤ 8) (hr : VR n rows) : cF (k + 4) f_primes [.sh (eTab cols rows)] = .ok (.sh (.tuple ((lprimes n rows).map tCls.e))) [.no] := by
  rw [R_primes]
  obtain ⟨found, h1, h2⟩ := primes_by_ok k n n cols rows hc hn hr (Nat.le_refl n)
  have := h2.end (by omega)
  subst this
  simp [b_primes, outs0, eTab] at h1 ⊢
  simp [hc, h1]
end C
end
section
set_option Elab.async false
set_option linter.all false
set_option maxRecDepth 100000
set_option maxHeartbeats 1000000
/-! clauses and chains: what their defs compute -/
namespace C
open PySem
abbrev tNN : Ty (Nat × Nat) := tPair tNat tNat
theorem zipD_map (xs ys : List Nat) : zipD (xs.map tNat.e) (ys.map tNat.e) = (xs.zip ys).map tNN.e := by
  induction xs generalizing ys with
  | nil => rfl
  | cons x xs ih => cases ys with
    | nil => rfl
    | cons y ys => simp [zipD, ih]
theorem zip_rising {xs : List Nat} (h : xs.Pairwise (· < ·)) : (xs.zip (xs.drop 1)).all (fun p => decide (p.1 < p.2)) = true := by
  induction xs with
  | nil => rfl
  | cons x xs ih =>
    have p := List.pairwise_cons.mp h
    have := ih p.2
    cases xs with
    | nil => rfl
    | cons y ys => simp at this ⊢; exact ⟨p.1 y (by simp), this⟩
theorem sliceFrom_t1 (xs : List D) : pSliceFrom [.tuple xs, .int 1] = some (.sh (.tuple (xs.drop 1))) := sliceFrom_t xs 1
theorem sliceFrom_l1 (xs : List D) : pSliceFrom [.list xs, .int 1] = some (.ow (.list (xs.drop 1))) := sliceFrom_l xs 1
theorem are_rising_t (k : Nat) (xs : List Nat) (h : xs.Pairwise (· < ·)) : cF (k + 1) f_are_rising [.sh (.tuple (xs.map tNat.e))] = .ok (.sh (.bool true)) [.no] := by
  rw [R_are_rising]
  simp [b_are_rising, outs0]
  rw [lcm (xs.zip (xs.drop 1)) tNN.e (fun b => .bool b) (fun p => decide (p.1 < p.2)) (by
    have := zipD_map xs (xs.drop 1)
    rw [List.map_drop] at this; simp at this
    simp [evI_zip, sliceFrom_t1, this]) (by simp [ownFree]) ?_]
  · have := zip_rising h
    simp only [bind_okE, avDatas_cons, avData_made, avDatas_nil, dataOf_ow, Option.bind_some, Option.map_some, evP_all, pAll_m, pAll_c, prK_q, List.map_map, finP_some, thenS_ok, behind_rt, endD_rt]
    rw [this, outs0]; rfl
  · intro p hp
    simp [turnC_q, wipeE]
theorem are_rising_l (k : Nat) (xs : List Nat) (h : xs.Pairwise (· < ·)) : cF (k + 1) f_are_rising [.ow (.list (xs.map tNat.e))] = .ok (.sh (.bool true)) [.no] := by
  rw [R_are_rising]
  simp [b_are_rising, outs0]
  rw [lc_map (env1 := [.sh (.list (xs.map tNat.e)), .no, .no]) (xs.zip (xs.drop 1)) tNN.e (fun b => .bool b) (fun p => decide (p.1 < p.2)) (by
    have := zipD_map xs (xs.drop 1)
    rw [List.map_drop] at this; simp at this
    simp [evI_zip, sliceFrom_l1, this]) (by simp [ownFree]) ?_]
  · have := zip_rising h
    simp only [bind_okE, avDatas_cons, avData_made, avDatas_nil, dataOf_ow, Option.bind_some, Option.map_some, evP_all, pAll_m, pAll_c, prK_q, List.map_map, finP_some, thenS_ok, behind_rt, endD_rt]
    rw [this, outs0]; rfl
  · intro p hp
    simp [turnC_q, wipeE]
theorem pIsi_tup (xs : List D) (h : PyData.plainAll xs = true) : pIsi "tuple" [.tuple xs] = some (.sh (.bool true)) := by simp [pIsi, PyData.plain, isIt, shB, PyData.isTuple, h]
theorem pIsi_tl {α : Type} (T : Ty α) (xs : List α) : pIsi "tuple" [.tuple (xs.map T.e)] = some (.sh (.bool true)) := pIsi_tup _ (T.plainAll_map xs)
theorem pIsi_lit (i : Nat) (b : Bool) : pIsi "tuple" [.tuple [.int i, tBit.e b]] = some (.sh (.bool true)) := pIsi_tup _ (by cases b <;> rfl)
theorem pIsi_str (s : Str) : pIsi "str" [.str s] = some (.sh (.bool true)) := by simp [pIsi, PyData.plain, isIt, shB, PyData.isStr]
theorem is_literal_ok (k : Nat) (cols : List D) (l : Lit) (h : l.1 < cols.length) : cF (k + 3) f_is_literal_2 [.sh (.tuple cols), .sh (tLit.e l)] = .ok (.sh (.bool true)) [.no, .no] := by
  rw [R_is_literal_2]
  obtain ⟨i, b⟩ := l
  have h1 := is_count_n k i
  have h2 : cF (k + 2) f_is_count [.sh (tBit.e b)] = .ok (.sh (.bool true)) [.no] := by
    cases b with
    | false => exact is_count_n k 0
    | true => exact is_count_n k 1
  have h3 : pLt [tBit.e b, .int 2] = some (.sh (.bool true)) := by cases b <;> simp
  simp at h
  simp [b_is_literal_2, outs0, pIsi_lit, h1, h2, h3, h]
theorem asc_fst {c : Cls} (h : c.Pairwise fun a b => a.1 < b.1) : (c.map (·.1)).Pairwise (· < ·) := by
  rw [List.pairwise_map]; exact h
theorem is_clause_ok (k : Nat) (cols : List D) (c : Cls) (h : VC cols.length c) : cF (k + 4) f_is_clause_3 [.sh (.tuple cols), .sh (tCls.e c)] = .ok (.sh (.bool true)) [.no, .no] := by
  rw [R_is_clause_3]
  simp [b_is_clause_3, outs0, pIsi_tl]
  rw [lcm c tLit.e (fun b => .bool b) (fun l => true) (by simp [evI_data]) (by simp [ownFree]) (by
    intro l hl
    have := is_literal_ok k cols l (h.lt l hl)
    simp at this
    simp [turnC_q, wipeE, this])]
  have ht : (c.all fun _ => true) = true := by simp
  simp [ht]
  rw [lcm c tLit.e tNat.e (fun l => l.1) (by simp [evI_data]) (by simp [ownFree]) (by
    intro l hl
    simp [turnC_q, wipeE])]
  have := are_rising_l (k + 2) (c.map (·.1)) (asc_fst h.asc)
  simp at this
  simp [this]
theorem check_clause_ok (k : Nat) (cols : List D) (c : Cls) (h : VC cols.length c) : cF (k + 5) f_check_clause [.sh (.tuple cols), .sh (tCls.e c)] = .ok (.sh .none) [.no, .no] := by
  rw [R_check_clause]
  have := is_clause_ok k cols c h
  simp at this
  simp [b_check_clause, outs0, this]
theorem VR.lt {n : Nat} {rows : List Row} (hr : VR n rows) {c : Cls} (h : VC n c) : ∀ r ∈ rows, ∀ l ∈ c, l.1 < r.length := fun r hr2 l hl => by rw [hr r hr2]; exact h.lt l hl
theorem is_kept_ok (k n : Nat) (cols : List D) (rows : List Row) (c : Cls) (hc : cols.length = n) (hr : VR n rows) (h : VC n c) : cF (k + 6) f_is_kept [.sh (eTab cols rows), .sh (tCls.e c)] = .ok (.sh (.bool (ka rows c))) [.no, .no] := by
  rw [R_is_kept]
  have h1 := check_clause_ok k cols c (by rw [hc]; exact h)
  have h2 := keep_all_ok (k + 3) rows c (hr.lt h)
  simp at h1 h2
  simp [b_is_kept, outs0, eTab, h1, h2]

/-! ### chains -/
def shD (its : Bool) : D := if its then .str "if" else .str "some"
theorem shD_t : shD true = .str "if" := rfl
theorem shD_f : shD false = .str "some" := rfl
theorem bits1 : pNotin [.str "if", .dict [(.str "if", .int 1), (.str "some", .int 0)]] = some (.sh (.bool false)) := by rfl
theorem bits0 : pNotin [.str "some", .dict [(.str "if", .int 1), (.str "some", .int 0)]] = some (.sh (.bool false)) := by rfl
theorem bits3 : pItem [.dict [(.str "if", .int 1), (.str "some", .int 0)], .str "if"] = some (.sh (.int 1)) := by rfl
theorem bits2 : pItem [.dict [(.str "if", .int 1), (.str "some", .int 0)], .str "some"] = some (.sh (.int 0)) := by rfl
theorem bit_of_ok (k : Nat) (its : Bool) : cF (k + 1) f_bit_of [.sh (shD its)] = .ok (.sh (tBit.e its)) [.no] := by
  rw [R_bit_of]
  cases its
  · simp [b_bit_of, outs0, shD_f, bits0, bits2, pIsi_str]
  · simp [b_bit_of, outs0, shD_t, bits1, bits3, pIsi_str]
def bodyC (its : Bool) (c : Cls) : List Nat := (c.filter fun l => l.2 != its).map (·.1)
def headsC (its : Bool) (c : Cls) : List Nat := (c.filter fun l => l.2 == its).map (·.1)
def headC (its : Bool) (c : Cls) : Option Nat := (headsC its c).head?
def oN : Option Nat → D
  | none => .none
  | some n => .int n
theorem ne_bit (a b : Bool) : pNe [tBit.e a, tBit.e b] = some (.sh (.bool (a != b))) := by
  rw [tBit.pNe_e (by decide)]; cases a <;> cases b <;> rfl
theorem body_of_ok (k : Nat) (its : Bool) (c : Cls) : cF (k + 2) f_body_of [.sh (shD its), .sh (tCls.e c)] = .ok (.sh (.tuple ((bodyC its c).map tNat.e))) [.no, .no] := by
  rw [R_body_of]
  simp [b_body_of, outs0, bit_of_ok]
  rw [lcf c tLit.e (fun l => l.2 != its) tNat.e (fun l => l.1) (by simp [evI_data]) (by simp [ownFree]) (by
    intro l hl
    cases hb : l.2 != its <;> simp [turnC_q, wipeE, ne_bit, hb])]
  simp [bodyC]
theorem head_of_ok (k : Nat) (its : Bool) (c : Cls) : cF (k + 2) f_head_of [.sh (shD its), .sh (tCls.e c)] = .ok (.sh (oN (headC its c))) [.no, .no] := by
  rw [R_head_of]
  simp [b_head_of, outs0, bit_of_ok]
  rw [lcf c tLit.e (fun l => l.2 == its) tNat.e (fun l => l.1) (by simp [evI_data]) (by simp [ownFree]) (by
    intro l hl
    cases hb : l.2 == its <;> simp [turnC_q, wipeE, eq_bit, hb])]
  have h1 := tNat.pNe_lnil (by decide) (headsC its c)
  unfold headC
  unfold headsC at h1 ⊢
  cases he : (c.filter fun l => l.2 == its).map (·.1) with
  | nil => rw [he] at h1; simp at h1; simp [h1, oN]
  | cons x xs => rw [he] at h1; simp at h1; simp [h1, oN]
/-- a told step -/
abbrev Told := List Nat × Option Nat
def eTold (t : Told) : D := .tuple [.tuple (t.1.map tNat.e), oN t.2]
def told (its : Bool) (rules : List Cls) : List Told := rules.map fun c => (bodyC its c, headC its c)
def headIn (L : List Nat) : Option Nat → Bool
  | none => false
  | some h => decide (h ∈ L)
def fires (L : List Nat) (t : Told) : Bool := !headIn L t.2 && t.1.all fun k => decide (k ∈ L)
def next (ts : List Told) (L : List Nat) : Option Nat := (ts.zipIdx.find? fun p => fires L p.1).map (·.2)
def eIx (p : Told × Nat) : D := .tuple [.int p.2, eTold p.1]
theorem enumD_map (ts : List Told) : ∀ n, enumD n (ts.map eTold) = (ts.zipIdx n).map eIx := by
  induction ts with
  | nil => intro n; rfl
  | cons t ts ih => intro n; simp [enumD, ih, eIx]
theorem none_notin (L : List Nat) : pNotin [.none, .dict (tNat.set L)] = some (.sh (.bool true)) := by
  show (if (tNat.set L).all (fun p => isIntD p.1) then shB true else none) = _
  rw [if_pos (by simp [Ty.set, isIntD])]; rfl
theorem notin_head (L : List Nat) (o : Option Nat) : pNotin [oN o, .dict (tNat.set L)] = some (.sh (.bool (!headIn L o))) := by
  cases o with
  | none => exact none_notin L
  | some h => exact tNat.notin_set (by decide) (fun a => by simp) L h
theorem isin_nat (L : List Nat) (x : Nat) : pIsin [.int x, .dict (tNat.set L)] = some (.sh (.bool (decide (x ∈ L)))) := tNat.isin_set (by decide) (fun a => by simp) L x
theorem next_ok (k : Nat) (ts : List Told) (L : List Nat) : cF (k + 1) f_next_step_2 [.sh (.list (ts.map eTold)), .sh (.dict (tNat.set L))] = .ok (.sh (oN (next ts L))) [.no, .no] := by
  rw [R_next_step_2]
  simp [b_next_step_2, outs0]
  generalize hr : exS (cF k) 100000 (.fr _ _ _) _ = r
  have key := fr_find (cf := cF k) (wf := 100000) (env := [.sh (.list (ts.map eTold)), .sh (.dict (tNat.set L)), .no, .no, .no, .no]) (p := .t [.v 2, .t [.v 3, .v 4]]) (it := .enum (.data (.e (.v 0))))
    (b := .cons (.iff (.and (.pr .notin (.cons (.e (.v 4)) (.cons (.e (.v 1)) .nil))) (.pr .all (.cons (.e (.lc [5] (.mk (.v 5) (.data (.e (.v 3))) .nil) (.pr .isin (.cons (.e (.v 5)) (.cons (.e (.v 1)) .nil))))) .nil))) (.cons (.ret (.v 2)) .nil) .nil) .nil)
    ts.zipIdx eIx (fun p => fires L p.1) (fun p => .sh (.int p.2)) (fun en => ∃ s2 s3 s4, en = [.sh (.list (ts.map eTold)), .sh (.dict (tNat.set L)), s2, s3, s4, .no]) (by
      simp [evI_enum]; exact enumD_map ts 0) ⟨_, _, _, rfl⟩ (by
      rintro ⟨⟨body, head⟩, i⟩ hx en ⟨s2, s3, s4, rfl⟩
      have h1 := notin_head L head
      have e1 : ∀ env : Env, env = [.sh (.list (ts.map eTold)), .sh (.dict (tNat.set L)), .sh (.int i), .sh (.tuple (body.map tNat.e)), .sh (oN head), .no] → evE (cF k) (.lc [5] (.mk (.v 5) (.data (.e (.v 3))) .nil) (.pr .isin (.cons (.e (.v 5)) (.cons (.e (.v 1)) .nil)))) env = .ok (.ow (.list ((body.map fun x => decide (x ∈ L)).map fun b => .bool b))) env := by
        rintro env rfl
        rw [lcm body tNat.e (fun b => .bool b) (fun x => decide (x ∈ L)) (by simp [evI_data]) (by simp [ownFree]) (by
          intro x hx
          simp [turnC_q, wipeE, isin_nat])]
      have e1 := e1 _ rfl
      simp at e1
      cases hh : headIn L head with
      | true =>
        rw [hh] at h1
        simp [turnF_q, eIx, eTold, h1, fires, hh]
      | false =>
        rw [hh] at h1
        cases hb : body.all fun x => decide (x ∈ L) with
        | true =>
          simp at h1
          have hb2 := hb
          simp at hb2
          simp [turnF_q, eIx, eTold, h1, fires, hh, e1, hb]
        | false =>
          simp at h1
          have hb2 := hb
          simp at hb2
          simp [turnF_q, eIx, eTold, h1, fires, hh, e1, hb])
  rw [hr] at key
  unfold next
  cases hf : ts.zipIdx.find? fun p => fires L p.1 with
  | none =>
    rw [hf] at key
    obtain ⟨_, rfl, _, _, _, rfl⟩ := key
    simp [oN]
  | some p =>
    rw [hf] at key
    obtain ⟨_, rfl, _, _, _, rfl⟩ := key
    simp [oN]
end C
end
section
set_option Elab.async false
set_option linter.all false
set_option maxRecDepth 100000
set_option maxHeartbeats 1000000
/-! the walk of a chain, rows against -/
namespace C
open PySem
theorem check_lot_ok (k : Nat) (cols : List D) (lot : List Nat) (h : lot.Pairwise (· < ·)) (hl : ∀ x ∈ lot, x < cols.length) : cF (k + 3) f_check_lot_2 [.sh (.tuple cols), .sh (.tuple (lot.map tNat.e))] = .ok (.sh .none) [.no, .no] := by
  rw [R_check_lot_2]
  simp [b_check_lot_2, outs0, pIsi_tl]
  rw [lcm lot tNat.e (fun b => .bool b) (fun l => true) (by simp [evI_data]) (by simp [ownFree]) (by
    intro l hx
    have := hl l hx
    simp [turnC_q, wipeE, is_count_n, this])]
  have ht : (lot.all fun _ => true) = true := by simp
  simp [ht, are_rising_t _ lot h]
theorem foldl_add_nodup : ∀ (l acc : List Nat), (acc ++ l).Nodup → l.foldl Ty.add acc = acc ++ l
  | [], acc, _ => by simp
  | a :: l, acc, h => by
    have h1 : a ∉ acc := fun z => by
      have := (List.nodup_append.mp h).2.2 a z a (by simp)
      exact this rfl
    have h2 : (acc ++ [a] ++ l).Nodup := by simpa using h
    rw [List.foldl_cons, show Ty.add acc a = acc ++ [a] from if_neg h1, foldl_add_nodup l _ h2]; simp
theorem dedup_nat {l : List Nat} (h : l.Nodup) : Ty.dedup l = l := by
  have := foldl_add_nodup l [] (by simpa using h)
  simpa [Ty.dedup] using this
theorem pw_nodup {l : List Nat} (h : l.Pairwise (· < ·)) : l.Nodup := h.imp fun z => Nat.ne_of_lt z
theorem next_some {ts : List Told} {L : List Nat} {i : Nat} (h : next ts L = some i) : ∃ t, ts[i]? = some t ∧ fires L t = true := by
  unfold next at h
  obtain ⟨p, hp, rfl⟩ := Option.map_eq_some_iff.mp h
  have h1 := List.mem_of_find?_eq_some hp
  have h2 := List.find?_some hp
  obtain ⟨t, j⟩ := p
  exact ⟨t, List.mem_zipIdx_iff_getElem?.mp h1, h2⟩
theorem next_none {ts : List Told} {L : List Nat} (h : next ts L = none) : ∀ t ∈ ts, fires L t = false := fun t ht => by
  unfold next at h
  have h1 := Option.map_eq_none_iff.mp h
  obtain ⟨i, hi⟩ := List.mem_iff_getElem?.mp ht
  have := List.find?_eq_none.mp h1 (t, i) (List.mem_zipIdx_iff_getElem?.mpr hi)
  simpa using this
theorem mem_body {its : Bool} {c : Cls} {x : Nat} : x ∈ bodyC its c ↔ (x, !its) ∈ c := by
  unfold bodyC
  rw [List.mem_map]
  constructor
  · rintro ⟨⟨j, b⟩, h, rfl⟩
    obtain ⟨h1, h2⟩ := List.mem_filter.mp h
    have : b = !its := by cases b <;> cases its <;> simp at h2 ⊢
    rw [← this]; exact h1
  · intro h
    exact ⟨(x, !its), List.mem_filter.mpr ⟨h, by cases its <;> rfl⟩, rfl⟩
theorem mem_heads {its : Bool} {c : Cls} {x : Nat} : x ∈ headsC its c ↔ (x, its) ∈ c := by
  unfold headsC
  rw [List.mem_map]
  constructor
  · rintro ⟨⟨j, b⟩, h, rfl⟩
    obtain ⟨h1, h2⟩ := List.mem_filter.mp h
    have : b = its := by cases b <;> cases its <;> simp at h2 ⊢
    rw [← this]; exact h1
  · intro h
    exact ⟨(x, its), List.mem_filter.mpr ⟨h, by cases its <;> rfl⟩, rfl⟩
theorem headC_mem {its : Bool} {c : Cls} {h : Nat} (e : headC its c = some h) : (h, its) ∈ c := mem_heads.mp (List.mem_of_head? e)
@[simp] theorem oN_none : oN none = .none := id rfl
@[simp] theorem oN_some (n : Nat) : oN (some n) = .int n := id rfl
@[simp] theorem pureSl_oN (o : Option Nat) : pureSl (.sh (oN o)) = true := by cases o <;> rfl
theorem pNotN_o (o : Option Nat) : pNotN [oN o] = some (.sh (.bool o.isSome)) := by cases o <;> rfl
theorem fires_head {L : List Nat} {t : Told} {h : Nat} (f : fires L t = true) (e : t.2 = some h) : h ∉ L := by
  unfold fires at f
  rw [e] at f
  simp [headIn] at f
  exact f.1
theorem walked_ok (k n : Nat) (cols : List D) (its : Bool) (rules : List Cls) (lot : List Nat) (hn : n ≤ 12) (hc : cols.length = n) (hv : ∀ c ∈ rules, VC n c)
    (h : lot.Pairwise (· < ·)) (hl : ∀ x ∈ lot, x < n) (Q : List Nat → Prop) (h0 : Q lot)
    (hQ : ∀ L t h, Q L → t ∈ told its rules → fires L t = true → t.2 = some h → Q (L ++ [h])) :
    ∃ (steps L : List Nat) (never : Bool), cF (k + 4) f_walked [.sh (.tuple cols), .sh (shD its), .sh (.tuple (rules.map tCls.e)), .sh (.tuple (lot.map tNat.e))] =
      .ok (.sh (.tuple [.list (steps.map tNat.e), .dict (tNat.set L), .bool never])) [.no, .no, .no, .no] ∧ L.Nodup ∧ (∀ x ∈ L, x < n) ∧ Q L ∧
      (never = true → ∃ t ∈ told its rules, fires L t = true ∧ t.2 = none) ∧ (never = false → ∀ t ∈ told its rules, fires L t = false) := by
  have hlen : ∀ L : List Nat, L.Nodup → (∀ x ∈ L, x < n) → L.length ≤ n := fun L h1 h2 => by
    have := nodup_le (m := List.range n) h1 fun a ha => List.mem_range.mpr (h2 a ha)
    simpa using this
  have hhead : ∀ t ∈ told its rules, ∀ h, t.2 = some h → h < n := fun t ht h e => by
    obtain ⟨c, hc, rfl⟩ := List.mem_map.mp ht
    exact (hv c hc).lt _ (headC_mem e)
  generalize hres : cF (k + 4) f_walked _ = res
  rw [R_walked] at hres
  have hck := check_lot_ok k cols lot h (by rw [hc]; exact hl)
  simp [b_walked, outs0, hck] at hres
  rw [lcm rules tCls.e eTold (fun c => (bodyC its c, headC its c)) (by simp [evI_data]) (by simp [ownFree]) (by
    intro c hx
    have h1 := body_of_ok (k + 1) its c
    have h2 := head_of_ok (k + 1) its c
    simp at h1 h2
    simp [turnC_q, wipeE, h1, h2, eTold])] at hres
  rw [show (rules.map fun c => (bodyC its c, headC its c)) = told its rules from rfl] at hres
  simp at hres
  rw [dc_set lot tNat.e tNat (by decide) (fun x => some x) (by simp [evI_data]) (by simp [ownFree]) (by
    intro x hx
    simp [turnD_q, wipeE])] at hres
  rw [show lot.filterMap (fun x => some x) = lot from by simp, dedup_nat (pw_nodup h)] at hres
  have hnx : ∀ L, cF (k + 3) f_next_step_2 [.sh (.list ((told its rules).map eTold)), .sh (.dict (tNat.set L))] = _ := fun L => next_ok (k + 2) (told its rules) L
  simp [hnx] at hres
  generalize hr : exS (cF (k + 3)) 100000 (.wh _ _) _ = r at hres
  have key := wh_ret (cf := cF (k + 3)) (wf := 100000) (c := .pr .notN (.cons (.e (.v 5)) .nil)) (b := (.cons (.ex (.mu 7 .append (.cons (.e (.v 5)) .nil))) (.cons (.iff (.pr .isN (.cons (.e (.pr .item (.cons (.e (.pr .item (.cons (.e (.v 4)) (.cons (.e (.v 5)) .nil)))) (.cons (.e (.k (.int 1))) .nil)))) .nil)) (.cons (.ret (.pr .tup (.cons (.e (.v 7)) (.cons (.e (.v 6)) (.cons (.e (.k (.bool true))) .nil))))) .nil) .nil) (.cons (.seti 6 (.k (.bool true)) (.pr .item (.cons (.e (.pr .item (.cons (.e (.v 4)) (.cons (.e (.v 5)) .nil)))) (.cons (.e (.k (.int 1))) .nil)))) (.cons (.asg false 5 (.call f_next_step_2 (.cons (.e (.v 4)) (.cons (.bo 6) .nil)))) .nil)))))
    (env := [.sh (.tuple cols), .sh (shD its), .sh (.tuple (rules.map tCls.e)), .sh (.tuple (lot.map tNat.e)), .sh (.list ((told its rules).map eTold)), .sh (oN (next (told its rules) lot)), .ow (.dict (tNat.set lot)), .ow (.list []), .no, .no])
    (fun (s : List Nat × List Nat) en => ∃ s8 s9, en = [.sh (.tuple cols), .sh (shD its), .sh (.tuple (rules.map tCls.e)), .sh (.tuple (lot.map tNat.e)), .sh (.list ((told its rules).map eTold)), .sh (oN (next (told its rules) s.1)), .ow (.dict (tNat.set s.1)), .ow (.list (s.2.map tNat.e)), s8, s9] ∧ s.1.Nodup ∧ (∀ x ∈ s.1, x < n) ∧ Q s.1 ∧ s.2.length ≤ s.1.length)
    (fun v _ => ∃ (L steps : List Nat), v = .sh (.tuple [.list (steps.map tNat.e), .dict (tNat.set L), .bool true]) ∧ L.Nodup ∧ (∀ x ∈ L, x < n) ∧ Q L ∧ ∃ t ∈ told its rules, fires L t = true ∧ t.2 = none)
    (fun s => (next (told its rules) s.1).isSome) (fun s => n - s.1.length) (by
      rintro s en ⟨s8, s9, rfl, g⟩
      exact ⟨[.sh (.tuple cols), .sh (shD its), .sh (.tuple (rules.map tCls.e)), .sh (.tuple (lot.map tNat.e)), .sh (.list ((told its rules).map eTold)), .sh (oN (next (told its rules) s.1)), .ow (.dict (tNat.set s.1)), .ow (.list (s.2.map tNat.e)), s8, s9], by simp [pNotN_o], s8, s9, rfl, g⟩) (by
      rintro ⟨L, steps⟩ en ht ⟨s8, s9, rfl, g1, g2, g3, g4⟩
      simp only at ht g1 g2 g3 g4
      obtain ⟨i, hi⟩ := Option.isSome_iff_exists.mp ht
      obtain ⟨t, ti, tf⟩ := next_some hi
      have tm : t ∈ told its rules := List.mem_of_getElem? ti
      have hi1 : pItem [.list ((told its rules).map eTold), .int i] = some (.sh (eTold t)) := pItem_l (by rw [List.getElem?_map, ti]; rfl)
      have hLn := hlen L g1 g2
      have ha := app_ok (steps.map tNat.e) (.int i) (by rw [List.length_map]; omega)
      cases e : t.2 with
      | none =>
        refine .inr ?_
        simp [hi, ha, hi1, eTold, e]
        exact ⟨L, ⟨⟨steps ++ [i], by simp⟩, rfl⟩, g1, g2, g3, t.1, by rw [← e]; exact ⟨tm, tf⟩⟩
      | some hd =>
        refine .inl ⟨(L ++ [hd], steps ++ [i]), ?_⟩
        have hnl := fires_head tf e
        have hdn := hhead t tm hd e
        have hs := tNat.set_set (by decide) L hd (by omega)
        rw [show Ty.add L hd = L ++ [hd] from if_neg hnl] at hs
        simp at hs
        have g1' : (L ++ [hd]).Nodup := by
          rw [List.nodup_append]
          exact ⟨g1, by simp, fun x hx y hy z => by simp at hy; subst hy; subst z; exact hnl hx⟩
        have g2' : ∀ x ∈ L ++ [hd], x < n := fun x hx => by
          rcases List.mem_append.mp hx with z | z
          · exact g2 x z
          · simp at z; subst z; exact hdn
        have hL' := hlen _ g1' g2'
        simp at hL'
        simp [hi, ha, hi1, eTold, e, hs, hnx]
        refine ⟨⟨g1', fun x hx => g2' x (by simpa using hx), hQ L t hd g3 tm tf e, by omega⟩, by omega⟩) (lot, []) ⟨_, _, rfl, pw_nodup h, hl, h0, by simp⟩ (by
        show n - lot.length < 100000
        omega)
  rw [hr] at key
  rcases key with ⟨⟨L, steps⟩, _, rfl, ⟨_, _, rfl, g1, g2, g3, _⟩, g5⟩ | ⟨_, _, rfl, L, steps, rfl, g1, g2, g3, g4⟩
  · subst hres; exact ⟨steps, L, false, by simp, g1, g2, g3, by simp, fun _ t ht => next_none (by simpa using g5) t ht⟩
  · subst hres; exact ⟨steps, L, true, by simp, g1, g2, g3, fun _ => g4, by simp⟩
end C
end
section
set_option Elab.async false
set_option linter.all false
set_option maxRecDepth 100000
set_option maxHeartbeats 1000000
/-! led_to, rows against, follows -/
namespace C
open PySem
/-- at most one its-literal -/
def Horn (its : Bool) (c : Cls) : Prop := (headsC its c).length ≤ 1
def sat (rules : List Cls) (r : Row) : Bool := rules.all fun c => dk c r
theorem sat_iff {rules : List Cls} {r : Row} : sat rules r = true ↔ ∀ c ∈ rules, dk c r = true := by simp [sat]
/-- the row has its at all of a lot -/
def Above (its : Bool) (lot : List Nat) (r : Row) : Prop := ∀ x ∈ lot, r.getD x false = its
structure Led (its : Bool) (n : Nat) (rules : List Cls) (lot L : List Nat) : Prop where
  asc : L.Pairwise (· < ·)
  lt : ∀ x ∈ L, x < n
  ini : ∀ x ∈ lot, x ∈ L
  up : ∀ r, sat rules r = true → Above its lot r → Above its L r
  closed : ∀ c ∈ rules, (∀ x ∈ bodyC its c, x ∈ L) → ∃ h, headC its c = some h ∧ h ∈ L
def LedS (its : Bool) (n : Nat) (rules : List Cls) (lot : List Nat) : Option (List Nat) → Prop
  | none => ∀ r, sat rules r = true → Above its lot r → False
  | some L => Led its n rules lot L
def ledE : Option (List Nat) → D
  | none => .none
  | some L => .tuple (L.map tNat.e)
@[simp] theorem ledE_none : ledE none = .none := id rfl
@[simp] theorem ledE_some (L : List Nat) : ledE (some L) = .tuple (L.map tNat.e) := id rfl
theorem dk_parts {its : Bool} {c : Cls} {r : Row} (hh : Horn its c) (hd : dk c r = true) (hb : Above its (bodyC its c) r) : ∃ h, headC its c = some h ∧ r.getD h false = its := by
  obtain ⟨⟨j, b⟩, h1, h2⟩ := dk_iff.mp hd
  simp only at h2
  by_cases e : b = its
  · subst e
    have hm : j ∈ headsC b c := mem_heads.mpr h1
    unfold headC
    unfold Horn at hh
    cases e : headsC b c with
    | nil => rw [e] at hm; simp at hm
    | cons x xs =>
      rw [e] at hm hh
      cases xs with
      | cons y ys => simp at hh
      | nil =>
        simp at hm
        subst hm
        exact ⟨j, rfl, h2⟩
  · have hbe : b = !its := by cases b <;> cases its <;> simp at e ⊢
    subst hbe
    have := hb j (mem_body.mpr h1)
    rw [h2] at this
    cases its <;> simp at this
theorem asc_natT {L : List Nat} (h : tNat.Asc L) : L.Pairwise (· < ·) := h.imp fun {a b} z => by
  have : tNat.lt a b = decide (a < b) := rfl
  rw [this] at z
  simpa using z
theorem led_to_ok (k n : Nat) (cols : List D) (its : Bool) (rules : List Cls) (lot : List Nat) (hn : n ≤ 12) (hc : cols.length = n) (hv : ∀ c ∈ rules, VC n c) (hH : ∀ c ∈ rules, Horn its c)
    (h : lot.Pairwise (· < ·)) (hl : ∀ x ∈ lot, x < n) : ∃ o, cF (k + 5) f_led_to [.sh (.tuple cols), .sh (shD its), .sh (.tuple (rules.map tCls.e)), .sh (.tuple (lot.map tNat.e))] = .ok (.sh (ledE o)) [.no, .no, .no, .no] ∧ LedS its n rules lot o := by
  obtain ⟨steps, L, never, h1, g1, g2, g3, g4, g5⟩ := walked_ok k n cols its rules lot hn hc hv h hl
    (fun L => (∀ x ∈ lot, x ∈ L) ∧ ∀ r, sat rules r = true → Above its lot r → Above its L r) ⟨fun x hx => hx, fun r _ h => h⟩ (by
      rintro L t hd ⟨q1, q2⟩ ht tf te
      refine ⟨fun x hx => List.mem_append_left _ (q1 x hx), fun r hs ha x hx => ?_⟩
      have hL := q2 r hs ha
      rcases List.mem_append.mp hx with z | z
      · exact hL x z
      · simp at z
        subst z
        obtain ⟨c, hc, rfl⟩ := List.mem_map.mp ht
        have hb : Above its (bodyC its c) r := fun y hy => by
          have := tf
          unfold fires at this
          simp at this
          exact hL y (this.2 y hy)
        obtain ⟨hd, e1, e2⟩ := dk_parts (hH c hc) (sat_iff.mp hs c hc) hb
        simp only at te
        rw [e1] at te
        cases te
        exact e2)
  cases never with
  | true =>
    refine ⟨none, ?_, fun r hs ha => ?_⟩
    · rw [R_led_to]
      simp [b_led_to, outs0, bit_of_ok, h1]
    · obtain ⟨t, ht, tf, te⟩ := g4 rfl
      obtain ⟨c, hc, rfl⟩ := List.mem_map.mp ht
      have hL := g3.2 r hs ha
      have hb : Above its (bodyC its c) r := fun y hy => by
        have := tf
        unfold fires at this
        simp at this
        exact hL y (this.2 y hy)
      obtain ⟨hd, e1, e2⟩ := dk_parts (hH c hc) (sat_iff.mp hs c hc) hb
      simp only at te
      rw [e1] at te
      cases te
  | false =>
    have hm : ∀ x, x ∈ tNat.sort L ↔ x ∈ L := fun x => (tNat.sort_perm L).mem_iff
    refine ⟨some (tNat.sort L), ?_, ?_⟩
    · rw [R_led_to]
      have hs := tNat.sorted_set (by decide) L
      simp [b_led_to, outs0, bit_of_ok, h1, hs]
    · refine ⟨asc_natT (tNat.asc_sort g1), fun x hx => g2 x ((hm x).mp hx), fun x hx => (hm x).mpr (g3.1 x hx), fun r hs ha x hx => g3.2 r hs ha x ((hm x).mp hx), fun c hc hb => ?_⟩
      have hf := g5 rfl _ (List.mem_map_of_mem (f := fun c => (bodyC its c, headC its c)) hc)
      unfold fires at hf
      have ht : (bodyC its c).all (fun k => decide (k ∈ L)) = true := by simp; exact fun x hx => (hm x).mp (hb x hx)
      rw [ht] at hf
      simp at hf
      cases e : headC its c with
      | none => rw [e] at hf; simp [headIn] at hf
      | some h => rw [e] at hf; simp [headIn] at hf; exact ⟨h, rfl, (hm h).mpr hf⟩
def rowW (its : Bool) (n : Nat) (L : List Nat) : Row := (List.range n).map fun x => if x ∈ L then its else !its
theorem rowW_len (its : Bool) (n : Nat) (L : List Nat) : (rowW its n L).length = n := by simp [rowW]
theorem rowW_get {its : Bool} {n x : Nat} {L : List Nat} (h : x < n) : (rowW its n L).getD x false = if x ∈ L then its else !its := by
  unfold rowW
  rw [List.getD_eq_getElem?_getD, List.getElem?_map, List.getElem?_range h]; rfl
theorem rowW_sat {its : Bool} {n : Nat} {rules : List Cls} {lot L : List Nat} (hv : ∀ c ∈ rules, VC n c) (h : Led its n rules lot L) : sat rules (rowW its n L) = true := sat_iff.mpr fun c hc => by
  by_cases hb : ∀ x ∈ bodyC its c, x ∈ L
  · obtain ⟨h1, e1, e2⟩ := h.closed c hc hb
    have hm := headC_mem e1
    exact dk_iff.mpr ⟨_, hm, by rw [rowW_get ((hv c hc).lt _ hm), if_pos e2]⟩
  · have : ∃ x ∈ bodyC its c, x ∉ L := by
      refine Classical.byContradiction fun z => hb fun x hx => Classical.byContradiction fun w => z ⟨x, hx, w⟩
    obtain ⟨x, hx, hx2⟩ := this
    have hm := mem_body.mp hx
    exact dk_iff.mpr ⟨_, hm, by rw [rowW_get ((hv c hc).lt _ hm), if_neg hx2]⟩
theorem one_sub (b : Bool) : pSub [.int 1, tBit.e b] = some (.sh (tBit.e (!b))) := by cases b <;> rfl
theorem row_with_ok (k n : Nat) (cols : List D) (its : Bool) (L : List Nat) (hn : n ≤ 12) (hc : cols.length = n) : cF (k + 2) f_row_with_2 [.sh (.tuple cols), .sh (shD its), .sh (.tuple (L.map tNat.e))] = .ok (.sh (.tuple ((rowW its n L).map tBit.e))) [.no, .no, .no] := by
  rw [R_row_with_2]
  simp [b_row_with_2, outs0, bit_of_ok]
  rw [lcm (List.range n) tNat.e tBit.e (fun x => if x ∈ L then its else !its) (evI_range n _ (by simp [hc]) (by omega)) (by simp [ownFree]) (by
    intro x hx
    have h1 := tNat.pIsin_t (by decide) x L
    simp at h1
    by_cases h : x ∈ L <;> simp [turnC_q, wipeE, h1, h, one_sub])]
  simp [rowW]
def rowE : Option Row → D
  | none => .none
  | some r => .tuple (r.map tBit.e)
@[simp] theorem rowE_none : rowE none = .none := id rfl
@[simp] theorem rowE_some (r : Row) : rowE (some r) = .tuple (r.map tBit.e) := id rfl
theorem least_row_ok (k n : Nat) (cols : List D) (its : Bool) (rules : List Cls) (hn : n ≤ 12) (hc : cols.length = n) (hv : ∀ c ∈ rules, VC n c) (hH : ∀ c ∈ rules, Horn its c) :
    ∃ o, cF (k + 6) f_least_row_2 [.sh (.tuple cols), .sh (shD its), .sh (.tuple (rules.map tCls.e))] = .ok (.sh (rowE (o.map (rowW its n)))) [.no, .no, .no] ∧ LedS its n rules [] o := by
  obtain ⟨o, h1, h2⟩ := led_to_ok k n cols its rules [] hn hc hv hH (by simp) (by simp)
  refine ⟨o, ?_, h2⟩
  rw [R_least_row_2]
  simp at h1
  cases o with
  | none => simp at h1; simp [b_least_row_2, outs0, h1]
  | some L =>
    have h3 := row_with_ok (k + 3) n cols its L hn hc
    simp at h1
    simp [b_least_row_2, outs0, h1, h3]
theorem body_asc {n : Nat} {its : Bool} {c : Cls} (h : VC n c) : (bodyC its c).Pairwise (· < ·) := by
  unfold bodyC
  exact asc_fst (h.asc.sublist List.filter_sublist)
def AgainstS (its : Bool) (n : Nat) (rules : List Cls) (c : Cls) : Option Row → Prop
  | none => ∀ r, sat rules r = true → dk c r = true
  | some r => r.length = n ∧ sat rules r = true ∧ dk c r = false
theorem row_against_ok (k n : Nat) (cols : List D) (its : Bool) (rules : List Cls) (c : Cls) (hn : n ≤ 12) (hc : cols.length = n) (hv : ∀ c ∈ rules, VC n c) (hH : ∀ c ∈ rules, Horn its c) (vc : VC n c) :
    ∃ o, cF (k + 6) f_row_against [.sh (.tuple cols), .sh (shD its), .sh (.tuple (rules.map tCls.e)), .sh (tCls.e c)] = .ok (.sh (rowE o)) [.no, .no, .no, .no] ∧ AgainstS its n rules c o := by
  have hbl : ∀ x ∈ bodyC its c, x < n := fun x hx => vc.lt _ (mem_body.mp hx)
  obtain ⟨o, h1, h2⟩ := led_to_ok k n cols its rules (bodyC its c) hn hc hv hH (body_asc vc) hbl
  have h3 := check_clause_ok k cols c (by rw [hc]; exact vc)
  have h4 := body_of_ok (k + 3) its c
  have dkAbove : ∀ r, dk c r = false → Above its (bodyC its c) r := fun r hr x hx => by
    have hm := mem_body.mp hx
    have : ¬ r.getD x false = !its := fun z => by
      have := dk_iff.mpr ⟨_, hm, z⟩
      rw [hr] at this; cases this
    cases hh : r.getD x false <;> rw [hh] at this <;> cases its <;> simp at this ⊢
  simp at h1 h3 h4
  cases o with
  | none =>
    refine ⟨none, ?_, fun r hs => ?_⟩
    · rw [R_row_against]
      simp at h1
      simp [b_row_against, outs0, h1, h3, h4, bit_of_ok]
    · cases hd : dk c r with
      | true => rfl
      | false => exact (h2 r hs (dkAbove r hd)).elim
  | some L =>
    have h2 : Led its n rules (bodyC its c) L := h2
    have e1 : ∀ env : Env, env = [.sh (.tuple cols), .sh (shD its), .sh (.tuple (rules.map tCls.e)), .sh (.tuple (c.map tLit.e)), .sh (tBit.e its), .sh (.tuple (L.map tNat.e)), .no, .no] →
        evE (cF (k + 5)) (.lc [6, 7] (.mk (.t [.v 6, .v 7]) (.data (.e (.v 3))) .nil) (.and (.pr .eq (.cons (.e (.v 7)) (.cons (.e (.v 4)) .nil))) (.pr .isin (.cons (.e (.v 6)) (.cons (.e (.v 5)) .nil))))) env = .ok (.ow (.list ((c.map fun l => l.2 == its && decide (l.1 ∈ L)).map fun b => .bool b))) env := by
      rintro env rfl
      rw [lcm c tLit.e (fun b => .bool b) (fun l => l.2 == its && decide (l.1 ∈ L)) (by simp [evI_data]) (by simp [ownFree]) (by
        intro l hl
        have h5 := tNat.pIsin_t (by decide) l.1 L
        simp at h5
        cases hb : l.2 == its <;> simp [turnC_q, wipeE, eq_bit, hb, h5])]
    have e1 := e1 _ rfl
    cases ha : c.any fun l => l.2 == its && decide (l.1 ∈ L) with
    | true =>
      refine ⟨none, ?_, fun r hs => ?_⟩
      · rw [R_row_against]
        simp at h1
        simp [b_row_against, outs0, h1, h3, h4, bit_of_ok, e1]
        simp [ha]
      · cases hd : dk c r with
        | true => rfl
        | false =>
          have := h2.up r hs (dkAbove r hd)
          obtain ⟨⟨j, b⟩, hl, hq⟩ := List.any_eq_true.mp ha
          simp at hq
          obtain ⟨rfl, hj⟩ := hq
          have := dk_iff.mpr ⟨_, hl, this j hj⟩
          rw [hd] at this; cases this
    | false =>
      refine ⟨some (rowW its n L), ?_, rowW_len _ _ _, rowW_sat hv h2, ?_⟩
      · rw [R_row_against]
        have h5 := row_with_ok (k + 3) n cols its L hn hc
        simp at h1
        simp [b_row_against, outs0, h1, h3, h4, bit_of_ok, e1]
        simp [ha, h5]
      · cases hd : dk c (rowW its n L) with
        | false => rfl
        | true =>
          obtain ⟨⟨j, b⟩, hl, hq⟩ := dk_iff.mp hd
          simp only at hq
          rw [rowW_get (vc.lt _ hl)] at hq
          by_cases e : b = its
          · subst e
            have hj : j ∈ L := Classical.byContradiction fun z => by rw [if_neg z] at hq; cases b <;> simp at hq
            have : (c.any fun l => l.2 == b && decide (l.1 ∈ L)) = true := List.any_eq_true.mpr ⟨_, hl, by simp [hj]⟩
            rw [ha] at this; cases this
          · have hbe : b = !its := by cases b <;> cases its <;> simp at e ⊢
            subst hbe
            have := h2.ini j (mem_body.mpr hl)
            rw [if_pos this] at hq
            cases its <;> simp at hq
theorem follows_ok (k n : Nat) (cols : List D) (its : Bool) (rules : List Cls) (c : Cls) (hn : n ≤ 12) (hc : cols.length = n) (hv : ∀ c ∈ rules, VC n c) (hH : ∀ c ∈ rules, Horn its c) (vc : VC n c) :
    ∃ b : Bool, cF (k + 7) f_follows [.sh (.tuple cols), .sh (shD its), .sh (.tuple (rules.map tCls.e)), .sh (tCls.e c)] = .ok (.sh (.bool b)) [.no, .no, .no, .no] ∧ (b = true ↔ ∀ r, r.length = n → sat rules r = true → dk c r = true) := by
  obtain ⟨o, h1, h2⟩ := row_against_ok k n cols its rules c hn hc hv hH vc
  simp at h1
  cases o with
  | none =>
    refine ⟨true, ?_, by simp; exact fun r _ => h2 r⟩
    rw [R_follows]
    simp at h1
    simp [b_follows, outs0, h1]
  | some r =>
    refine ⟨false, ?_, ?_⟩
    · rw [R_follows]
      simp at h1
      simp [b_follows, outs0, h1]
    · simp
      exact ⟨r, h2.1, h2.2.1, h2.2.2⟩
end C
end
section
set_option Elab.async false
set_option linter.all false
set_option maxRecDepth 100000
set_option maxHeartbeats 1000000
/-! tables of rules with at most one its-literal: plain mathematics -/
namespace C
open PySem
/-- the rows that keep all rules -/
def letR (n : Nat) (rules : List Cls) : List Row := (allRows n).filter fun r => sat rules r
theorem letR_mem {n : Nat} {rules : List Cls} {r : Row} : r ∈ letR n rules ↔ r.length = n ∧ sat rules r = true := by
  unfold letR; rw [List.mem_filter, allRows_mem]
theorem letR_VR (n : Nat) (rules : List Cls) : VR n (letR n rules) := fun r hr => (letR_mem.mp hr).1
theorem rowW_sat2 {its : Bool} {n : Nat} {rules : List Cls} {L : List Nat} (hv : ∀ c ∈ rules, VC n c) (h : ∀ c ∈ rules, (∀ x ∈ bodyC its c, x ∈ L) → ∃ h, headC its c = some h ∧ h ∈ L) : sat rules (rowW its n L) = true := sat_iff.mpr fun c hc => by
  by_cases hb : ∀ x ∈ bodyC its c, x ∈ L
  · obtain ⟨h1, e1, e2⟩ := h c hc hb
    have hm := headC_mem e1
    exact dk_iff.mpr ⟨_, hm, by rw [rowW_get ((hv c hc).lt _ hm), if_pos e2]⟩
  · have : ∃ x ∈ bodyC its c, x ∉ L := by
      refine Classical.byContradiction fun z => hb fun x hx => Classical.byContradiction fun w => z ⟨x, hx, w⟩
    obtain ⟨x, hx, hx2⟩ := this
    have hm := mem_body.mp hx
    exact dk_iff.mpr ⟨_, hm, by rw [rowW_get ((hv c hc).lt _ hm), if_neg hx2]⟩
theorem not_its {a its : Bool} (h : a ≠ its) : a = !its := by cases a <;> cases its <;> simp at h ⊢
/-- the least clauses of such rules have at most one its-literal -/
theorem prime_horn {its : Bool} {n : Nat} {rules : List Cls} {c : Cls} (hv : ∀ c ∈ rules, VC n c) (hH : ∀ c ∈ rules, Horn its c) (hp : Prime n (letR n rules) c) : Horn its c := by
  refine Classical.byContradiction fun hh => ?_
  have hnd : (headsC its c).Nodup := by
    unfold headsC
    exact pw_nodup (asc_fst (hp.vc.asc.sublist List.filter_sublist))
  obtain ⟨a, b, ha, hb, hab⟩ : ∃ a b, (a, its) ∈ c ∧ (b, its) ∈ c ∧ a ≠ b := by
    unfold Horn at hh
    cases e : headsC its c with
    | nil => rw [e] at hh; simp at hh
    | cons x xs => cases xs with
      | nil => rw [e] at hh; simp at hh
      | cons y ys =>
        rw [e] at hnd
        refine ⟨x, y, mem_heads.mp (by rw [e]; simp), mem_heads.mp (by rw [e]; simp), fun z => ?_⟩
        subst z
        simp at hnd
  have cut : ∀ a, (a, its) ∈ c → ∃ r ∈ letR n rules, ∀ l ∈ c, l ≠ (a, its) → r.getD l.1 false ≠ l.2 := fun a ha => by
    have vs : VC n (c.filter fun l => decide (l ≠ (a, its))) := hp.vc.sublist List.filter_sublist
    have hk : ka (letR n rules) (c.filter fun l => decide (l ≠ (a, its))) = false := by
      cases e : ka (letR n rules) (c.filter fun l => decide (l ≠ (a, its))) with
      | false => rfl
      | true =>
        have := hp.least _ vs e (sublist_sub List.filter_sublist)
        rw [← this] at ha
        simp at ha
    obtain ⟨r, hr, hd⟩ : ∃ r ∈ letR n rules, dk (c.filter fun l => decide (l ≠ (a, its))) r = false := by
      refine Classical.byContradiction fun z => ?_
      have : ka (letR n rules) (c.filter fun l => decide (l ≠ (a, its))) = true := ka_iff.mpr fun r hr => by
        cases e : dk (c.filter fun l => decide (l ≠ (a, its))) r with
        | true => rfl
        | false => exact (z ⟨r, hr, e⟩).elim
      rw [hk] at this; cases this
    refine ⟨r, hr, fun l hl hne z => ?_⟩
    have := dk_iff.mpr ⟨l, List.mem_filter (p := fun l => decide (l ≠ (a, its))).mpr ⟨hl, decide_eq_true hne⟩, z⟩
    rw [hd] at this; cases this
  obtain ⟨r, hr, hr2⟩ := cut a ha
  obtain ⟨s, hs, hs2⟩ := cut b hb
  let L := (List.range n).filter fun x => r.getD x false == its && s.getD x false == its
  have hL : ∀ x, x ∈ L ↔ x < n ∧ r.getD x false = its ∧ s.getD x false = its := fun x => by simp [L]
  have hsat : sat rules (rowW its n L) = true := rowW_sat2 hv fun d hd hb => by
    have k1 := dk_parts (hH d hd) (sat_iff.mp (letR_mem.mp hr).2 d hd) fun x hx => ((hL x).mp (hb x hx)).2.1
    have k2 := dk_parts (hH d hd) (sat_iff.mp (letR_mem.mp hs).2 d hd) fun x hx => ((hL x).mp (hb x hx)).2.2
    obtain ⟨h1, e1, g1⟩ := k1
    obtain ⟨h2, e2, g2⟩ := k2
    rw [e1] at e2
    cases e2
    exact ⟨h1, e1, (hL h1).mpr ⟨(hv d hd).lt _ (headC_mem e1), g1, g2⟩⟩
  have hm : rowW its n L ∈ letR n rules := letR_mem.mpr ⟨rowW_len _ _ _, hsat⟩
  obtain ⟨⟨j, v⟩, hl, hq⟩ := dk_iff.mp (ka_iff.mp hp.ka _ hm)
  simp only at hq
  rw [rowW_get (hp.vc.lt _ hl)] at hq
  by_cases e : v = its
  · subst e
    have hj : j ∈ L := Classical.byContradiction fun z => by rw [if_neg z] at hq; cases v <;> simp at hq
    obtain ⟨_, q1, q2⟩ := (hL j).mp hj
    by_cases e2 : j = a
    · subst e2
      exact hs2 _ hl (fun z => hab (by simpa using z)) q2
    · exact hr2 _ hl (fun z => e2 (by simpa using z)) q1
  · have hv' := not_its e
    subst hv'
    have hj : j ∉ L := fun z => by rw [if_pos z] at hq; cases its <;> simp at hq
    by_cases q1 : r.getD j false = its
    · by_cases q2 : s.getD j false = its
      · exact hj ((hL j).mpr ⟨hp.vc.lt _ hl, q1, q2⟩)
      · exact hs2 _ hl (fun z => e (by simpa using congrArg Prod.snd z)) (not_its q2)
    · exact hr2 _ hl (fun z => e (by simpa using congrArg Prod.snd z)) (not_its q1)
/-- the clause that only this row breaks -/
def negC (n : Nat) (r : Row) : Cls := (List.range n).map fun x => (x, !r.getD x false)
theorem negC_VC (n : Nat) (r : Row) : VC n (negC n r) := ⟨by
  unfold negC
  rw [List.pairwise_map]
  exact List.pairwise_lt_range, fun l hl => by
  obtain ⟨x, hx, rfl⟩ := List.mem_map.mp hl
  simpa using hx⟩
theorem negC_self (n : Nat) (r : Row) : dk (negC n r) r = false := by
  cases e : dk (negC n r) r with
  | false => rfl
  | true =>
    obtain ⟨l, hl, hq⟩ := dk_iff.mp e
    obtain ⟨x, hx, rfl⟩ := List.mem_map.mp hl
    simp at hq
theorem negC_other {n : Nat} {r s : Row} (hr : r.length = n) (hs : s.length = n) (h : r ≠ s) : dk (negC n r) s = true := by
  refine Classical.byContradiction fun z => h (List.ext_getElem (by omega) fun i h1 h2 => ?_)
  have hi : i < n := by omega
  refine Classical.byContradiction fun w => z (dk_iff.mpr ⟨(i, !r.getD i false), List.mem_map.mpr ⟨i, List.mem_range.mpr hi, rfl⟩, ?_⟩)
  simp only [List.getD_eq_getElem?_getD, List.getElem?_eq_getElem h1, List.getElem?_eq_getElem h2, Option.getD_some]
  exact not_its fun q => w q.symm
/-- the rows that keep all least clauses are the rows of the table -/
theorem letR_primes (n : Nat) (rows : List Row) (hr : VR n rows) (r : Row) (hl : r.length = n) : sat (lprimes n rows) r = true ↔ r ∈ rows := by
  rw [sat_iff]
  constructor
  · intro h
    refine Classical.byContradiction fun hn => ?_
    have hk : ka rows (negC n r) = true := ka_iff.mpr fun s hs => negC_other hl (hr s hs) fun z => hn (by rw [z]; exact hs)
    obtain ⟨p, hp, hsub⟩ := exists_prime (negC_VC n r) hk
    have := dk_sub hsub (h p (lprimes_mem.mpr hp))
    rw [negC_self] at this; cases this
  · intro h p hp
    exact ka_iff.mp (lprimes_mem.mp hp).ka r h
theorem letR_lprimes (n : Nat) (rules : List Cls) : letR n (lprimes n (letR n rules)) = letR n rules := by
  refine List.filter_congr fun r hr => ?_
  have hl := allRows_mem.mp hr
  have := letR_primes n (letR n rules) (letR_VR n rules) r hl
  rw [letR_mem] at this
  cases h1 : sat (lprimes n (letR n rules)) r <;> cases h2 : sat rules r <;> simp [h1, h2, hl] at this ⊢
/-- each column's least its -/
def minW (its : Bool) (n : Nat) (rows : List Row) : Row := (List.range n).map fun x => if rows.all fun r => r.getD x false == its then its else !its
theorem least_some {its : Bool} {n : Nat} {rules : List Cls} {L : List Nat} (hv : ∀ c ∈ rules, VC n c) (h : Led its n rules [] L) : letR n rules ≠ [] ∧ rowW its n L = minW its n (letR n rules) := by
  have hm : rowW its n L ∈ letR n rules := letR_mem.mpr ⟨rowW_len _ _ _, rowW_sat hv h⟩
  refine ⟨fun z => by rw [z] at hm; simp at hm, List.map_congr_left fun x hx => ?_⟩
  have hx := List.mem_range.mp hx
  by_cases hxL : x ∈ L
  · rw [if_pos hxL, if_pos]
    rw [List.all_eq_true]
    intro r hr
    have := h.up r (letR_mem.mp hr).2 (fun y hy => by simp at hy) x hxL
    rw [this]; simp
  · rw [if_neg hxL, if_neg]
    intro z
    have := List.all_eq_true.mp z _ hm
    rw [rowW_get hx, if_neg hxL] at this
    cases its <;> simp at this
theorem least_none {its : Bool} {n : Nat} {rules : List Cls} (h : LedS its n rules [] none) : letR n rules = [] := by
  refine List.eq_nil_iff_forall_not_mem.mpr fun r hr => h r (letR_mem.mp hr).2 fun x hx => by simp at hx
/-- the answer of rows against a clause is the table's -/
theorem ka_letR {n : Nat} {rules : List Cls} {c : Cls} : ka (letR n rules) c = true ↔ ∀ r, r.length = n → sat rules r = true → dk c r = true := by
  rw [ka_iff]
  exact ⟨fun h r h1 h2 => h r (letR_mem.mpr ⟨h1, h2⟩), fun h r hr => h r (letR_mem.mp hr).1 (letR_mem.mp hr).2⟩
end C
end
section
set_option Elab.async false
set_option linter.all false
set_option maxRecDepth 100000
set_option maxHeartbeats 1000000
/-! data whose text is short -/
namespace C
open PySem
/-- its text is short: W its weight, H its depth -/
structure Tame (W H : Nat) (d : D) : Prop where
  ls : PyData.leavesShort 13 d = true
  sh : PyData.showable d = true
  pl : PyData.plain d = true
  wt : PyData.weight d ≤ W
  dp : PyData.depth d ≤ H
theorem Tame.mono {W H W' H' : Nat} {d : D} (h : Tame W H d) (hw : W ≤ W') (hh : H ≤ H') : Tame W' H' d := ⟨h.ls, h.sh, h.pl, Nat.le_trans h.wt hw, Nat.le_trans h.dp hh⟩
theorem log2_le (n : Nat) : n.log2 ≤ n := by
  by_cases h : n = 0
  · subst h; decide
  · have := (Nat.log2_lt h (k := n)).mpr Nat.lt_two_pow_self
    omega
theorem tame_int (n : Nat) (h : n ≤ 1000) : Tame 1001 0 (.int n) := by
  have hl := log2_le n
  refine ⟨?_, ?_, rfl, ?_, by simp [PyData.depth]⟩
  · simp only [PyData.leavesShort, decide_eq_true_eq]
    show (PySem.Str.ofString (toString (n : Int))).length ≤ 13
    rw [PySem.ofString_length]
    exact int_text_length_le10 (k := 12) (by decide) (by omega)
  · simp only [PyData.showable, decide_eq_true_eq]
    have : (n : Int).natAbs = n := by omega
    rw [this]; omega
  · unfold PyData.weight
    have : (n : Int).natAbs = n := by omega
    rw [this]
    split <;> omega
theorem tame_bit (b : Bool) : Tame 1001 0 (tBit.e b) := by
  cases b
  · exact tame_int 0 (by decide)
  · exact tame_int 1 (by decide)
theorem tame_bool (b : Bool) : Tame 0 0 (.bool b) := ⟨rfl, rfl, rfl, Nat.le_refl _, Nat.le_refl _⟩
theorem tame_none : Tame 0 0 .none := ⟨rfl, rfl, rfl, Nat.le_refl _, Nat.le_refl _⟩
theorem tame_all {W H : Nat} : ∀ {ds : List D}, (∀ d ∈ ds, Tame W H d) → PyData.leavesShortAll 13 ds = true ∧ PyData.showableAll ds = true ∧ PyData.plainAll ds = true ∧ PyData.weightAll ds ≤ ds.length * (W + 1) ∧ PyData.depthAll ds ≤ H
  | [], _ => ⟨rfl, rfl, rfl, Nat.zero_le _, Nat.zero_le _⟩
  | d :: ds, h => by
    obtain ⟨h1, h2, h3, h4, h5⟩ := tame_all fun x hx => h x (List.mem_cons_of_mem d hx)
    have t := h d List.mem_cons_self
    refine ⟨?_, ?_, ?_, ?_, ?_⟩
    · simp only [PyData.leavesShortAll, t.ls, h1, Bool.and_self]
    · simp only [PyData.showableAll, t.sh, h2, Bool.and_self]
    · simp only [PyData.plainAll, t.pl, h3, Bool.and_self]
    · simp only [PyData.weightAll, List.length_cons]
      have := t.wt
      rw [Nat.add_mul]; omega
    · simp only [PyData.depthAll]
      have := t.dp
      omega
theorem tame_tuple {W H : Nat} {ds : List D} (h : ∀ d ∈ ds, Tame W H d) : Tame (ds.length * (W + 1)) (H + 1) (.tuple ds) := by
  obtain ⟨h1, h2, h3, h4, h5⟩ := tame_all h
  refine ⟨by simpa only [PyData.leavesShort] using h1, by simpa only [PyData.showable] using h2, by simpa only [PyData.plain] using h3, by simpa only [PyData.weight] using h4, by simp only [PyData.depth]; omega⟩
theorem tame_list {W H : Nat} {ds : List D} (h : ∀ d ∈ ds, Tame W H d) : Tame (ds.length * (W + 1)) (H + 1) (.list ds) := by
  obtain ⟨h1, h2, h3, h4, h5⟩ := tame_all h
  refine ⟨by simpa only [PyData.leavesShort] using h1, by simpa only [PyData.showable] using h2, by simpa only [PyData.plain] using h3, by simpa only [PyData.weight] using h4, by simp only [PyData.depth]; omega⟩
theorem tame_row {n : Nat} {r : Row} (hn : n ≤ 12) (h : r.length = n) : Tame 12024 1 (.tuple (r.map tBit.e)) := by
  refine (tame_tuple (W := 1001) (H := 0) fun d hd => ?_).mono (by rw [List.length_map, h]; omega) (Nat.le_refl _)
  obtain ⟨b, _, rfl⟩ := List.mem_map.mp hd
  exact tame_bit b
theorem tame_cls {n : Nat} {c : Cls} (hn : n ≤ 12) (h : VC n c) : Tame 24060 2 (.tuple (c.map tLit.e)) := by
  have hl := h.len
  refine (tame_tuple (W := 2004) (H := 1) fun d hd => ?_).mono (by rw [List.length_map]; omega) (Nat.le_refl _)
  obtain ⟨l, hl, rfl⟩ := List.mem_map.mp hd
  have hlt := h.lt l hl
  refine (tame_tuple (W := 1001) (H := 0) (ds := [.int l.1, tBit.e l.2]) fun d hd => ?_).mono (by simp) (Nat.le_refl _)
  simp at hd
  rcases hd with rfl | rfl
  · exact tame_int _ (by omega)
  · exact tame_bit _
theorem tame_clss {n m : Nat} {cs : List Cls} (hn : n ≤ 12) (h : ∀ c ∈ cs, VC n c) (hm : cs.length ≤ m) : Tame (m * 24061) 3 (.tuple (cs.map tCls.e)) := by
  refine (tame_tuple (W := 24060) (H := 2) fun d hd => ?_).mono (by rw [List.length_map]; exact Nat.mul_le_mul_right _ hm) (Nat.le_refl _)
  obtain ⟨c, hc, rfl⟩ := List.mem_map.mp hd
  exact tame_cls hn (h c hc)
theorem law_alike_ok (k : Nat) (d : D) {W H : Nat} (h : Tame W H d) (hw : W ≤ 1048576) (hh : H ≤ 50) : cF (k + 1) f_law_alike [.sh d, .sh d] = .ok (.sh (.bool true)) [.no, .no] := by
  have hd := Nat.le_trans h.dp hh
  have h0 := PyData.shown_fits (B := 13) (by decide) (by decide) h.ls (by have := h.wt; omega)
  rw [sizeLine_eq] at h0
  have h1 : pRepr [d] = some (.sh (.str (PyData.shown d))) := by
    show (if PyData.showable d && PyData.plain d && decide (d.depth ≤ 50) && decide ((PyData.shown d).length ≤ lineN) then some (Sl.sh (.str (PyData.shown d))) else none) = _
    rw [h.sh, h.pl, decide_eq_true hd, decide_eq_true (by rw [lineN_val]; omega)]; rfl
  have h2 : pEq [d, d] = some (.sh (.bool true)) := by
    have ho : okEq d = true := by unfold okEq; rw [h.pl, decide_eq_true (by omega)]; rfl
    rw [pEq_q, ho, eqv_refl h.pl]; rfl
  rw [R_law_alike]
  simp [b_law_alike, outs0, h1, h2]
end C
end
section
set_option Elab.async false
set_option linter.all false
set_option maxRecDepth 100000
set_option maxHeartbeats 1000000
/-! the laws' own helpers about clauses -/
namespace C
open PySem
theorem law_is_sum_ok (k : Nat) (c : Cls) : cF (k + 1) f_law_is_sum [.sh (tCls.e c)] = .ok (.sh (.bool false)) [.no] := by
  rw [R_law_is_sum]
  match c with
  | [] => simp [b_law_is_sum, outs0]
  | [l] => simp [b_law_is_sum, outs0]
  | [l, m] =>
    have h : pIsin [.tuple [.int m.1, tBit.e m.2], .tuple [.int 0, .int 1]] = some (.sh (.bool false)) := by
      rw [pIsin_qt]
      have h1 : okEq (.tuple [.int m.1, tBit.e m.2]) = true := tLit.okEq_e (by decide) m
      have h2 : okEq (.tuple [.int 0, .int 1]) = true := by rfl
      rw [h1, h2]; rfl
    simp [b_law_is_sum, outs0, h]
  | l :: m :: o :: c =>
    have : ¬ (((c.length : Int) + 1 + 1 + 1) = 2) := by omega
    simp [b_law_is_sum, outs0, this]
theorem filt_dk (c : Cls) (r : Row) : (!((c.filter fun l => r.getD l.1 false == l.2).map fun _ => (1 : Int)).isEmpty) = dk c r := by
  unfold dk
  induction c with
  | nil => rfl
  | cons l c ih =>
    rw [List.filter_cons, List.any_cons]
    cases r.getD l.1 false == l.2
    · simpa using ih
    · simp
theorem law_keeps_ok (k : Nat) (c : Cls) (r : Row) (h : ∀ l ∈ c, l.1 < r.length) : cF (k + 2) f_law_keeps [.sh (tCls.e c), .sh (tRow.e r)] = .ok (.sh (.bool (dk c r))) [.no, .no] := by
  rw [R_law_keeps]
  have h1 := law_is_sum_ok k c
  simp at h1
  simp [b_law_keeps, outs0, h1]
  rw [lcf c tLit.e (fun l => r.getD l.1 false == l.2) tInt.e (fun _ => (1 : Int)) (by simp [evI_data]) (by simp [ownFree]) (by
    intro l hl
    have hi := item_row (h l hl)
    cases hb : r.getD l.1 false == l.2 <;> (have hb' := hb; rw [List.getD_eq_getElem?_getD] at hb'; simp [turnC_q, wipeE, hi, eq_bit, hb', hb]))]
  have h2 := tInt.pNe_lnil (by decide) ((c.filter fun l => r.getD l.1 false == l.2).map fun _ => (1 : Int))
  rw [filt_dk] at h2
  simp only [bind_okE, evAs_cons', evAs_nil', evA_eP, evE_prP, prK_q, avDatas_cons, avDatas_nil, avData_made, dataOf_ow, Option.bind_some, Option.map_some, evP_lst, finP_some, evP_ne, h2, thenS_ok, behind_rt, endD_rt, outs0]
  rfl
theorem sat_filter (rules : List Cls) (r : Row) : (rules.filter fun c => !dk c r).isEmpty = sat rules r := by
  unfold sat
  induction rules with
  | nil => rfl
  | cons c rs ih => rw [List.filter_cons, List.all_cons]; cases dk c r <;> simp_all
theorem law_let_ok (k n : Nat) (rules : List Cls) (hn : n ≤ 12) (hv : ∀ c ∈ rules, VC n c) : cF (k + 3) f_law_let [.sh (.int n), .sh (.tuple (rules.map tCls.e))] = .ok (.ow (.list ((letR n rules).map tRow.e))) [.no, .no] := by
  rw [R_law_let]
  have h1 := law_rows_ok (k + 1) n hn
  simp [b_law_let, outs0]
  rw [lcf (allRows n) tRow.e (fun r => sat rules r) tRow.e (fun r => r) (by simp [evI_data, h1]) (by simp [ownFree]) (by
    intro r hr
    have hl := allRows_mem.mp hr
    have e1 : ∀ env : Env, env = [.sh (.int n), .sh (.tuple (rules.map tCls.e)), .sh (.tuple (r.map tBit.e)), .no] →
        evE (cF (k + 2)) (.lc [3] (.mk (.v 3) (.data (.e (.v 1))) (.cons (.pr .not (.cons (.e (.call f_law_keeps (.cons (.e (.v 3)) (.cons (.e (.v 2)) .nil)))) .nil)) .nil)) (.v 3)) env = .ok (.ow (.list ((rules.filter fun c => !dk c r).map tCls.e))) env := by
      rintro env rfl
      rw [lcf rules tCls.e (fun c => !dk c r) tCls.e (fun c => c) (by simp [evI_data]) (by simp [ownFree]) (by
        intro c hc
        have hk := law_keeps_ok k c r (by intro l hl2; rw [hl]; exact (hv c hc).lt l hl2)
        simp at hk
        cases hb : dk c r <;> simp [turnC_q, wipeE, hk, hb])]
      simp
    have e1 := e1 _ rfl
    have h2 := tCls.pEq_lnil (by decide) (rules.filter fun c => !dk c r)
    rw [sat_filter] at h2
    cases hb : sat rules r <;> simp [turnC_q, wipeE, e1, h2, hb])]
  simp [letR]

/-! ### every clause -/
theorem kev_key (c : Cls) (h : c.length ≤ 12) : kev (.pair (.len .x) .x) (tCls.e c) = some (tKey.e (kap c)) := by
  have : c.length ≤ 16777216 := by omega
  simp [kev, kap, lineN_val, this]
theorem kevs_key : ∀ cs : List Cls, (∀ c ∈ cs, c.length ≤ 12) → kevs (.pair (.len .x) .x) (cs.map tCls.e) = some ((cs.map kap).map tKey.e)
  | [], _ => rfl
  | c :: cs, h => by
    simp only [List.map_cons, kevs]
    rw [kev_key c (h c List.mem_cons_self), kevs_key cs fun x hx => h x (List.mem_cons_of_mem _ hx)]; rfl
theorem noEmp_key (cs : List Cls) : noEmp ((cs.map kap).map tKey.e) = true := by
  unfold noEmp
  simp only [List.all_eq_true, List.mem_map]
  rintro _ ⟨_, ⟨c, _, rfl⟩, rfl⟩
  rfl
theorem sk_sort (cs : List Cls) (h : ∀ c ∈ cs, c.length ≤ 12) : (cs.map tCls.e).mergeSort (PySem.W.dataLe false (keyD' (.pair (.len .x) .x))) = (cs.mergeSort kle).map tCls.e := by
  refine (List.map_mergeSort (f := tCls.e) (r := kle) (s := PySem.W.dataLe false (keyD' (.pair (.len .x) .x))) fun a ha b hb => ?_).symm
  have ea : keyD' (.pair (.len .x) .x) (tCls.e a) = tKey.e (kap a) := by unfold keyD'; rw [kev_key a (h a ha)]; rfl
  have eb : keyD' (.pair (.len .x) .x) (tCls.e b) = tKey.e (kap b) := by unfold keyD'; rw [kev_key b (h b hb)]; rfl
  rw [PySem.W.dataLe_eq]
  unfold kle
  show tKey.le (kap a) (kap b) = !PySem.W.dataLt (keyD' _ (tCls.e b)) (keyD' _ (tCls.e a))
  rw [ea, eb, tKey.hlt]; rfl
theorem every_clause_ok (k n : Nat) (hn : n ≤ 8) : cF (k + 1) f_law_every_clause [.sh (.int n)] = .ok (.ow (.list ((ecs n).map tCls.e))) [.no] := by
  rw [R_law_every_clause]
  simp [b_law_every_clause, outs0]
  generalize hr : exS (cF k) 100000 (.fr _ _ _) _ = r
  have key : ∃ en', r = .nx en' ∧ ∃ s2 s3 s4, en' = [.sh (.int n), .sh (.list ((allC (List.range n).length).map tCls.e)), s2, s3, s4] := by
    subst hr
    refine fr_inv (List.range n) tNat.e (fun pre en => ∃ s2 s3 s4, en = [.sh (.int n), .sh (.list ((allC pre.length).map tCls.e)), s2, s3, s4]) (evI_range n _ (by simp) (by omega)) ⟨_, _, _, rfl⟩ ?_
    rintro pre x post hx en ⟨s2, s3, s4, rfl⟩
    have hl : pre.length < n := by have := congrArg List.length hx; simp at this; omega
    have hxp : x = pre.length := by
      have h1 : (List.range n)[pre.length]? = some x := by rw [hx]; simp
      rw [List.getElem?_range (by omega)] at h1
      exact (Option.some.inj h1).symm
    subst hxp
    have h3 : 3 ^ pre.length ≤ 3 ^ 8 := Nat.pow_le_pow_right (by omega) (by omega)
    simp [turnF_q]
    generalize hr : exS (cF k) 100000 (.fr _ _ _) _ = r
    have key : ∃ en', r = .nx en' ∧ ∃ s4, en' = [.sh (.int n), .sh (.list ((allC pre.length).map tCls.e)), .sh (.int pre.length), .ow (.list (((allC pre.length).flatMap (extC pre.length)).map tCls.e)), s4] := by
      subst hr
      refine fr_inv (allC pre.length) tCls.e (fun p2 en => ∃ s4, en = [.sh (.int n), .sh (.list ((allC pre.length).map tCls.e)), .sh (.int pre.length), .ow (.list ((p2.flatMap (extC pre.length)).map tCls.e)), s4]) (by simp [evI_data]) ⟨_, rfl⟩ ?_
      rintro p2 c p3 h2 en ⟨s4, rfl⟩
      have hc : VC pre.length c := allC_mem.mp (by rw [h2]; simp)
      have hcl := hc.len
      have hp : p2.length ≤ 3 ^ pre.length := by rw [← allC_length, h2]; simp
      have hf := extC_length pre.length p2
      have a1 := pAdd_t (c.map tLit.e) [.tuple [.int pre.length, .int 0]] (by rw [lineN_val]; simp; omega)
      have a2 := pAdd_t (c.map tLit.e) [.tuple [.int pre.length, .int 1]] (by rw [lineN_val]; simp; omega)
      have a3 := ext_ok ((p2.flatMap (extC pre.length)).map tCls.e) [.tuple (c.map tLit.e), .tuple (c.map tLit.e ++ [.tuple [.int pre.length, .int 0]]), .tuple (c.map tLit.e ++ [.tuple [.int pre.length, .int 1]])] (by rw [List.length_map, hf]; simp; omega)
      simp [turnF_q, a1, a2, a3]
      simp [extC]
    obtain ⟨_, rfl, s4', rfl⟩ := key
    simp [allC]
  obtain ⟨_, rfl, _, _, _, rfl⟩ := key
  have hle : ∀ c ∈ allC n, c.length ≤ 12 := fun c hc => by have := (allC_mem.mp hc).len; omega
  have h3 : 3 ^ n ≤ 3 ^ 8 := Nat.pow_le_pow_right (by omega) hn
  have s1 := kevs_key (allC n) hle
  have s2 := sk_sort (allC n) hle
  have s3 := tKey.sortOk_map (by decide) ((allC n).map kap)
  have s4 := noEmp_key (allC n)
  have s5 : pureAll ((allC n).map tCls.e) = true := tCls.pureAll_map _
  have s6 : ((allC n).map tCls.e).length ≤ lineN := by rw [List.length_map, allC_length, lineN_val]; omega
  have e : (List.range n).length = n := List.length_range
  rw [e]
  simp only [behind_nx, exB_cons, exS_ret, evE_sk', evA_eP, evE_v, gt_z, gt_s, vK_sh, bind_okE, avData_made, dataOf_sh, skB_l, s5, decide_eq_true s6, Bool.and_self, if_true, s1, skC_some, s3, s4, s2, thenS_ok, behind_rt, endD_rt, outs0]
  rfl
end C
end
section
set_option Elab.async false
set_option linter.all false
set_option maxRecDepth 100000
set_option maxHeartbeats 1000000
/-! law_primes, primes_of, the draws of rules -/
namespace C
open PySem
theorem ka_filter (rows : List Row) (c : Cls) : (rows.filter fun r => !dk c r).isEmpty = ka rows c := by
  unfold ka
  induction rows with
  | nil => rfl
  | cons r rs ih => rw [List.filter_cons, List.all_cons]; cases dk c r <;> simp_all
theorem sub_filter (p c : Cls) : (p.filter fun l => !decide (l ∈ c)).isEmpty = sub p c := by
  unfold sub
  induction p with
  | nil => rfl
  | cons l p ih => rw [List.filter_cons, List.all_cons]; cases decide (l ∈ c) <;> simp_all
theorem any_filter {α : Type} (q : α → Bool) (xs : List α) : (xs.filter q).isEmpty = !xs.any q := by
  induction xs with
  | nil => rfl
  | cons x xs ih => rw [List.filter_cons, List.any_cons]; cases q x <;> simp_all
/-- [row for row in rows if not keeps] == [] -/
theorem due_ok {cf : Nat → List Sl → CR} (k : Nat) (rows : List Row) (c : Cls) (h : ∀ r ∈ rows, ∀ l ∈ c, l.1 < r.length) :
    ∀ r ∈ rows, cF (k + 2) f_law_keeps [.sh (.tuple (c.map tLit.e)), .sh (.tuple (r.map tBit.e))] = .ok (.sh (.bool (dk c r))) [.no, .no] := fun r hr => by
  have := law_keeps_ok k c r (h r hr)
  simpa using this
theorem lp1_len (found : List Cls) (c : Cls) : (lp1 found c).length ≤ found.length + 1 := by unfold lp1; split <;> simp
theorem foldl_lp1_len : ∀ (cs found : List Cls), (cs.foldl lp1 found).length ≤ found.length + cs.length
  | [], _ => by simp
  | c :: cs, found => by
    have h1 := foldl_lp1_len cs (lp1 found c)
    have h2 := lp1_len found c
    rw [List.foldl_cons, List.length_cons]; omega
theorem ecs_length (n : Nat) : (ecs n).length = 3 ^ n := by
  unfold ecs; rw [List.length_mergeSort, allC_length]
theorem law_primes_ok (k n : Nat) (cols : List D) (rows : List Row) (hc : cols.length = n) (hn : n ≤ 8) (hr : VR n rows) : cF (k + 3) f_law_primes [.sh (eTab cols rows)] = .ok (.sh (.list ((lprimes n rows).map tCls.e))) [.no] := by
  rw [R_law_primes]
  have h1 := every_clause_ok (k + 1) n hn
  simp [b_law_primes, outs0, eTab]
  rw [lcf (ecs n) tCls.e (fun c => ka rows c) tCls.e (fun c => c) (by simp [evI_data, hc, h1]) (by simp [ownFree]) (by
    intro c hc2
    have vc := ecs_mem.mp hc2
    have e1 : ∀ env : Env, env = [.sh (.tuple [.tuple cols, .tuple (rows.map tRow.e)]), .no, .no, .sh (.tuple (c.map tLit.e)), .no, .no, .no] →
        evE (cF (k + 2)) (.lc [5] (.mk (.v 5) (.data (.e (.pr .item (.cons (.e (.v 0)) (.cons (.e (.k (.int 1))) .nil))))) (.cons (.pr .not (.cons (.e (.call f_law_keeps (.cons (.e (.v 3)) (.cons (.e (.v 5)) .nil)))) .nil)) .nil)) (.v 5)) env = .ok (.ow (.list ((rows.filter fun r => !dk c r).map tRow.e))) env := by
      rintro env rfl
      rw [lcf rows tRow.e (fun r => !dk c r) tRow.e (fun r => r) (by simp [evI_data]) (by simp [ownFree]) (by
        intro r hr2
        have hk := law_keeps_ok k c r (hr.lt vc r hr2)
        simp at hk
        cases hb : dk c r <;> simp [turnC_q, wipeE, hk, hb])]
      simp
    have e1 := e1 _ rfl
    have h2 := tRow.pEq_lnil (by decide) (rows.filter fun r => !dk c r)
    rw [ka_filter] at h2
    cases hb : ka rows c <;> simp [turnC_q, wipeE, e1, h2, hb])]
  simp
  generalize hr' : exS (cF (k + 2)) 100000 (.fr _ _ _) _ = r
  have key : ∃ en', r = .nx en' ∧ ∃ s3 s5, en' = [.sh (.tuple [.tuple cols, .tuple (rows.map tRow.e)]), .sh (.list (((ecs n).filter fun c => ka rows c).map tCls.e)), .ow (.list ((((ecs n).filter fun c => ka rows c).foldl lp1 []).map tCls.e)), s3, .no, s5, .no] := by
    subst hr'
    refine fr_inv ((ecs n).filter fun c => ka rows c) tCls.e (fun pre en => ∃ s3 s5, en = [.sh (.tuple [.tuple cols, .tuple (rows.map tRow.e)]), .sh (.list (((ecs n).filter fun c => ka rows c).map tCls.e)), .ow (.list ((pre.foldl lp1 []).map tCls.e)), s3, .no, s5, .no]) ?_ ?_ ?_
    · simp [evI_data]
    · exact ⟨_, _, rfl⟩
    rintro pre c post hx en ⟨s3, s5, rfl⟩
    have hpl : (pre.foldl lp1 []).length ≤ 6561 := by
      have h1 := foldl_lp1_len pre []
      have h2 : pre.length ≤ ((ecs n).filter fun c => ka rows c).length := by rw [hx]; simp
      have h3 := List.length_filter_le (fun c => ka rows c) (ecs n)
      have h4 : 3 ^ n ≤ 3 ^ 8 := Nat.pow_le_pow_right (by omega) hn
      rw [ecs_length] at h3
      simp at h1; omega
    have e1 : ∀ env : Env, env = [.sh (.tuple [.tuple cols, .tuple (rows.map tRow.e)]), .sh (.list (((ecs n).filter fun c => ka rows c).map tCls.e)), .ow (.list ((pre.foldl lp1 []).map tCls.e)), .sh (.tuple (c.map tLit.e)), .no, s5, .no] →
        evE (cF (k + 2)) (.lc [4] (.mk (.v 4) (.data (.bo 2)) (.cons (.pr .eq (.cons (.e (.lc [6] (.mk (.v 6) (.data (.e (.v 4))) (.cons (.pr .notin (.cons (.e (.v 6)) (.cons (.e (.v 3)) .nil))) .nil)) (.v 6))) (.cons (.e (.pr .lst .nil)) .nil))) .nil)) (.v 4)) env = .ok (.ow (.list (((pre.foldl lp1 []).filter fun p => sub p c).map tCls.e))) env := by
      rintro env rfl
      rw [lcf (pre.foldl lp1 []) tCls.e (fun p => sub p c) tCls.e (fun p => p) (by simp [evI_data]) (by simp [ownFree]) (by
        intro p hp
        have e2 : ∀ env : Env, env = [.sh (.tuple [.tuple cols, .tuple (rows.map tRow.e)]), .sh (.list (((ecs n).filter fun c => ka rows c).map tCls.e)), .ow (.list ((pre.foldl lp1 []).map tCls.e)), .sh (.tuple (c.map tLit.e)), .sh (.tuple (p.map tLit.e)), s5, .no] →
            evE (cF (k + 2)) (.lc [6] (.mk (.v 6) (.data (.e (.v 4))) (.cons (.pr .notin (.cons (.e (.v 6)) (.cons (.e (.v 3)) .nil))) .nil)) (.v 6)) env = .ok (.ow (.list ((p.filter fun l => !decide (l ∈ c)).map tLit.e))) env := by
          rintro env rfl
          rw [lcf p tLit.e (fun l => !decide (l ∈ c)) tLit.e (fun l => l) (by simp [evI_data]) (by simp [ownFree]) (by
            intro l hl
            have h5 := tLit.pNotin_t (by decide) l c
            simp at h5
            by_cases hb : l ∈ c <;> simp [turnC_q, wipeE, h5, hb])]
          simp
        have e2 := e2 _ rfl
        have h2 := tLit.pEq_lnil (by decide) (p.filter fun l => !decide (l ∈ c))
        rw [sub_filter] at h2
        cases hb : sub p c <;> simp [turnC_q, wipeE, e2, h2, hb])]
      simp
    have e1 := e1 _ rfl
    have h2 := tCls.pEq_lnil (by decide) ((pre.foldl lp1 []).filter fun p => sub p c)
    rw [any_filter] at h2
    rw [List.foldl_append, List.foldl_cons, List.foldl_nil]
    have ha := app_ok ((pre.foldl lp1 []).map tCls.e) (.tuple (c.map tLit.e)) (by rw [List.length_map]; omega)
    cases hb : (pre.foldl lp1 []).any fun p => sub p c with
    | true =>
      rw [hb] at h2
      simp [turnF_q, e1, h2, lp1, hb]
    | false =>
      rw [hb] at h2
      simp [turnF_q, e1, h2, lp1, hb, ha]
  obtain ⟨_, rfl, _, _, rfl⟩ := key
  simp [lprimes]
theorem isin_str (a b c : Str) : pIsin [.str a, .tuple [.str b, .str c]] = some (.sh (.bool (decide (a = b ∨ a = c)))) := by
  have := tStr.pIsin_t (by decide) a [b, c]
  simp at this
  simpa using this
@[simp] theorem str_if_two : (Str.ofString "if" = Str.ofString "two") = False := eq_false (by decide)
@[simp] theorem str_some_two : (Str.ofString "some" = Str.ofString "two") = False := eq_false (by decide)
@[simp] theorem str_some_if : (Str.ofString "some" = Str.ofString "if") = False := eq_false (by decide)
@[simp] theorem str_if_some : (Str.ofString "if" = Str.ofString "some") = False := eq_false (by decide)
@[simp] theorem str_some_down : (Str.ofString "some" = Str.ofString "down") = False := eq_false (by decide)
@[simp] theorem str_if_order : (Str.ofString "if" = Str.ofString "order") = False := eq_false (by decide)
@[simp] theorem str_some_order : (Str.ofString "some" = Str.ofString "order") = False := eq_false (by decide)
@[simp] theorem str_if_sum : (Str.ofString "if" = Str.ofString "sum") = False := eq_false (by decide)
@[simp] theorem str_some_sum : (Str.ofString "some" = Str.ofString "sum") = False := eq_false (by decide)
/-- of the shape: at most one its-literal -/
theorem len_heads (its : Bool) (c : Cls) : (c.filter fun l => l.2 == its).length = (headsC its c).length := by simp [headsC]
theorem len_bodies (its : Bool) (c : Cls) : (c.filter fun l => l.2 == its).length + (c.filter fun l => l.2 == !its).length = c.length := by
  induction c with
  | nil => rfl
  | cons l c ih =>
    rw [List.filter_cons, List.filter_cons, List.length_cons]
    obtain ⟨i, b⟩ := l
    cases b <;> cases its <;> simp at ih ⊢ <;> omega
theorem is_of_ok (k : Nat) (its : Bool) (c : Cls) (h : Horn its c) : cF (k + 1) f_is_of_2 [.sh (shD its), .sh (tCls.e c)] = .ok (.sh (.bool true)) [.no, .no] := by
  rw [R_is_of_2]
  simp [b_is_of_2, outs0]
  rw [lcf c tLit.e (fun l => l.2 == true) tBit.e (fun l => l.2) (by simp [evI_data]) (by simp [ownFree]) (by
    intro l hl
    have h1 : pEq [tBit.e l.2, .int 1] = some (.sh (.bool (l.2 == true))) := eq_bit l.2 true
    cases hb : l.2 <;> (rw [hb] at h1; simp at h1; simp [turnC_q, wipeE, hb]))]
  unfold Horn at h
  rw [← len_heads] at h
  cases its with
  | true =>
    have h1 : (((c.filter fun l => l.2 == true).length : Int) ≤ 1) := by omega
    simp at h1
    simp [shD_t, isin_str, h1]
  | false =>
    have h2 := len_bodies true c
    simp at h2 h
    have h1 : ((c.length : Int) - ((c.filter fun l => l.2).length : Int) ≤ 1) := by omega
    simp [shD_f, isin_str, h1]
theorem isin_shape (its : Bool) : pNotin [shD its, .tuple [.str "if", .str "some", .str "two", .str "up", .str "down"]] = some (.sh (.bool false)) := by cases its <;> rfl
theorem primes_of_ok (k n : Nat) (cols : List D) (its : Bool) (rows : List Row) (hc : cols.length = n) (hn : n ≤ 8) (hr : VR n rows) (hH : ∀ c, Prime n rows c → Horn its c) :
    cF (k + 4) f_primes_of [.sh (eTab cols rows), .sh (shD its)] = .ok (.sh (.tuple ((lprimes n rows).map tCls.e))) [.no, .no] := by
  rw [R_primes_of]
  obtain ⟨found, h1, h2⟩ := primes_by_ok k n n cols rows hc hn hr (Nat.le_refl n)
  have := h2.end (by omega)
  subst this
  have hs : pIsi "str" [shD its] = some (.sh (.bool true)) := by cases its <;> exact pIsi_str _
  have ht : pEq [shD its, .str "two"] = some (.sh (.bool false)) := by cases its <;> rfl
  simp [eTab] at h1
  simp [b_primes_of, outs0, eTab, hs, isin_shape, ht, hc, h1]
  rw [lcf (lprimes n rows) tCls.e (fun _ => true) tCls.e (fun c => c) (by simp [evI_data]) (by simp [ownFree]) (by
    intro c hc2
    have := is_of_ok (k + 2) its c (hH c (lprimes_mem.mp hc2))
    simp at this
    simp [turnC_q, wipeE, this])]
  rw [List.filter_eq_self.mpr (by simp)]
  simp
end C
end
section
set_option Elab.async false
set_option linter.all false
set_option maxRecDepth 100000
set_option maxHeartbeats 1000000
/-! names, rows as tuples of bits, tables made -/
namespace C
open PySem
theorem is_bit_ok (k : Nat) (b : Bool) : cF (k + 3) f_is_bit [.sh (tBit.e b)] = .ok (.sh (.bool true)) [.no] := by
  rw [R_is_bit]
  have h2 : cF (k + 2) f_is_count [.sh (tBit.e b)] = .ok (.sh (.bool true)) [.no] := by
    cases b with
    | false => exact is_count_n k 0
    | true => exact is_count_n k 1
  have h3 : pLt [tBit.e b, .int 2] = some (.sh (.bool true)) := by cases b <;> simp
  simp [b_is_bit, outs0, h2, h3]
/-- every item passes -/
theorem is_tuple_of_ok (k f : Nat) {α : Type} (T : Ty α) (xs : List α) (h : ∀ x ∈ xs, cF k f [.sh (T.e x)] = .ok (.sh (.bool true)) [.no]) : cF (k + 1) f_is_tuple_of [.sh (.tuple (xs.map T.e)), .fn f] = .ok (.sh (.bool true)) [.no, .no] := by
  rw [R_is_tuple_of]
  simp [b_is_tuple_of, outs0, pIsi_tl]
  rw [lcm xs T.e (fun b => .bool b) (fun _ => true) (by simp [evI_data]) (by simp [ownFree]) (by
    intro x hx
    have := h x hx
    simp [turnC_q, wipeE, this])]
  have ht : (xs.all fun _ => true) = true := by simp
  simp [ht]
theorem is_bits_ok (k : Nat) (r : Row) (n : Nat) (h : r.length = n) : cF (k + 5) f_is_bits [.sh (.tuple (r.map tBit.e)), .sh (.int n)] = .ok (.sh (.bool true)) [.no, .no] := by
  rw [R_is_bits]
  have h1 := is_tuple_of_ok (k + 3) f_is_bit tBit r fun b _ => is_bit_ok k b
  simp [b_is_bits, outs0, h1, h]
theorem check_row_ok (k n : Nat) (cols : List D) (rows : List Row) (r : Row) (hc : cols.length = n) (h : r.length = n) : cF (k + 6) f_check_row_4 [.sh (eTab cols rows), .sh (.tuple (r.map tBit.e))] = .ok (.sh .none) [.no, .no] := by
  rw [R_check_row_4]
  have h1 := is_bits_ok k r n h
  simp [b_check_row_4, outs0, eTab, hc, h1]
theorem has_row_ok (k n : Nat) (cols : List D) (rows : List Row) (r : Row) (hc : cols.length = n) (h : r.length = n) : cF (k + 6) f_has_row [.sh (eTab cols rows), .sh (.tuple (r.map tBit.e))] = .ok (.sh (.bool (decide (r ∈ rows)))) [.no, .no] := by
  rw [R_has_row]
  have h1 := is_bits_ok k r n h
  have h2 := tRow.pIsin_t (by decide) r rows
  simp at h2
  simp [b_has_row, outs0, eTab, hc, h1, h2]
theorem many_rows_ok (k : Nat) (cols : List D) (rows : List Row) : cF (k + 1) f_many_rows_3 [.sh (eTab cols rows)] = .ok (.sh (.int rows.length)) [.no] := by
  rw [R_many_rows_3]
  simp [b_many_rows_3, outs0, eTab]
/-- sorted, each once -/
def upR (rows : List Row) : List Row := tRow.sort (Ty.dedup rows)
theorem rising_ok (k : Nat) (rows : List Row) : cF (k + 1) f_rising [.sh (.tuple (rows.map tRow.e))] = .ok (.sh (.tuple ((upR rows).map tRow.e))) [.no] := by
  rw [R_rising]
  simp [b_rising, outs0]
  rw [dc_set rows tRow.e tRow (by decide) (fun x => some x) (by simp [evI_data]) (by simp [ownFree]) (by
    intro x hx
    simp [turnD_q, wipeE])]
  rw [show rows.filterMap (fun x => some x) = rows from by simp]
  have := tRow.sorted_set (by decide) (Ty.dedup rows)
  simp [this, upR]
theorem with_row_ok (k n : Nat) (cols : List D) (rows : List Row) (r : Row) (hc : cols.length = n) (h : r.length = n) (hl : rows.length ≤ 1000) : cF (k + 7) f_with_row [.sh (eTab cols rows), .sh (.tuple (r.map tBit.e))] = .ok (.sh (eTab cols (upR (rows ++ [r])))) [.no, .no] := by
  rw [R_with_row]
  have h1 := check_row_ok k n cols rows r hc h
  have h2 := rising_ok (k + 5) (rows ++ [r])
  simp [eTab] at h1 h2
  have h3 : rows.length + 1 ≤ lineN := by rw [lineN_val]; omega
  simp [b_with_row, outs0, eTab, h1, h2, h3]
theorem without_row_ok (k n : Nat) (cols : List D) (rows : List Row) (r : Row) (hc : cols.length = n) (h : r.length = n) (hr : r ∈ rows) : cF (k + 7) f_without_row [.sh (eTab cols rows), .sh (.tuple (r.map tBit.e))] = .ok (.sh (eTab cols (rows.filter fun x => !decide (x = r)))) [.no, .no] := by
  rw [R_without_row]
  have h1 := check_row_ok k n cols rows r hc h
  have h2 := tRow.pNotin_t (by decide) r rows
  simp [eTab, hr] at h1 h2
  simp [b_without_row, outs0, eTab, h1, h2]
  rw [lcf rows tRow.e (fun x => !decide (x = r)) tRow.e (fun x => x) (by simp [evI_data]) (by simp [ownFree]) (by
    intro x hx
    have h3 := tRow.pNe_e (by decide) x r
    by_cases hb : x = r
    · subst hb
      simp at h3
      simp [turnC_q, wipeE, h3]
    · simp [hb] at h3
      simp [turnC_q, wipeE, h3, hb])]
  simp
theorem pow2_ok (k n : Nat) (hn : n ≤ 12) : cF (k + 1) f_power_of_two [.sh (.int n)] = .ok (.sh (.int ((2 ^ n : Nat) : Int))) [.no] := by
  rw [R_power_of_two]
  simp [b_power_of_two, outs0]
  generalize hr : exS (cF k) 100000 (.fr _ _ _) _ = r
  have key : ∃ en', r = .nx en' ∧ ∃ s2, en' = [.sh (.int n), .sh (.int ((2 ^ (List.range n).length : Nat) : Int)), s2] := by
    subst hr
    refine fr_inv (List.range n) tNat.e (fun pre en => ∃ s2, en = [.sh (.int n), .sh (.int ((2 ^ pre.length : Nat) : Int)), s2]) (evI_range n _ (by simp) (by omega)) ⟨_, by simp; rfl⟩ ?_
    rintro pre x post hx en ⟨s2, rfl⟩
    have h1 := pMul_i2 ((2 ^ pre.length : Nat) : Int) 2 (by decide) (by decide)
    simp at h1
    simp [turnF_q, h1]
    rw [Int.pow_succ]
  obtain ⟨_, rfl, s2, rfl⟩ := key
  simp
end C
end
section
set_option Elab.async false
set_option linter.all false
set_option maxRecDepth 100000
set_option maxHeartbeats 1000000
/-! all rows, full tables -/
namespace C
open PySem
def lsb (n v : Nat) : Row := (List.range n).map fun i => v / 2 ^ i % 2 == 1
def madeR (n v : Nat) : Row := (lsb n v).reverse
theorem bit_mod (m : Nat) : PyData.int ((m : Int) % 2) = tBit.e (m % 2 == 1) := by
  have : m % 2 = 0 ∨ m % 2 = 1 := by omega
  rcases this with h | h
  · rw [h, show (m : Int) % 2 = 0 by omega]; rfl
  · rw [h, show (m : Int) % 2 = 1 by omega]; rfl
theorem pRev_l (xs : List D) : pRev [.list xs] = some (.ow (.list xs.reverse)) := rfl
theorem made_row_ok (k n v : Nat) (hn : n ≤ 12) : cF (k + 1) f_made_row [.sh (.int n), .sh (.int v)] = .ok (.sh (.tuple ((madeR n v).map tBit.e))) [.no, .no] := by
  rw [R_made_row]
  simp [b_made_row, outs0]
  generalize hr : exS (cF k) 100000 (.fr _ _ _) _ = r
  have key : ∃ en', r = .nx en' ∧ ∃ s3, en' = [.sh (.int n), .sh (.int ((v / 2 ^ (List.range n).length : Nat) : Int)), .ow (.list ((lsb (List.range n).length v).map tBit.e)), s3] := by
    subst hr
    refine fr_inv (List.range n) tNat.e (fun pre en => ∃ s3, en = [.sh (.int n), .sh (.int ((v / 2 ^ pre.length : Nat) : Int)), .ow (.list ((lsb pre.length v).map tBit.e)), s3]) (evI_range n _ (by simp) (by omega)) ⟨_, by simp [lsb]; rfl⟩ ?_
    rintro pre x post hx en ⟨s3, rfl⟩
    have hl : pre.length < n := by have := congrArg List.length hx; simp at this; omega
    have e1 := pMod_i ((v / 2 ^ pre.length : Nat) : Int) 2 (by decide)
    have e2 := pFdiv_i ((v / 2 ^ pre.length : Nat) : Int) 2 (by decide) (by decide)
    have e3 := app_ok ((lsb pre.length v).map tBit.e) (.int (((v / 2 ^ pre.length : Nat) : Int) % 2)) (by simp [lsb]; omega)
    generalize hm : v / 2 ^ pre.length = m at e1 e2 e3 ⊢
    have h4 : v / 2 ^ (pre.length + 1) = m / 2 := by rw [Nat.pow_succ, ← Nat.div_div_eq_div_mul, hm]
    have h5 : lsb (pre.length + 1) v = lsb pre.length v ++ [m % 2 == 1] := by unfold lsb; rw [List.range_succ, List.map_append]; simp [hm]
    simp [turnF_q, e1, e2, e3]
    refine ⟨?_, ?_⟩
    · have h6 := congrArg (fun z : Nat => (z : Int)) h4
      simp at h6
      exact h6.symm
    · rw [h5, bit_mod]
      simp
  obtain ⟨_, rfl, s3, rfl⟩ := key
  simp [pRev_l, madeR]
def rowsF (n : Nat) : List Row := (List.range (2 ^ n)).map (madeR n)
theorem all_rows_ok (k n : Nat) (h1 : 1 ≤ n) (hn : n ≤ 12) : cF (k + 3) f_all_rows [.sh (.int n)] = .ok (.sh (.tuple ((rowsF n).map tRow.e))) [.no] := by
  rw [R_all_rows]
  have e1 := is_count_n k n
  have e2 := pow2_ok (k + 1) n hn
  have h12 : 2 ^ n ≤ 2 ^ 12 := Nat.pow_le_pow_right (by omega) hn
  have h1' : (1 : Int) ≤ n := by omega
  have hn' : (n : Int) ≤ 12 := by omega
  simp [b_all_rows, outs0, e1, h1, hn, h1', hn']
  rw [lcm (List.range (2 ^ n)) tNat.e tRow.e (madeR n) (evI_range (2 ^ n) _ (by simp at e2; simp [e2]) (by omega)) (by simp [ownFree]) (by
    intro v hv
    have := made_row_ok (k + 1) n v hn
    simp [turnC_q, wipeE, this])]
  simp [rowsF]
end C
end
section
set_option Elab.async false
set_option linter.all false
set_option maxRecDepth 100000
set_option maxHeartbeats 1000000
/-! names -/
namespace C
open PySem
abbrev lettersD : D := .str "abcdefghijklmnopqrstuvwxyz"
abbrev signsD : D := .str (("abcdefghijklmnopqrstuvwxyz" : Str) ++ ("0123456789" : Str))
abbrev reservedD : D := .tuple [.str "and", .str "even", .str "if", .str "least", .str "never", .str "none", .str "not", .str "odd", .str "of", .str "or", .str "row", .str "rule", .str "some", .str "sum", .str "table", .str "then"]
/-- a letter that is a name -/
structure IsName (z : Str) : Prop where
  len : pLen [.str z] = some (.sh (.int 1))
  item : pItem [.str z, .int 0] = some (.sh (.str z))
  inL : pNotin [.str z, lettersD] = some (.sh (.bool false))
  its : ∀ env : Env, itK env (some (.str z)) = .ok [.str z] env
  inS : pIsin [.str z, signsD] = some (.sh (.bool true))
  res : pNotin [.str z, reservedD] = some (.sh (.bool true))
  sg : ∃ c, c < 128 ∧ z = ⟨#[c]⟩
theorem in_sign (c : Nat) (z : Str) : pIsin [.str ⟨#[c]⟩, .str z] = some (.sh (.bool (decide (c ∈ z.cps.toList)))) := by
  show shB (!(Builtin.Str.occurrences z ⟨#[c]⟩ 0 z.length 1).isEmpty) = _
  rw [PySem.StrLaws.found_one]; rfl
theorem notin_sign (c : Nat) (z : Str) : pNotin [.str ⟨#[c]⟩, .str z] = some (.sh (.bool (!decide (c ∈ z.cps.toList)))) := by
  show shB (!(!(Builtin.Str.occurrences z ⟨#[c]⟩ 0 z.length 1).isEmpty)) = _
  rw [PySem.StrLaws.found_one]; rfl
theorem name_of (c : Nat) (h0 : c < 128) (h1 : c ∈ ("abcdefghijklmnopqrstuvwxyz" : Str).cps.toList) (h2 : c ∈ (("abcdefghijklmnopqrstuvwxyz" : Str) ++ ("0123456789" : Str)).cps.toList) (h3 : pNotin [.str ⟨#[c]⟩, reservedD] = some (.sh (.bool true))) : IsName ⟨#[c]⟩ :=
  ⟨by rfl, by rfl, by rw [notin_sign, decide_eq_true h1]; rfl, fun _ => by rfl, by rw [in_sign, decide_eq_true h2], h3, c, h0, rfl⟩
theorem name_a : IsName "a" := name_of 97 (by decide) (by decide) (by decide) (by rfl)
theorem name_b : IsName "b" := name_of 98 (by decide) (by decide) (by decide) (by rfl)
theorem name_c : IsName "c" := name_of 99 (by decide) (by decide) (by decide) (by rfl)
theorem name_d : IsName "d" := name_of 100 (by decide) (by decide) (by decide) (by rfl)
theorem all_true : pAll [.list [.bool true]] = some (.sh (.bool true)) := rfl
theorem add_signs : pAdd [lettersD, .str "0123456789"] = some (.sh signsD) := by rfl
theorem is_name_ok (k : Nat) (z : Str) (h : IsName z) : cF (k + 1) f_is_name [.sh (.str z)] = .ok (.sh (.bool true)) [.no] := by
  rw [R_is_name]
  have h1 := h.len
  have h2 := h.item
  have h3 := h.inL
  have h4 := h.inS
  have h5 := h.res
  have h6 := add_signs
  simp [b_is_name, outs0, pIsi_str, h1, h2, h3]
  rw [lcm [z] tStr.e (fun b => .bool b) (fun _ => true) (by simp [evI_data, h.its]) (by simp [ownFree]) (by
    intro x hx
    simp at hx
    subst hx
    simp [turnC_q, wipeE, h6, h4])]
  simp [h5, all_true]
/-- the first so many of the law's names -/
structure Names (n : Nat) (cols : List D) : Prop where
  ex : ∃ zs : List Str, cols = zs.map tStr.e ∧ zs.length = n ∧ zs.Nodup ∧ ∀ z ∈ zs, IsName z
theorem is_columns_ok (k n : Nat) (cols : List D) (h1 : 1 ≤ n) (hn : n ≤ 12) (h : Names n cols) : cF (k + 3) f_is_columns [.sh (.tuple cols)] = .ok (.sh (.bool true)) [.no] := by
  obtain ⟨zs, rfl, hl, hnd, hz⟩ := h.ex
  rw [R_is_columns]
  have e1 := is_tuple_of_ok (k + 1) f_is_name tStr zs fun z hz' => is_name_ok k z (hz z hz')
  have h1' : (1 : Int) ≤ (zs.length : Int) := by omega
  have hn' : (zs.length : Int) ≤ 12 := by omega
  simp [b_is_columns, outs0, e1, h1', hn']
  rw [dc_set zs tStr.e tStr (by decide) (fun x => some x) (by simp [evI_data]) (by simp [ownFree]) (by
    intro x hx
    simp [turnD_q, wipeE])]
  have hd : (Ty.dedup (zs.filterMap fun x => some x)).length = zs.length := by
    rw [show zs.filterMap (fun x => some x) = zs from by simp]
    refine Nat.le_antisymm (Ty.dedup_length zs) (nodup_le hnd fun a ha => Ty.mem_dedup.mpr ha)
  simp [Ty.set] at hd ⊢
  rw [hd]
theorem check_columns_ok (k n : Nat) (cols : List D) (h1 : 1 ≤ n) (hn : n ≤ 12) (h : Names n cols) : cF (k + 4) f_check_columns [.sh (.tuple cols)] = .ok (.sh .none) [.no] := by
  rw [R_check_columns]
  have := is_columns_ok k n cols h1 hn h
  simp [b_check_columns, outs0, this]
end C
end
section
set_option Elab.async false
set_option linter.all false
set_option maxRecDepth 100000
set_option maxHeartbeats 1000000
/-! what is drawn -/
namespace C
open PySem
theorem law_some_ok (k : Nat) (d : D) (hd : IsBag d) : ∃ (its : Bool) (d' : D), cF (k + 2) f_law_some [.ow d, .ow (.list [.str "if", .str "some"])] = .ok (.sh (shD its)) [.ow d', .no] ∧ IsBag d' := by
  obtain ⟨v, d', h1, h2, h3⟩ := law_take_ok k d 2 hd (by decide) (by decide)
  simp at h1
  generalize hres : cF (k + 2) f_law_some _ = res
  rw [R_law_some] at hres
  have hv : v = 0 ∨ v = 1 := by omega
  rcases hv with rfl | rfl
  · refine ⟨true, d', ?_, h3⟩
    simp [b_law_some, h1, outsOf, List.range_succ] at hres
    rw [← hres]; rfl
  · refine ⟨false, d', ?_, h3⟩
    simp [b_law_some, h1, outsOf, List.range_succ] at hres
    rw [← hres]; rfl
def names6 : List D := [.str "a", .str "b", .str "c", .str "d", .str "e", .str "f"]
theorem law_names_ok (k n : Nat) (hn : n ≤ 6) : ∃ cols, cF (k + 1) f_law_names [.sh (.int n)] = .ok (.sh (.tuple cols)) [.no] ∧ cols.length = n := by
  refine ⟨names6.take n, ?_, by simp [names6]; omega⟩
  rw [R_law_names]
  have := sliceTo_t names6 n
  simp [names6] at this
  simp [b_law_names, outs0, this, names6]
theorem heads_snoc (b : Bool) (c : Cls) (x : Nat) (v : Bool) : headsC b (c ++ [(x, v)]) = if v == b then headsC b c ++ [x] else headsC b c := by
  unfold headsC
  rw [List.filter_append, List.map_append, List.filter_cons]
  cases v == b <;> simp
theorem law_clause_ok (k n : Nat) (hn : n ≤ 12) (its : Bool) (d : D) (hd : IsBag d) : ∃ (c : Cls) (d' : D), cF (k + 2) f_law_clause [.ow d, .sh (.int n), .sh (shD its)] = .ok (.sh (.tuple (c.map tLit.e))) [.ow d', .no, .no] ∧ VC n c ∧ Horn its c ∧ IsBag d' := by
  generalize hres : cF (k + 2) f_law_clause _ = res
  rw [R_law_clause] at hres
  simp [b_law_clause] at hres
  generalize hr : exS (cF (k + 1)) 100000 (.fr _ _ _) _ = r at hres
  have key : ∃ en', r = .nx en' ∧ ∃ (d' : D) (c : Cls) (s3 s7 : Sl), en' = [.ow d', .sh (.int n), .sh (shD its), s3, .ow (.list (c.map tLit.e)), .sh (.int (headsC true c).length), .sh (.int (headsC false c).length), s7] ∧ VC (List.range n).length c ∧ Horn its c ∧ IsBag d' := by
    subst hr
    refine fr_inv (List.range n) tNat.e (fun pre en => ∃ (d' : D) (c : Cls) (s3 s7 : Sl), en = [.ow d', .sh (.int n), .sh (shD its), s3, .ow (.list (c.map tLit.e)), .sh (.int (headsC true c).length), .sh (.int (headsC false c).length), s7] ∧ VC pre.length c ∧ Horn its c ∧ IsBag d') ?_ ?_ ?_
    · exact evI_range n _ (by simp) (by omega)
    · exact ⟨d, [], _, _, rfl, VC.nil _, by simp [Horn, headsC], hd⟩
    rintro pre x post hx en ⟨d1, c, s3, s7, rfl, vc, hc, hd1⟩
    have hl : pre.length < n := by have := congrArg List.length hx; simp at this; omega
    have hxp : x = pre.length := by
      have h1 : (List.range n)[pre.length]? = some x := by rw [hx]; simp
      rw [List.getElem?_range (by omega)] at h1
      exact (Option.some.inj h1).symm
    subst hxp
    obtain ⟨v1, d2, t1, _, hd2⟩ := law_take_ok k d1 2 hd1 (by decide) (by decide)
    obtain ⟨v2, d3, t2, hv2, hd3⟩ := law_take_ok k d2 2 hd2 (by decide) (by decide)
    simp at t1 t2
    have ha := fun y => app_ok (c.map tLit.e) y (by rw [List.length_map]; have := vc.len; omega)
    have vc' : VC (pre ++ [pre.length]).length c := vc.mono (by simp)
    have vcs : ∀ b, VC (pre ++ [pre.length]).length (c ++ [(pre.length, b)]) := fun b => vc.snoc (by simp)
    by_cases h0 : v1 = 0
    · subst h0
      simp at t1
      unfold Horn at hc
      have hv : v2 = 0 ∨ v2 = 1 := by omega
      cases its with
      | true =>
        by_cases ho : 0 < (headsC true c).length
        · have ho' : (0 : Int) < ((headsC true c).length : Int) := by omega
          simp [turnF_q, t1, t2, shD_t, ho, ho', isin_str, ha]
          refine ⟨d3, c ++ [(pre.length, false)], ⟨rfl, by simp, ?_, ?_⟩, by simpa using vcs _, ?_, hd3⟩
          · simp [heads_snoc]
          · simp [heads_snoc]
          · simpa [Horn, heads_snoc] using hc
        · have ho' : ¬ (0 : Int) < ((headsC true c).length : Int) := by omega
          have hz : (headsC true c).length = 0 := by omega
          rcases hv with rfl | rfl
          · simp at t2
            simp [turnF_q, t1, t2, shD_t, ho, ho', isin_str, ha]
            refine ⟨d3, c ++ [(pre.length, false)], ⟨rfl, by simp, ?_, ?_⟩, by simpa using vcs _, ?_, hd3⟩
            · simp [heads_snoc]
            · simp [heads_snoc]
            · simpa [Horn, heads_snoc] using hc
          · simp at t2
            simp [turnF_q, t1, t2, shD_t, ho, ho', isin_str, ha]
            refine ⟨d3, c ++ [(pre.length, true)], ⟨rfl, by simp, ?_, ?_⟩, by simpa using vcs _, ?_, hd3⟩
            · simp [heads_snoc]
            · simp [heads_snoc]
            · simp [Horn, heads_snoc, hz]
      | false =>
        by_cases ho : 0 < (headsC false c).length
        · have ho' : (0 : Int) < ((headsC false c).length : Int) := by omega
          simp [turnF_q, t1, t2, shD_f, ho, ho', isin_str, ha]
          refine ⟨d3, c ++ [(pre.length, true)], ⟨rfl, by simp, ?_, ?_⟩, by simpa using vcs _, ?_, hd3⟩
          · simp [heads_snoc]
          · simp [heads_snoc]
          · simpa [Horn, heads_snoc] using hc
        · have ho' : ¬ (0 : Int) < ((headsC false c).length : Int) := by omega
          have hz : (headsC false c).length = 0 := by omega
          rcases hv with rfl | rfl
          · simp at t2
            simp [turnF_q, t1, t2, shD_f, ho, ho', isin_str, ha]
            refine ⟨d3, c ++ [(pre.length, false)], ⟨rfl, by simp, ?_, ?_⟩, by simpa using vcs _, ?_, hd3⟩
            · simp [heads_snoc]
            · simp [heads_snoc]
            · simp [Horn, heads_snoc, hz]
          · simp at t2
            simp [turnF_q, t1, t2, shD_f, ho, ho', isin_str, ha]
            refine ⟨d3, c ++ [(pre.length, true)], ⟨rfl, by simp, ?_, ?_⟩, by simpa using vcs _, ?_, hd3⟩
            · simp [heads_snoc]
            · simp [heads_snoc]
            · simpa [Horn, heads_snoc] using hc
    · have h0' : ¬ (v1 : Int) = 0 := by omega
      simp [turnF_q, t1, h0, h0']
      exact ⟨d2, c, ⟨rfl, rfl, rfl, rfl⟩, by simpa using vc', hc, hd2⟩
  obtain ⟨_, rfl, d', c, s3, s7, rfl, vc, hc, hd'⟩ := key
  refine ⟨c, d', ?_, by simpa using vc, hc, hd'⟩
  rw [← hres]
  simp [outsOf, List.range_succ]
theorem law_rules_ok (k n : Nat) (hn : n ≤ 12) (its : Bool) (d : D) (hd : IsBag d) : ∃ (rules : List Cls) (d' : D), cF (k + 3) f_law_rules [.ow d, .sh (.int n), .sh (shD its)] = .ok (.sh (.tuple (rules.map tCls.e))) [.ow d', .no, .no] ∧ (∀ c ∈ rules, VC n c) ∧ (∀ c ∈ rules, Horn its c) ∧ IsBag d' := by
  generalize hres : cF (k + 3) f_law_rules _ = res
  rw [R_law_rules] at hres
  simp [b_law_rules] at hres
  obtain ⟨v, d1, t1, hv, hd1⟩ := law_take_ok (k + 1) d 5 hd (by decide) (by decide)
  simp at t1
  have hsum : pEq [shD its, .str "sum"] = some (.sh (.bool false)) := by cases its <;> rfl
  have key := lc_st (cf := cF (k + 2)) (env := [.ow d, .sh (.int n), .sh (shD its), .no, .no, .no]) (env1 := [.ow d1, .sh (.int n), .sh (shD its), .no, .no, .no]) (own := [4]) (p := .v 4) (it := .range1 (.call f_law_take (.cons (.rf 0) (.cons (.e (.k (.int 5))) .nil)))) (ifs := .nil)
    (elt := .ite (.pr .eq (.cons (.e (.v 2)) (.cons (.e (.k (.str "sum"))) .nil))) (.call f_law_sum (.cons (.rf 0) (.cons (.e (.v 1)) .nil))) (.call f_law_clause (.cons (.rf 0) (.cons (.e (.v 1)) (.cons (.e (.v 2)) .nil)))))
    (List.range v) tNat.e (fun pre ds en => ∃ (d' : D) (cs : List Cls) (s4 : Sl), en = [.ow d', .sh (.int n), .sh (shD its), .no, s4, .no] ∧ ds = cs.map tCls.e ∧ (∀ c ∈ cs, VC n c) ∧ (∀ c ∈ cs, Horn its c) ∧ IsBag d') (by
      rw [evI_range1]
      simp [t1, lineN_val, rangeSt_0]
      omega) (by simp [ownFree]) ⟨d1, [], .no, rfl, rfl, by simp, by simp, hd1⟩ (by
      rintro pre x post ds en hx ⟨d2, cs, s4, rfl, rfl, h1, h2, h3⟩
      obtain ⟨c, d3, q1, q2, q3, q4⟩ := law_clause_ok k n hn its d2 h3
      refine ⟨[tCls.e c], [.ow d3, .sh (.int n), .sh (shD its), .no, .sh (.int x), .no], ?_, d3, cs ++ [c], _, rfl, by simp, ?_, ?_, q4⟩
      · simp [turnC_q, wipeE, hsum, q1]
      · intro c' hc'
        rcases List.mem_append.mp hc' with z | z
        · exact h1 _ z
        · simp at z; subst z; exact q2
      · intro c' hc'
        rcases List.mem_append.mp hc' with z | z
        · exact h2 _ z
        · simp at z; subst z; exact q3)
  obtain ⟨ds, e2, g1, d', cs, s4, rfl, rfl, h1, h2, h3⟩ := key
  rw [g1] at hres
  have gd := tCls.dictOf_set (by decide) cs
  have gs := tCls.sorted_set (by decide) (Ty.dedup cs)
  have hm : ∀ c, c ∈ tCls.sort (Ty.dedup cs) ↔ c ∈ cs := fun c => by rw [(tCls.sort_perm _).mem_iff, Ty.mem_dedup]
  refine ⟨tCls.sort (Ty.dedup cs), d', ?_, fun c hc => h1 c ((hm c).mp hc), fun c hc => h2 c ((hm c).mp hc), h3⟩
  rw [← hres]
  simp [backE]
  rw [lc_map (env1 := [.ow d', .sh (.int n), .sh (shD its), .sh (.list (cs.map tCls.e)), .no, .no]) cs tCls.e (fun c => PyData.tuple [tCls.e c, .bool true]) (fun c => c) (by simp [evI_data]) (by simp [ownFree]) (by
    intro c hc
    simp [turnC_q, wipeE])]
  simp at gd gs
  simp [gd, gs, outsOf, List.range_succ]
end C
end
section
set_option Elab.async false
set_option linter.all false
set_option maxRecDepth 100000
set_option maxHeartbeats 1000000
/-! tables made; what k88 draws -/
namespace C
open PySem
def zs4 : List Str := ["a", "b", "c", "d"]
theorem names4 (n : Nat) (hn : n ≤ 4) : Names n (names6.take n) := by
  refine ⟨zs4.take n, ?_, by simp [zs4]; omega, (show zs4.Nodup by decide).sublist (List.take_sublist _ _), fun z hz => ?_⟩
  · match n, hn with
    | 0, _ => rfl
    | 1, _ => rfl
    | 2, _ => rfl
    | 3, _ => rfl
    | 4, _ => rfl
  · have := List.mem_of_mem_take hz
    simp [zs4] at this
    rcases this with rfl | rfl | rfl | rfl
    · exact name_a
    · exact name_b
    · exact name_c
    · exact name_d
theorem law_names4_ok (k n : Nat) (hn : n ≤ 4) : ∃ cols, cF (k + 1) f_law_names [.sh (.int n)] = .ok (.sh (.tuple cols)) [.no] ∧ cols.length = n ∧ Names n cols := by
  refine ⟨names6.take n, ?_, by simp [names6]; omega, names4 n hn⟩
  rw [R_law_names]
  have := sliceTo_t names6 n
  simp [names6] at this
  simp [b_law_names, outs0, this, names6]
theorem Names.len {n : Nat} {cols : List D} (h : Names n cols) : cols.length = n := by
  obtain ⟨zs, rfl, hl, _⟩ := h.ex; simp [hl]
theorem full_table_ok (k n : Nat) (cols : List D) (h1 : 1 ≤ n) (hn : n ≤ 12) (h : Names n cols) : cF (k + 5) f_full_table [.sh (.tuple cols)] = .ok (.sh (eTab cols (rowsF n))) [.no] := by
  rw [R_full_table]
  have e1 := check_columns_ok k n cols h1 hn h
  have e2 := all_rows_ok (k + 1) n h1 hn
  simp [b_full_table, outs0, e1, h.len, e2, eTab]
theorem empty_table_ok (k n : Nat) (cols : List D) (h1 : 1 ≤ n) (hn : n ≤ 12) (h : Names n cols) : cF (k + 5) f_empty_table [.sh (.tuple cols)] = .ok (.sh (eTab cols [])) [.no] := by
  rw [R_empty_table]
  have e1 := check_columns_ok k n cols h1 hn h
  simp [b_empty_table, outs0, e1, eTab]
theorem table_of_ok (k n : Nat) (cols : List D) (rows : List Row) (h1 : 1 ≤ n) (hn : n ≤ 12) (h : Names n cols) (hr : VR n rows) : cF (k + 6) f_table_of [.sh (.tuple cols), .sh (.tuple (rows.map tRow.e))] = .ok (.sh (eTab cols (upR rows))) [.no, .no] := by
  rw [R_table_of]
  have e1 := check_columns_ok (k + 1) n cols h1 hn h
  have e2 := rising_ok (k + 4) rows
  simp [b_table_of, outs0, e1, pIsi_tl]
  rw [lcm rows tRow.e (fun b => .bool b) (fun _ => true) (by simp [evI_data]) (by simp [ownFree]) (by
    intro r hr2
    have := is_bits_ok k r n (hr r hr2)
    simp [turnC_q, wipeE, h.len, this])]
  have ht : (rows.all fun _ => true) = true := by simp
  simp [ht, e2, eTab]
/-- things put in at drawn places -/
theorem law_mixed_ok (k : Nat) (d : D) (hd : IsBag d) {α : Type} (T : Ty α) (xs : List α) (hl : xs.length ≤ 1000) : ∃ (ys : List α) (d' : D), cF (k + 2) f_law_mixed [.ow d, .ow (.list (xs.map T.e))] = .ok (.sh (.list (ys.map T.e))) [.ow d', .no] ∧ ys.Perm xs ∧ IsBag d' := by
  generalize hres : cF (k + 2) f_law_mixed _ = res
  rw [R_law_mixed] at hres
  simp [b_law_mixed] at hres
  generalize hr : exS (cF (k + 1)) 100000 (.fr _ _ _) _ = r at hres
  have key : ∃ en', r = .nx en' ∧ ∃ (d' : D) (ys : List α) (s3 : Sl), en' = [.ow d', .sh (.list (xs.map T.e)), .ow (.list (ys.map T.e)), s3] ∧ ys.Perm xs ∧ IsBag d' := by
    subst hr
    refine fr_invE (env1 := [.ow d, .sh (.list (xs.map T.e)), .ow (.list []), .no]) xs T.e (fun pre en => ∃ (d' : D) (ys : List α) (s3 : Sl), en = [.ow d', .sh (.list (xs.map T.e)), .ow (.list (ys.map T.e)), s3] ∧ ys.Perm pre ∧ IsBag d') (by simp [evI_data]) ⟨d, [], _, rfl, List.Perm.refl _, hd⟩ ?_
    rintro pre x post hx en ⟨d1, ys, s3, rfl, hp, hd1⟩
    have hpl := hp.length_eq
    have hxl := congrArg List.length hx
    simp at hxl
    obtain ⟨v, d2, t1, hv, hd2⟩ := law_take_ok k d1 (ys.length + 1) hd1 (by omega) (by omega)
    simp at t1
    have hi : evM .insert (.list (ys.map T.e)) [.int v, T.e x] = some (.list ((ys.take v ++ [x] ++ ys.drop v).map T.e), .none) := by
      have hq : ∀ (a : D) (ds : List D), evM .insert a ds = mInsert a ds := fun _ _ => rfl
      have hq2 : ∀ (zs : List D) (i : Int) (y : D), mInsert (.list zs) [.int i, y] = if zs.length < lineN ∧ 0 ≤ i ∧ i < 1073741824 then some (.list (zs.take i.toNat ++ [y] ++ zs.drop i.toNat), .none) else none := fun _ _ _ => rfl
      rw [hq, hq2, if_pos ⟨by rw [List.length_map, lineN_val]; omega, by omega, by omega⟩]
      simp
    refine ⟨[.ow d2, .sh (.list (xs.map T.e)), .ow (.list ((ys.take v ++ [x] ++ ys.drop v).map T.e)), .sh (T.e x)], ?_, d2, ys.take v ++ [x] ++ ys.drop v, _, rfl, ?_, hd2⟩
    · simp at hi
      have hm : muAt .insert (.ow (.list (ys.map T.e))) = true := rfl
      have ho : ∀ vs, muOk .insert vs = allMade vs := fun _ => rfl
      simp [turnF_q, t1, hi, hm, ho]
    · have h1 := (List.perm_append_comm (l₁ := [x]) (l₂ := ys.drop v)).append_left (ys.take v)
      have h2 : ys.take v ++ (ys.drop v ++ [x]) = ys ++ [x] := by rw [← List.append_assoc, List.take_append_drop]
      rw [h2] at h1
      rw [List.append_assoc]
      exact h1.trans (hp.append_right [x])
  obtain ⟨_, rfl, d', ys, s3, rfl, hp, hd'⟩ := key
  refine ⟨ys, d', ?_, hp, hd'⟩
  rw [← hres]
  simp [outsOf, List.range_succ]
end C
end
section
set_option Elab.async false
set_option linter.all false
set_option maxRecDepth 100000
set_option maxHeartbeats 1000000
/-! a table drawn -/
namespace C
open PySem
theorem law_table_ok (k : Nat) (d : D) (hd : IsBag d) : ∃ (n : Nat) (cols : List D) (rows : List Row) (d' : D), cF (k + 2) f_law_table [.ow d, .sh (.int 4)] = .ok (.sh (eTab cols rows)) [.ow d', .no] ∧ 2 ≤ n ∧ n ≤ 4 ∧ Names n cols ∧ rows.Sublist (allRows n) ∧ IsBag d' := by
  generalize hres : cF (k + 2) f_law_table _ = res
  rw [R_law_table] at hres
  obtain ⟨v, d1, t1, hv, hd1⟩ := law_take_ok k d 3 hd (by decide) (by decide)
  obtain ⟨u, d2, t2, hu, hd2⟩ := law_take_ok k d1 4 hd1 (by decide) (by decide)
  simp at t1 t2
  simp [b_law_table, t1, t2] at hres
  obtain ⟨cols, c1, hc, hnm⟩ := law_names4_ok k (2 + v) (by omega)
  have hr := law_rows_ok k (2 + v) (by omega)
  simp at c1 hr
  simp [c1] at hres
  have key := lc_st (cf := cF (k + 1)) (env := [.ow d2, .sh (.int 4), .sh (.int (2 + v)), .sh (.int (1 + u)), .no]) (env1 := [.ow d2, .sh (.int 4), .sh (.int (2 + v)), .sh (.int (1 + u)), .no]) (own := [4]) (p := .v 4) (it := .data (.e (.call f_law_rows (.cons (.e (.v 2)) .nil))))
    (ifs := .cons (.pr .lt (.cons (.e (.call f_law_take (.cons (.rf 0) (.cons (.e (.k (.int 5))) .nil)))) (.cons (.e (.v 3)) .nil))) .nil) (elt := .v 4)
    (allRows (2 + v)) tRow.e (fun pre ds en => ∃ (d' : D) (rows : List Row) (s4 : Sl), en = [.ow d', .sh (.int 4), .sh (.int (2 + v)), .sh (.int (1 + u)), s4] ∧ ds = rows.map tRow.e ∧ rows.Sublist pre ∧ IsBag d') (by
      simp [evI_data, hr]) (by simp [ownFree]) ⟨d2, [], .no, rfl, rfl, List.Sublist.slnil, hd2⟩ (by
      rintro pre r post ds en hx ⟨d3, rows, s4, rfl, rfl, hs, hd3⟩
      obtain ⟨z, d4, t3, _, hd4⟩ := law_take_ok k d3 5 hd3 (by decide) (by decide)
      simp at t3
      by_cases hz : (z : Int) < 1 + u
      · refine ⟨[tRow.e r], [.ow d4, .sh (.int 4), .sh (.int (2 + v)), .sh (.int (1 + u)), .sh (tRow.e r)], ?_, d4, rows ++ [r], _, rfl, by simp, hs.append (List.Sublist.refl _), hd4⟩
        simp [turnC_q, wipeE, t3, hz]
      · refine ⟨[], [.ow d4, .sh (.int 4), .sh (.int (2 + v)), .sh (.int (1 + u)), .sh (tRow.e r)], ?_, d4, rows, _, rfl, by simp, hs.trans (List.sublist_append_left _ _), hd4⟩
        simp [turnC_q, wipeE, t3, hz])
  obtain ⟨ds, e2, g1, d', rows, s4, rfl, rfl, hs, hd'⟩ := key
  rw [g1] at hres
  refine ⟨2 + v, cols, rows, d', ?_, by omega, by omega, hnm, hs, hd'⟩
  rw [← hres]
  simp [backE, outsOf, List.range_succ, eTab]
end C
end
section
set_option Elab.async false
set_option linter.all false
set_option maxRecDepth 100000
set_option maxHeartbeats 1000000
/-! k88: rows put in -/
namespace C
open PySem
theorem dedupD_row (xs : List Row) : dedupD (xs.map tRow.e) = (Ty.dedup xs).map tRow.e := by
  unfold dedupD Ty.dedup
  have : ∀ (xs acc : List Row), (xs.map tRow.e).foldl (fun acc d => if acc.any (fun x => PyData.eqv x d) then acc else acc ++ [d]) (acc.map tRow.e) = (xs.foldl Ty.add acc).map tRow.e := fun xs => by
    induction xs with
    | nil => intro acc; rfl
    | cons x xs ih =>
      intro acc
      rw [List.map_cons, List.foldl_cons, List.foldl_cons, tRow.any_eqv, ← ih]
      congr 1
      unfold Ty.add
      by_cases h : x ∈ acc <;> simp [h]
  exact this xs []
theorem rowI_row {n : Nat} {r : Row} (h : r.length = n) : rowI n (tRow.e r) = true := by
  have e : ∀ bs : List Bool, intsD (bs.map tBit.e) = some (bs.map fun b => if b then (1 : Int) else 0) := fun bs => by
    induction bs with
    | nil => rfl
    | cons b bs ih => cases b <;> (show (intsD (bs.map tBit.e)).map _ = _; rw [ih]; rfl)
  show (match intsD (r.map tBit.e) with | some ns => decide (ns.length = n) && ns.all fun i => decide (0 ≤ i ∧ i < 64) | none => false) = true
  rw [e]
  simp [h]
theorem sortedSet_rows {n : Nat} {rows : List Row} (h1 : 1 ≤ n) (hv : VR n rows) (hne : rows ≠ []) (hl : rows.length ≤ 63) : pSortedSet [.tuple (rows.map tRow.e)] = some (.ow (.list ((upR rows).map tRow.e))) := by
  cases rows with
  | nil => exact absurd rfl hne
  | cons r rows =>
    have hd : lenD (tRow.e r) = n := by
      show (r.map tBit.e).length = n
      rw [List.length_map]; exact hv r List.mem_cons_self
    have hq : ∀ (d : D) (ds : List D), pSortedSet [.tuple (d :: ds)] = if (d :: ds).all (rowI (lenD d)) && (decide (1 ≤ lenD d) && decide (ds.length < 63)) then some (.ow (.list ((dedupD (d :: ds)).mergeSort (PySem.W.dataLe false id)))) else none := fun _ _ => rfl
    have ha : ((r :: rows).map tRow.e).all (rowI n) = true := by
      rw [List.all_map, List.all_eq_true]
      exact fun x hx => rowI_row (hv x hx)
    have hlen : (rows.map tRow.e).length < 63 := by rw [List.length_map]; simp at hl; omega
    have hdd := dedupD_row (r :: rows)
    rw [List.map_cons] at ha hdd ⊢
    rw [hq, hd, ha, decide_eq_true h1, decide_eq_true hlen, hdd, tRow.sort_map]; rfl
theorem Ty.asc_tail {α : Type} {T : Ty α} {a : α} {xs : List α} (h : T.Asc (a :: xs)) : T.Asc xs := (List.pairwise_cons.mp h).2
/-- sorted, each once: by what stands there -/
theorem upR_ext {xs ys : List Row} (h : tRow.Asc ys) (e : ∀ r, r ∈ xs ↔ r ∈ ys) : upR xs = ys := by
  unfold upR
  refine tRow.asc_ext (tRow.asc_sort (Ty.dedup_nodup _)) h fun r => ?_
  rw [(tRow.sort_perm _).mem_iff, Ty.mem_dedup, e]
theorem upR_mem {xs : List Row} {r : Row} : r ∈ upR xs ↔ r ∈ xs := by
  unfold upR; rw [(tRow.sort_perm _).mem_iff, Ty.mem_dedup]
theorem upR_asc (xs : List Row) : tRow.Asc (upR xs) := tRow.asc_sort (Ty.dedup_nodup _)
theorem ascB : ∀ n, n ≤ 4 → tRow.Asc (allRows n)
  | 0, _ => by unfold Ty.Asc; decide
  | 1, _ => by unfold Ty.Asc; decide
  | 2, _ => by unfold Ty.Asc; decide
  | 3, _ => by unfold Ty.Asc; decide
  | 4, _ => by unfold Ty.Asc; decide
theorem rowsF_all : ∀ n, n ≤ 4 → rowsF n = allRows n
  | 0, _ => by decide
  | 1, _ => by decide
  | 2, _ => by decide
  | 3, _ => by decide
  | 4, _ => by decide
theorem ka_up (rows : List Row) (r : Row) (c : Cls) : ka (upR (rows ++ [r])) c = (ka rows c && dk c r) := by
  rw [Bool.eq_iff_iff, Bool.and_eq_true, ka_iff, ka_iff]
  constructor
  · intro h
    exact ⟨fun s hs => h s (upR_mem.mpr (List.mem_append_left _ hs)), h r (upR_mem.mpr (by simp))⟩
  · rintro ⟨h1, h2⟩ s hs
    rcases List.mem_append.mp (upR_mem.mp hs) with z | z
    · exact h1 s z
    · simp at z; subst z; exact h2
theorem tame_sign {z : Str} (h : ∃ c, c < 128 ∧ z = ⟨#[c]⟩) : Tame 1 0 (.str z) := by
  obtain ⟨c, hc, rfl⟩ := h
  refine ⟨?_, rfl, rfl, by simp [PyData.weight], by simp [PyData.depth]⟩
  simp [PyData.leavesShort]
  omega
theorem tame_tab {n : Nat} {cols : List D} {rows : List Row} (hn : n ≤ 12) (h : Names n cols) (hv : VR n rows) (hl : rows.length ≤ 40) : Tame 1000000 3 (eTab cols rows) := by
  obtain ⟨zs, rfl, hz, _, hs⟩ := h.ex
  have t1 : Tame 12000 1 (.tuple (zs.map tStr.e)) := (tame_tuple (W := 1) (H := 0) fun d hd => by
    obtain ⟨z, hz', rfl⟩ := List.mem_map.mp hd
    exact tame_sign (hs z hz').sg).mono (by rw [List.length_map]; omega) (Nat.le_refl _)
  have t2 : Tame 481000 2 (.tuple (rows.map tRow.e)) := (tame_tuple (W := 12024) (H := 1) fun d hd => by
    obtain ⟨r, hr, rfl⟩ := List.mem_map.mp hd
    exact tame_row hn (hv r hr)).mono (by rw [List.length_map]; omega) (Nat.le_refl _)
  refine (tame_tuple (W := 481000) (H := 2) (ds := [.tuple (zs.map tStr.e), .tuple (rows.map tRow.e)]) fun d hd => ?_).mono (by simp) (Nat.le_refl _)
  simp at hd
  rcases hd with rfl | rfl
  · exact t1.mono (by omega) (by omega)
  · exact t2
end C
end
section
set_option Elab.async false
set_option linter.all false
set_option maxRecDepth 100000
set_option maxHeartbeats 1000000
/-! k88: one row more, plain mathematics -/
namespace C
open PySem
section
variable {n : Nat} {rows : List Row} {r : Row}
theorem later_VR (hv : VR n rows) (h : r.length = n) : VR n (upR (rows ++ [r])) := fun s hs => by
  rcases List.mem_append.mp (upR_mem.mp hs) with z | z
  · exact hv s z
  · simp at z; subst z; exact h
theorem later_same (ha : tRow.Asc rows) (hr : r ∈ rows) : upR (rows ++ [r]) = rows := upR_ext ha fun s => by
  rw [List.mem_append, List.mem_singleton]
  exact ⟨fun z => z.elim id fun e => by rw [e]; exact hr, .inl⟩
theorem later_without (ha : tRow.Asc rows) (hr : r ∉ rows) : ((upR (rows ++ [r])).filter fun x => !decide (x = r)) = rows := by
  refine tRow.asc_ext ((upR_asc _).sublist List.filter_sublist) ha fun s => ?_
  rw [List.mem_filter, upR_mem, List.mem_append, List.mem_singleton]
  constructor
  · rintro ⟨h1 | h1, h2⟩
    · exact h1
    · simp [h1] at h2
  · intro h
    exact ⟨.inl h, by simp; rintro rfl; exact hr h⟩
theorem later_len (ha : tRow.Asc rows) (hr : r ∉ rows) : (upR (rows ++ [r])).length = rows.length + 1 := by
  have hn : (rows ++ [r]).Nodup := by
    rw [List.nodup_append]
    exact ⟨ha.nodup, by simp, fun a ha' b hb z => by simp at hb; subst hb; subst z; exact hr ha'⟩
  have h1 := nodup_le (l := rows ++ [r]) (m := upR (rows ++ [r])) hn fun a ha => upR_mem.mpr ha
  have h2 := nodup_le (l := upR (rows ++ [r])) (m := rows ++ [r]) (upR_asc _).nodup fun a ha => upR_mem.mp ha
  simp at h1 h2
  omega
/-- a least clause that the row keeps stays one -/
theorem prime_later {c : Cls} (hp : Prime n rows c) (hk : dk c r = true) : Prime n (upR (rows ++ [r])) c :=
  ⟨hp.vc, by rw [ka_up, hp.ka, hk]; rfl, fun p vp kp sp => hp.least p vp (by rw [ka_up, Bool.and_eq_true] at kp; exact kp.1) sp⟩
/-- within each later one stands one of before -/
theorem prime_before {c : Cls} (hp : Prime n (upR (rows ++ [r])) c) : ∃ p, Prime n rows p ∧ sub p c = true := by
  have hk := hp.ka
  rw [ka_up, Bool.and_eq_true] at hk
  exact exists_prime hp.vc hk.1
/-- no rows: the clause without literals -/
theorem lprimes_nil (n : Nat) : lprimes n [] = [[]] := by
  refine kext (lprimes_asc n []) (by simp) fun c => ?_
  rw [lprimes_mem, List.mem_singleton]
  constructor
  · intro h
    exact (h.least [] (VC.nil n) rfl (by simp [sub])).symm
  · rintro rfl
    exact ⟨VC.nil n, rfl, fun p vp _ sp => by
      cases p with
      | nil => rfl
      | cons l p => simp [sub] at sp⟩
theorem asc_inj : ∀ {c : Cls} {l m : Lit}, c.Pairwise (fun a b => a.1 < b.1) → l ∈ c → m ∈ c → l.1 = m.1 → l = m
  | [], _, _, _, h, _, _ => by simp at h
  | x :: c, l, m, hp, hl, hm, e => by
    obtain ⟨p1, p2⟩ := List.pairwise_cons.mp hp
    rcases List.mem_cons.mp hl with h1 | h1 <;> rcases List.mem_cons.mp hm with h2 | h2
    · rw [h1, h2]
    · have := p1 m h2; rw [h1] at e; omega
    · have := p1 l h1; rw [h2] at e; omega
    · exact asc_inj p2 h1 h2 e
/-- all rows: none -/
theorem lprimes_all (n : Nat) (rows : List Row) (h : ∀ r : Row, r.length = n → r ∈ rows) : lprimes n rows = [] := by
  refine List.eq_nil_iff_forall_not_mem.mpr fun c hc => ?_
  have hp := lprimes_mem.mp hc
  let r : Row := (List.range n).map fun x => !decide ((x, true) ∈ c)
  have hk := ka_iff.mp hp.ka r (h r (by simp [r]))
  obtain ⟨⟨j, b⟩, hl, hq⟩ := dk_iff.mp hk
  have hj := hp.vc.lt _ hl
  simp only at hq hj
  have hr : r.getD j false = !decide ((j, true) ∈ c) := by
    rw [List.getD_eq_getElem?_getD, List.getElem?_map, List.getElem?_range hj]; rfl
  rw [hr] at hq
  cases b with
  | true => simp [hl] at hq
  | false =>
    have : (j, true) ∈ c := by simpa using hq
    have := asc_inj hp.vc.asc hl this rfl
    simp at this
end
end C
end
section
set_option Elab.async false
set_option linter.all false
set_option maxRecDepth 100000
set_option maxHeartbeats 1000000
/-! k88: _law_stepped -/
namespace C
open PySem
@[simp] theorem evP_sortedSet (ds : List D) : evP .sortedSet ds = pSortedSet ds := id rfl
theorem pEq_self {W H : Nat} {d : D} (h : Tame W H d) (hh : H ≤ 50) : pEq [d, d] = some (.sh (.bool true)) := by
  have hd := Nat.le_trans h.dp hh
  have ho : okEq d = true := by unfold okEq; rw [h.pl, decide_eq_true (by omega)]; rfl
  rw [pEq_q, ho, eqv_refl h.pl]; rfl
theorem law_stepped_ok (k n : Nat) (cols : List D) (rows : List Row) (r : Row) (h1 : 1 ≤ n) (hn : n ≤ 8) (hnm : Names n cols) (hv : VR n rows) (ha : tRow.Asc rows) (hl : rows.length ≤ 30) (hr : r.length = n) :
    cF (k + 8) f_law_stepped [.sh (eTab cols rows), .sh (.tuple (r.map tBit.e))] = .ok (.sh (.bool true)) [.no, .no] := by
  have hc := hnm.len
  have lv := later_VR hv hr
  have hll : (upR (rows ++ [r])).length ≤ 31 := by
    have := nodup_le (l := upR (rows ++ [r])) (m := rows ++ [r]) (upR_asc _).nodup fun a ha => upR_mem.mp ha
    simp at this; omega
  have tl := tame_tab (rows := upR (rows ++ [r])) (by omega) hnm lv (by omega)
  have t0 := tame_tab (rows := rows) (by omega) hnm hv (by omega)
  have e1 := with_row_ok k n cols rows r hc hr (by omega)
  have e2 := law_alike_ok (k + 6) _ tl (by omega) (by omega)
  have e3 := has_row_ok (k + 1) n cols (upR (rows ++ [r])) r hc hr
  rw [decide_eq_true (show r ∈ upR (rows ++ [r]) from upR_mem.mpr (by simp))] at e3
  have e4 := sortedSet_rows (rows := rows ++ [r]) h1 (by
    intro s hs
    rcases List.mem_append.mp hs with z | z
    · exact hv s z
    · simp at z; subst z; exact hr) (by simp) (by simp; omega)
  have e5 := pAdd_t (rows.map tRow.e) [.tuple (r.map tBit.e)] (by rw [lineN_val]; simp; omega)
  have e6 := every_clause_ok (k + 6) n hn
  have e7 := primes_ok (k + 3) n cols (upR (rows ++ [r])) hc hn lv
  have e8 := primes_ok (k + 3) n cols rows hc hn hv
  have f1 := pEq_self t0 (by omega)
  simp [eTab] at e1 e2 e3 e4 e5 e7 e8 f1
  rw [R_law_stepped]
  simp [b_law_stepped, outs0, eTab, e1, e2, e3, e4, e5]
  generalize hq : exS (cF (k + 7)) 100000 (.fr _ _ _) _ = q
  have key : ∃ en', q = .nx en' ∧ ∃ s3, en' = [.sh (eTab cols rows), .sh (.tuple (r.map tBit.e)), .sh (eTab cols (upR (rows ++ [r]))), s3, .no, .no, .no, .no] := by
    subst hq
    refine fr_all (ecs n) tCls.e (fun en => ∃ s3, en = [.sh (eTab cols rows), .sh (.tuple (r.map tBit.e)), .sh (eTab cols (upR (rows ++ [r]))), s3, .no, .no, .no, .no]) ?_ ?_ ?_
    · simp [evI_data, eTab, hc, e6]
    · exact ⟨_, rfl⟩
    rintro c hcm en ⟨s3, rfl⟩
    have vc := ecs_mem.mp hcm
    have g1 := is_kept_ok (k + 1) n cols (upR (rows ++ [r])) c hc lv vc
    have g2 := is_kept_ok (k + 1) n cols rows c hc hv vc
    have g3 := law_keeps_ok (k + 5) c r (by intro l hl2; rw [hr]; exact vc.lt l hl2)
    have g4 := fun b : Bool => law_alike_ok (k + 6) (.bool b) (tame_bool b) (by decide) (by decide)
    rw [ka_up] at g1
    simp [eTab] at g1 g2 g3 g4
    cases h5 : ka rows c <;> cases h6 : dk c r <;> (rw [h5] at g1 g2; rw [h6] at g1 g3; simp at g1; simp [turnF_q, eTab, g1, g2, g3, g4])
  obtain ⟨_, rfl, s3, rfl⟩ := key
  simp [eTab, e7]
  generalize hq : exS (cF (k + 7)) 100000 (.fr _ _ _) _ = q
  have key : ∃ en', q = .nx en' ∧ ∃ s3, en' = [.sh (eTab cols rows), .sh (.tuple (r.map tBit.e)), .sh (eTab cols (upR (rows ++ [r]))), s3, .sh (.tuple ((lprimes n (upR (rows ++ [r]))).map tCls.e)), .no, .no, .no] := by
    subst hq
    refine fr_all (lprimes n rows) tCls.e (fun en => ∃ s3, en = [.sh (eTab cols rows), .sh (.tuple (r.map tBit.e)), .sh (eTab cols (upR (rows ++ [r]))), s3, .sh (.tuple ((lprimes n (upR (rows ++ [r]))).map tCls.e)), .no, .no, .no]) ?_ ?_ ?_
    · simp [evI_data, eTab, e8]
    · exact ⟨_, rfl⟩
    rintro c hcm en ⟨s3, rfl⟩
    have hp := lprimes_mem.mp hcm
    have g3 := law_keeps_ok (k + 5) c r (by intro l hl2; rw [hr]; exact hp.vc.lt l hl2)
    have g5 := tCls.pNotin_t (by decide) c (lprimes n (upR (rows ++ [r])))
    simp at g3 g5
    cases h6 : dk c r with
    | false => rw [h6] at g3; simp [turnF_q, eTab, g3]
    | true =>
      have hm := lprimes_mem.mpr (prime_later hp h6)
      rw [h6] at g3
      simp [hm] at g5
      simp [turnF_q, eTab, g3, g5]
  obtain ⟨_, rfl, s3', rfl⟩ := key
  have e12 : ∀ env : Env, env = [.sh (.tuple [.tuple cols, .tuple (rows.map tRow.e)]), .sh (.tuple (r.map tBit.e)), .sh (.tuple [.tuple cols, .tuple ((upR (rows ++ [r])).map tRow.e)]), s3', .sh (.tuple ((lprimes n (upR (rows ++ [r]))).map tCls.e)), .no, .no, .no] →
      evE (cF (k + 7)) (.lc [5] (.mk (.v 5) (.data (.e (.v 4))) (.cons (.pr .eq (.cons (.e (.lc [6] (.mk (.v 6) (.data (.e (.call f_primes (.cons (.e (.v 0)) .nil)))) (.cons (.pr .eq (.cons (.e (.lc [7] (.mk (.v 7) (.data (.e (.v 6))) (.cons (.pr .notin (.cons (.e (.v 7)) (.cons (.e (.v 5)) .nil))) .nil)) (.v 7))) (.cons (.e (.pr .lst .nil)) .nil))) .nil)) (.v 6))) (.cons (.e (.pr .lst .nil)) .nil))) .nil)) (.v 5)) env = .ok (.ow (.list [])) env := by
    rintro env rfl
    rw [lcf (lprimes n (upR (rows ++ [r]))) tCls.e (fun _ => false) tCls.e (fun c => c) (by simp [evI_data]) (by simp [ownFree]) (by
      intro c hcm
      obtain ⟨p, hp, hsub⟩ := prime_before (lprimes_mem.mp hcm)
      have e13 : ∀ env : Env, env = [.sh (.tuple [.tuple cols, .tuple (rows.map tRow.e)]), .sh (.tuple (r.map tBit.e)), .sh (.tuple [.tuple cols, .tuple ((upR (rows ++ [r])).map tRow.e)]), s3', .sh (.tuple ((lprimes n (upR (rows ++ [r]))).map tCls.e)), .sh (.tuple (c.map tLit.e)), .no, .no] →
          evE (cF (k + 7)) (.lc [6] (.mk (.v 6) (.data (.e (.call f_primes (.cons (.e (.v 0)) .nil)))) (.cons (.pr .eq (.cons (.e (.lc [7] (.mk (.v 7) (.data (.e (.v 6))) (.cons (.pr .notin (.cons (.e (.v 7)) (.cons (.e (.v 5)) .nil))) .nil)) (.v 7))) (.cons (.e (.pr .lst .nil)) .nil))) .nil)) (.v 6)) env = .ok (.ow (.list (((lprimes n rows).filter fun p => sub p c).map tCls.e))) env := by
        rintro env rfl
        rw [lcf (lprimes n rows) tCls.e (fun p => sub p c) tCls.e (fun p => p) (by simp [evI_data, e8]) (by simp [ownFree]) (by
          intro p hp
          have e2 : ∀ env : Env, env = [.sh (.tuple [.tuple cols, .tuple (rows.map tRow.e)]), .sh (.tuple (r.map tBit.e)), .sh (.tuple [.tuple cols, .tuple ((upR (rows ++ [r])).map tRow.e)]), s3', .sh (.tuple ((lprimes n (upR (rows ++ [r]))).map tCls.e)), .sh (.tuple (c.map tLit.e)), .sh (.tuple (p.map tLit.e)), .no] →
              evE (cF (k + 7)) (.lc [7] (.mk (.v 7) (.data (.e (.v 6))) (.cons (.pr .notin (.cons (.e (.v 7)) (.cons (.e (.v 5)) .nil))) .nil)) (.v 7)) env = .ok (.ow (.list ((p.filter fun l => !decide (l ∈ c)).map tLit.e))) env := by
            rintro env rfl
            rw [lcf p tLit.e (fun l => !decide (l ∈ c)) tLit.e (fun l => l) (by simp [evI_data]) (by simp [ownFree]) (by
              intro l hl
              have h5 := tLit.pNotin_t (by decide) l c
              simp at h5
              by_cases hb : l ∈ c <;> simp [turnC_q, wipeE, h5, hb])]
            simp
          have e2 := e2 _ rfl
          have h2 := tLit.pEq_lnil (by decide) (p.filter fun l => !decide (l ∈ c))
          rw [sub_filter] at h2
          cases hb : sub p c <;> simp [turnC_q, wipeE, e2, h2, hb])]
        simp
      have e13 := e13 _ rfl
      have h2 := tCls.pEq_lnil (by decide) ((lprimes n rows).filter fun p => sub p c)
      rw [any_filter, show ((lprimes n rows).any fun p => sub p c) = true from List.any_eq_true.mpr ⟨p, lprimes_mem.mpr hp, hsub⟩] at h2
      simp at h2
      simp [turnC_q, wipeE, e13, h2])]
    simp
  have e12 := e12 _ rfl
  have hnl : pNe [.list [], .list []] = some (.sh (.bool false)) := by rfl
  have hin := tRow.pNotin_t (by decide) r rows
  by_cases hmr : r ∈ rows
  · have hsm := later_same ha hmr
    simp [hmr] at hin
    rw [hsm] at e12 ⊢
    simp [eTab, e12, hnl, hin, f1]
  · have w1 := without_row_ok k n cols (upR (rows ++ [r])) r hc hr (upR_mem.mpr (by simp))
    rw [later_without ha hmr] at w1
    have w2 := law_alike_ok (k + 6) _ t0 (by omega) (by omega)
    have w3 := many_rows_ok (k + 6) cols (upR (rows ++ [r]))
    have w4 := many_rows_ok (k + 6) cols rows
    rw [later_len ha hmr] at w3
    simp [hmr] at hin
    simp [eTab] at w1 w2 w3 w4
    simp [eTab, e12, hnl, hin, w1, w2, w3, w4]
end C
end
section
set_option Elab.async false
set_option linter.all false
set_option maxRecDepth 100000
set_option maxHeartbeats 1000000
/-! law k88 -/
namespace C
open PySem
theorem law_someT_ok (k : Nat) (d : D) (hd : IsBag d) {α : Type} (T : Ty α) (xs : List α) (hne : xs ≠ []) (hl : xs.length ≤ 1000000) : ∃ (x : α) (d' : D), cF (k + 2) f_law_some [.ow d, .sh (.list (xs.map T.e))] = .ok (.sh (T.e x)) [.ow d', .no] ∧ x ∈ xs ∧ IsBag d' := by
  have hp : 0 < xs.length := by cases xs with | nil => exact absurd rfl hne | cons _ _ => simp
  obtain ⟨v, d', h1, h2, h3⟩ := law_take_ok k d xs.length hd hp (by omega)
  have h4 : pItem [.list (xs.map T.e), .int v] = some (.sh (T.e xs[v])) := pItem_l (by rw [List.getElem?_map, List.getElem?_eq_getElem h2]; rfl)
  refine ⟨xs[v], d', ?_, List.getElem_mem h2, h3⟩
  rw [R_law_some]
  simp [b_law_some, h1, h4, outsOf, List.range_succ]
/-- rows put in one by one -/
theorem upR_perm {xs ys : List Row} (h : xs.Perm ys) (ha : tRow.Asc ys) : upR xs = ys := upR_ext ha fun r => h.mem_iff
theorem tame_int2 (n : Nat) (h : n ≤ 12) : Tame 13 0 (.int n) := by
  have t := tame_int n (by omega)
  refine ⟨t.ls, t.sh, t.pl, ?_, t.dp⟩
  have hl := log2_le n
  unfold PyData.weight
  have : (n : Int).natAbs = n := by omega
  rw [this]
  split <;> omega
theorem tame_cls2 {n : Nat} {c : Cls} (hn : n ≤ 12) (h : VC n c) : Tame 400 2 (.tuple (c.map tLit.e)) := by
  have hl := h.len
  refine (tame_tuple (W := 28) (H := 1) fun d hd => ?_).mono (by rw [List.length_map]; omega) (Nat.le_refl _)
  obtain ⟨l, hl, rfl⟩ := List.mem_map.mp hd
  have hlt := h.lt l hl
  refine (tame_tuple (W := 13) (H := 0) (ds := [.int l.1, tBit.e l.2]) fun d hd => ?_).mono (by simp) (Nat.le_refl _)
  simp at hd
  rcases hd with rfl | rfl
  · exact tame_int2 _ (by omega)
  · cases l.2
    · exact tame_int2 0 (by decide)
    · exact tame_int2 1 (by decide)
theorem tame_clss2 {n : Nat} {cs : List Cls} (hn : n ≤ 12) (h : ∀ c ∈ cs, VC n c) (hm : cs.length ≤ 1000) : Tame 401000 3 (.tuple (cs.map tCls.e)) := by
  refine (tame_tuple (W := 400) (H := 2) fun d hd => ?_).mono (by rw [List.length_map]; omega) (Nat.le_refl _)
  obtain ⟨c, hc, rfl⟩ := List.mem_map.mp hd
  exact tame_cls2 hn (h c hc)
def k88B : CSs := match b_law_k88 with
  | .cons _ (.cons (.fr _ _ b) _) => b
  | r => r
theorem k88_eq : b_law_k88 = .cons (.asg true 1 (.call f_law_bag (.cons (.e (.v 0)) .nil))) (.cons (.fr (.v 2) (.range1 (.k (.int 3))) k88B) (.cons (.ret (.k (.bool true))) .nil)) := rfl
theorem k88B_ok (k : Nat) (d : D) (hd : IsBag d) (x0 s2 s3 s4 s5 s6 s7 s8 : Sl) :
    ∃ (d' : D) (t3 t4 t5 t6 t7 t8 : Sl), exB (cF (k + 9)) 100000 k88B [x0, .ow d, s2, s3, s4, s5, s6, s7, s8] = .nx [x0, .ow d', s2, t3, t4, t5, t6, t7, t8] ∧ IsBag d' := by
  obtain ⟨n, cols, rows, d1, t1, hn2, hn4, hnm, hs, hd1⟩ := law_table_ok (k + 7) d hd
  have hc := hnm.len
  have hv : VR n rows := fun r hr => allRows_mem.mp (hs.subset hr)
  have ha : tRow.Asc rows := (ascB n hn4).sublist hs
  have h2n : 2 ^ n ≤ 2 ^ 4 := Nat.pow_le_pow_right (by omega) hn4
  have hl : rows.length ≤ 16 := by have := hs.length_le; rw [allRows_length] at this; omega
  have t0 := tame_tab (rows := rows) (by omega) hnm hv (by omega)
  have lr := law_rows_ok (k + 8) n (by omega)
  generalize hres : exB (cF (k + 9)) 100000 k88B _ = res
  simp [eTab] at t1
  simp [k88B, b_law_k88, t1, hc] at hres
  generalize hq : exS (cF (k + 9)) 100000 (.fr _ _ _) _ = q at hres
  have key : ∃ en', q = .nx en' ∧ ∃ (d' : D) (s5 : Sl), en' = [x0, .ow d', s2, .sh (eTab cols rows), .sh (.int n), s5, s6, s7, s8] ∧ IsBag d' := by
    subst hq
    refine fr_all (List.range 2) tNat.e (fun en => ∃ (d' : D) (s5 : Sl), en = [x0, .ow d', s2, .sh (eTab cols rows), .sh (.int n), s5, s6, s7, s8] ∧ IsBag d') ?_ ?_ ?_
    · exact evI_range 2 _ (by simp) (by omega)
    · exact ⟨d1, _, rfl, hd1⟩
    rintro x hx en ⟨d2, s5, rfl, hd2⟩
    obtain ⟨r, d3, e1, hr, hd3⟩ := law_someT_ok (k + 7) d2 hd2 tRow (allRows n) (by
      intro z; have h := allRows_length n; rw [z] at h; have := Nat.two_pow_pos n; simp only [List.length_nil] at h; omega) (by rw [allRows_length]; omega)
    have e2 := law_stepped_ok (k + 1) n cols rows r (by omega) (by omega) hnm hv ha (by omega) (allRows_mem.mp hr)
    simp [eTab] at e1 e2
    simp [turnF_q, eTab, lr, e1, e2]
    exact hd3
  obtain ⟨_, rfl, d2, s5', rfl, hd2⟩ := key
  have f1 := full_table_ok (k + 4) n cols (by omega) (by omega) hnm
  have vF : VR n (rowsF n) := by rw [rowsF_all n hn4]; exact fun r hr => allRows_mem.mp hr
  have p1 := primes_ok (k + 5) n cols (rowsF n) hc (by omega) vF
  rw [lprimes_all n (rowsF n) (fun r hr => by rw [rowsF_all n hn4]; exact allRows_mem.mpr hr)] at p1
  have f2 := empty_table_ok (k + 4) n cols (by omega) (by omega) hnm
  have p2 := primes_ok (k + 5) n cols [] hc (by omega) (fun r hr => by simp at hr)
  rw [lprimes_nil] at p2
  have a1 := law_alike_ok (k + 8) (.tuple []) (tame_tuple (W := 0) (H := 0) (ds := []) (by simp)) (by simp) (by decide)
  have a2 := law_alike_ok (k + 8) _ (tame_clss (n := 1) (m := 1) (cs := [[]]) (by decide) (by simp; exact VC.nil 1) (by decide)) (by decide) (by decide)
  have q1 := pAdd_t (rows.map tRow.e) ((rows.map tRow.e).take 1) (by rw [lineN_val]; simp; omega)
  have q2 : pSliceTo [.tuple (rows.map tRow.e), .int 1] = some (.sh (.tuple ((rows.map tRow.e).take 1))) := sliceTo_t (rows.map tRow.e) 1
  obtain ⟨ys, d3, m1, hy, hd3⟩ := law_mixed_ok (k + 7) d2 hd2 tRow (rows ++ rows.take 1) (by simp; omega)
  have hym : ∀ r, r ∈ ys ↔ r ∈ rows := fun r => by
    rw [hy.mem_iff, List.mem_append]
    exact ⟨fun z => z.elim id List.mem_of_mem_take, .inl⟩
  have b1 := table_of_ok (k + 3) n cols ys (by omega) (by omega) hnm (fun r hr => hv r ((hym r).mp hr))
  rw [upR_ext ha hym] at b1
  have a3 := law_alike_ok (k + 8) _ t0 (by omega) (by omega)
  simp [eTab] at f1 p1 f2 p2 a1 a2 q1 q2 m1 b1 a3
  simp [eTab, f1, p1, f2, p2, a1, a2, q1, q2, m1, b1, a3] at hres

  obtain ⟨zs, d4, m2, hz, hd4⟩ := law_mixed_ok (k + 7) d3 hd3 tRow rows (by omega)
  generalize hq : exS (cF (k + 9)) 100000 (.fr _ _ _) _ = q at hres
  have key : ∃ en', q = .nx en' ∧ ∃ (s8 : Sl), en' = [x0, .ow d4, s2, .sh (eTab cols rows), .sh (.int n), s5', .sh (.tuple (ys.map tRow.e)), .sh (eTab cols (upR zs)), s8] := by
    subst hq
    refine fr_invE (env1 := [x0, .ow d4, s2, .sh (eTab cols rows), .sh (.int n), s5', .sh (.tuple (ys.map tRow.e)), .sh (eTab cols []), s8]) zs tRow.e (fun pre en => ∃ (s8 : Sl), en = [x0, .ow d4, s2, .sh (eTab cols rows), .sh (.int n), s5', .sh (.tuple (ys.map tRow.e)), .sh (eTab cols (upR pre)), s8]) (by simp [evI_data, eTab, m2]) ⟨s8, by rw [show upR ([] : List Row) = [] from by simp [upR, Ty.dedup, Ty.sort]]⟩ ?_
    rintro pre r post hx en ⟨s8, rfl⟩
    have hrm : r ∈ rows := hz.mem_iff.mp (by rw [hx]; simp)
    have hpl : (upR pre).length ≤ 16 := by
      have := nodup_le (l := upR pre) (m := rows) (upR_asc _).nodup fun a ha => hz.mem_iff.mp (by rw [hx]; exact List.mem_append_left _ (upR_mem.mp ha))
      omega
    have w := with_row_ok (k + 2) n cols (upR pre) r hc (hv r hrm) (by omega)
    rw [show upR (upR pre ++ [r]) = upR (pre ++ [r]) from upR_ext (upR_asc _) fun a => by simp [upR_mem]] at w
    simp [eTab] at w
    simp [turnF_q, eTab, w]
  obtain ⟨_, rfl, s8', rfl⟩ := key
  rw [upR_perm hz ha] at hres
  have p3 := primes_ok (k + 5) n cols rows hc (by omega) hv
  have p4 := law_primes_ok (k + 6) n cols rows hc (by omega) hv
  have hlp : (lprimes n rows).length ≤ 40 * 2 + 1 := by
    have h1 := lprimes_len n rows
    have h3 : 3 ^ n ≤ 3 ^ 4 := Nat.pow_le_pow_right (by omega) hn4
    omega
  have a4 := law_alike_ok (k + 8) _ (tame_clss2 (n := n) (cs := lprimes n rows) (by omega) (fun c hc => (lprimes_mem.mp hc).vc) (by omega)) (by decide) (by decide)
  have e1 : pNe [eTab cols rows, eTab cols rows] = some (.sh (.bool false)) := by
    have ho : okEq (eTab cols rows) = true := by unfold okEq; rw [t0.pl, decide_eq_true (by have := t0.dp; omega)]; rfl
    rw [pNe_q, ho, eqv_refl t0.pl]; rfl
  simp [eTab] at p3 p4 a4 e1
  simp [eTab, e1, p3, p4, a4] at hres
  exact ⟨d4, _, _, _, _, _, _, by rw [← hres], hd4⟩
theorem law_k88_ok (ns : List Int) (h : ns.length ≤ 63) : cF 40 f_law_k88 [.sh (.list (ns.map PyData.int))] = .ok (.sh (.bool true)) [.no] := by
  rw [R_law_k88, k88_eq]
  obtain ⟨d, b1, b2⟩ := law_bag_ok 38 ns h
  simp [outs0, b1]
  generalize hr : exS (cF 39) 100000 (.fr _ _ _) _ = r
  have key : ∃ en', r = .nx en' ∧ ∃ (d : D) (s2 s3 s4 s5 s6 s7 s8 : Sl), en' = [.sh (.list (ns.map PyData.int)), .ow d, s2, s3, s4, s5, s6, s7, s8] ∧ IsBag d := by
    subst hr
    refine fr_all (List.range 3) tNat.e (fun en => ∃ (d : D) (s2 s3 s4 s5 s6 s7 s8 : Sl), en = [.sh (.list (ns.map PyData.int)), .ow d, s2, s3, s4, s5, s6, s7, s8] ∧ IsBag d) ?_ ?_ ?_
    · exact evI_range 3 _ (by simp) (by omega)
    · exact ⟨d, _, _, _, _, _, _, _, rfl, b2⟩
    rintro x hx en ⟨d, s2, s3, s4, s5, s6, s7, s8, rfl, hd⟩
    obtain ⟨d2, t3, t4, t5, t6, t7, t8, a2, hd2⟩ := k88B_ok 30 d hd (.sh (.list (ns.map PyData.int))) (.sh (.int x)) s3 s4 s5 s6 s7 s8
    refine ⟨[.sh (.list (ns.map PyData.int)), .ow d2, .sh (.int x), t3, t4, t5, t6, t7, t8], ?_, d2, _, _, _, _, _, _, _, rfl, hd2⟩
    rw [turnF_q, bindP_v]
    simp only [tNat_e, List.set_cons_succ, List.set_cons_zero, frB_some]
    rw [show (39 : Nat) = 30 + 9 from rfl, a2]
    exact Goes.nx _
  obtain ⟨_, rfl, d, s2, s3, s4, s5, s6, s7, s8, rfl, _⟩ := key
  simp
theorem law_holds (ns : List Int) (h : ns.length ≤ 63) : ∃ outs, callF Ds 100000 40 f_law_k88 [.sh (.list (ns.map PyData.int))] = .ok (.sh (.bool true)) outs := ⟨_, law_k88_ok ns h⟩
end C
end
section
set_option Elab.async false
set_option linter.all false
set_option maxRecDepth 100000
set_option maxHeartbeats 0
open PySem PySem.W PySem.Calls PyProof.Rows
theorem PySem.Challenge.cw_tableshapes_k88_whole_rows_put_in_and_wh_holds : PySem.Challenge.rw_tableshapes_k88_whole_rows_put_in_and_wh.Holds := by
  w_on; o_law
  refine HandSHeadRun.head_any (r := C.rw) (q := view C.rw.prog [63]) (H := C.hk) (ob := C.ob) (M := 10000) (loose := C.loose) (d := HandSHeadRun.topDef C.rw.prog 63) (kwd := []) C.ob_eq
    (by kernel_rfl) (fun s => by kernel_rfl) C.run (by kernel_rfl) (by kernel_rfl) (by kernel_rfl) (by rfl) (by first | assumption | decide +kernel) (by decide +kernel) ⟨rfl, rfl, rfl, rfl, rfl, by decide +kernel⟩ ?hw ?hc
  case hw => w_witness2
  case hc => exact C.ended C.law_holds
end
