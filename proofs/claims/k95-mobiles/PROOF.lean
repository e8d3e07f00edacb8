import PyProof.Rows.All
import Wide.All
import OpenK.AllK
import Wide.FinOn
import PySem.Challenge.RW_fewforces_k95_whole_mobiles
import KE.SortData
import KE.DataMinMax
import KE.DataFind
import KE.DataIsa
import KE.DataAny
import KE.DataCmp
import KE.KDictKeyed
import KE.KDictSum
import HandS.ForMost
import HandS.Wide
import HandS.Style
import HandS.TupMul
import HandS.TupAny
import HandS.TupLe
import KE.DatumIndex
import PyProof.Rows.TupTab
import PyProof.DictStraight
import PyProof.DictTruth
import HandS.ExcValue
import PyProof.Transfer
import HandS.Flow
import HandS.Zip
import KE.GoesEnum
import HandS.Codes
import HandS.SetFor
import HandS.Conv
import HandS.Dict
import PyProof.Rows.TupDisplay
import HandS.Strs
import HandS.Defaults
import KE.KStateDown
import Lean
import HandS.Base
import HandS.Call
import HandS.Ends
import HandS.More
import HandS.Words
import HandS.WordsExc
import HandS.Head0
import HandS.Head1
import HandS.Head2
import HandS.HeadEnd
import HandS.HeadHook1
import HandS.HeadHook2
set_option autoImplicit false
/-! PL0: a small evaluator over data for the Python subset of the laws: expressions, statements, a table of defs. Pure Lean. -/
namespace PL
open PySem PySem.W

inductive Slot where
  | no
  | c (d : PyData)
  | h (io : Bool) (d : PyData)
abbrev Env := List Slot
inductive Out (α : Type) where
  | ok (a : α) (ρ : Env)
  | exc (c : Str) (ρ : Env)
  | stuck
inductive Res where
  | val (d : PyData)
  | fresh (d : PyData)
  | ref (i : Nat)
inductive SOut where
  | nx (ρ : Env)
  | rt (r : Slot) (ρ : Env)
  | exc (c : Str) (ρ : Env)
  | stuck
inductive CRes where
  | ok (r : Slot) (outs : List PyData)
  | exc (c : Str) (outs : List PyData)
  | stuck

def gets (ρ : Env) (i : Nat) : Slot := (ρ[i]?).getD .no
def peek (ρ : Env) : Res → Option PyData
  | .val d => some d
  | .fresh d => some d
  | .ref i => match gets ρ i with
    | .c d => some d
    | .h _ d => some d
    | .no => none
def cold (ρ : Env) : Res → Out PyData
  | .val d => .ok d ρ
  | .fresh d => .ok d ρ
  | .ref i => match gets ρ i with
    | .c d => .ok d ρ
    | .h _ d => .ok d (ρ.set i (.c d))
    | .no => .stuck
def peeks (ρ : Env) : List Res → Option (List PyData)
  | [] => some []
  | r :: rs => match peek ρ r, peeks ρ rs with
    | some d, some ds => some (d :: ds)
    | _, _ => none

inductive Ty where
  | int | bool | str | tuple | list | dict
  deriving DecidableEq
/-- built-ins, by what they are called with -/
inductive Bi where
  | len | abs | int | sum | min | max | all | any | sorted | list | tuple | lenset | sortedset | listzip | repr | isinst (T : Ty) | range | ranget
  deriving DecidableEq
inductive Me where
  | append | extend | pop | insert | update | index | count | join | get | upper
  deriving DecidableEq
/-- what is walked -/
inductive IK where
  | plain | r1 | r2 | r3 | enum | zip | zip3 | items
  deriving DecidableEq
inductive Tg where
  | nm (i : Nat)
  | tp (ts : List Tg)
inductive Ex where
  | var (i : Nat)
  | con (d : PyData)
  | gl (x : Str) (d : PyData)
  | bin (op : Operator) (a b : Ex)
  | neg (a : Ex)
  | not (a : Ex)
  | band (es : List Ex)
  | bor (es : List Ex)
  | cmp (a : Ex) (ops : List CmpOp) (es : List Ex)
  | ife (c a b : Ex)
  | tup (es : List Ex)
  | lst (es : List Ex)
  | dct (ks vs : List Ex)
  | call (f : Str) (es : List Ex)
  | bi (b : Bi) (es : List Ex)
  | met (m : Me) (o : Ex) (es : List Ex)
  | idx (a i : Ex)
  | sli (a : Ex) (lo hi : List Ex)
  | slist (a : Ex) (lo : List Ex) (st : Int)
  | lc (elt : Ex) (tg : Tg) (k : IK) (es cond : List Ex) (own : List Nat)
inductive St where
  | asg (i : Nat) (hot : Bool) (e : Ex)
  | par (is : List Nat) (hots : List Bool) (es : List Ex)
  | unp (tg : Tg) (e : Ex)
  | sub (i : Nat) (ix e : Ex)
  | ex (e : Ex)
  | ret (e : Ex)
  | retN
  | ite (c : Ex) (a b : List St)
  | wh (c : Ex) (b : List St)
  | fr (tg : Tg) (k : IK) (es : List Ex) (b : List St)
  | raise (c : Str)
  | pass
structure Def where
  np : Nat
  ns : Nat
  ios : List Nat
  body : List St
structure Ctx where
  defs : Str → Option Def
  call : Str → List PyData → CRes

/-! ### the operators -/
def small (i : Int) : Bool := decide (i.natAbs < 18446744073709551616)
def mid (i : Int) : Bool := decide (i.natAbs < 2 ^ 4096)
def mulOk (i j : Int) : Bool := small i || small j || (mid i && mid j)
def divOk (j : Int) : Bool := decide (0 < j) && mid j
def szOk (n : Nat) : Bool := decide (n ≤ 1000000)
def deepOk (d : PyData) : Bool := d.plain && decide (d.depth ≤ 30)
def deepOks (ds : List PyData) : Bool := PyData.plainAll ds && decide (PyData.depthAll ds ≤ 30)
def rep (n : Nat) (ds : List PyData) : List PyData := (List.replicate n ds).flatten
def notNone : PyData → Bool
  | .none => false
  | _ => true
def binD : Operator → PyData → PyData → Option Res
  | .Add, .int i, .int j => some (.val (.int (i + j)))
  | .Add, .str x, .str y => if szOk (x.length + y.length) then some (.val (.str (x ++ y))) else none
  | .Add, .tuple xs, .tuple ys => if szOk (xs.length + ys.length) then some (.val (.tuple (xs ++ ys))) else none
  | .Add, .list xs, .list ys => if szOk (xs.length + ys.length) then some (.fresh (.list (xs ++ ys))) else none
  | .Sub, .int i, .int j => some (.val (.int (i - j)))
  | .Mult, .int i, .int j => if mulOk i j then some (.val (.int (i * j))) else none
  | .Mult, .tuple xs, .int j => if j = 1 then some (.val (.tuple xs)) else if j = 0 then (if xs.isEmpty then none else some (.val (.tuple []))) else if !xs.isEmpty && decide (xs.length ≤ 1000) && decide (2 ≤ j) && decide (j ≤ 1000) then some (.val (.tuple (rep j.toNat xs))) else none
  | .Mult, .list xs, .int j => if decide (j ≤ 1000000) && decide (-1000000 ≤ j) && szOk (xs.length * j.toNat) then some (.fresh (.list (rep j.toNat xs))) else none
  | .FloorDiv, .int i, .int j => if divOk j then some (.val (.int (i / j))) else none
  | .Mod, .int i, .int j => if decide (0 < j) then some (.val (.int (i % j))) else none
  | .Pow, .int i, .int j => if decide (0 ≤ j) && decide (j ≤ 1000) && small i then some (.val (.int (i ^ j.toNat))) else none
  | .LShift, .int i, .int j => if decide (0 ≤ j) && decide (j ≤ 1000) && small i then some (.val (.int (i * 2 ^ j.toNat))) else none
  | _, _, _ => none
def isD : PyData → PyData → Option Bool
  | .none, .none => some true
  | .bool a, .bool b => some (a == b)
  | _, .none => some false
  | _, _ => none
def ordOk (x y : PyData) : Bool := alike x y && deepOk x && deepOk y && notNone x
mutual
/-- data as a key: whole numbers, None, tuples of such -/
def nkOf : PyData → Option NestedKey
  | .none => some .none
  | .int i => some (.num i)
  | .tuple xs => (nksOf xs).map .tup
  | .bool _ | .str _ | .list _ | .dict _ => none
def nksOf : List PyData → Option (List NestedKey)
  | [] => some []
  | x :: xs => match nkOf x, nksOf xs with
    | some k, some ks => some (k :: ks)
    | _, _ => none
end
def keyInt : PyData → Bool
  | .int _ => true
  | _ => false
def keyTup : PyData → Bool
  | .tuple xs => match nkOf (.tuple xs) with
    | some k => decide (k.depth ≤ 8)
    | none => false
  | _ => false
/-- keys of one kind -/
def keysOk (ks : List PyData) : Bool := ks.all keyInt || ks.all keyTup
def inD (x : PyData) : PyData → Option Bool
  | .list ys => if deepOk x && deepOks ys then some (ys.any fun y => PyData.eqv y x) else none
  | .tuple ys => if deepOk x && deepOks ys then some (ys.any fun y => PyData.eqv y x) else none
  | .dict kvs => if keysOk (x :: kvs.map (·.1)) then some (kvs.any fun kv => PyData.eqv kv.1 x) else none
  | .str y => match x with
    | .str z => some (!(Builtin.Str.occurrences y z 0 y.length 1).isEmpty)
    | _ => none
  | _ => none
def cmpD : CmpOp → PyData → PyData → Option Bool
  | .Eq, x, y => if deepOk x && deepOk y then some (PyData.eqv x y) else none
  | .NotEq, x, y => if deepOk x && deepOk y then some (!PyData.eqv x y) else none
  | .Lt, x, y => if ordOk x y then some (dataLt x y) else none
  | .Gt, x, y => if ordOk x y then some (dataLt y x) else none
  | .LtE, x, y => if ordOk x y then some (!dataLt y x) else none
  | .GtE, x, y => if ordOk x y then some (!dataLt x y) else none
  | .In, x, y => inD x y
  | .NotIn, x, y => (inD x y).map (!·)
  | .Is, x, y => isD x y
  | .IsNot, x, y => (isD x y).map (!·)
def truthD : PyData → Option Bool
  | .str x => if szOk x.length then some ((x.length : Int) != 0) else none
  | .dict kvs => some (!kvs.isEmpty)
  | d => some d.truthy
/-- the place that an index of any sign means -/
def ixD (n : Nat) (i : Int) : Option Nat := if 0 ≤ i then (if i < n then some i.toNat else none) else if -(n : Int) ≤ i then some (i + n).toNat else none
def look (kvs : List (PyData × PyData)) (k : PyData) : Option PyData := (kvs.find? fun kv => PyData.eqv kv.1 k).map (·.2)
def idxD (x i : PyData) : Option PyData := match x, i with
  | .list xs, .int i => (ixD xs.length i).bind fun j => xs[j]?
  | .tuple xs, .int i => (ixD xs.length i).bind fun j => xs[j]?
  | .str s, .int i => if szOk s.length then (ixD s.length i).bind fun j => (s.cps[j]?).map fun c => .str ⟨#[c]⟩ else none
  | .dict kvs, k => if keysOk (k :: kvs.map (·.1)) then look kvs k else none
  | _, _ => none
/-- a slice's bound as a place among n (d where it is left out) -/
def bnd (n d : Nat) : Option Int → Nat
  | none => d
  | some v => if v < 0 then (v + n).toNat else min v.toNat n
def cut {α : Type} (xs : List α) (lo hi : Option Int) : List α := (xs.drop (bnd xs.length 0 lo)).take (bnd xs.length xs.length hi - bnd xs.length 0 lo)
def sliD (x : PyData) (lo hi : Option Int) : Option Res := match x with
  | .list xs => some (.fresh (.list (cut xs lo hi)))
  | .tuple xs => some (.val (.tuple (cut xs lo hi)))
  | .str s => if szOk s.length then some (.val (.str ⟨(cut s.cps.toList lo hi).toArray⟩)) else none
  | _ => none
/-- every st-th from lo on -/
def everyNth {α : Type} (st : Nat) : Nat → List α → List α
  | _, [] => []
  | 0, x :: xs => x :: everyNth st (st - 1) xs
  | k + 1, _ :: xs => everyNth st k xs
def stepCut {α : Type} (xs : List α) (lo : Option Int) (st : Int) : List α :=
  if st < 0 then everyNth st.natAbs 0 xs.reverse else everyNth st.natAbs 0 (xs.drop (bnd xs.length 0 lo))
def slistD (x : PyData) (lo : Option Int) (st : Int) : Option Res := match x with
  | .list xs => some (.fresh (.list (stepCut xs lo st)))
  | .tuple xs => some (.val (.tuple (stepCut xs lo st)))
  | .str s => if szOk s.length then some (.val (.str ⟨(stepCut s.cps.toList lo st).toArray⟩)) else none
  | _ => none
def toInt? : PyData → Option Int
  | .int i => some i
  | _ => none
def ints? : List PyData → Option (List Int)
  | [] => some []
  | .int i :: r => (ints? r).map (i :: ·)
  | _ => none
def strs? : List PyData → Option (List Str)
  | [] => some []
  | .str i :: r => (strs? r).map (i :: ·)
  | _ => none
def seq? : PyData → Option (List PyData)
  | .list xs => some xs
  | .tuple xs => some xs
  | _ => none
/-- what may be asked for its truth by any, all -/
def plainTruth : PyData → Bool
  | .none | .bool _ | .int _ => true
  | _ => false
/-- all data of one kind, to be ordered -/
def alikes : List PyData → Bool
  | [] => true
  | x :: xs => xs.all (fun y => alike x y) && alikes xs
def hd? : List PyData → Option (PyData × List PyData)
  | [] => none
  | x :: xs => some (x, xs)
def selfAlike (xs : List PyData) : Bool := xs.all fun x => xs.all fun y => alike x y
def ordAll (xs : List PyData) : Bool := selfAlike xs && deepOks xs && xs.all notNone
def sortKind (xs : List PyData) : Bool := xs.all (fun x => match x with | .tuple (_ :: _) => true | _ => false) || xs.all (fun x => match x with | .tuple _ => false | .none => false | _ => true)
def insL {α : Type} (le : α → α → Bool) (a : α) : List α → List α
  | [] => [a]
  | b :: l => if le a b then a :: b :: l else b :: insL le a l
def insS {α : Type} (le : α → α → Bool) : List α → List α
  | [] => []
  | a :: l => insL le a (insS le l)
def sortD (xs : List PyData) : List PyData := insS (fun a b => !dataLt b a) xs
def hashable : PyData → Bool
  | .none | .bool _ | .int _ | .str _ => true
  | .tuple xs => xs.all fun x => match x with
    | .int _ => true
    | .str _ => true
    | _ => false
  | _ => false
/-- each once, the first ones -/
def firsts : List PyData → List PyData
  | [] => []
  | x :: xs => x :: (firsts xs).filter fun y => !PyData.eqv x y
def isInst (d : PyData) : Ty → Bool
  | .int => d.isInt
  | .bool => d.isBool
  | .str => d.isStr
  | .tuple => d.isTuple
  | .list => d.isList
  | .dict => d.isDict
def range1 (lo hi st : Int) : Option (List PyData) :=
  if decide (-1000000000 ≤ lo) && decide (lo ≤ 1000000000) && decide (-1000000000 ≤ hi) && decide (hi ≤ 1000000000) then
    (if st = 1 then some ((List.range (hi - lo).toNat).map fun (k : Nat) => .int (lo + (k : Int)))
     else if st = -1 then some ((List.range (lo - hi).toNat).map fun (k : Nat) => .int (lo - (k : Int)))
     else if decide (1 < st) && decide (st ≤ 1000000) then some ((List.range (if lo < hi then (hi - lo - 1) / st + 1 else 0).toNat).map fun (k : Nat) => .int (lo + (k : Int) * st))
     else none)
  else none
def lrange (a b : Int) : Option (List PyData) := if szOk (b - a).toNat && szOk a.natAbs && szOk b.natAbs then some ((List.range (b - a).toNat).map fun (k : Nat) => .int (a + (k : Int))) else none
def rangeL : Option (List Int) → Option (List PyData)
  | some [n] => lrange 0 n
  | some [a, b] => lrange a b
  | _ => none
def zip2 : List PyData → List PyData → List PyData
  | x :: xs, y :: ys => .tuple [x, y] :: zip2 xs ys
  | _, _ => []
def zip3 : List PyData → List PyData → List PyData → List PyData
  | x :: xs, y :: ys, z :: zs => .tuple [x, y, z] :: zip3 xs ys zs
  | _, _, _ => []
def enumFrom (k : Int) : List PyData → List PyData
  | [] => []
  | x :: xs => .tuple [.int k, x] :: enumFrom (k + 1) xs
def one (f : PyData → Option Res) : List PyData → Option Res
  | [x] => f x
  | _ => none
def ovS (f : List PyData → Option Res) (x : PyData) : Option Res := match seq? x with
  | some xs => f xs
  | none => none
def lenD : PyData → Option Res
  | .list xs => if szOk xs.length then some (.val (.int xs.length)) else none
  | .tuple xs => if szOk xs.length then some (.val (.int xs.length)) else none
  | .str x => if szOk x.length then some (.val (.int x.length)) else none
  | .dict xs => if szOk xs.length then some (.val (.int xs.length)) else none
  | _ => none
def absD : PyData → Option Res
  | .int i => some (.val (.int (if i < 0 then -i else i)))
  | _ => none
def intD : PyData → Option Res
  | .int i => some (.val (.int i))
  | .bool b => some (.val (.int (if b then 1 else 0)))
  | _ => none
def sumL (xs : List PyData) : Option Res := (ints? xs).map fun ns => .val (.int ns.sum)
def minL : List PyData → Option Res
  | [] => none
  | y :: ys => if ordAll (y :: ys) then some (.val (minD y ys)) else none
def maxL : List PyData → Option Res
  | [] => none
  | y :: ys => if ordAll (y :: ys) then some (.val (maxD y ys)) else none
def minI : List Int → Option Res
  | [i, j] => some (.val (.int (if j < i then j else i)))
  | [i, j, k] => some (.val (.int (if j < i then (if k < j then k else j) else (if k < i then k else i))))
  | _ => none
def maxI : List Int → Option Res
  | [i, j] => some (.val (.int (if j > i then j else i)))
  | [i, j, k] => some (.val (.int (if j > i then (if k > j then k else j) else (if k > i then k else i))))
  | _ => none
def ovI (f : List Int → Option Res) (ds : List PyData) : Option Res := match ints? ds with
  | some ns => f ns
  | none => none
def minA : List PyData → Option Res
  | [x] => ovS minL x
  | ds => ovI minI ds
def maxA : List PyData → Option Res
  | [x] => ovS maxL x
  | ds => ovI maxI ds
def allL (xs : List PyData) : Option Res := if xs.all plainTruth then some (.val (.bool (xs.all PyData.truthy))) else none
def anyL (xs : List PyData) : Option Res := if xs.all plainTruth then some (.val (.bool (xs.any PyData.truthy))) else none
def isTupD : PyData → Bool
  | .tuple _ => true
  | _ => false
/-- tuples, the first of them empty -/
def tup0 : List PyData → Bool
  | .tuple [] :: ys => ys.all isTupD
  | _ => false
def sortedL (xs : List PyData) : Option Res := if selfAlike xs && deepOks xs && (sortKind xs || tup0 xs) && szOk xs.length then some (.fresh (.list (sortD xs))) else none
def sortedK (xs : List PyData) : Option Res := if selfAlike xs && deepOks xs && sortKind xs && szOk xs.length then some (.fresh (.list (sortD xs))) else none
def sortedD : PyData → Option Res
  | .list xs => sortedL xs
  | .dict kvs => sortedK (kvs.map (·.1))
  | .tuple xs => sortedK xs
  | _ => none
/-- a set of ints, rising -/
def insI (x : Int) : List Int → List Int
  | [] => [x]
  | y :: l => if x < y then x :: y :: l else if x = y then y :: l else y :: insI x l
def usetI : List Int → List Int
  | [] => []
  | x :: l => insI x (usetI l)
def lensetL (xs : List PyData) : Option Res := match ints? xs with
  | some ns => if decide (ns.length < 4000) then some (.val (.int (usetI ns).length)) else none
  | none => none
def sortedsetL (xs : List PyData) : Option Res := match ints? xs with
  | some ns => if decide (ns.length < 4000) && decide ((usetI ns).length < 64) then some (.fresh (.list ((usetI ns).map .int))) else none
  | none => none
def onlyL (f : List PyData → Option Res) : PyData → Option Res
  | .list xs => f xs
  | _ => none
def listzipD : List PyData → Option Res
  | [x, y] => match seq? x, seq? y with
    | some xs, some ys => some (.fresh (.list (zip2 xs ys)))
    | _, _ => none
  | _ => none
def reprD : PyData → Option Res
  | .bool b => some (.val (.str (if b then "True" else "False")))
  | _ => none
def biD : Bi → List PyData → Option Res
  | .len => one lenD
  | .abs => one absD
  | .int => one intD
  | .sum => one (ovS sumL)
  | .min => minA
  | .max => maxA
  | .all => one (ovS allL)
  | .any => one (ovS anyL)
  | .sorted => one sortedD
  | .list => one (ovS fun xs => some (.fresh (.list xs)))
  | .tuple => one (ovS fun xs => some (.val (.tuple xs)))
  | .range => fun xs => (rangeL (ints? xs)).map fun ys => .fresh (.list ys)
  | .ranget => fun xs => (rangeL (ints? xs)).map fun ys => .val (.tuple ys)
  | .lenset => one (onlyL lensetL)
  | .sortedset => one (onlyL sortedsetL)
  | .listzip => listzipD
  | .isinst T => one fun x => some (.val (.bool (isInst x T)))
  | .repr => one reprD
/-- methods that change nothing -/
def indexD (xs : List PyData) (x : PyData) : Option Res := if deepOk x && deepOks xs && szOk xs.length then (xs.findIdx? fun y => PyData.eqv y x).map fun (j : Nat) => Res.val (.int (j : Int)) else none
def countD (xs : List PyData) (x : PyData) : Option Res := if deepOk x && deepOks xs then some (.val (.int (xs.countP fun y => PyData.eqv y x))) else none
def getD1 (kvs : List (PyData × PyData)) (k z : PyData) : Option Res := if keysOk (k :: kvs.map (·.1)) then some (.val ((look kvs k).getD z)) else none
def metD : Me → PyData → List PyData → Option Res
  | .index, .list xs, [x] => indexD xs x
  | .count, d, [x] => ovS (fun xs => countD xs x) d
  | .get, .dict kvs, [k] => getD1 kvs k .none
  | .get, .dict kvs, [k, z] => getD1 kvs k z
  | _, _, _ => none
def store (kvs : List (PyData × PyData)) (k v : PyData) : List (PyData × PyData) :=
  if kvs.any (fun kv => PyData.eqv kv.1 k) then kvs.map fun kv => if PyData.eqv kv.1 k then (kv.1, v) else kv else kvs ++ [(k, v)]
def stores (kvs more : List (PyData × PyData)) : List (PyData × PyData) := more.foldl (fun acc kv => store acc kv.1 kv.2) kvs
def updD (kvs more : List (PyData × PyData)) : Option (PyData × PyData) :=
  if (kvs.map (·.1)).all keyTup && (more.map (·.1)).all keyTup && !kvs.isEmpty && decide (kvs.length + more.length ≤ 1000000) then some (.none, .dict (stores kvs more)) else none
/-- methods that change their object: what comes, and the object behind it -/
def metM : Me → PyData → List PyData → Option (PyData × PyData)
  | .append, .list xs, [x] => if szOk xs.length then some (.none, .list (xs ++ [x])) else none
  | .extend, .list xs, [.list ys] => if szOk (xs.length + ys.length) then some (.none, .list (xs ++ ys)) else none
  | .pop, .list xs, [] => (xs[xs.length - 1]?).map fun x => (x, .list xs.dropLast)
  | .pop, .list xs, [.int i] => (ixD xs.length i).bind fun j => (xs[j]?).map fun x => (x, .list (xs.eraseIdx j))
  | .update, .dict kvs, [.dict more] => updD kvs more
  | _, _, _ => none
def setD (x i v : PyData) : Option PyData := match x, i with
  | .list xs, .int i => (ixD xs.length i).map fun j => .list (xs.set j v)
  | .dict kvs, k => if keysOk (k :: kvs.map (·.1)) && decide (kvs.length < 1000000) then some (.dict (store kvs k v)) else none
  | _, _ => none
def enumD : List PyData → Option (List PyData)
  | [.list xs] => some (enumFrom 0 xs)
  | [.tuple xs] => some (enumFrom 0 xs)
  | _ => none
def zipD : List PyData → Option (List PyData)
  | [.list xs, .list ys] => some (zip2 xs ys)
  | [.tuple xs, .tuple ys] => some (zip2 xs ys)
  | _ => none
def rg1 : Option (List Int) → Option (List PyData)
  | some [n] => range1 0 n 1
  | _ => none
def rg2 : Option (List Int) → Option (List PyData)
  | some [lo, hi] => range1 lo hi 1
  | _ => none
def rg3 : Option (List Int) → Option (List PyData)
  | some [lo, hi, st] => range1 lo hi st
  | _ => none
/-- what a for or a comprehension walks -/
def itemsD : IK → List PyData → Option (List PyData)
  | .plain, [.list xs] => some xs
  | .plain, [.tuple xs] => some xs
  | .plain, [.str x] => some (x.cps.toList.map fun c => .str ⟨#[c]⟩)
  | .plain, [.dict kvs] => some (kvs.map (·.1))
  | .r1, xs => rg1 (ints? xs)
  | .r2, xs => rg2 (ints? xs)
  | .r3, xs => rg3 (ints? xs)
  | .enum, xs => enumD xs
  | .zip, xs => zipD xs
  | .zip3, [x, y, z] => match seq? x, seq? y, seq? z with
    | some xs, some ys, some zs => some (zip3 xs ys zs)
    | _, _, _ => none
  | .items, [.dict kvs] => some (kvs.map fun kv => .tuple [kv.1, kv.2])
  | _, _ => none

/-! ### environments -/
mutual
def asgT : Tg → PyData → Env → Option Env
  | .nm i, d, ρ => some (ρ.set i (.c d))
  | .tp ts, .tuple ds, ρ => asgTs ts ds ρ
  | _, _, _ => none
def asgTs : List Tg → List PyData → Env → Option Env
  | [], [], ρ => some ρ
  | t :: ts, d :: ds, ρ => match asgT t d ρ with
    | some ρ1 => asgTs ts ds ρ1
    | none => none
  | _, _, _ => none
end
def wipeE (ρ : Env) : List Nat → Env
  | [] => ρ
  | i :: is => (wipeE ρ is).set i .no
/-- the slots at own as they were in ρ₀ -/
def backE (ρ0 : Env) (ρ : Env) : List Nat → Env
  | [] => ρ
  | i :: is => (backE ρ0 ρ is).set i (gets ρ0 i)
def notHot (ρ : Env) (i : Nat) : Bool := match gets ρ i with
  | .h _ _ => false
  | _ => true

def bind {α β : Type} (x : Out α) (f : α → Env → Out β) : Out β := match x with
  | .ok a ρ => f a ρ
  | .exc c ρ => .exc c ρ
  | .stuck => .stuck
def ofO {α : Type} (ρ : Env) : Option α → Out α
  | some a => .ok a ρ
  | none => .stuck
/-- a comprehension's block lets no error out -/
def shut {α : Type} : Out α → Out α
  | .exc _ _ => .stuck
  | x => x

inductive ArgR where
  | io (i : Nat)
  | val (d : PyData)
def derefs (ρ : Env) : List ArgR → Option (List PyData)
  | [] => some []
  | .val d :: r => (derefs ρ r).map (d :: ·)
  | .io i :: r => match gets ρ i, derefs ρ r with
    | .h _ d, some ds => some (d :: ds)
    | _, _ => none
def putBack (ρ : Env) : List ArgR → List PyData → Option Env
  | [], [] => some ρ
  | .val _ :: r, ds => putBack ρ r ds
  | .io i :: r, d :: ds => match gets ρ i with
    | .h io _ => putBack (ρ.set i (.h io d)) r ds
    | _ => none
  | _, _ => none
def iosOf : List ArgR → List Nat
  | [] => []
  | .io i :: r => i :: iosOf r
  | .val _ :: r => iosOf r

/-! ### expressions -/
/-- one turn after another of a comprehension -/
def lcL (step : PyData → Env → Out (Option PyData)) : List PyData → List PyData → Env → Out (List PyData)
  | [], acc, ρ => .ok acc ρ
  | d :: ds, acc, ρ => match step d ρ with
    | .ok (some x) ρ1 => if szOk acc.length then lcL step ds (acc ++ [x]) ρ1 else .stuck
    | .ok none ρ1 => lcL step ds acc ρ1
    | _ => .stuck
def truthR (r : Res) (ρ : Env) : Out Bool := match peek ρ r with
  | some d => ofO ρ (truthD d)
  | none => .stuck
def callR (G : Ctx) (f : Str) (as : List ArgR) (ρ : Env) : Out Res :=
  if (iosOf as).Nodup then
    match derefs ρ as with
    | some ds => match G.call f ds with
      | .ok r outs => match putBack ρ as outs with
        | some ρ2 => match r with
          | .c d => .ok (.val d) ρ2
          | .h _ d => .ok (.fresh d) ρ2
          | .no => .stuck
        | none => .stuck
      | _ => .stuck
    | none => .stuck
  else .stuck
def binR (op : Operator) (ra rb : Res) (ρ : Env) : Out Res := match peek ρ ra, peek ρ rb with
  | some x, some y => ofO ρ (binD op x y)
  | _, _ => .stuck
def negR (ra : Res) (ρ : Env) : Out Res := match peek ρ ra with
  | some (.int i) => .ok (.val (.int (-i))) ρ
  | _ => .stuck
def biR (b : Bi) (rs : List Res) (ρ : Env) : Out Res := match peeks ρ rs with
  | some ds => ofO ρ (biD b ds)
  | none => .stuck
def dctR (ks vs : List PyData) (ρ : Env) : Out Res := match ks, vs with
  | [], [] => .ok (.fresh (.dict [])) ρ
  | [k], [v] => if keysOk [k] = true then .ok (.fresh (.dict [(k, v)])) ρ else .stuck
  | _, _ => .stuck
def isMut : Me → Bool
  | .append | .extend | .pop | .insert | .update => true
  | _ => false
/-- what a method is asked of -/
def isUpd : Me → Bool
  | .update => true
  | _ => false
def recvD (m : Me) : PyData → Bool
  | .list _ => !isUpd m
  | .dict _ => isUpd m
  | _ => false
def recvOk (m : Me) (ro : Res) (ρ : Env) : Bool := if isMut m then match ro with
    | .ref i => match gets ρ i with
      | .h _ d => recvD m d
      | _ => false
    | _ => false
  else match m, peek ρ ro with
    | .index, some (.list _) => true
    | .count, some (.list _) => true
    | .get, some (.dict _) => true
    | .join, some (.str _) => true
    | .upper, some (.str _) => true
    | _, _ => false
def metR (m : Me) (ro : Res) (ds : List PyData) (ρ : Env) : Out Res :=
  if isMut m then match ro with
    | .ref i => match gets ρ i with
      | .h io d => match metM m d ds with
        | some (x, d') => .ok (.val x) (ρ.set i (.h io d'))
        | none => .stuck
      | _ => .stuck
    | _ => .stuck
  else match peek ρ ro with
    | some d => ofO ρ (metD m d ds)
    | none => .stuck
def idxR (ra ri : Res) (ρ : Env) : Out Res := match peek ρ ra, peek ρ ri with
  | some x, some y => match idxD x y with
    | some d => .ok (.val d) ρ
    | none => .stuck
  | _, _ => .stuck
def sliR (ra : Res) (l u : Option Int) (ρ : Env) : Out Res := match peek ρ ra with
  | some x => ofO ρ (sliD x l u)
  | none => .stuck
def slistR (ra : Res) (l : Option Int) (st : Int) (ρ : Env) : Out Res := match peek ρ ra with
  | some x => ofO ρ (slistD x l st)
  | none => .stuck
/-- a bound of a slice -/
def intR (r : Res) (ρ : Env) : Out (Option Int) := match r with
  | .val (.int i) => .ok (some i) ρ
  | _ => .stuck
def cmpR (op : CmpOp) (ra rb : Res) (ρ : Env) : Out Bool := match peek ρ ra, peek ρ rb with
  | some x, some y => ofO ρ (cmpD op x y)
  | _, _ => .stuck
mutual
def ev (G : Ctx) : Ex → Env → Out Res
  | .var i, ρ => match gets ρ i with
    | .no => .stuck
    | .c d => .ok (.val d) ρ
    | .h _ _ => .ok (.ref i) ρ
  | .con d, ρ => .ok (.val d) ρ
  | .gl _ d, ρ => .ok (.val d) ρ
  | .bin op a b, ρ => bind (ev G a ρ) fun ra ρ1 => bind (ev G b ρ1) fun rb ρ2 => binR op ra rb ρ2
  | .neg a, ρ => bind (ev G a ρ) fun ra ρ1 => negR ra ρ1
  | .not a, ρ => bind (ev G a ρ) fun r ρ1 => bind (truthR r ρ1) fun b ρ2 => .ok (.val (.bool (!b))) ρ2
  | .band es, ρ => evAnd G es ρ
  | .bor es, ρ => evOr G es ρ
  | .cmp a ops es, ρ => bind (ev G a ρ) fun ra ρ1 => bind (evCh G ra ops es ρ1) fun b ρ2 => .ok (.val (.bool b)) ρ2
  | .ife c a b, ρ => bind (ev G c ρ) fun r ρ1 => bind (truthR r ρ1) fun t ρ2 => if t then ev G a ρ2 else ev G b ρ2
  | .tup es, ρ => bind (evC G es ρ) fun ds ρ1 => if szOk ds.length then .ok (.val (.tuple ds)) ρ1 else .stuck
  | .lst es, ρ => bind (evC G es ρ) fun ds ρ1 => if szOk ds.length then .ok (.fresh (.list ds)) ρ1 else .stuck
  | .dct ks vs, ρ => bind (evC G ks ρ) fun ds ρ1 => bind (evC G vs ρ1) fun es ρ2 => dctR ds es ρ2
  | .call f es, ρ => match G.defs f with
    | some D => bind (evA G D.ios 0 es ρ) fun as ρ1 => callR G f as ρ1
    | none => .stuck
  | .bi b es, ρ => bind (evR G es ρ) fun rs ρ1 => biR b rs ρ1
  | .met m o es, ρ => bind (ev G o ρ) fun ro ρ1 => if recvOk m ro ρ1 then bind (evC G es ρ1) fun ds ρ2 => metR m ro ds ρ2 else .stuck
  | .idx a i, ρ => bind (ev G a ρ) fun ra ρ1 => bind (ev G i ρ1) fun ri ρ2 => idxR ra ri ρ2
  | .sli a lo hi, ρ => bind (ev G a ρ) fun ra ρ1 => bind (evO G lo ρ1) fun l ρ2 => bind (evO G hi ρ2) fun u ρ3 => sliR ra l u ρ3
  | .slist a lo st, ρ => bind (ev G a ρ) fun ra ρ1 => bind (evO G lo ρ1) fun l ρ2 => slistR ra l st ρ2
  | .lc elt tg k es cond own, ρ => bind (evC G es ρ) fun ds ρ1 => match itemsD k ds with
    | some items => if own.all (notHot ρ1) then
        bind (lcL (fun d ρ2 => match asgT tg d (wipeE ρ2 own) with
          | some ρ3 => bind (evIf G cond ρ3) fun b ρ4 => if b then bind (ev G elt ρ4) fun r ρ5 => bind (cold ρ5 r) fun x ρ6 => .ok (some x) (wipeE ρ6 own) else .ok none (wipeE ρ4 own)
          | none => .stuck) items [] (wipeE ρ1 own)) fun acc ρ9 => .ok (.fresh (.list acc)) (backE ρ1 ρ9 own)
      else .stuck
    | none => .stuck
/-- a comprehension's test -/
def evIf (G : Ctx) : List Ex → Env → Out Bool
  | [], ρ => .ok true ρ
  | e :: es, ρ => bind (ev G e ρ) fun r ρ1 => bind (truthR r ρ1) fun b ρ2 => if b then evIf G es ρ2 else .ok false ρ2
def evAnd (G : Ctx) : List Ex → Env → Out Res
  | [], _ => .stuck
  | e :: es, ρ => bind (ev G e ρ) fun r ρ1 => match es with
    | [] => .ok r ρ1
    | _ :: _ => match peek ρ1 r with
      | some (.bool true) => evAnd G es ρ1
      | some (.bool false) => .ok (.val (.bool false)) ρ1
      | _ => .stuck
def evOr (G : Ctx) : List Ex → Env → Out Res
  | [], _ => .stuck
  | e :: es, ρ => bind (ev G e ρ) fun r ρ1 => match es with
    | [] => .ok r ρ1
    | _ :: _ => match peek ρ1 r with
      | some (.bool false) => evOr G es ρ1
      | some (.bool true) => .ok (.val (.bool true)) ρ1
      | _ => .stuck
/-- a chain of comparisons behind its first operand -/
def evCh (G : Ctx) (ra : Res) : List CmpOp → List Ex → Env → Out Bool
  | [], _, _ => .stuck
  | _ :: _, [], _ => .stuck
  | op :: ops, e :: es, ρ => bind (ev G e ρ) fun rb ρ1 => bind (cmpR op ra rb ρ1) fun b ρ2 => match es with
    | [] => .ok b ρ2
    | _ :: _ => if b then evCh G rb ops es ρ2 else .ok false ρ2
/-- a bound that may lack -/
def evO (G : Ctx) : List Ex → Env → Out (Option Int)
  | [], ρ => .ok none ρ
  | e :: es, ρ => match es with
    | [] => bind (ev G e ρ) intR
    | _ :: _ => .stuck
/-- operands -/
def evR (G : Ctx) : List Ex → Env → Out (List Res)
  | [], ρ => .ok [] ρ
  | e :: es, ρ => bind (ev G e ρ) fun r ρ1 => bind (evR G es ρ1) fun rs ρ2 => .ok (r :: rs) ρ2
/-- values that are kept -/
def evC (G : Ctx) : List Ex → Env → Out (List PyData)
  | [], ρ => .ok [] ρ
  | e :: es, ρ => bind (ev G e ρ) fun r ρ1 => bind (cold ρ1 r) fun d ρ2 => bind (evC G es ρ2) fun ds ρ3 => .ok (d :: ds) ρ3
/-- a call's arguments -/
def evA (G : Ctx) (ios : List Nat) (j : Nat) : List Ex → Env → Out (List ArgR)
  | [], ρ => .ok [] ρ
  | e :: es, ρ => bind (ev G e ρ) fun r ρ1 =>
    if ios.contains j then
      match r with
      | .ref i => bind (evA G ios (j + 1) es ρ1) fun as ρ2 => .ok (.io i :: as) ρ2
      | _ => .stuck
    else bind (cold ρ1 r) fun d ρ2 => bind (evA G ios (j + 1) es ρ2) fun as ρ3 => .ok (.val d :: as) ρ3
end
/-- as a test -/
def evT (G : Ctx) (e : Ex) (ρ : Env) : Out Bool := bind (ev G e ρ) truthR

/-! ### statements -/
def whileN (t : Env → Out Bool) (b : Env → SOut) : Nat → Env → SOut
  | 0, _ => .stuck
  | n + 1, ρ => match t ρ with
    | .ok true ρ1 => match b ρ1 with
      | .nx ρ2 => whileN t b n ρ2
      | r => r
    | .ok false ρ1 => .nx ρ1
    | .exc c ρ1 => .exc c ρ1
    | .stuck => .stuck
def forL (tg : Tg) (b : Env → SOut) : List PyData → Env → SOut
  | [], ρ => .nx ρ
  | d :: ds, ρ => match asgT tg d ρ with
    | some ρ1 => match b ρ1 with
      | .nx ρ2 => forL tg b ds ρ2
      | r => r
    | none => .stuck
def sb {α : Type} (x : Out α) (f : α → Env → SOut) : SOut := match x with
  | .ok a ρ => f a ρ
  | .exc c ρ => .exc c ρ
  | .stuck => .stuck
/-- a name's new slot -/
def slotOf (hot : Bool) (r : Res) (ρ : Env) : Out Slot := match hot, r with
  | true, .fresh d => .ok (.h false d) ρ
  | _, r => bind (cold ρ r) fun d ρ1 => .ok (.c d) ρ1
def evP (G : Ctx) : List Bool → List Ex → Env → Out (List Slot)
  | [], [], ρ => .ok [] ρ
  | h :: hs, e :: es, ρ => bind (ev G e ρ) fun r ρ1 => bind (slotOf h r ρ1) fun s ρ2 => bind (evP G hs es ρ2) fun ss ρ3 => .ok (s :: ss) ρ3
  | _, _, _ => .stuck
def setAll (ρ : Env) : List Nat → List Slot → Option Env
  | [], [] => some ρ
  | i :: is, s :: ss => match setAll ρ is ss with
    | some ρ1 => some (ρ1.set i s)
    | none => none
  | _, _ => none
def isHot (ρ : Env) (i : Nat) : Bool := match gets ρ i with
  | .h _ _ => true
  | _ => false
def subAt (i : Nat) (k v : PyData) (ρ : Env) : Option Env := match gets ρ i with
  | .h io d => (setD d k v).map fun d' => ρ.set i (.h io d')
  | _ => none
def retOf (r : Res) (ρ : Env) : SOut := match r with
  | .val d => .rt (.c d) ρ
  | .fresh d => .rt (.h false d) ρ
  | .ref i => match gets ρ i with
    | .c d => .rt (.c d) ρ
    | .h false d => .rt (.h false d) ρ
    | _ => .stuck
mutual
def exec (G : Ctx) (N : Nat) : St → Env → SOut
  | .asg i hot e, ρ => sb (ev G e ρ) fun r ρ1 => sb (slotOf hot r ρ1) fun s ρ2 => .nx (ρ2.set i s)
  | .par is hots es, ρ => sb (evP G hots es ρ) fun ss ρ1 => match setAll ρ1 is ss with
    | some ρ2 => .nx ρ2
    | none => .stuck
  | .unp tg e, ρ => sb (ev G e ρ) fun r ρ1 => sb (cold ρ1 r) fun d ρ2 => match asgT tg d ρ2 with
    | some ρ3 => .nx ρ3
    | none => .stuck
  | .sub i ix e, ρ => sb (ev G e ρ) fun r ρ1 => sb (cold ρ1 r) fun v ρ2 => if isHot ρ2 i then sb (ev G ix ρ2) fun rk ρ3 => sb (cold ρ3 rk) fun k ρ4 => match subAt i k v ρ4 with
      | some ρ5 => .nx ρ5
      | none => .stuck
    else .stuck
  | .ex e, ρ => sb (ev G e ρ) fun _ ρ1 => .nx ρ1
  | .ret e, ρ => sb (ev G e ρ) fun r ρ1 => retOf r ρ1
  | .retN, ρ => .rt (.c .none) ρ
  | .ite c a b, ρ => sb (evT G c ρ) fun t ρ1 => if t then execs G N a ρ1 else execs G N b ρ1
  | .wh c b, ρ => whileN (evT G c) (execs G N b) N ρ
  | .fr tg k es b, ρ => sb (evC G es ρ) fun ds ρ1 => match itemsD k ds with
    | some items => forL tg (execs G N b) items ρ1
    | none => .stuck
  | .raise _, _ => .stuck
  | .pass, ρ => .nx ρ
def execs (G : Ctx) (N : Nat) : List St → Env → SOut
  | [], ρ => .nx ρ
  | s :: ss, ρ => match exec G N s ρ with
    | .nx ρ1 => execs G N ss ρ1
    | r => r
end

/-! ### calls -/
def entry (D : Def) (ds : List PyData) : Env := (List.range D.ns).map fun i => match ds[i]? with
  | some d => if D.ios.contains i then .h true d else .c d
  | none => .no
def outsOf (ρ : Env) : List Nat → Option (List PyData)
  | [] => some []
  | i :: is => match gets ρ i, outsOf ρ is with
    | .h true d, some ds => some (d :: ds)
    | _, _ => none
def callD (defs : Str → Option Def) (N : Nat) : Nat → Str → List PyData → CRes
  | 0, _, _ => .stuck
  | n + 1, f, ds => match defs f with
    | some D => if ds.length = D.np then
        match execs ⟨defs, callD defs N n⟩ N D.body (entry D ds) with
        | .nx ρ => match outsOf ρ D.ios with
          | some os => .ok (.c .none) os
          | none => .stuck
        | .rt r ρ => match outsOf ρ D.ios with
          | some os => .ok r os
          | none => .stuck
        | .exc c ρ => match outsOf ρ D.ios with
          | some os => .exc c os
          | none => .stuck
        | .stuck => .stuck
      else .stuck
    | none => .stuck
end PL

set_option autoImplicit false
set_option linter.all false
set_option Elab.async false
set_option maxRecDepth 100000
/-! PL1: what stands for data: values and slots over the abstract heap. -/
namespace PL
open PySem PySem.Spec PyProof.Rows L2

/-- a tuple of the written part -/
def KTup (K : PySem.W.Frag) (a : Addr) (xs : List V) : Prop := ∃ (o : Obj) (its : Array Value) (n : Nat), K.lookup a = some o ∧ o.cls = .type "tuple" ∧ o.data = .seq its n ∧ its.size ≤ sizeLine ∧ Vals xs its.toList
/-- a dict's object, to the sign -/
def DctO (a : Addr) (es : Array DictEntry) (ep : Nat) : HO := .ext fun h => h.DictRaw a es ep
/-- a key, its value, what is kept there -/
abbrev DE := NestedKey × V × V
def Ent (p : DE) (e : DictEntry) : Prop := (∀ w : World, e.hash = p.1.hash w) ∧ RelV p.2.1 e.key ∧ RelV p.2.2 e.val
structure DctAt (H : Hp) (a : Addr) (ps : List DE) (kds : List PyData) : Prop where
  ob : ∃ es ep, H a = some (DctO a es ep) ∧ Paired Ent ps es.toList
  ks : kds.map nkOf = ps.map fun p => some p.1
  nd : (ps.map (·.1)).Nodup
  sys : (a == sysModules) = false
  len : ps.length ≤ 1000000
theorem DctAt.move {H H' : Hp} {a : Addr} {ps : List DE} {kds : List PyData} (d : DctAt H a ps kds) (h : ∀ o, H a = some o → H' a = some o) : DctAt H' a ps kds := by
  obtain ⟨⟨es, ep, e, r⟩, h2, h3, h4, h5⟩ := d
  exact ⟨⟨es, ep, h _ e, r⟩, h2, h3, h4, h5⟩
theorem DctAt.there {H : Hp} {a : Addr} {ps : List DE} {kds : List PyData} (d : DctAt H a ps kds) : H a ≠ none := by
  obtain ⟨es, ep, e, r⟩ := d.ob
  rw [e]; exact fun z => nomatch z
theorem DctAt.ne {H : Hp} {a p : Addr} {ps : List DE} {kds : List PyData} (d : DctAt H a ps kds) (h : H p = none) : a ≠ p := fun z => d.there (by rw [z]; exact h)
mutual
/-- the value stands for the data; nothing of it lies at a forbidden place (Y) -/
inductive Rp (K : PySem.W.Frag) (Y : Addr → Prop) (H : Hp) : V → PyData → Prop
  | non : Rp K Y H .non .none
  | bl (b : Bool) : Rp K Y H (.bl b) (.bool b)
  | int (i : Int) : Rp K Y H (.int i) (.int i)
  | str (x : Str) : Rp K Y H (.str x) (.str x)
  | tup {a : Addr} {xs : List V} {ds : List PyData} : ¬ Y a → Rd H a (.tup xs) → RpA K Y H xs ds → Rp K Y H (.ref a) (.tuple ds)
  | tupK {a : Addr} {xs : List V} {ds : List PyData} : KTup K a xs → RpA K Y H xs ds → Rp K Y H (.ref a) (.tuple ds)
  | lst {a : Addr} {xs : List V} {ds : List PyData} : ¬ Y a → Rd H a (.lst xs) → RpA K Y H xs ds → Rp K Y H (.ref a) (.list ds)
  | dct {a : Addr} {ps : List DE} {kvs : List (PyData × PyData)} : ¬ Y a → DctAt H a ps (kvs.map (·.1)) → RpA K Y H (ps.map (·.2.1)) (kvs.map (·.1)) → RpA K Y H (ps.map (·.2.2)) (kvs.map (·.2)) → Rp K Y H (.ref a) (.dict kvs)
inductive RpA (K : PySem.W.Frag) (Y : Addr → Prop) (H : Hp) : List V → List PyData → Prop
  | nil : RpA K Y H [] []
  | cons {v : V} {vs : List V} {d : PyData} {ds : List PyData} : Rp K Y H v d → RpA K Y H vs ds → RpA K Y H (v :: vs) (d :: ds)
end
/-- all that is tracked outside M stays; what is tracked stays tracked -/
structure Keeps (M : Addr → Prop) (H H' : Hp) : Prop where
  old : ∀ a o, H a = some o → ¬ M a → H' a = some o
  there : ∀ a, H a ≠ none → H' a ≠ none
def NoM : Addr → Prop := fun _ => False
theorem Keeps.refl {M : Addr → Prop} {H : Hp} : Keeps M H H := ⟨fun _ _ e _ => e, fun _ z => z⟩
theorem Keeps.trans {M : Addr → Prop} {H H1 H2 : Hp} (a : Keeps M H H1) (b : Keeps M H1 H2) : Keeps M H H2 := ⟨fun p o e n => b.old p o (a.old p o e n) n, fun p z => b.there p (a.there p z)⟩
theorem Keeps.mono {M M' : Addr → Prop} {H H' : Hp} (k : Keeps M H H') (h : ∀ a, M a → M' a) : Keeps M' H H' := ⟨fun p o e n => k.old p o e fun z => n (h p z), k.there⟩
theorem Keeps.any {M : Addr → Prop} {H H' : Hp} (k : Keeps NoM H H') : Keeps M H H' := k.mono fun _ z => z.elim
theorem Keeps.all {H H' : Hp} (k : Keeps NoM H H') {a : Addr} {o : HO} (e : H a = some o) : H' a = some o := k.old a o e fun z => z
theorem Keeps.notnew {M : Addr → Prop} {H H' : Hp} (k : Keeps M H H') {a : Addr} (e : H' a = none) : H a = none := by
  cases h : H a with
  | none => rfl
  | some o => exact absurd e (k.there a (by rw [h]; exact fun z => nomatch z))
theorem Keeps.new {H : Hp} {p : Addr} {o : HO} (h : H p = none) : Keeps NoM H (upd H p o) := ⟨fun a u e _ => by
  rw [upd_ne (ne_of_none (H := H) e h)]; exact e, fun a z => by
  by_cases q : a = p
  · rw [q, upd_same]; exact fun z => nomatch z
  · rw [upd_ne q]; exact z⟩
theorem Keeps.put {H : Hp} {p : Addr} {o : HO} {M : Addr → Prop} (h : M p) : Keeps M H (upd H p o) := ⟨fun a u e n => by
  rw [upd_ne (fun z => n (by rw [z]; exact h))]; exact e, fun a z => by
  by_cases q : a = p
  · rw [q, upd_same]; exact fun z => nomatch z
  · rw [upd_ne q]; exact z⟩
theorem rdKeeps {H H' : Hp} {M : Addr → Prop} {a : Addr} {u : HO} (k : Keeps M H H') (n : ¬ M a) (r : Rd H a u) : Rd H' a u := by
  rcases r with r | ⟨o, r⟩
  · exact .inl (k.old _ _ r n)
  · exact .inr ⟨o, k.old _ _ r n⟩
section
variable {K : PySem.W.Frag} {Y Y' : Addr → Prop} {H H' : Hp}
mutual
theorem Rp.move (k : Keeps Y H H') (hY : ∀ a, Y' a → Y a) : ∀ {v : V} {d : PyData}, Rp K Y H v d → Rp K Y' H' v d
  | _, _, .non => .non
  | _, _, .bl b => .bl b
  | _, _, .int i => .int i
  | _, _, .str x => .str x
  | _, _, .tup n r a => .tup (fun z => n (hY _ z)) (rdKeeps k n r) (a.move k hY)
  | _, _, .tupK r a => .tupK r (a.move k hY)
  | _, _, .lst n r a => .lst (fun z => n (hY _ z)) (rdKeeps k n r) (a.move k hY)
  | _, _, .dct n r a b => .dct (fun z => n (hY _ z)) (r.move fun o e => k.old _ o e n) (a.move k hY) (b.move k hY)
theorem RpA.move (k : Keeps Y H H') (hY : ∀ a, Y' a → Y a) : ∀ {v : List V} {d : List PyData}, RpA K Y H v d → RpA K Y' H' v d
  | _, _, .nil => .nil
  | _, _, .cons a b => .cons (a.move k hY) (b.move k hY)
end
theorem rdNe {H : Hp} {a p : Addr} {u : HO} (r : Rd H a u) (h : H p = none) : a ≠ p := by
  rcases r with r | ⟨o, r⟩
  · exact ne_of_none r h
  · exact ne_of_none r h
mutual
/-- a place that nothing stands at may be forbidden -/
theorem Rp.bar {p : Addr} (h : H p = none) : ∀ {v : V} {d : PyData}, Rp K Y H v d → Rp K (fun a => a = p ∨ Y a) H v d
  | _, _, .non => .non
  | _, _, .bl b => .bl b
  | _, _, .int i => .int i
  | _, _, .str x => .str x
  | _, _, .tup n r a => .tup (fun z => z.elim (rdNe r h) n) r (a.bar h)
  | _, _, .tupK r a => .tupK r (a.bar h)
  | _, _, .lst n r a => .lst (fun z => z.elim (rdNe r h) n) r (a.bar h)
  | _, _, .dct n r a b => .dct (fun z => z.elim (r.ne h) n) r (a.bar h) (b.bar h)
theorem RpA.bar {p : Addr} (h : H p = none) : ∀ {v : List V} {d : List PyData}, RpA K Y H v d → RpA K (fun a => a = p ∨ Y a) H v d
  | _, _, .nil => .nil
  | _, _, .cons a b => .cons (a.bar h) (b.bar h)
end
theorem Rp.less (hY : ∀ a, Y' a → Y a) {v : V} {d : PyData} (r : Rp K Y H v d) : Rp K Y' H v d := r.move Keeps.refl hY
theorem RpA.less (hY : ∀ a, Y' a → Y a) {v : List V} {d : List PyData} (r : RpA K Y H v d) : RpA K Y' H v d := r.move Keeps.refl hY
theorem KTup.sq {a : Addr} {xs : List V} (h : KTup K a xs) : SqT K H a xs := .inr h
theorem RpA.length : ∀ {vs : List V} {ds : List PyData}, RpA K Y H vs ds → vs.length = ds.length
  | _, _, .nil => rfl
  | _, _, .cons _ b => by rw [List.length_cons, List.length_cons, b.length]
theorem RpA.get : ∀ {vs : List V} {ds : List PyData} {i : Nat} {d : PyData}, RpA K Y H vs ds → ds[i]? = some d → ∃ v, vs[i]? = some v ∧ Rp K Y H v d
  | _, _, i, _, .nil, e => by simp at e
  | _, _, 0, _, .cons a _, e => by simp at e; subst e; exact ⟨_, rfl, a⟩
  | _, _, i + 1, d, .cons _ b, e => by
    obtain ⟨v, e1, r⟩ := b.get (i := i) (d := d) (by simpa using e)
    exact ⟨v, by simpa using e1, r⟩
theorem RpA.at : ∀ {vs : List V} {ds : List PyData} {i : Nat} {v : V}, RpA K Y H vs ds → vs[i]? = some v → ∃ d, ds[i]? = some d ∧ Rp K Y H v d
  | _, _, i, _, .nil, e => by simp at e
  | _, _, 0, _, .cons a _, e => by simp at e; subst e; exact ⟨_, rfl, a⟩
  | _, _, i + 1, v, .cons _ b, e => by
    obtain ⟨d, e1, r⟩ := b.at (i := i) (v := v) (by simpa using e)
    exact ⟨d, by simpa using e1, r⟩
theorem RpA.append : ∀ {vs ws : List V} {ds es : List PyData}, RpA K Y H vs ds → RpA K Y H ws es → RpA K Y H (vs ++ ws) (ds ++ es)
  | _, _, _, _, .nil, b => b
  | _, _, _, _, .cons a r, b => .cons a (r.append b)
theorem RpA.set {v : V} {d : PyData} (r : Rp K Y H v d) : ∀ {vs : List V} {ds : List PyData} (i : Nat), RpA K Y H vs ds → RpA K Y H (vs.set i v) (ds.set i d)
  | _, _, _, .nil => .nil
  | _, _, 0, .cons _ b => .cons r b
  | _, _, i + 1, .cons a b => .cons a (RpA.set r i b)
theorem RpA.take : ∀ {vs : List V} {ds : List PyData} (n : Nat), RpA K Y H vs ds → RpA K Y H (vs.take n) (ds.take n)
  | _, _, 0, _ => .nil
  | _, _, _ + 1, .nil => .nil
  | _, _, n + 1, .cons a b => .cons a (b.take n)
theorem RpA.drop : ∀ {vs : List V} {ds : List PyData} (n : Nat), RpA K Y H vs ds → RpA K Y H (vs.drop n) (ds.drop n)
  | _, _, 0, r => r
  | _, _, _ + 1, .nil => .nil
  | _, _, n + 1, .cons _ b => b.drop n
theorem RpA.eraseIdx : ∀ {vs : List V} {ds : List PyData} (i : Nat), RpA K Y H vs ds → RpA K Y H (vs.eraseIdx i) (ds.eraseIdx i)
  | _, _, _, .nil => .nil
  | _, _, 0, .cons _ b => b
  | _, _, i + 1, .cons a b => .cons a (b.eraseIdx i)
theorem RpA.dropLast {vs : List V} {ds : List PyData} (r : RpA K Y H vs ds) : RpA K Y H vs.dropLast ds.dropLast := by
  rw [List.dropLast_eq_take, List.dropLast_eq_take, r.length]
  exact r.take _
theorem RpA.rev : ∀ {vs : List V} {ds : List PyData}, RpA K Y H vs ds → RpA K Y H vs.reverse ds.reverse
  | _, _, .nil => .nil
  | _, _, .cons a b => by
    rw [List.reverse_cons, List.reverse_cons]
    exact b.rev.append (.cons a .nil)
end

/-- at a stands what is one's own: a list or a dict that nothing else knows -/
def Own (K : PySem.W.Frag) (Y : Addr → Prop) (H : Hp) (a : Addr) : PyData → Prop
  | .list ds => ∃ xs, H a = some (.lst xs) ∧ RpA K Y H xs ds
  | .dict kvs => ∃ ps, DctAt H a ps (kvs.map (·.1)) ∧ RpA K Y H (ps.map (·.2.1)) (kvs.map (·.1)) ∧ RpA K Y H (ps.map (·.2.2)) (kvs.map (·.2))
  | _ => False
theorem Own.move {K : PySem.W.Frag} {Y Y' : Addr → Prop} {H H' : Hp} {a : Addr} {d : PyData} (o : Own K Y H a d) (k : Keeps Y H H') (hY : ∀ a, Y' a → Y a) (ha : ∀ u, H a = some u → H' a = some u) : Own K Y' H' a d := by
  cases d with
  | list ds =>
    obtain ⟨xs, e, r⟩ := o
    exact ⟨xs, ha _ e, r.move k hY⟩
  | dict kvs =>
    obtain ⟨ps, e, r, r2⟩ := o
    exact ⟨ps, e.move ha, r.move k hY, r2.move k hY⟩
  | _ => exact o.elim
theorem Own.bar {K : PySem.W.Frag} {Y : Addr → Prop} {H : Hp} {a p : Addr} {d : PyData} (o : Own K Y H a d) (h : H p = none) : Own K (fun b => b = p ∨ Y b) H a d := by
  cases d with
  | list ds =>
    obtain ⟨xs, e, r⟩ := o
    exact ⟨xs, e, r.bar h⟩
  | dict kvs =>
    obtain ⟨ps, e, r, r2⟩ := o
    exact ⟨ps, e, r.bar h, r2.bar h⟩
  | _ => exact o.elim
theorem Own.there {K : PySem.W.Frag} {Y : Addr → Prop} {H : Hp} {a : Addr} {d : PyData} (o : Own K Y H a d) : H a ≠ none := by
  cases d with
  | list ds =>
    obtain ⟨xs, e, r⟩ := o
    rw [e]; exact fun z => nomatch z
  | dict kvs =>
    obtain ⟨ps, e, r, r2⟩ := o
    exact e.there
  | _ => exact o.elim
/-- given up: it is data as any other -/
theorem Own.rp {K : PySem.W.Frag} {Y Y' : Addr → Prop} {H : Hp} {a : Addr} {d : PyData} (o : Own K Y H a d) (hY : ∀ a, Y' a → Y a) (n : ¬ Y' a) : Rp K Y' H (.ref a) d := by
  cases d with
  | list ds =>
    obtain ⟨xs, e, r⟩ := o
    exact .lst n (.inl e) (r.less hY)
  | dict kvs =>
    obtain ⟨ps, e, r, r2⟩ := o
    exact .dct n e (r.less hY) (r2.less hY)
  | _ => exact o.elim

/-- slot i of ρ holds a thing of its own, that stands at a -/
def HotAt (ρ : PL.Env) (σ : L2.St) (a : Addr) : Prop := ∃ (i : Nat) (io : Bool) (d : PyData), ρ[i]? = some (Slot.h io d) ∧ σ[i]? = some (some (V.ref a))
def Fb (Z : Addr → Prop) (ρ : PL.Env) (σ : L2.St) (a : Addr) : Prop := Z a ∨ HotAt ρ σ a
/-- the slots ρ, over σ and H. B: what stood at the entry; Z: what is forbidden (others' own things) -/
structure Conc (K : PySem.W.Frag) (B Z : Addr → Prop) (ρ : PL.Env) (σ : L2.St) (H : Hp) : Prop where
  cold : ∀ (i : Nat) (d : PyData), ρ[i]? = some (Slot.c d) → ∃ v, σ[i]? = some (some v) ∧ Rp K (Fb Z ρ σ) H v d
  hot : ∀ (i : Nat) (io : Bool) (d : PyData), ρ[i]? = some (Slot.h io d) → ∃ a, σ[i]? = some (some (V.ref a)) ∧ ¬ Z a ∧ (io = false → ¬ B a) ∧ Own K (Fb Z ρ σ) H a d
  inj : ∀ (i j : Nat) (io io' : Bool) (d d' : PyData) (a : Addr), ρ[i]? = some (Slot.h io d) → ρ[j]? = some (Slot.h io' d') → σ[i]? = some (some (V.ref a)) → σ[j]? = some (some (V.ref a)) → i = j
  tr : ∀ a, Z a → H a ≠ none
  trB : ∀ a, B a → H a ≠ none
  len : ρ.length ≤ σ.length
section
variable {K : PySem.W.Frag} {B Z Z' : Addr → Prop} {ρ ρ' : PL.Env} {σ : L2.St} {H H' : Hp}
theorem Conc.fb (C : Conc K B Z ρ σ H) {a : Addr} (h : Fb Z ρ σ a) : H a ≠ none := by
  rcases h with h | ⟨i, io, d, e1, e2⟩
  · exact C.tr a h
  · obtain ⟨b, e3, _, _, o⟩ := C.hot i io d e1
    rw [e2] at e3
    cases e3
    exact o.there
theorem Conc.nfb (C : Conc K B Z ρ σ H) {p : Addr} (h : H p = none) : ¬ Fb Z ρ σ p := fun z => C.fb z h
theorem Conc.nhot (C : Conc K B Z ρ σ H) {a : Addr} (h : Z a) : ¬ HotAt ρ σ a := fun ⟨i, io, d, e1, e2⟩ => by
  obtain ⟨b, e3, n, _⟩ := C.hot i io d e1
  rw [e2] at e3
  cases e3
  exact n h
/-- the heap grows -/
theorem Conc.grow (C : Conc K B Z ρ σ H) (k : Keeps NoM H H') : Conc K B Z ρ σ H' := by
  refine ⟨fun i d e => ?_, fun i io d e => ?_, C.inj, fun a z => k.there a (C.tr a z), fun a z => k.there a (C.trB a z), C.len⟩
  · obtain ⟨v, e1, r⟩ := C.cold i d e
    exact ⟨v, e1, r.move k.any fun _ z => z⟩
  · obtain ⟨a, e1, n, b, o⟩ := C.hot i io d e
    exact ⟨a, e1, n, b, o.move k.any (fun _ z => z) fun u e => k.all e⟩
theorem Conc.less (C : Conc K B Z ρ σ H) (h : ∀ a, Z' a → Z a) : Conc K B Z' ρ σ H := by
  have hY : ∀ a, Fb Z' ρ σ a → Fb Z ρ σ a := fun a z => z.imp (h a) id
  refine ⟨fun i d e => ?_, fun i io d e => ?_, C.inj, fun a z => C.tr a (h a z), C.trB, C.len⟩
  · obtain ⟨v, e1, r⟩ := C.cold i d e
    exact ⟨v, e1, r.less hY⟩
  · obtain ⟨a, e1, n, b, o⟩ := C.hot i io d e
    exact ⟨a, e1, fun z => n (h a z), b, o.move Keeps.refl hY fun u e => e⟩
abbrev Plus (p : Addr) (Z : Addr → Prop) : Addr → Prop := fun a => a = p ∨ Z a
theorem fb_plus {p a : Addr} (z : Fb (Plus p Z) ρ σ a) : a = p ∨ Fb Z ρ σ a := by
  rcases z with (z | z) | z
  · exact .inl z
  · exact .inr (.inl z)
  · exact .inr (.inr z)
theorem plus_fb {p a : Addr} (z : a = p ∨ Fb Z ρ σ a) : Fb (Plus p Z) ρ σ a := by
  rcases z with z | z | z
  · exact .inl (.inl z)
  · exact .inl (.inr z)
  · exact .inr z
/-- a new thing is forbidden too -/
theorem Conc.bar (C : Conc K B Z ρ σ H) {p : Addr} (h : H p = none) (h' : H' p ≠ none) (k : Keeps NoM H H') : Conc K B (Plus p Z) ρ σ H' := by
  refine ⟨fun i d e => ?_, fun i io d e => ?_, C.inj, fun a z => ?_, fun a z => k.there a (C.trB a z), C.len⟩
  · obtain ⟨v, e1, r⟩ := C.cold i d e
    exact ⟨v, e1, (r.bar h).move k.any fun _ => fb_plus⟩
  · obtain ⟨a, e1, n, b, o⟩ := C.hot i io d e
    refine ⟨a, e1, fun z => z.elim (fun z => ?_) n, b, (o.bar h).move k.any (fun _ => fb_plus) fun u e => k.all e⟩
    exact C.fb (.inr ⟨i, io, d, e, e1⟩) (by rw [z]; exact h)
  · rcases z with z | z
    · rw [z]; exact h'
    · exact k.there a (C.tr a z)
end
end PL

set_option autoImplicit false
set_option linter.all false
set_option Elab.async false
set_option maxRecDepth 100000
/-! PL2: an expression does what the evaluator says. -/
namespace PL
open PySem PySem.Spec PyProof.Rows L2

/-- an operand: data, or a thing of one's own that is looked at -/
inductive Op (K : PySem.W.Frag) (Y : Addr → Prop) (H : Hp) : V → PyData → Prop
  | rp {v : V} {d : PyData} : Rp K Y H v d → Op K Y H v d
  | own {a : Addr} {d : PyData} : Own K Y H a d → Op K Y H (.ref a) d
inductive OpA (K : PySem.W.Frag) (Y : Addr → Prop) (H : Hp) : List V → List PyData → Prop
  | nil : OpA K Y H [] []
  | cons {v : V} {vs : List V} {d : PyData} {ds : List PyData} : Op K Y H v d → OpA K Y H vs ds → OpA K Y H (v :: vs) (d :: ds)
/-- what comes new -/
def New (K : PySem.W.Frag) (Y : Addr → Prop) (H H' : Hp) (v : V) : Res → Prop
  | .val d => Keeps NoM H H' ∧ Rp K Y H' v d
  | .fresh d => ∃ a, v = .ref a ∧ H a = none ∧ Keeps NoM H H' ∧ Own K (Plus a Y) H' a d
  | .ref _ => False
section
variable {K : PySem.W.Frag} {Y : Addr → Prop} {H : Hp} {v : V} {d : PyData}
theorem Own.asRp {a : Addr} (o : Own K Y H a d) : Rp K (fun _ => False) H (.ref a) d := o.rp (fun _ z => z.elim) fun z => z
/-- looked at as data -/
theorem Op.asRp (o : Op K Y H v d) : Rp K (fun _ => False) H v d := by
  cases o with
  | rp r => exact r.less fun _ z => z.elim
  | own o => exact o.asRp
theorem OpA.asRp : ∀ {vs : List V} {ds : List PyData}, OpA K Y H vs ds → RpA K (fun _ => False) H vs ds
  | _, _, .nil => .nil
  | _, _, .cons a b => .cons a.asRp b.asRp
theorem Op.dict {kvs : List (PyData × PyData)} (o : Op K Y H v (.dict kvs)) : ∃ a ps, v = .ref a ∧ DctAt H a ps (kvs.map (·.1)) ∧ RpA K Y H (ps.map (·.2.1)) (kvs.map (·.1)) ∧ RpA K Y H (ps.map (·.2.2)) (kvs.map (·.2)) := by
  cases o with
  | rp r =>
    cases r with
    | dct n e r r2 => exact ⟨_, _, rfl, e, r, r2⟩
  | own o =>
    obtain ⟨ps, e, r, r2⟩ := o
    exact ⟨_, ps, rfl, e, r, r2⟩
theorem Op.int {i : Int} (o : Op K Y H v (.int i)) : v = .int i := by
  cases o with
  | rp r => cases r; rfl
  | own o => exact o.elim
theorem Op.bl {i : Bool} (o : Op K Y H v (.bool i)) : v = .bl i := by
  cases o with
  | rp r => cases r; rfl
  | own o => exact o.elim
theorem Op.str {i : Str} (o : Op K Y H v (.str i)) : v = .str i := by
  cases o with
  | rp r => cases r; rfl
  | own o => exact o.elim
theorem Op.non (o : Op K Y H v .none) : v = .non := by
  cases o with
  | rp r => cases r; rfl
  | own o => exact o.elim
theorem Op.list {ds : List PyData} (o : Op K Y H v (.list ds)) : ∃ a xs, v = .ref a ∧ SqL K H a xs ∧ RpA K Y H xs ds := by
  cases o with
  | rp r =>
    cases r with
    | lst n e r => exact ⟨_, _, rfl, .inl e, r⟩
  | own o =>
    obtain ⟨xs, e, r⟩ := o
    exact ⟨_, xs, rfl, SqL.of e, r⟩
theorem Op.tuple {ds : List PyData} (o : Op K Y H v (.tuple ds)) : ∃ a xs, v = .ref a ∧ SqT K H a xs ∧ RpA K Y H xs ds := by
  cases o with
  | rp r =>
    cases r with
    | tup n e r => exact ⟨_, _, rfl, .inl e, r⟩
    | tupK e r => exact ⟨_, _, rfl, e.sq, r⟩
  | own o => exact o.elim
theorem Op.tupRp {ds : List PyData} (o : Op K Y H v (.tuple ds)) : Rp K Y H v (.tuple ds) := by
  cases o with
  | rp r => exact r
  | own o => exact o.elim
end

def PostR (K : PySem.W.Frag) (B Z : Addr → Prop) (ρ' : PL.Env) (σ : L2.St) (H' : Hp) (v : V) : Res → Prop
  | .val d => Conc K B Z ρ' σ H' ∧ Rp K (Fb Z ρ' σ) H' v d
  | .fresh d => ∃ a, v = .ref a ∧ ¬ Z a ∧ ¬ B a ∧ Conc K B (Plus a Z) ρ' σ H' ∧ Own K (Fb (Plus a Z) ρ' σ) H' a d
  | .ref i => σ[i]? = some (some v) ∧ Conc K B Z ρ' σ H'
/-- no slot becomes one's own -/
def Sub (ρ ρ' : PL.Env) : Prop := ∀ (i : Nat) (io : Bool) (d' : PyData), ρ'[i]? = some (Slot.h io d') → ∃ d, ρ[i]? = some (Slot.h io d)
theorem Sub.refl {ρ : PL.Env} : Sub ρ ρ := fun _ _ d e => ⟨d, e⟩
theorem Sub.trans {ρ ρ1 ρ2 : PL.Env} (a : Sub ρ ρ1) (b : Sub ρ1 ρ2) : Sub ρ ρ2 := fun i io d e => by
  obtain ⟨d1, e1⟩ := b i io d e
  exact a i io d1 e1
theorem Sub.hot {ρ ρ' : PL.Env} {σ : L2.St} (s : Sub ρ ρ') : ∀ a, HotAt ρ' σ a → HotAt ρ σ a := fun a ⟨i, io, d, e1, e2⟩ => by
  obtain ⟨d1, e3⟩ := s i io d e1
  exact ⟨i, io, d1, e3, e2⟩
structure PostX (K : PySem.W.Frag) (B Z : Addr → Prop) (ρ ρ' : PL.Env) (σ : L2.St) (H H' : Hp) : Prop where
  keep : Keeps (HotAt ρ σ) H H'
  sl : Sub ρ ρ'
  conc : Conc K B Z ρ' σ H'
structure Post (K : PySem.W.Frag) (B Z : Addr → Prop) (ρ ρ' : PL.Env) (σ : L2.St) (H H' : Hp) (v : V) (r : Res) : Prop where
  keep : Keeps (HotAt ρ σ) H H'
  sl : Sub ρ ρ'
  res : PostR K B Z ρ' σ H' v r
  nw : ∀ d a, r = .fresh d → v = .ref a → H a = none
section
variable {K : PySem.W.Frag} {B Z : Addr → Prop} {ρ ρ1 ρ2 : PL.Env} {σ : L2.St} {H H1 H2 : Hp} {v : V} {r : Res}
theorem PostX.sub (p : PostX K B Z ρ ρ1 σ H H1) : ∀ a, HotAt ρ1 σ a → HotAt ρ σ a := p.sl.hot
theorem Post.sub (p : Post K B Z ρ ρ1 σ H H1 v r) : ∀ a, HotAt ρ1 σ a → HotAt ρ σ a := p.sl.hot
theorem PostR.conc (p : PostR K B Z ρ1 σ H1 v r) : Conc K B Z ρ1 σ H1 := by
  cases r with
  | val d => exact p.1
  | fresh d => obtain ⟨a, _, _, _, c, _⟩ := p; exact c.less fun _ z => .inr z
  | ref i => exact p.2
theorem Post.x (p : Post K B Z ρ ρ1 σ H H1 v r) : PostX K B Z ρ ρ1 σ H H1 := ⟨p.keep, p.sl, p.res.conc⟩
theorem Post.conc (p : Post K B Z ρ ρ1 σ H H1 v r) : Conc K B Z ρ1 σ H1 := p.res.conc
theorem PostX.refl (C : Conc K B Z ρ σ H) : PostX K B Z ρ ρ σ H H := ⟨Keeps.refl, Sub.refl, C⟩
theorem Keeps.seq {M M' : Addr → Prop} (a : Keeps M H H1) (b : Keeps M' H1 H2) (h : ∀ p, M' p → M p) : Keeps M H H2 := a.trans (b.mono h)
theorem PostX.seq (p : PostX K B Z ρ ρ1 σ H H1) (q : PostX K B Z ρ1 ρ2 σ H1 H2) : PostX K B Z ρ ρ2 σ H H2 :=
  ⟨p.keep.seq q.keep p.sub, p.sl.trans q.sl, q.conc⟩
theorem PostX.post (p : PostX K B Z ρ ρ1 σ H H1) (q : Post K B Z ρ1 ρ2 σ H1 H2 v r) : Post K B Z ρ ρ2 σ H H2 v r :=
  ⟨p.keep.seq q.keep p.sub, p.sl.trans q.sl, q.res, fun d a e1 e2 => p.keep.notnew (q.nw d a e1 e2)⟩
/-- nothing but what is new -/
theorem post_new (C : Conc K B Z ρ σ H) (n : New K (Fb Z ρ σ) H H1 v r) : Post K B Z ρ ρ σ H H1 v r := by
  cases r with
  | val d => exact ⟨n.1.any, Sub.refl, ⟨C.grow n.1, n.2⟩, fun _ _ e => nomatch e⟩
  | fresh d =>
    obtain ⟨a, e, h, k, o⟩ := n
    refine ⟨k.any, Sub.refl, ⟨a, e, fun z => C.tr a z h, fun z => C.trB a z h, C.bar h o.there k, o.move Keeps.refl (fun _ => fb_plus) fun u e => e⟩, fun _ b _ e2 => by rw [e] at e2; cases e2; exact h⟩
  | ref i => exact n.elim
theorem post_val {d : PyData} (C : Conc K B Z ρ σ H) (h : Rp K (Fb Z ρ σ) H v d) : Post K B Z ρ ρ σ H H v (.val d) := ⟨Keeps.refl, Sub.refl, ⟨C, h⟩, fun _ _ e => nomatch e⟩
theorem fb_sub (s : ∀ a, HotAt ρ1 σ a → HotAt ρ σ a) : ∀ a, Fb Z ρ1 σ a → Fb Z ρ σ a := fun a z => z.imp id (s a)
theorem keep_fb (k : Keeps (HotAt ρ σ) H H1) : Keeps (Fb Z ρ σ) H H1 := k.mono fun _ z => .inr z
/-- an earlier operand, looked at later -/
theorem peek_op {d : PyData} (p : PostR K B Z ρ1 σ H1 v r) (q : PostX K B Z ρ1 ρ2 σ H1 H2) (e : peek ρ2 r = some d) : Op K (Fb Z ρ2 σ) H2 v d := by
  cases r with
  | val d' =>
    cases e
    exact .rp (p.2.move (keep_fb q.keep) (fb_sub q.sub))
  | fresh d' =>
    cases e
    obtain ⟨a, rfl, n, _, c, o⟩ := p
    refine .own (o.move (keep_fb q.keep |>.mono fun a z => z.imp .inr id) (fun b z => (fb_sub q.sub b z).imp .inr id) fun u e => q.keep.old a u e fun z => ?_)
    exact c.nhot (.inl rfl) z
  | ref i =>
    obtain ⟨hv, _⟩ := p
    have C := q.conc
    unfold peek gets at e
    dsimp only at e
    cases h : ρ2[i]? with
    | none => rw [h] at e; cases e
    | some s =>
      rw [h] at e
      cases s with
      | no => cases e
      | c d' =>
        cases e
        obtain ⟨w, e1, rr⟩ := C.cold i d h
        rw [hv] at e1
        cases e1
        exact .rp rr
      | h io d' =>
        cases e
        obtain ⟨a, e1, n, _, o⟩ := C.hot i io d h
        rw [hv] at e1
        cases e1
        exact .own o
end

/-! ### the judgement -/
def tOut {α : Type} (o : Out α) (Qok : α → PL.Env → Prop) (Qx : Str → PL.Env → Prop) : Prop := match o with
  | .ok a ρ => Qok a ρ
  | .exc c ρ => Qx c ρ
  | .stuck => False
/-- what is wanted if an error of the class named c leaves -/
abbrev WX := Str → L2.St → Hp → Prop
def Gx (K : PySem.W.Frag) (Wx : WX) (B Z : Addr → Prop) (ρ : PL.Env) (σ : L2.St) (H : Hp) (c : Str) (ρ' : PL.Env) : Prop := ∀ H', PostX K B Z ρ ρ' σ H H' → Wx c σ H'
theorem Gx.step {K : PySem.W.Frag} {Wx : WX} {B Z : Addr → Prop} {ρ ρ1 : PL.Env} {σ : L2.St} {H H1 : Hp} {c : Str} {ρ' : PL.Env} (g : Gx K Wx B Z ρ σ H c ρ') (p : PostX K B Z ρ ρ1 σ H H1) : Gx K Wx B Z ρ1 σ H1 c ρ' :=
  fun H' q => g H' (p.seq q)
/-- the reading of an evaluation -/
def tSE (K : PySem.W.Frag) (Wx : WX) (f : PL.Env → Out Res) : TE := fun σ H Q => ∃ B Z ρ, Conc K B Z ρ σ H ∧ tOut (f ρ) (fun r ρ' => ∀ v H', Post K B Z ρ ρ' σ H H' v r → Q v H') (Gx K Wx B Z ρ σ H)
def SE (X : Cx) (Wx : WX) (e : Expr) (f : PL.Env → Out Res) : Prop := PE X e (tSE X.K Wx f)
theorem pe_mono {X : Cx} {e : Expr} {t t' : TE} (h : PE X e t) (i : ∀ σ H Q, t' σ H Q → t σ H Q) : PE X e t' := ⟨fun pins s σ H Q I q => h.run pins s σ H Q I (i σ H Q q)⟩
theorem pt_mono {X : Cx} {e : Expr} {t t' : TT} (h : PT X e t) (i : ∀ σ H Q, t' σ H Q → t σ H Q) : PT X e t' := ⟨fun pins s σ H Q I q => h.run pins s σ H Q I (i σ H Q q)⟩
theorem pw_mono {X : Cx} {e : Expr} {t t' : TT} (h : PW X e t) (i : ∀ σ H Q, t' σ H Q → t σ H Q) : PW X e t' := ⟨fun wh pins s σ H Q I q => h.run wh pins s σ H Q I (i σ H Q q)⟩
/-- a part is run, then what is left -/
theorem sub_run {K : PySem.W.Frag} {Wx : WX} {B Z : Addr → Prop} {ρ : PL.Env} {σ : L2.St} {H : Hp} {β : Type} {fa : PL.Env → Out Res} {k : Res → PL.Env → Out β} {Qok : β → PL.Env → Prop} {Qx : Str → PL.Env → Prop} {T : V → Hp → Prop}
    (C : Conc K B Z ρ σ H) (h : tOut (bind (fa ρ) k) Qok Qx) (hx : ∀ c ρ', Qx c ρ' → Gx K Wx B Z ρ σ H c ρ')
    (next : ∀ r ρ1 v H1, Post K B Z ρ ρ1 σ H H1 v r → tOut (k r ρ1) Qok Qx → T v H1) : tSE K Wx fa σ H T := by
  refine ⟨B, Z, ρ, C, ?_⟩
  cases e : fa ρ with
  | ok r ρ1 =>
    rw [e] at h
    exact fun v H1 p => next r ρ1 v H1 p h
  | exc c ρ1 =>
    rw [e] at h
    exact hx c ρ1 h
  | stuck =>
    rw [e] at h
    exact h
theorem tOut.mono {α : Type} {o : Out α} {Qok Qok' : α → PL.Env → Prop} {Qx Qx' : Str → PL.Env → Prop} (h : tOut o Qok Qx) (h1 : ∀ a ρ, Qok a ρ → Qok' a ρ) (h2 : ∀ c ρ, Qx c ρ → Qx' c ρ) : tOut o Qok' Qx' := by
  cases o with
  | ok a ρ => exact h1 a ρ h
  | exc c ρ => exact h2 c ρ h
  | stuck => exact h
theorem tOut.ofO {α : Type} {o : Option α} {ρ : PL.Env} {Qok : α → PL.Env → Prop} {Qx : Str → PL.Env → Prop} (h : tOut (ofO ρ o) Qok Qx) : ∃ a, o = some a ∧ Qok a ρ := by
  cases o with
  | none => exact h.elim
  | some a => exact ⟨a, rfl, h⟩

/-! ### rules by values -/
def Trk (Y : Addr → Prop) (H : Hp) : Prop := ∀ a, Y a → H a ≠ none
def rOp2 (K : PySem.W.Frag) (g : PyData → PyData → Option Res) : R2 := fun x y H Q => ∃ Y d e r, Trk Y H ∧ Op K Y H x d ∧ Op K Y H y e ∧ g d e = some r ∧ ∀ v H', New K Y H H' v r → Q v H'
def rCl (K : PySem.W.Frag) (g : List PyData → Option Res) : List V → Hp → VK → Prop := fun xs H Q => ∃ Y ds r, Trk Y H ∧ OpA K Y H xs ds ∧ g ds = some r ∧ ∀ v H', New K Y H H' v r → Q v H'
section
variable {X : Cx} {Wx : WX} {a b c : Expr} {fa fb fc : PL.Env → Out Res} {pos : Pos}
theorem se_bin {op : Operator} (ho : OpR X (binaryOp op) (rOp2 X.K (binD op))) (ha : SE X Wx a fa) (hb : SE X Wx b fb) :
    SE X Wx (.BinOp a op b pos) (fun ρ => bind (fa ρ) fun ra ρ1 => bind (fb ρ1) fun rb ρ2 => binR op ra rb ρ2) := by
  refine pe_mono (pe_op ho ha hb) fun σ H Q ⟨B, Z, ρ, C, h⟩ => ?_
  refine sub_run C h (fun _ _ z => z) fun ra ρ1 x H1 P1 h1 => sub_run P1.conc h1 (fun c ρ' z => z.step P1.x) fun rb ρ2 y H2 P2 h2 => ?_
  unfold binR at h2
  cases e1 : peek ρ2 ra with
  | none => rw [e1] at h2; exact h2.elim
  | some d =>
    cases e2 : peek ρ2 rb with
    | none => rw [e1, e2] at h2; exact h2.elim
    | some e =>
      rw [e1, e2] at h2
      obtain ⟨r, e3, q⟩ := h2.ofO
      exact ⟨Fb Z ρ2 σ, d, e, r, fun a z => P2.conc.fb z, peek_op P1.res P2.x e1, peek_op P2.res (.refl P2.conc) e2, e3, fun v H' n => q v H' ((P1.x.seq P2.x).post (post_new P2.conc n))⟩
end
end PL

set_option autoImplicit false
set_option linter.all false
set_option Elab.async false
set_option maxRecDepth 100000
set_option maxHeartbeats 1000000
/-! PE1: a tuple once. -/
namespace PL
open PySem PySem.Spec PyProof.Rows L2
theorem tuple_mul1 (l : Addr) (items : Array Value) (n : Nat) (dd : Option Addr) (sl : Array (Option Value)) (x : Int) (u : Tok) (c0 : (decide (x < -(2 ^ 63)) || decide (x ≥ 2 ^ 63)) = false) (c1 : (items.isEmpty || x == 1) = true) :
    Meets (Builtin.«tuple.__mul__» ⟨[.ref l, .int x u], []⟩) (fun _ R s => s.heap.get? l = some { cls := .type "tuple", dict := dd, data := .seq items n, slots := sl } ∧
      R (.ok (.ret (Value.ref l))) s) :=
  .of_wp fun prog w A R s h => by
    obtain ⟨hp, g, d, tk, os⟩ := s
    obtain ⟨hl, h⟩ := h
    have f1 := AutoSeq1.idx_int
    wp_walk using wpAny_loadPart' hl
    repeat (first
      | (refine wpAny_ite_false (decide_eq_false (by rw [c0]; exact Bool.false_ne_true)) ?_; wp_walk using wpAny_loadPart' hl)
      | (refine wpAny_ite_true (decide_eq_true c1) ?_; wp_walk using wpAny_loadPart' hl))
    exact ⟨_, rfl, h⟩
section
variable {X : Cx}
theorem op_repT1 : OpR X (binaryOp .Mult) (fun x y H Q => ∃ l xs, x = .ref l ∧ y = .int 1 ∧ SqT X.K H l xs ∧ Q (.ref l) H) := by
  intro pins s σ H x y v u Q I rx ry h
  obtain ⟨l, xs, rfl, rfl, hT, q⟩ := h
  cases rx
  obtain ⟨t, rfl⟩ := ry
  obtain ⟨its, r, ⟨⟨cls, dd, data, sl⟩, ho, hc, n, hd⟩, hs⟩ := I.tuple hT
  simp only at hc hd
  subst hc hd
  have c1 : (its.toArray.isEmpty || ((1 : Int) == 1)) = true := by rw [Bool.or_eq_true]; exact .inr rfl
  exact wpAny_binaryOp_repeat_ref (T := "tuple") (U := "int") (by decide) ⟨_, ho, rfl⟩ (fun s' => typeIs_int s' 1 t) noFill_tuple_mul F.fills_int_mul F.slot_int_rmul repeat_tuple F.slot_int_index.lookup
    (call_meets F.slot_int_rmul (typeIs_int s 1 t) F.entry_int_rmul (F.args_int_rmul_2 _ _) (int_rmul_tuple 1 t l its.toArray n dd sl)
      ⟨ho, rfl, ⟨_, ho, rfl⟩, call_meets F.slot_tuple_mul ⟨_, ho, rfl⟩ F.entry_tuple_mul (F.args_tuple_mul_2 _ _) (tuple_mul1 l its.toArray n dd sl 1 t rfl c1) ⟨ho, ⟨.ref l, H, I, rfl, q⟩⟩⟩)
end
theorem tuple_mul0 (l : Addr) (items : Array Value) (n : Nat) (dd : Option Addr) (sl : Array (Option Value)) (x : Int) (u : Tok) (c0 : (decide (x < -(2 ^ 63)) || decide (x ≥ 2 ^ 63)) = false) (c1 : (items.isEmpty || x == 1) = false) (c2 : (decide (x ≤ 0) || items.isEmpty) = true) :
    Meets (Builtin.«tuple.__mul__» ⟨[.ref l, .int x u], []⟩) (fun _ R s => s.heap.get? l = some { cls := .type "tuple", dict := dd, data := .seq items n, slots := sl } ∧
      R (.ok (.ret (Value.ref s.heap.objs.size))) { s with heap := s.heap.push { cls := Value.type "tuple", data := Data.seq #[] }, toks := s.toks }) :=
  .of_wp fun prog w A R s h => by
    obtain ⟨hp, g, d, tk, os⟩ := s
    obtain ⟨hl, h⟩ := h
    have f1 := AutoSeq1.idx_int
    wp_walk using wpAny_loadPart' hl
    repeat (first
      | (refine wpAny_ite_false (decide_eq_false (by rw [c0]; exact Bool.false_ne_true)) ?_; wp_walk using wpAny_loadPart' hl)
      | (refine wpAny_ite_false (decide_eq_false (by rw [c1]; exact Bool.false_ne_true)) ?_; wp_walk using wpAny_loadPart' hl)
      | (refine wpAny_ite_true (decide_eq_true c2) ?_; wp_walk using wpAny_loadPart' hl))
    exact ⟨_, rfl, h⟩
section
variable {X : Cx}
theorem op_repT0 : OpR X (binaryOp .Mult) (fun x y H Q => ∃ l xs, x = .ref l ∧ y = .int 0 ∧ SqT X.K H l xs ∧ xs ≠ [] ∧ ∀ p, H p = none → Q (.ref p) (upd H p (.tup []))) := by
  intro pins s σ H x y v u Q I rx ry h
  obtain ⟨l, xs, rfl, rfl, hT, hne, q⟩ := h
  cases rx
  obtain ⟨t, rfl⟩ := ry
  obtain ⟨its, r, ⟨⟨cls, dd, data, sl⟩, ho, hc, n, hd⟩, hs⟩ := I.tuple hT
  simp only at hc hd
  subst hc hd
  have hi : its.toArray.isEmpty = false := by
    cases its with
    | nil =>
      have hle := r.length
      exact absurd (List.eq_nil_of_length_eq_zero hle) hne
    | cons a b => rfl
  have c1 : (its.toArray.isEmpty || ((0 : Int) == 1)) = false := by rw [hi]; rfl
  refine wpAny_binaryOp_repeat_ref (T := "tuple") (U := "int") (by decide) ⟨_, ho, rfl⟩ (fun s' => typeIs_int s' 0 t) noFill_tuple_mul F.fills_int_mul F.slot_int_rmul repeat_tuple F.slot_int_index.lookup
    (call_meets F.slot_int_rmul (typeIs_int s 0 t) F.entry_int_rmul (F.args_int_rmul_2 _ _) (int_rmul_tuple 0 t l its.toArray n dd sl)
      ⟨ho, rfl, ⟨_, ho, rfl⟩, call_meets F.slot_tuple_mul ⟨_, ho, rfl⟩ F.entry_tuple_mul (F.args_tuple_mul_2 _ _) (tuple_mul0 l its.toArray n dd sl 0 t rfl c1 rfl) ⟨ho, ?_⟩⟩)
  refine ⟨.ref s.heap.objs.size, _, I.laid (t' := s.toks) (o := .tup []) (fun b ob q => Heap.get?_push_of_some _ q) (Nat.le_refl _) ?_, rfl, q _ (I.hok.fresh (Nat.le_refl _))⟩
  exact ⟨Nat.zero_le _, [], .nil, IsTup.new _ _⟩
end
end PL

set_option autoImplicit false
set_option linter.all false
set_option Elab.async false
set_option maxRecDepth 100000
set_option maxHeartbeats 1000000
/-! PL3: the operators, by values. -/
namespace PL
open PySem PySem.Spec PyProof.Rows L2

structure XOk (X : Cx) : Prop where
  calm : X.calm = true
  un : X.A.units + 200 < cLine
section
variable {K : PySem.W.Frag} {Y : Addr → Prop} {H H' : Hp} {v : V} {d : PyData}
theorem new_keep (r : Rp K Y H v d) : New K Y H H v (.val d) := ⟨Keeps.refl, r⟩
theorem new_int (i : Int) : New K Y H H (.int i) (.val (.int i)) := new_keep (.int i)
theorem new_bl (i : Bool) : New K Y H H (.bl i) (.val (.bool i)) := new_keep (.bl i)
theorem new_str (i : Str) : New K Y H H (.str i) (.val (.str i)) := new_keep (.str i)
theorem new_tup {p : Addr} {xs : List V} {ds : List PyData} (t : Trk Y H) (h : H p = none) (r : RpA K Y H xs ds) : New K Y H (upd H p (.tup xs)) (.ref p) (.val (.tuple ds)) :=
  ⟨Keeps.new h, .tup (fun z => t p z h) (.inl upd_same) (r.move (Keeps.new h).any fun _ z => z)⟩
theorem new_lst {p : Addr} {xs : List V} {ds : List PyData} (h : H p = none) (r : RpA K Y H xs ds) : New K Y H (upd H p (.lst xs)) (.ref p) (.fresh (.list ds)) :=
  ⟨p, rfl, h, Keeps.new h, xs, upd_same, (r.bar h).move (Keeps.new h).any fun _ z => z⟩
theorem szOk_le {n : Nat} (h : szOk n = true) : n ≤ sizeLine := by
  unfold szOk at h
  have := of_decide_eq_true h
  rw [sizeLine_eq]; omega
theorem szOk_lt {n : Nat} (h : szOk n = true) : n < sizeLine := by
  unfold szOk at h
  have := of_decide_eq_true h
  rw [sizeLine_eq]; omega
theorem RpA.ne {xs : List V} {ds : List PyData} (r : RpA K Y H xs ds) : xs = [] ↔ ds = [] := by
  cases r with
  | nil => simp
  | cons a b => simp
theorem RpA.flat {xs : List V} {ds : List PyData} (r : RpA K Y H xs ds) : ∀ n : Nat, RpA K Y H (List.replicate n xs).flatten (rep n ds)
  | 0 => .nil
  | n + 1 => by
    rw [List.replicate_succ, List.flatten_cons]
    unfold rep
    rw [List.replicate_succ, List.flatten_cons]
    exact r.append (r.flat n)
theorem Op.rdl {ds : List PyData} (o : Op K Y H v (.list ds)) : ∃ a xs, v = .ref a ∧ Rd H a (.lst xs) ∧ RpA K Y H xs ds := by
  cases o with
  | rp r =>
    cases r with
    | lst n e r => exact ⟨_, _, rfl, e, r⟩
  | own o =>
    obtain ⟨xs, e, r⟩ := o
    exact ⟨_, xs, rfl, .inl e, r⟩
end
theorem rd_list {X : Cx} {pins : List (Addr × Obj)} {σ : L2.St} {H : Hp} {s : Shared} {a : Addr} {xs : List V} (I : L2.Inv X pins σ H s) (r : Rd H a (.lst xs)) :
    xs.length ≤ sizeLine ∧ ∃ (its : List Value) (n : Nat), Vals xs its ∧ s.heap.get? a = some { cls := .type "list", data := .seq its.toArray n } := r.ok I.hok
theorem ite_some {α : Type} {c : Bool} {a r : α} (h : (if c = true then some a else none) = some r) : c = true ∧ a = r := by
  cases c with
  | true => exact ⟨rfl, Option.some.inj h⟩
  | false => cases h
theorem small_ok {i : Int} (h : small i = true) : -(2 ^ 64) < i ∧ i < 2 ^ 64 := by
  unfold small at h
  have := of_decide_eq_true h
  omega
theorem mul_ok {i j : Int} (h : mulOk i j = true) : CMul i j ∨ CMulW i j := by
  unfold mulOk at h
  rw [Bool.or_eq_true, Bool.or_eq_true, Bool.and_eq_true] at h
  rcases h with (h | h) | ⟨h1, h2⟩
  · exact .inl (.inl (small_ok h))
  · exact .inl (.inr (small_ok h))
  · unfold mid at h1 h2
    exact .inr (wide_mul (of_decide_eq_true h1) (of_decide_eq_true h2) (by decide) (by decide) (by decide))
theorem rep_at {X : Cx} {pins : List (Addr × Obj)} {σ : L2.St} {H : Hp} {s : Shared} {l : Addr} {xs : List V} {k : Int} {tk : Tok} {Q : VK} (I : L2.Inv X pins σ H s) (r : Rd H l (.lst xs))
    (h1 : -(2 ^ 63) ≤ k) (h2 : k < 2 ^ 63) (hz : xs.length * k.toNat ≤ sizeLine) (q : ∀ p, H p = none → Q (.ref p) (upd H p (.lst (List.replicate k.toNat xs).flatten))) :
    wpAny (model X.prog X.w) X.A (binaryOp .Mult (.ref l) (.int k tk)) (EP X pins σ Q) X.xe s := by
  obtain ⟨z, its, n, rv, e⟩ := rd_list I r
  have hl : its.toArray.size = xs.length := by rw [List.size_toArray]; exact rv.length.symm
  have cap : its.toArray.size * k.toNat ≤ (2 ^ 63 - 1) / 8 := by
    have : (sizeLine : Nat) ≤ (2 ^ 63 - 1) / 8 := by decide
    rw [hl]; omega
  have fit : Builtin.List.listFitsIndex k = true := fitsIndex_both h1 h2
  have lng : Builtin.List.listTooLong (its.toArray.size * k.toNat) = false := notLongL (by rw [hl]; exact hz)
  have all : List.foldl (fun x1 x2 => x1 ++ x2) #[] (List.replicate (if its.toArray.isEmpty = true then 0 else k.toNat) its.toArray) = (List.replicate k.toNat its).flatten.toArray := by
    cases its with
    | nil => simp
    | cons a r' =>
      rw [if_neg (by simp)]
      exact (foldl_rep (a :: r') k.toNat []).trans (by simp)
  have mul := AutoListH.list___mul___list_int_3 l its.toArray n k tk (by rw [fit]; decide) (by omega) (by rw [lng]; decide)
  have rmul := int___rmul___int_list k tk l its.toArray n
  refine wpAny_binaryOp_repeat_ref (T := "list") (U := "int") (by decide) ⟨_, e, rfl⟩ (fun s2 => typeIs_int s2 k tk) noFill_list_mul F.fills_int_mul F.slot_int_rmul repeat_list F.slot_int_index.lookup ?_
  refine call_meets F.slot_int_rmul (typeIs_int s k tk) F.entry_int_rmul (F.args_int_rmul_2 _ _) rmul ⟨e, rfl, ⟨_, e, rfl⟩, ?_⟩
  refine call_meets F.slot_list_mul ⟨_, e, rfl⟩ F.entry_list_mul (F.args_list_mul_2 _ _) mul ⟨e, ?_⟩
  rw [all]
  exact ⟨.ref _, _, I.lnew (t' := s.toks) (rv.rep k.toNat) (by rw [PyProof.Rows.lm_len_rep_flat, Nat.mul_comm]; exact hz), rfl, q _ I.fresh⟩
section
variable {X : Cx}
theorem op_bin_add (ok : XOk X) : OpR X (binaryOp .Add) (rOp2 X.K (binD .Add)) := by
  rintro pins s σ H x y v u Q I rx ry ⟨Y, d, e, r, t, hx, hy, hg, q⟩
  cases d with
  | int i =>
    cases e with
    | int j =>
      cases hg
      rw [hx.int] at rx
      rw [hy.int] at ry
      exact op_add pins s σ H _ _ v u Q I rx ry ⟨i, j, rfl, rfl, q _ _ (new_int _)⟩
    | _ => cases hg
  | str i =>
    cases e with
    | str j =>
      rw [hx.str] at rx
      rw [hy.str] at ry
      obtain ⟨hz, rfl⟩ := ite_some hg
      exact op_add_str pins s σ H _ _ v u Q I rx ry ⟨i, j, rfl, rfl, szOk_le hz, q _ _ (new_str _)⟩
    | _ => cases hg
  | tuple ds =>
    cases e with
    | tuple es =>
      obtain ⟨a, xs, ex, sx, ax⟩ := hx.tuple
      obtain ⟨b, ys, ey, sy, ay⟩ := hy.tuple
      obtain ⟨hz, rfl⟩ := ite_some hg
      refine op_catA pins s σ H x y v u Q I rx ry ⟨a, b, xs, ys, ex, ey, sx, sy, by rw [ax.length, ay.length]; exact szOk_le hz, fun h0 => ?_, fun h0 h1 => ?_, fun h0 h1 p hp => ?_⟩
      · have := ax.ne.mp h0
        subst this
        exact q _ _ (new_keep (by rw [← ey]; exact hy.tupRp))
      · have := ay.ne.mp h1
        subst this
        rw [List.append_nil] at q
        exact q _ _ (new_keep (by rw [← ex]; exact hx.tupRp))
      · exact q _ _ (new_tup t hp (ax.append ay))
    | _ => cases hg
  | list ds =>
    cases e with
    | list es =>
      obtain ⟨a, xs, ex, sx, ax⟩ := hx.rdl
      obtain ⟨b, ys, ey, sy, ay⟩ := hy.rdl
      obtain ⟨hz, rfl⟩ := ite_some hg
      subst ex ey
      cases rx
      cases ry
      obtain ⟨z1, its, n, r1, e1⟩ := rd_list I sx
      obtain ⟨z2, its2, n2, r2, e2⟩ := rd_list I sy
      have hl := r1.length
      have hl2 := r2.length
      have hs := szOk_le hz
      have h1 := ax.length
      have h2 := ay.length
      refine PySem.P.add_list e1 e2 ?_ (by rw [List.size_toArray, List.size_toArray]; omega)
      have ea : its.toArray ++ its2.toArray = (its ++ its2).toArray := by simp
      rw [ea]
      exact ⟨.ref _, _, I.lnew (t' := s.toks) (r1.append r2) (by rw [List.length_append]; omega), rfl, q _ _ (new_lst I.fresh (ax.append ay))⟩
    | _ => cases hg
  | _ => cases e <;> cases hg
theorem op_bin_sub (ok : XOk X) : OpR X (binaryOp .Sub) (rOp2 X.K (binD .Sub)) := by
  rintro pins s σ H x y v u Q I rx ry ⟨Y, d, e, r, t, hx, hy, hg, q⟩
  cases d with
  | int i =>
    cases e with
    | int j =>
      cases hg
      rw [hx.int] at rx
      rw [hy.int] at ry
      exact op_sub pins s σ H _ _ v u Q I rx ry ⟨i, j, rfl, rfl, q _ _ (new_int _)⟩
    | _ => cases hg
  | _ => cases e <;> cases hg
theorem op_bin_mod (ok : XOk X) : OpR X (binaryOp .Mod) (rOp2 X.K (binD .Mod)) := by
  rintro pins s σ H x y v u Q I rx ry ⟨Y, d, e, r, t, hx, hy, hg, q⟩
  cases d with
  | int i =>
    cases e with
    | int j =>
      obtain ⟨hz, rfl⟩ := ite_some hg
      rw [hx.int] at rx
      rw [hy.int] at ry
      exact op_mod pins s σ H _ _ v u Q I rx ry ⟨i, j, rfl, rfl, of_decide_eq_true hz, q _ _ (new_int _)⟩
    | _ => cases hg
  | _ => cases e <;> cases hg
theorem op_bin_fdiv (ok : XOk X) : OpR X (binaryOp .FloorDiv) (rOp2 X.K (binD .FloorDiv)) := by
  rintro pins s σ H x y v u Q I rx ry ⟨Y, d, e, r, t, hx, hy, hg, q⟩
  cases d with
  | int i =>
    cases e with
    | int j =>
      obtain ⟨hz, rfl⟩ := ite_some hg
      unfold divOk at hz
      rw [Bool.and_eq_true] at hz
      rw [hx.int] at rx
      rw [hy.int] at ry
      exact op_fdivW pins s σ H _ _ v u Q I rx ry ⟨i, j, rfl, rfl, wide_div (of_decide_eq_true hz.1) (of_decide_eq_true hz.2) (by decide) (by decide), q _ _ (new_int _)⟩
    | _ => cases hg
  | _ => cases e <;> cases hg
theorem op_bin_pow (ok : XOk X) : OpR X (binaryOp .Pow) (rOp2 X.K (binD .Pow)) := by
  rintro pins s σ H x y v u Q I rx ry ⟨Y, d, e, r, t, hx, hy, hg, q⟩
  cases d with
  | int i =>
    cases e with
    | int j =>
      obtain ⟨hz, rfl⟩ := ite_some hg
      rw [Bool.and_eq_true, Bool.and_eq_true] at hz
      have h1 := of_decide_eq_true hz.1.1
      have h2 := of_decide_eq_true hz.1.2
      have h3 := hz.2
      unfold small at h3
      have h3 := of_decide_eq_true h3
      rw [hx.int] at rx
      rw [hy.int] at ry
      exact L2.op_pow pins s σ H _ _ v u Q I rx ry ⟨i, j, rfl, rfl, ⟨h1, by omega, by omega⟩, q _ _ (new_int _)⟩
    | _ => cases hg
  | _ => cases e <;> cases hg
theorem op_bin_shl (ok : XOk X) : OpR X (binaryOp .LShift) (rOp2 X.K (binD .LShift)) := by
  rintro pins s σ H x y v u Q I rx ry ⟨Y, d, e, r, t, hx, hy, hg, q⟩
  cases d with
  | int i =>
    cases e with
    | int j =>
      obtain ⟨hz, rfl⟩ := ite_some hg
      rw [Bool.and_eq_true, Bool.and_eq_true] at hz
      have h1 := of_decide_eq_true hz.1.1
      have h2 := of_decide_eq_true hz.1.2
      have h3 := hz.2
      unfold small at h3
      have h3 := of_decide_eq_true h3
      rw [hx.int] at rx
      rw [hy.int] at ry
      exact L2.op_shl pins s σ H _ _ v u Q I rx ry ⟨i, j, rfl, rfl, ⟨h1, by omega, by omega⟩, q _ _ (new_int _)⟩
    | _ => cases hg
  | _ => cases e <;> cases hg
theorem op_bin_mul (ok : XOk X) : OpR X (binaryOp .Mult) (rOp2 X.K (binD .Mult)) := by
  rintro pins s σ H x y v u Q I rx ry ⟨Y, d, e, r, t, hx, hy, hg, q⟩
  cases d with
  | int i =>
    cases e with
    | int j =>
      obtain ⟨hz, rfl⟩ := ite_some hg
      rw [hx.int] at rx
      rw [hy.int] at ry
      rcases mul_ok hz with hz | hz
      · exact op_mul pins s σ H _ _ v u Q I rx ry ⟨i, j, rfl, rfl, hz, q _ _ (new_int _)⟩
      · exact op_mulW pins s σ H _ _ v u Q I rx ry ⟨i, j, rfl, rfl, hz, q _ _ (new_int _)⟩
    | _ => cases hg
  | tuple ds =>
    cases e with
    | int j =>
      by_cases j1 : j = 1
      · subst j1
        cases hg
        obtain ⟨a, xs, ex, sx, ax⟩ := hx.tuple
        exact op_repT1 pins s σ H x y v u Q I rx ry ⟨a, xs, ex, hy.int, sx, q _ _ (new_keep (by rw [← ex]; exact hx.tupRp))⟩
      have hg : (if j = 0 then (if ds.isEmpty = true then none else some (Res.val (.tuple []))) else if (!ds.isEmpty && decide (ds.length ≤ 1000) && decide (2 ≤ j) && decide (j ≤ 1000)) = true then some (Res.val (.tuple (rep j.toNat ds))) else none) = some r := by
        have hg : (if j = 1 then some (Res.val (.tuple ds)) else if j = 0 then (if ds.isEmpty = true then none else some (Res.val (.tuple []))) else if (!ds.isEmpty && decide (ds.length ≤ 1000) && decide (2 ≤ j) && decide (j ≤ 1000)) = true then some (Res.val (.tuple (rep j.toNat ds))) else none) = some r := hg
        rw [if_neg j1] at hg
        exact hg
      obtain ⟨a, xs, ex, sx, ax⟩ := hx.tuple
      by_cases j0 : j = 0
      · subst j0
        rw [if_pos rfl] at hg
        by_cases de : ds.isEmpty = true
        · rw [if_pos de] at hg; cases hg
        rw [if_neg de] at hg
        cases hg
        exact op_repT0 pins s σ H x y v u Q I rx ry ⟨a, xs, ex, hy.int, sx, fun z => de (by rw [ax.ne.mp z]; rfl), fun p hp => q _ _ (new_tup t hp (.nil))⟩
      rw [if_neg j0] at hg
      obtain ⟨hz, rfl⟩ := ite_some hg
      rw [Bool.and_eq_true, Bool.and_eq_true, Bool.and_eq_true] at hz
      have h1 := of_decide_eq_true hz.1.1.2
      have h2 := of_decide_eq_true hz.1.2
      have h3 := of_decide_eq_true hz.2
      have h4 := hz.1.1.1
      exact op_repT pins s σ H x y v u Q I rx ry ⟨a, j, xs, ex, hy.int, sx, fun z => (by rw [ax.ne.mp z] at h4; cases h4), h2, h3, by rw [ax.length]; exact h1, fun p hp => q _ _ (new_tup t hp (ax.flat _))⟩
    | _ => cases hg
  | list ds =>
    cases e with
    | int j =>
      obtain ⟨hz, rfl⟩ := ite_some hg
      rw [Bool.and_eq_true, Bool.and_eq_true] at hz
      have h1 := of_decide_eq_true hz.1.1
      have h2 := of_decide_eq_true hz.1.2
      have h3 := szOk_le hz.2
      obtain ⟨a, xs, ex, sx, ax⟩ := hx.rdl
      subst ex
      cases rx
      rw [hy.int] at ry
      obtain ⟨tk, rfl⟩ := ry
      exact rep_at I sx (by omega) (by omega) (by rw [ax.length]; exact h3) fun p hp => q _ _ (new_lst hp (ax.flat _))
    | _ => cases hg
  | _ => cases e <;> cases hg
end
end PL

set_option autoImplicit false
set_option linter.all false
set_option Elab.async false
set_option maxRecDepth 100000
set_option maxHeartbeats 1000000
/-! PE0: sorting tuples, the first of them empty. -/
namespace PL
open PySem PySem.Spec PyProof.Rows PySem.SeqAt PySem.W
section
variable {prog : Program} {w : World} {A : Around} {E : Value → Shared → Prop} {s : Shared}
theorem call_tuple_lt {Q : Value → Shared → Prop} {l b : Addr} {items items2 : Array Value} {e r : Nat → Bool} (hl : s.heap.IsTuple l items) (hb : s.heap.IsTuple b items2)
    (he : ∀ j (h1 : j < items.size) (h2 : j < items2.size), EqAt A.in1 s items[j] items2[j] (e j)) (hr : ∀ j (h1 : j < items.size) (h2 : j < items2.size), e j = false → RcLt A.in1 s items[j] items2[j] (r j))
    (h : Q (.bool (firstLt e r (decide (items.size < items2.size)) (List.range (min items.size items2.size)))) s) : wpAny (model prog w) A (call (.builtin "tuple.__lt__") [.ref l, .ref b]) Q E s := by
  obtain ⟨⟨cls, dd, data, sl⟩, ho, hc, n, hd⟩ := id hl
  obtain ⟨⟨cls2, dd2, data2, sl2⟩, ho2, hc2, n2, hd2⟩ := id hb
  simp only at hc hd hc2 hd2
  subst hc hd hc2 hd2
  exact call_meets F.slot_tuple_lt ⟨_, ho, rfl⟩ F.entry_tuple_lt (F.args_tuple_lt_2 _ _) (tuple_ltAt l b items items2 n n2 dd dd2 sl sl2 e r) ⟨ho, ho2, he, hr, h⟩
theorem oneLt_tup {xs ys : List PyData} {a b : Value} {as bs : List Addr} {Q : Bool → Shared → Prop} (ra : Reads s.heap a (.tuple xs) as) (rb : Reads s.heap b (.tuple ys) bs) (h : alike (.tuple xs) (.tuple ys) = true)
    (hu : A.units + min (PyData.tuple xs).depth (PyData.tuple ys).depth < cLine) (hq : Q (dataLt (.tuple xs) (.tuple ys)) s) : wpAny (model prog w) A (oneLt' true a b) Q E s := by
  have hal : alikeAll xs ys = true := by simpa [alike] using h
  cases ra with
  | @tuple l o vs n _ as₁ h1 h2 h3 h4 =>
    cases rb with
    | @tuple l' o' vs' n' _ bs₁ k1 k2 k3 k4 =>
      have n1 : vs.size = xs.length := by simpa using ReadsAll.length _ _ _ h4
      have n2 : vs'.size = ys.length := by simpa using ReadsAll.length _ _ _ k4
      rw [dataLt_tuple, ← firstLt_toks xs ys hal, ← n1, ← n2] at hq
      rw [oneLt'_eq]
      simp only [if_true]
      refine wpAny_bind (wpAny_cRoomFor (room_here hu) ?_)
      refine wpAny_bind (wpAny_callSpecialIfBound?_slot (T := "tuple") ⟨_, h1, h2⟩ F.slot_tuple_lt (call_tuple_lt (e := pairEq xs ys) (r := fun j => dataLt (xs.getD j .none) (ys.getD j .none)) ⟨_, h1, h2, _, h3⟩ ⟨_, k1, k2, _, k3⟩ (fun j j1 j2 => ?_) (fun j j1 j2 hj => ?_) ?_))
      · have := eqAt_alikeAll xs ys A.in1 s vs.toList vs'.toList _ _ h4 k4 hal (room_in hu) j (by simpa using j1) (by simpa using j2)
        simpa using this
      · have := rcLt_alikeAll xs ys A.in1 s vs.toList vs'.toList _ _ h4 k4 hal (room_in hu) j (by simpa using j1) (by simpa using j2) hj
        simpa using this
      · exact wpAny_truthy_bool hq
/-- the first items, of tuples -/
theorem firsts_tup {M : Model} : ∀ (vs : List Value) (ds : List PyData) {Q : List (Option Value) → Shared → Prop}, EachIs (fun v d => ∃ as, Reads s.heap v d as) vs ds → (∀ d ∈ ds, ∃ xs, d = .tuple xs) →
    (∀ fs : List (Option Value), fs.length = vs.length → (∀ r, ds = .tuple [] :: r → ∃ r', fs = none :: r') → Q fs s) → wpAny M A (vs.mapM firstOfTuple') Q E s
  | [], _, _, .nil, _, h => by rw [List.mapM_nil]; exact wpAny_pure (h [] rfl fun _ z => nomatch z)
  | v :: vs, d :: ds, Q, .cons ⟨as, r⟩ t, ht, h => by
    obtain ⟨xs, rfl⟩ := ht d (List.mem_cons_self ..)
    rw [List.mapM_cons]
    refine wpAny_bind ?_
    rw [kas_first_eq]
    cases r with
    | @tuple a o its n _ _ h1 h2 h3 h4 =>
      refine wpAny_bind (Looks.here (show Looks M s.heap (typeOf (.ref a)) o.cls from (Looks.ld h1).andThen .now) ?_)
      rw [h2, if_neg (by first | decide | simp)]
      refine wpAny_bind (listItems_at h1 h3 (wpAny_pure ?_))
      refine wpAny_bind (firsts_tup vs ds (Q := fun bs s' => wpAny M A (pure (its[0]? :: bs)) Q E s') t (fun d hd => ht d (List.mem_cons_of_mem _ hd)) fun fs hl _ => wpAny_pure (h _ (by rw [List.length_cons, List.length_cons, hl]) fun r z => ?_))
      injection z with z1 z2
      injection z1 with z1
      subst z1
      have hz : its.toList.length = 0 := by simpa using SeqAt.ReadsAll.length _ _ _ h4
      have : its[0]? = none := by
        rw [Array.getElem?_eq_none]
        rw [← Array.length_toList]; omega
      rw [this]
      exact ⟨fs, rfl⟩
theorem kind_tup0 {M : Model} {vs : List Value} {ds : List PyData} {Q : SortKind → Shared → Prop} (e : EachIs (fun v d => ∃ as, Reads s.heap v d as) vs (.tuple [] :: ds)) (ht : ∀ d ∈ ds, ∃ xs, d = .tuple xs) (h : Q oneType' s) :
    wpAny M A (keyKind' vs.toArray) Q E s := by
  have ht' : ∀ d ∈ PyData.tuple [] :: ds, ∃ xs, d = .tuple xs := fun d hd => by
    rcases List.mem_cons.mp hd with rfl | hd
    · exact ⟨_, rfl⟩
    · exact ht d hd
  rw [kat_kind_eq, List.mapM_toArray, map_eq_pure_bind]
  refine wpAny_bind (wpAny_bind (firsts_tup vs _ e ht' fun fs hl h0 => wpAny_pure ?_))
  obtain ⟨r', rfl⟩ := h0 ds rfl
  rw [if_neg (by simp), if_neg (by simp)]
  rw [oneTypeOnly'_eq, List.mapM_toArray, map_eq_pure_bind]
  have hT : ∀ v ∈ vs, Looks M s.heap (typeOf v) (Value.type "tuple") := fun v hv => by
    obtain ⟨d, hd, as, r⟩ := e.left v hv
    obtain ⟨xs, rfl⟩ := ht' d hd
    exact looks_reads r
  refine wpAny_bind (wpAny_bind (wpAny_bind (kas_mapM (r := Value.type "tuple") _ (fun v hv Q' hq => (hT v hv).here hq) (wpAny_pure ?_))))
  cases e with
  | @cons v _ vs _ r t =>
    have hall : ((List.map (fun _ => Value.type "tuple") (v :: vs)).toArray.all fun x => x == Value.type "tuple") = true := by
      simp only [List.all_toArray, List.all_map, List.all_eq_true]
      intro _ _
      exact beq_self_eq_true _
    have h0 : (List.map (fun _ => Value.type "tuple") (v :: vs)).toArray[0]? = some (Value.type "tuple") := by simp
    rw [h0]
    simp only [hall, if_true]
    exact wpAny_pure (wpAny_pure h)
theorem sortsAt_tup0 {vs : List Value} {ds : List PyData} (e : EachIs (fun v d => ∃ as, Reads s.heap v d as) vs (.tuple [] :: ds)) (hal : AllAlike (.tuple [] :: ds)) (ht : ∀ d ∈ ds, ∃ xs, d = .tuple xs) (hu : ∀ d, d ∈ PyData.tuple [] :: ds → A.units + d.depth < cLine) : SortsAt prog w A s (dataKind s.heap (.tuple [] :: ds)) vs := by
  have ht' : ∀ d ∈ PyData.tuple [] :: ds, ∃ xs, d = .tuple xs := fun d hd => by
    rcases List.mem_cons.mp hd with rfl | hd
    · exact ⟨_, rfl⟩
    · exact ht d hd
  refine ⟨fun v hv => ?_, oneType', ?_, fun h2 E Q hq => kind_tup0 e ht hq⟩
  · obtain ⟨d, hd, as, r⟩ := e.left v hv
    exact ⟨_, dataKind_some hal hd r⟩
  · intro E x y a b Q ha hb hq
    obtain ⟨d, as, hd, ra, rfl⟩ := dataKind_inv ha
    obtain ⟨d', as', hd', rb, rfl⟩ := dataKind_inv hb
    rw [keyLt'_oneType]
    have hdd := hal d hd d' hd'
    obtain ⟨xs, rfl⟩ := ht' d hd
    obtain ⟨ys, rfl⟩ := ht' d' hd'
    exact oneLt_tup ra rb hdd (Nat.lt_of_le_of_lt (Nat.add_le_add_left (Nat.min_le_left _ _) _) (hu _ hd)) hq
theorem sorted_tup0 {vs : List Value} {ds : List PyData} {R : Value → PyData → Prop} {l : Addr} {Q : Value → Shared → Prop} (hl : s.heap.IsList l vs.toArray) (e : EachIs R vs (.tuple [] :: ds)) (er : EachIs (fun v b => ∃ as, Reads s.heap v b as) vs (.tuple [] :: ds)) (hal : AllAlike (.tuple [] :: ds)) (ht : ∀ d ∈ ds, ∃ xs, d = .tuple xs) (hL : ds.length + 1 ≤ sizeLine)
    (hu : ∀ b, b ∈ PyData.tuple [] :: ds → A.units + 2 + b.depth < cLine) (h : ∀ out, out.length = ds.length + 1 → EachIs R out ((PyData.tuple [] :: ds).mergeSort (dataLe false fun d => d)) → Q (.ref (s.heap.objs.size + 1)) { s with heap := sortedAll s.heap vs (List.toArray out) }) :
    wpAny (model prog w) A (call (.builtin "sorted") [.ref l]) Q E s := by
  have er' : EachIs (fun v b => ∃ as, Reads (sortingHeap (copyHeap s.heap vs) (s.heap.objs.size + 1) vs) v b as) vs (PyData.tuple [] :: ds) := er.mono fun _ _ ⟨as, r⟩ => ⟨as, PyProof.Rows.Reads.keeps (fun _ _ => sorting_copy_old) r⟩
  have sv := sortVals_data (R := R) (enc := fun d => d) false e er' (by rw [List.map_id']; exact hal)
  rw [List.map_id'] at sv
  exact sorted_vals hl (sortsAt_tup0 (s := { s with heap := sortingHeap (copyHeap s.heap vs) (s.heap.objs.size + 1) vs }) er' hal ht (fun d hd => hu d hd)) (by rw [e.length]; exact hL)
    (h _ (by rw [sortVals_length false rfl]; exact e.length) sv)
end
/-! ### an order by insertion -/
theorem insL_at {α : Type} {le : α → α → Bool} {a : α} : ∀ {l1 l2 : List α}, (∀ b ∈ l1, (!le a b) = true) → (∀ b ∈ l2, le a b = true) → insL le a (l1 ++ l2) = l1 ++ a :: l2
  | [], [], _, _ => rfl
  | [], b :: l2, _, h2 => by
    show (if le a b then a :: b :: l2 else b :: insL le a l2) = _
    rw [if_pos (h2 b (List.mem_cons_self ..))]; rfl
  | b :: l1, l2, h1, h2 => by
    have hb : le a b = false := by simpa using h1 b (List.mem_cons_self ..)
    show (if le a b then a :: b :: (l1 ++ l2) else b :: insL le a (l1 ++ l2)) = _
    rw [hb, if_neg Bool.false_ne_true, insL_at (fun c hc => h1 c (List.mem_cons_of_mem _ hc)) h2]
    rfl
theorem insS_merge {α : Type} {le : α → α → Bool} (T : PySem.W.TotalLe le) : ∀ l : List α, insS le l = l.mergeSort le
  | [] => by rw [List.mergeSort_nil]; rfl
  | a :: l => by
    have tot : ∀ a b, (le a b || le b a) = true := fun a b => by
      rw [Bool.or_eq_true]; exact T.total a b
    obtain ⟨l1, l2, e1, e2, h1⟩ := List.mergeSort_cons (le := le) T.trans tot a l
    have sorted := List.pairwise_mergeSort (le := le) T.trans tot (a :: l)
    rw [e1] at sorted
    have h2 : ∀ b ∈ l2, le a b = true := fun b hb => by
      have := (List.pairwise_append.mp sorted).2.1
      exact (List.pairwise_cons.mp this).1 b hb
    show insL le a (insS le l) = _
    rw [insS_merge T l, e2, e1]
    exact insL_at h1 h2
theorem sortD_merge (xs : List PyData) : sortD xs = xs.mergeSort fun a b => !dataLt b a := insS_merge (PySem.W.sortLe_total (listOrd itemOrd) false keyToks) xs
end PL

set_option autoImplicit false
set_option linter.all false
set_option Elab.async false
set_option maxRecDepth 100000
set_option maxHeartbeats 1000000
/-! PD0: dicts: keys as data, the object as the library sees it. -/
namespace PL
open PySem PySem.Spec PyProof.Rows L2
/-! ### keys as data -/
mutual
theorem key_free : ∀ {d : PyData} {k : NestedKey}, nkOf d = some k → ∀ w w' : World, k.hash w = k.hash w'
  | .none, k, e, w, w' => by rw [nkOf] at e; cases e; rfl
  | .int i, k, e, w, w' => by rw [nkOf] at e; cases e; rfl
  | .tuple xs, k, e, w, w' => by
    rw [nkOf] at e
    obtain ⟨ks, e1, rfl⟩ := Option.map_eq_some_iff.mp e
    rw [NestedKey.hash, NestedKey.hash, keys_free e1 w w']
  | .bool _, k, e, w, w' => by rw [nkOf] at e; cases e
  | .str _, k, e, w, w' => by rw [nkOf] at e; cases e
  | .list _, k, e, w, w' => by rw [nkOf] at e; cases e
  | .dict _, k, e, w, w' => by rw [nkOf] at e; cases e
theorem keys_free : ∀ {ds : List PyData} {ks : List NestedKey}, nksOf ds = some ks → ∀ w w' : World, NestedKey.hashes w ks = NestedKey.hashes w' ks
  | [], ks, e, w, w' => by rw [nksOf] at e; cases e; rfl
  | d :: ds, ks, e, w, w' => by
    rw [nksOf] at e
    cases e1 : nkOf d with
    | none => rw [e1] at e; cases e
    | some k =>
      cases e2 : nksOf ds with
      | none => rw [e1, e2] at e; cases e
      | some r =>
        rw [e1, e2] at e
        cases e
        rw [NestedKey.hashes, NestedKey.hashes, key_free e1 w w', keys_free e2 w w']
end
mutual
theorem eqv_key : ∀ {a b : PyData} {x y : NestedKey}, nkOf a = some x → nkOf b = some y → PyData.eqv a b = NestedKey.beq x y
  | a, .none, x, y, ea, eb => by
    rw [nkOf] at eb; cases eb
    cases a <;> rw [nkOf] at ea <;> first | (cases ea; done) | skip
    · cases ea; rfl
    · cases ea; rfl
    · obtain ⟨ks, _, rfl⟩ := Option.map_eq_some_iff.mp ea
      simp [PyData.eqv, NestedKey.beq]
  | a, .int j, x, y, ea, eb => by
    rw [nkOf] at eb; cases eb
    cases a <;> rw [nkOf] at ea <;> first | (cases ea; done) | skip
    · cases ea; simp [PyData.eqv, NestedKey.beq]
    · cases ea; rfl
    · obtain ⟨ks, _, rfl⟩ := Option.map_eq_some_iff.mp ea
      simp [PyData.eqv, NestedKey.beq]
  | a, .tuple ys, x, y, ea, eb => by
    rw [nkOf] at eb
    obtain ⟨ls, e2, rfl⟩ := Option.map_eq_some_iff.mp eb
    cases a <;> rw [nkOf] at ea <;> first | (cases ea; done) | skip
    · cases ea; simp [PyData.eqv, NestedKey.beq]
    · cases ea; simp [PyData.eqv, NestedKey.beq]
    · rename_i xs
      obtain ⟨ks, e1, rfl⟩ := Option.map_eq_some_iff.mp ea
      rw [NestedKey.beq, PyData.eqv]
      exact eqv_keys e1 e2
  | a, .bool _, x, y, ea, eb => by rw [nkOf] at eb; cases eb
  | a, .str _, x, y, ea, eb => by rw [nkOf] at eb; cases eb
  | a, .list _, x, y, ea, eb => by rw [nkOf] at eb; cases eb
  | a, .dict _, x, y, ea, eb => by rw [nkOf] at eb; cases eb
theorem eqv_keys : ∀ {as bs : List PyData} {xs ys : List NestedKey}, nksOf as = some xs → nksOf bs = some ys → PyData.eqvAll as bs = NestedKey.beqAll xs ys
  | as, [], xs, ys, ea, eb => by
    rw [nksOf] at eb; cases eb
    cases as with
    | nil => rw [nksOf] at ea; cases ea; simp [PyData.eqvAll, NestedKey.beqAll]
    | cons a as =>
      rw [nksOf] at ea
      cases e1 : nkOf a with
      | none => rw [e1] at ea; cases ea
      | some k =>
        cases e2 : nksOf as with
        | none => rw [e1, e2] at ea; cases ea
        | some r => rw [e1, e2] at ea; cases ea; simp [PyData.eqvAll, NestedKey.beqAll]
  | as, b :: bs, xs, ys, ea, eb => by
    rw [nksOf] at eb
    cases f1 : nkOf b with
    | none => rw [f1] at eb; cases eb
    | some l =>
      cases f2 : nksOf bs with
      | none => rw [f1, f2] at eb; cases eb
      | some ls =>
        rw [f1, f2] at eb
        cases eb
        cases as with
        | nil => rw [nksOf] at ea; cases ea; simp [PyData.eqvAll, NestedKey.beqAll]
        | cons a as =>
          rw [nksOf] at ea
          cases e1 : nkOf a with
          | none => rw [e1] at ea; cases ea
          | some k =>
            cases e2 : nksOf as with
            | none => rw [e1, e2] at ea; cases ea
            | some r =>
              rw [e1, e2] at ea
              cases ea
              rw [W.eqv_all_cons, NestedKey.beqAll, eqv_key e1 f1, eqv_keys e2 f2]
end
theorem eqv_keyD {a b : PyData} {x y : NestedKey} (ea : nkOf a = some x) (eb : nkOf b = some y) : PyData.eqv a b = decide (x = y) := by
  rw [NestedKey.decide_eq]; exact eqv_key ea eb
section
variable {X : Cx} {pins : List (Addr × Obj)} {σ : L2.St} {H : Hp} {s : Shared} {Y : Addr → Prop}
mutual
theorem Rp.nested (I : L2.Inv X pins σ H s) : ∀ {d : PyData} {v : V}, Rp X.K Y H v d → ∀ {k : NestedKey}, nkOf d = some k → ∀ {u : Value}, RelV v u → NestedIs s.heap k u
  | .none, _, r, k, e, u, ru => by
    rw [nkOf] at e; cases e
    cases r
    cases ru
    exact .none
  | .int i, _, r, k, e, u, ru => by
    rw [nkOf] at e; cases e
    cases r
    obtain ⟨t, rfl⟩ := ru
    exact .int i t
  | .tuple xs, _, r, k, e, u, ru => by
    rw [nkOf] at e
    obtain ⟨ks, e1, rfl⟩ := Option.map_eq_some_iff.mp e
    cases r with
    | tup n rd ra =>
      cases ru
      obtain ⟨its, rv, ⟨o, ho, hc, m, hd⟩, _⟩ := I.tuple (.inl rd)
      exact .tup ho hc hd (by simpa using ra.nestedAll I e1 rv)
    | tupK rd ra =>
      cases ru
      obtain ⟨its, rv, ⟨o, ho, hc, m, hd⟩, _⟩ := I.tuple rd.sq
      exact .tup ho hc hd (by simpa using ra.nestedAll I e1 rv)
  | .bool _, _, r, k, e, u, ru => by rw [nkOf] at e; cases e
  | .str _, _, r, k, e, u, ru => by rw [nkOf] at e; cases e
  | .list _, _, r, k, e, u, ru => by rw [nkOf] at e; cases e
  | .dict _, _, r, k, e, u, ru => by rw [nkOf] at e; cases e
theorem RpA.nestedAll (I : L2.Inv X pins σ H s) : ∀ {ds : List PyData} {vs : List V}, RpA X.K Y H vs ds → ∀ {ks : List NestedKey}, nksOf ds = some ks → ∀ {us : List Value}, Vals vs us → NestedAll s.heap ks us
  | [], _, r, ks, e, us, ru => by
    rw [nksOf] at e; cases e
    cases r
    cases ru
    exact .nil
  | d :: ds, _, r, ks, e, us, ru => by
    rw [nksOf] at e
    cases e1 : nkOf d with
    | none => rw [e1] at e; cases e
    | some k =>
      cases e2 : nksOf ds with
      | none => rw [e1, e2] at e; cases e
      | some rr =>
        rw [e1, e2] at e
        cases e
        cases r with
        | cons a b =>
          cases ru with
          | cons u1 u2 => exact .cons (a.nested I e1 u1) (b.nestedAll I e2 u2)
end
end
section
variable {X : Cx} {pins : List (Addr × Obj)} {σ : L2.St} {H : Hp} {s : Shared} {Y : Addr → Prop}
theorem ent_keys : ∀ {ps : List DE} {es : List DictEntry}, Paired Ent ps es → Vals (ps.map (·.2.1)) (es.map (·.key)) ∧ Vals (ps.map (·.2.2)) (es.map (·.val))
  | _, _, .nil => ⟨.nil, .nil⟩
  | _, _, .cons r t => ⟨.cons r.2.1 (ent_keys t).1, .cons r.2.2 (ent_keys t).2⟩
theorem DctAt.raw {a : Addr} {ps : List DE} {kds : List PyData} (d : DctAt H a ps kds) (I : L2.Inv X pins σ H s) : ∃ es ep, H a = some (DctO a es ep) ∧ Paired Ent ps es.toList ∧ s.heap.DictRaw a es ep := by
  obtain ⟨es, ep, e, r⟩ := d.ob
  exact ⟨es, ep, e, r, (I.hok a _ e).1⟩
end
theorem Rp.tupRef {K : PySem.W.Frag} {Y : Addr → Prop} {H : Hp} {v : V} {ds : List PyData} (r : Rp K Y H v (.tuple ds)) : ∃ b, v = .ref b := by
  cases r with
  | tup _ _ _ => exact ⟨_, rfl⟩
  | tupK _ _ => exact ⟨_, rfl⟩
theorem Rp.intEq {K : PySem.W.Frag} {Y : Addr → Prop} {H : Hp} {v : V} {i : Int} (r : Rp K Y H v (.int i)) : v = .int i := by
  cases r; rfl
theorem paired_app {α β : Type} {F : α → β → Prop} : ∀ {as cs : List α} {bs ds : List β}, Paired F as bs → Paired F cs ds → Paired F (as ++ cs) (bs ++ ds)
  | _, _, _, _, .nil, h => h
  | _, _, _, _, .cons r t, h => .cons r (paired_app t h)
/-! ### the pairs, side by side -/
def PKV (K : PySem.W.Frag) (Y : Addr → Prop) (H : Hp) (p : DE) (kv : PyData × PyData) : Prop := nkOf kv.1 = some p.1 ∧ Rp K Y H p.2.1 kv.1 ∧ Rp K Y H p.2.2 kv.2
section
variable {K : PySem.W.Frag} {Y : Addr → Prop} {H : Hp}
theorem pkv_of : ∀ {ps : List DE} {kvs : List (PyData × PyData)}, (kvs.map (·.1)).map nkOf = ps.map (fun p => some p.1) → RpA K Y H (ps.map (·.2.1)) (kvs.map (·.1)) → RpA K Y H (ps.map (·.2.2)) (kvs.map (·.2)) → Paired (PKV K Y H) ps kvs
  | [], [], _, _, _ => .nil
  | [], _ :: _, e, _, _ => by simp at e
  | _ :: _, [], e, _, _ => by simp at e
  | p :: ps, kv :: kvs, e, a, b => by
    simp only [List.map_cons, List.cons.injEq] at e
    cases a with
    | cons a1 a2 =>
      cases b with
      | cons b1 b2 => exact .cons ⟨e.1, a1, b1⟩ (pkv_of e.2 a2 b2)
theorem pkv_back : ∀ {ps : List DE} {kvs : List (PyData × PyData)}, Paired (PKV K Y H) ps kvs → (kvs.map (·.1)).map nkOf = ps.map (fun p => some p.1) ∧ RpA K Y H (ps.map (·.2.1)) (kvs.map (·.1)) ∧ RpA K Y H (ps.map (·.2.2)) (kvs.map (·.2))
  | _, _, .nil => ⟨rfl, .nil, .nil⟩
  | _, _, .cons r t => by
    obtain ⟨a, b, c⟩ := pkv_back t
    exact ⟨by rw [List.map_cons, List.map_cons, List.map_cons, a, r.1], .cons r.2.1 b, .cons r.2.2 c⟩
def pfind (ps : List DE) (k : NestedKey) : Option DE := ps.find? fun p => decide (p.1 = k)
def pput (ps : List DE) (k : NestedKey) (x v : V) : List DE := if (pfind ps k).isSome then ps.map (fun p => if p.1 = k then (p.1, p.2.1, v) else p) else ps ++ [(k, x, v)]
theorem pk_any {k : NestedKey} {kd : PyData} (ek : nkOf kd = some k) : ∀ {ps : List DE} {kvs : List (PyData × PyData)}, Paired (PKV K Y H) ps kvs → (kvs.any fun kv => PyData.eqv kv.1 kd) = (pfind ps k).isSome
  | _, _, .nil => rfl
  | p :: ps, kv :: kvs, .cons r t => by
    rw [List.any_cons, eqv_keyD r.1 ek, pk_any ek t]
    unfold pfind
    rw [List.find?_cons]
    cases decide (p.1 = k) <;> rfl
theorem pk_look {k : NestedKey} {kd d : PyData} (ek : nkOf kd = some k) : ∀ {ps : List DE} {kvs : List (PyData × PyData)}, Paired (PKV K Y H) ps kvs → look kvs kd = some d → ∃ p, pfind ps k = some p ∧ Rp K Y H p.2.2 d
  | _, _, .nil, e => by cases e
  | p :: ps, kv :: kvs, .cons r t, e => by
    unfold look at e
    rw [List.find?_cons, eqv_keyD r.1 ek] at e
    unfold pfind
    rw [List.find?_cons]
    cases h : decide (p.1 = k) with
    | true =>
      rw [h] at e
      cases e
      exact ⟨p, rfl, r.2.2⟩
    | false =>
      rw [h] at e
      exact pk_look ek t e
theorem pk_none {k : NestedKey} {kd : PyData} (ek : nkOf kd = some k) : ∀ {ps : List DE} {kvs : List (PyData × PyData)}, Paired (PKV K Y H) ps kvs → look kvs kd = none → pfind ps k = none
  | _, _, .nil, e => rfl
  | p :: ps, kv :: kvs, .cons r t, e => by
    unfold look at e
    rw [List.find?_cons, eqv_keyD r.1 ek] at e
    unfold pfind
    rw [List.find?_cons]
    cases h : decide (p.1 = k) with
    | true => rw [h] at e; cases e
    | false =>
      rw [h] at e
      exact pk_none ek t e
theorem pk_over {k : NestedKey} {kd vd : PyData} {v : V} (ek : nkOf kd = some k) (rv : Rp K Y H v vd) : ∀ {ps : List DE} {kvs : List (PyData × PyData)}, Paired (PKV K Y H) ps kvs → Paired (PKV K Y H) (ps.map (fun p => if p.1 = k then (p.1, p.2.1, v) else p)) (kvs.map fun kv => if PyData.eqv kv.1 kd then (kv.1, vd) else kv)
  | _, _, .nil => .nil
  | p :: ps, kv :: kvs, .cons r t => by
    refine .cons ?_ (pk_over ek rv t)
    dsimp only
    rw [eqv_keyD r.1 ek]
    by_cases c : p.1 = k
    · rw [if_pos (decide_eq_true c), if_pos c]; exact ⟨r.1, r.2.1, rv⟩
    · rw [if_neg c, if_neg (by simpa using c)]; exact r
theorem pk_store {k : NestedKey} {kd vd : PyData} {x v : V} (ek : nkOf kd = some k) (rx : Rp K Y H x kd) (rv : Rp K Y H v vd) {ps : List DE} {kvs : List (PyData × PyData)} (h : Paired (PKV K Y H) ps kvs) : Paired (PKV K Y H) (pput ps k x v) (store kvs kd vd) := by
  unfold pput store
  rw [pk_any ek h]
  split
  · exact pk_over ek rv h
  · exact paired_app h (.cons ⟨ek, rx, rv⟩ .nil)
theorem pput_nodup {ps : List DE} {k : NestedKey} {x v : V} (h : (ps.map (·.1)).Nodup) : ((pput ps k x v).map (·.1)).Nodup := by
  unfold pput
  split
  · have : (ps.map (fun p => if p.1 = k then (p.1, p.2.1, v) else p)).map (·.1) = ps.map (·.1) := by
      rw [List.map_map]
      refine List.map_congr_left fun p _ => ?_
      dsimp only [Function.comp]
      split <;> rfl
    rw [this]; exact h
  · rename_i hn
    rw [List.map_append, List.map_cons, List.map_nil]
    refine List.nodup_append.mpr ⟨h, by simp, fun a ha b hb => ?_⟩
    have hb : b = k := by simpa using hb
    subst hb
    obtain ⟨p, hp, rfl⟩ := List.mem_map.mp ha
    intro z
    apply hn
    unfold pfind
    rw [List.find?_isSome]
    exact ⟨p, hp, decide_eq_true z⟩
theorem pput_len (ps : List DE) (k : NestedKey) (x v : V) : (pput ps k x v).length ≤ ps.length + 1 := by
  unfold pput
  split
  · rw [List.length_map]; omega
  · rw [List.length_append, List.length_singleton]; omega
theorem pput_mem {ps : List DE} {k : NestedKey} {x v : V} {q : DE} (h : q ∈ pput ps k x v) : q.1 = k ∨ ∃ p ∈ ps, p.1 = q.1 := by
  unfold pput at h
  split at h
  · obtain ⟨p, hp, e⟩ := List.mem_map.mp h
    refine .inr ⟨p, hp, ?_⟩
    rw [← e]
    split <;> rfl
  · rcases List.mem_append.mp h with h | h
    · exact .inr ⟨q, h, rfl⟩
    · have : q = (k, x, v) := by simpa using h
      exact .inl (by rw [this])
end
end PL

set_option autoImplicit false
set_option linter.all false
set_option Elab.async false
set_option maxRecDepth 100000
set_option maxHeartbeats 1000000
/-! PD1: a dict as the library sees it; what is read of it. -/
namespace PL
open PySem PySem.Spec PyProof.Rows L2
theorem keyInt_shape {d : PyData} (h : keyInt d = true) : ∃ i, d = .int i := by
  cases d with
  | int i => exact ⟨i, rfl⟩
  | _ => cases h
theorem keyTup_shape {d : PyData} (h : keyTup d = true) : ∃ xs ks, d = .tuple xs ∧ nkOf d = some (.tup ks) ∧ (NestedKey.tup ks).depth ≤ 8 := by
  cases d with
  | tuple xs =>
    have h : (match nkOf (.tuple xs) with
      | some k => decide (k.depth ≤ 8)
      | none => false) = true := h
    cases e : nkOf (.tuple xs) with
    | none => rw [e] at h; cases h
    | some k =>
      rw [e] at h
      have h := of_decide_eq_true h
      have e' := e
      rw [nkOf] at e
      obtain ⟨ks, _, rfl⟩ := Option.map_eq_some_iff.mp e
      exact ⟨xs, ks, rfl, rfl, h⟩
  | _ => cases h
theorem keysOk_cases {ks : List PyData} (h : keysOk ks = true) : (∀ d ∈ ks, keyInt d = true) ∨ ∀ d ∈ ks, keyTup d = true := by
  unfold keysOk at h
  rw [Bool.or_eq_true] at h
  exact h.imp (fun h d hd => List.all_eq_true.mp h d hd) fun h d hd => List.all_eq_true.mp h d hd
def RX (p : DE) (x : NestedKey × Addr × Value) : Prop := p.1 = x.1 ∧ p.2.1 = .ref x.2.1 ∧ RelV p.2.2 x.2.2
def RI (p : DE) (x : Int × Value) : Prop := p.1 = .num x.1 ∧ p.2.1 = .int x.1 ∧ RelV p.2.2 x.2
theorem rx_keys : ∀ {ps : List DE} {xs : List (NestedKey × Addr × Value)}, Paired RX ps xs → xs.map (·.1) = ps.map (·.1)
  | _, _, .nil => rfl
  | _, _, .cons r t => by rw [List.map_cons, List.map_cons, rx_keys t, r.1]
theorem ri_keys : ∀ {ps : List DE} {xs : List (Int × Value)}, Paired RI ps xs → ps.map (·.1) = xs.map fun x => NestedKey.num x.1
  | _, _, .nil => rfl
  | _, _, .cons r t => by rw [List.map_cons, List.map_cons, ri_keys t, r.1]
theorem rx_at {k : NestedKey} : ∀ {ps : List DE} {xs : List (NestedKey × Addr × Value)}, Paired RX ps xs → (atKey xs k).isSome = (pfind ps k).isSome ∧ ∀ p, pfind ps k = some p → ∃ q, atKey xs k = some q ∧ RelV p.2.2 q.2
  | _, _, .nil => ⟨rfl, fun _ e => nomatch e⟩
  | p :: ps, x :: xs, .cons r t => by
    have ih := rx_at (k := k) t
    unfold atKey pfind at ih ⊢
    rw [List.find?_cons, List.find?_cons, r.1]
    cases h : decide (x.1 = k) with
    | true => exact ⟨rfl, fun q e => by cases e; exact ⟨_, rfl, r.2.2⟩⟩
    | false => exact ih
theorem ri_at {k : Int} : ∀ {ps : List DE} {xs : List (Int × Value)}, Paired RI ps xs → (valueAt xs k).isSome = (pfind ps (.num k)).isSome ∧ ∀ p, pfind ps (.num k) = some p → ∃ q, valueAt xs k = some q ∧ RelV p.2.2 q
  | _, _, .nil => ⟨rfl, fun _ e => nomatch e⟩
  | p :: ps, x :: xs, .cons r t => by
    have ih := ri_at (k := k) t
    unfold valueAt pfind at ih ⊢
    rw [List.find?_cons, List.find?_cons, r.1]
    have hd : decide (NestedKey.num x.1 = .num k) = decide (x.1 = k) := by
      by_cases c : x.1 = k
      · rw [decide_eq_true c, c]; simp
      · rw [decide_eq_false c]; exact decide_eq_false fun z => c (by injection z)
    rw [hd]
    cases h : decide (x.1 = k) with
    | true => exact ⟨rfl, fun q e => by cases e; exact ⟨_, rfl, r.2.2⟩⟩
    | false => exact ih
section
variable {X : Cx} {pins : List (Addr × Obj)} {σ : L2.St} {H : Hp} {s : Shared} {Y Y2 : Addr → Prop}
theorem mkX (I : L2.Inv X pins σ H s) : ∀ {ps : List DE} {es : List DictEntry} {kds : List PyData}, Paired Ent ps es → RpA X.K Y H (ps.map (·.2.1)) kds → kds.map nkOf = ps.map (fun p => some p.1) → (∀ d ∈ kds, keyTup d = true) →
    ∃ xs, es = xs.map (entryOfKey (nestedKind X.prog X.w)) ∧ Paired RX ps xs ∧ ∀ x ∈ xs, (nestedKind X.prog X.w).is s.heap x.1 x.2.1
  | _, _, _, .nil, _, _, _ => ⟨[], rfl, .nil, fun _ z => nomatch z⟩
  | p :: ps, e :: es, kds, .cons r t, a, q, hk => by
    cases kds with
    | nil => cases q
    | cons kd kds =>
      simp only [List.map_cons, List.cons.injEq] at q
      cases a with
      | cons a1 a2 =>
        obtain ⟨xs, e1, r1, h1⟩ := mkX I t a2 q.2 fun d hd => hk d (List.mem_cons_of_mem _ hd)
        obtain ⟨ds, ks, rfl, e2, hdep⟩ := keyTup_shape (hk kd (List.mem_cons_self ..))
        have ek := q.1
        rw [e2] at ek
        have ek := Option.some.inj ek
        have hn := a1.nested I e2 r.2.1
        obtain ⟨b, eb⟩ : ∃ b, p.2.1 = .ref b := a1.tupRef
        have r2 := r.2.1
        rw [eb] at r2
        have ev : e.key = .ref b := r2
        rw [ev] at hn
        refine ⟨(p.1, b, e.val) :: xs, ?_, .cons ⟨rfl, eb, r.2.2⟩ r1, fun x hx => ?_⟩
        · rw [List.map_cons, ← e1]
          congr 1
          show e = ⟨p.1.hash X.w, .ref b, e.val⟩
          rw [← r.1 X.w, ← ev]
        · rcases List.mem_cons.mp hx with rfl | hx
          · refine ⟨?_, ?_⟩
            · show NestedIs s.heap p.1 (.ref b)
              rw [← ek]; exact hn
            · show p.1.depth ≤ 8
              rw [← ek]; exact hdep
          · exact h1 x hx
theorem mkI (I : L2.Inv X pins σ H s) : ∀ {ps : List DE} {es : List DictEntry} {kds : List PyData}, Paired Ent ps es → RpA X.K Y H (ps.map (·.2.1)) kds → kds.map nkOf = ps.map (fun p => some p.1) → (∀ d ∈ kds, keyInt d = true) →
    ∃ xs, Pairs (intKind X.prog X.w) es xs ∧ Paired RI ps xs ∧ ∀ e ∈ es, ∃ k, (intKind X.prog X.w).is k e.key = true ∧ e.hash = hashInt k
  | _, _, _, .nil, _, _, _ => ⟨[], .nil, .nil, fun _ z => nomatch z⟩
  | p :: ps, e :: es, kds, .cons r t, a, q, hk => by
    cases kds with
    | nil => cases q
    | cons kd kds =>
      simp only [List.map_cons, List.cons.injEq] at q
      cases a with
      | cons a1 a2 =>
        obtain ⟨xs, e1, r1, h1⟩ := mkI I t a2 q.2 fun d hd => hk d (List.mem_cons_of_mem _ hd)
        obtain ⟨i, rfl⟩ := keyInt_shape (hk kd (List.mem_cons_self ..))
        have ek := q.1
        rw [nkOf] at ek
        have ek := Option.some.inj ek
        have eb : p.2.1 = .int i := a1.intEq
        have r2 := r.2.1
        rw [eb] at r2
        obtain ⟨tk, ev⟩ := r2
        have his : (intKind X.prog X.w).is i e.key = true := by rw [ev]; simp [PySem.intKind, Value.isInt]
        refine ⟨(i, e.val) :: xs, .cons his rfl e1, .cons ⟨ek.symm, eb, r.2.2⟩ r1, fun x hx => ?_⟩
        rcases List.mem_cons.mp hx with rfl | hx
        · refine ⟨i, his, ?_⟩
          rw [r.1 X.w, ← ek]; rfl
        · exact h1 x hx
/-- what a dict's reader needs -/
structure DView (X : Cx) (Y : Addr → Prop) (H : Hp) (a : Addr) (ps : List DE) (kvs : List (PyData × PyData)) : Prop where
  at' : DctAt H a ps (kvs.map (·.1))
  ra : RpA X.K Y H (ps.map (·.2.1)) (kvs.map (·.1))
  rb : RpA X.K Y H (ps.map (·.2.2)) (kvs.map (·.2))
variable {a : Addr} {ps : List DE} {kvs : List (PyData × PyData)}
theorem DView.pk (D : DView X Y H a ps kvs) : Paired (PKV X.K Y H) ps kvs := pkv_of D.at'.ks D.ra D.rb
theorem DView.viewT (D : DView X Y H a ps kvs) (I : L2.Inv X pins σ H s) (h : ∀ d ∈ kvs.map (·.1), keyTup d = true) : ∃ xs, s.heap.DictOfH (nestedKind X.prog X.w) a xs ∧ Paired RX ps xs := by
  obtain ⟨es, ep, e, pe, o, ho, hc, hd⟩ := D.at'.raw I
  obtain ⟨xs, e1, r1, h1⟩ := mkX I pe D.ra D.at'.ks h
  exact ⟨xs, ⟨o, es, ep, ho, hc, hd, e1, h1, by rw [rx_keys r1]; exact D.at'.nd⟩, r1⟩
theorem nodup_num : ∀ {xs : List (Int × Value)}, (xs.map fun x => NestedKey.num x.1).Nodup → (xs.map (·.1)).Nodup
  | [], _ => List.nodup_nil
  | x :: xs, h => by
    rw [List.map_cons, List.nodup_cons] at h
    rw [List.map_cons, List.nodup_cons]
    refine ⟨fun z => h.1 ?_, nodup_num h.2⟩
    obtain ⟨y, hy, e⟩ := List.mem_map.mp z
    exact List.mem_map.mpr ⟨y, hy, by rw [e]⟩
theorem DView.viewI (D : DView X Y H a ps kvs) (I : L2.Inv X pins σ H s) (h : ∀ d ∈ kvs.map (·.1), keyInt d = true) : ∃ xs, s.heap.DictOf (intKind X.prog X.w) a xs ∧ Paired RI ps xs := by
  obtain ⟨es, ep, e, pe, o, ho, hc, hd⟩ := D.at'.raw I
  obtain ⟨xs, e1, r1, h1⟩ := mkI I pe D.ra D.at'.ks h
  refine ⟨xs, ⟨o, es, ep, ho, hc, hd, fun x hx => h1 x (Array.mem_toList_iff.mpr hx), e1, nodup_num ?_⟩, r1⟩
  rw [← ri_keys r1]; exact D.at'.nd
theorem Op.view {v : V} (o : Op X.K Y H v (.dict kvs)) : ∃ a ps, v = .ref a ∧ DView X Y H a ps kvs := by
  obtain ⟨a, ps, e, h1, h2, h3⟩ := o.dict
  exact ⟨a, ps, e, h1, h2, h3⟩
/-- an operand as a key -/
theorem Op.tupKey {v : V} {u : Value} {d : PyData} (o : Op X.K Y H v d) (I : L2.Inv X pins σ H s) (r : RelV v u) (h : keyTup d = true) : ∃ k b, nkOf d = some k ∧ v = .ref b ∧ u = .ref b ∧ (nestedKind X.prog X.w).is s.heap k b := by
  obtain ⟨xs, ks, rfl, e, hd⟩ := keyTup_shape h
  have o := o.tupRp
  have hn := o.nested I e r
  cases o with
  | tup _ _ _ => cases r; exact ⟨_, _, e, rfl, rfl, hn, hd⟩
  | tupK _ _ => cases r; exact ⟨_, _, e, rfl, rfl, hn, hd⟩
theorem Op.intKey {v : V} {u : Value} {d : PyData} (o : Op X.K Y H v d) (r : RelV v u) (h : keyInt d = true) : ∃ i, d = .int i ∧ v = .int i ∧ (intKind X.prog X.w).is i u = true := by
  obtain ⟨i, rfl⟩ := keyInt_shape h
  have e := o.int
  subst e
  obtain ⟨t, rfl⟩ := r
  exact ⟨i, rfl, rfl, by simp [PySem.intKind, Value.isInt]⟩
theorem room8 (ok : XOk X) : (nestedKind X.prog X.w).room X.A.in1 := by
  have := ok.un
  show X.A.units + 1 + 8 < cLine
  omega
theorem d_in {Q : VK} {v : V} {u : Value} {d : PyData} (ok : XOk X) (D : DView X Y H a ps kvs) (I : L2.Inv X pins σ H s) (o : Op X.K Y2 H v d) (r : RelV v u) (hk : keysOk (d :: kvs.map (·.1)) = true) (q : Q (.bl (kvs.any fun kv => PyData.eqv kv.1 d)) H) :
    wpAny (model X.prog X.w) X.A (compareOp .In u (.ref a)) (EP X pins σ Q) X.xe s := by
  rcases keysOk_cases hk with h | h
  · obtain ⟨i, rfl, rfl, hi⟩ := o.intKey r (h _ (List.mem_cons_self ..))
    obtain ⟨xs, dv, rx⟩ := D.viewI I fun d hd => h d (List.mem_cons_of_mem _ hd)
    refine wpAny_in_of hi D.at'.sys dv.mapOf ?_
    rw [(ri_at rx).1, ← pk_any (k := .num i) (kd := .int i) (by rw [nkOf]) D.pk]
    exact ⟨.bl _, H, I.tok _, rfl, q⟩
  · obtain ⟨k, b, ek, rfl, rfl, hi⟩ := o.tupKey I r (h _ (List.mem_cons_self ..))
    obtain ⟨xs, dv, rx⟩ := D.viewT I fun d hd => h d (List.mem_cons_of_mem _ hd)
    refine wpAny_in_heap (room8 ok) hi D.at'.sys dv ?_
    rw [(rx_at rx).1, ← pk_any ek D.pk]
    exact ⟨.bl _, H, I.tok _, rfl, q⟩
theorem d_notIn {Q : VK} {v : V} {u : Value} {d : PyData} (ok : XOk X) (D : DView X Y H a ps kvs) (I : L2.Inv X pins σ H s) (o : Op X.K Y2 H v d) (r : RelV v u) (hk : keysOk (d :: kvs.map (·.1)) = true) (q : Q (.bl (!kvs.any fun kv => PyData.eqv kv.1 d)) H) :
    wpAny (model X.prog X.w) X.A (compareOp .NotIn u (.ref a)) (EP X pins σ Q) X.xe s := by
  rcases keysOk_cases hk with h | h
  · obtain ⟨i, rfl, rfl, hi⟩ := o.intKey r (h _ (List.mem_cons_self ..))
    obtain ⟨xs, dv, rx⟩ := D.viewI I fun d hd => h d (List.mem_cons_of_mem _ hd)
    refine wpAny_notIn_of hi D.at'.sys dv.mapOf ?_
    rw [(ri_at rx).1, ← pk_any (k := .num i) (kd := .int i) (by rw [nkOf]) D.pk]
    exact ⟨.bl _, H, I.tok _, rfl, q⟩
  · obtain ⟨k, b, ek, rfl, rfl, hi⟩ := o.tupKey I r (h _ (List.mem_cons_self ..))
    obtain ⟨xs, dv, rx⟩ := D.viewT I fun d hd => h d (List.mem_cons_of_mem _ hd)
    refine wpAny_notIn_heap (room8 ok) hi D.at'.sys dv ?_
    rw [(rx_at rx).1, ← pk_any ek D.pk]
    exact ⟨.bl _, H, I.tok _, rfl, q⟩
theorem d_item {Q : VK} {v : V} {u : Value} {d c : PyData} (ok : XOk X) (D : DView X Y H a ps kvs) (I : L2.Inv X pins σ H s) (o : Op X.K Y2 H v d) (r : RelV v u) (hk : keysOk (d :: kvs.map (·.1)) = true) (hc : look kvs d = some c) (q : ∀ w, Rp X.K Y H w c → Q w H) :
    wpAny (model X.prog X.w) X.A (getItem (.ref a) u) (EP X pins σ Q) X.xe s := by
  rcases keysOk_cases hk with h | h
  · obtain ⟨i, rfl, rfl, hi⟩ := o.intKey r (h _ (List.mem_cons_self ..))
    obtain ⟨xs, dv, rx⟩ := D.viewI I fun d hd => h d (List.mem_cons_of_mem _ hd)
    obtain ⟨p, e1, r1⟩ := pk_look (k := .num i) (kd := .int i) (by rw [nkOf]) D.pk hc
    obtain ⟨w, e2, r2⟩ := (ri_at rx).2 p e1
    exact wpAny_getItem_of hi dv.mapOf e2 ⟨_, H, I.tok _, r2, q _ r1⟩
  · obtain ⟨k, b, ek, rfl, rfl, hi⟩ := o.tupKey I r (h _ (List.mem_cons_self ..))
    obtain ⟨xs, dv, rx⟩ := D.viewT I fun d hd => h d (List.mem_cons_of_mem _ hd)
    obtain ⟨p, e1, r1⟩ := pk_look ek D.pk hc
    obtain ⟨w, e2, r2⟩ := (rx_at rx).2 p e1
    exact wpAny_getItem_heap (room8 ok) hi dv e2 ⟨_, H, I.tok _, r2, q _ r1⟩
end
end PL

set_option autoImplicit false
set_option linter.all false
set_option Elab.async false
set_option maxRecDepth 100000
set_option maxHeartbeats 1000000
/-! PD2: len, truth, subscripts, get, stores of dicts. -/
namespace PL
open PySem PySem.Spec PyProof.Rows L2
section
variable {prog : Program} {w : World} {A : Around} {E : Value → Shared → Prop} {s : Shared} {d : Addr} {es : Array DictEntry} {ep : Nat}
theorem len_body_raw {Q : Value → Shared → Prop} (hd : (d == sysModules) = false) (hm : s.heap.DictRaw d es ep) (hfit : (es.size : Int) < 2 ^ 63)
    (h : Q (.int es.size (s.toks + 1)) { s with toks := s.toks + 1 + 1 }) : wpAny (model prog w) A (Builtin.«len» ⟨[.ref d], []⟩) (fun fin s' => ∃ r, fin = .done (.ret r) ∧ Q r s') E s := by
  unfold Builtin.«len»
  refine wpAny_bind (m := oneArg "len" _) (wpAny_pure ?_)
  refine wpAny_bind (m := callSpecial? (.ref d) (Str.ofString "__len__")) (wpAny_callSpecial?_slot (name := Str.ofString "__len__") hm.typeIs F.slot_dict_len
    (call_meetsIn F.slot_dict_len hm.typeIs F.entry_dict_len (F.args_dict_len_1 _) (meets_dict_len_raw d hd) ⟨es, ep, hm, ?_⟩))
  show wpAny _ _ _ _ _ { s with toks := s.toks + 1 }
  refine wpAny_bind (wpAny_holding (wpAny_pure ?_))
  refine wpAny_bind (wpAny_letGo ?_)
  show wpAny _ _ (if ((es.size : Nat) : Int) < 0 then _ else _) _ _ _
  rw [if_neg (by omega)]
  show wpAny _ _ (if ((es.size : Nat) : Int) ≥ 2 ^ 63 then _ else _) _ _ _
  rw [if_neg (by omega)]
  exact wpAny_bind (wpAny_mkInt (wpAny_pure ⟨_, rfl, h⟩))
theorem call_len_rawd {Q : Value → Shared → Prop} (hd : (d == sysModules) = false) (hm : s.heap.DictRaw d es ep) (hfit : (es.size : Int) < 2 ^ 63)
    (h : Q (.int es.size (s.toks + 1)) { s with toks := s.toks + 1 + 1 }) : wpAny (model prog w) A (call (.builtin "len") [.ref d]) Q E s :=
  Calls.call_function_entry kind_len plain_len entry_len (args_len1 _) (len_body_raw hd hm hfit h)
theorem truthy_rawd {Q : Bool → Shared → Prop} (hd : (d == sysModules) = false) (hm : s.heap.DictRaw d es ep) (hfit : (es.size : Int) < 2 ^ 63)
    (h : Q (!(es.size == 0)) { s with toks := s.toks + 1 + 1 }) : wpAny (model prog w) A (truthy (.ref d)) Q E s := by
  have hne : ((es.size : Int) != 0) = !(es.size == 0) := by
    by_cases c : es.size = 0
    · rw [c]; rfl
    · have : (es.size == 0) = false := by simpa using c
      rw [this]
      have : ((es.size : Int) != 0) = true := by simpa using c
      rw [this]; rfl
  have key : wpAny (model prog w) A (runValue (.builtin "len" ⟨[.ref d], []⟩)) (fun r s' => r = .int es.size (s.toks + 1) ∧ Q (!(es.size == 0)) s') E s := by
    refine wpAny_runValue (codeAny_builtin entry_len ?_)
    rw [Around.under_plainId plain_len _]
    exact wpAny_mono (len_body_raw (Q := fun r s' => r = .int es.size (s.toks + 1) ∧ Q (!(es.size == 0)) s') hd hm hfit ⟨rfl, h⟩)
      (fun fin s' h' => by obtain ⟨r, rfl, hq⟩ := h'; exact hq) fun _ _ e => e
  unfold truthy
  first
    | refine wpAny_bind (wpAny_callSpecial?_none (name := Str.ofString "__bool__") hm.typeIs noBool_dict ?_)
    | refine wpAny_bind (wpAny_pure (wpAny_bind (wpAny_callSpecial?_none (name := Str.ofString "__bool__") hm.typeIs noBool_dict ?_)))
  first
    | refine wpAny_bind (wpAny_specialOf (name := Str.ofString "__len__") hm.typeIs F.slot_dict_len.lookup ?_)
    | refine wpAny_bind (wpAny_pure (wpAny_bind (wpAny_specialOf (name := Str.ofString "__len__") hm.typeIs F.slot_dict_len.lookup ?_)))
  first
    | exact wpAny_bind (wpAny_mono key (fun r s' h' => by obtain ⟨rfl, hq⟩ := h'; exact wpAny_pure (hne ▸ hq)) fun _ _ e => e)
    | exact wpAny_bind (wpAny_pure (wpAny_bind (wpAny_mono key (fun r s' h' => by obtain ⟨rfl, hq⟩ := h'; exact wpAny_pure (hne ▸ hq)) fun _ _ e => e)))
theorem subTail {value slice : Expr} {o i : Value} {T id : String} {Q : Value → Shared → Prop} (hT : s.TypeIs o T)
    (hl : typeLookup (.type T) "__getitem__" = pure (some (.builtin id))) (h : wpAny (model prog w) A (getItem o i) Q E s)
    (hs : subscripted slice false o i = operate [o, i] (getItem o i)) : wpAny (model prog w) A (subscriptTail value slice o i) Q E s := by
  unfold subscriptTail
  refine wpAny_bind ?_
  rw [getitemInPython_of_ne hT.not_modules]
  refine wpAny_bind (wpAny_specialOf hT hl ?_)
  have fin : wpAny (model prog w) A (subscripted slice false o i) (fun r s₃ => wpAny (model prog w) A (letTemporaryGo value o r >>= fun _ => pure r) Q E s₃) E s := by
    rw [hs]
    exact wpAny_operating (wpAny_mono h (fun r s₃ h₃ => wpAny_bind (wpAny_letTemporaryGo (wpAny_pure h₃))) fun _ _ x => x)
  first
    | exact wpAny_pure (wpAny_bind fin)
    | exact wpAny_bind (wpAny_pure (wpAny_bind fin))
    | exact wpAny_bind fin
end
section
variable {X : Cx} {pins : List (Addr × Obj)} {σ : L2.St} {H : Hp} {s : Shared} {Y Y2 : Addr → Prop} {a : Addr} {ps : List DE} {kvs : List (PyData × PyData)}
theorem paired_len {α β : Type} {F : α → β → Prop} : ∀ {as : List α} {bs : List β}, Paired F as bs → as.length = bs.length
  | _, _, .nil => rfl
  | _, _, .cons _ t => by rw [List.length_cons, List.length_cons, paired_len t]
theorem DView.sizes (D : DView X Y H a ps kvs) (I : L2.Inv X pins σ H s) : ∃ es ep, s.heap.DictRaw a es ep ∧ Paired Ent ps es.toList ∧ es.size = kvs.length ∧ kvs.length ≤ 1000000 ∧ H a = some (DctO a es ep) := by
  obtain ⟨es, ep, e, pe, hr⟩ := D.at'.raw I
  have h1 := paired_len pe
  have h2 := paired_len D.pk
  have h3 := D.at'.len
  exact ⟨es, ep, hr, pe, by rw [← h2, h1, Array.length_toList], by omega, e⟩
theorem d_len {Q : VK} (D : DView X Y H a ps kvs) (I : L2.Inv X pins σ H s) (q : Q (.int kvs.length) H) : wpAny (model X.prog X.w) X.A (call (.builtin "len") [.ref a]) (EP X pins σ Q) X.xe s := by
  obtain ⟨es, ep, hr, _, h1, h2, _⟩ := D.sizes I
  refine call_len_rawd D.at'.sys hr (by omega) ?_
  rw [h1]
  exact ⟨.int _, H, I.tok _, ⟨_, rfl⟩, q⟩
theorem d_truth {Q : Bool → Hp → Prop} (D : DView X Y H a ps kvs) (I : L2.Inv X pins σ H s) (q : Q (!kvs.isEmpty) H) : wpAny (model X.prog X.w) X.A (truthy (.ref a)) (TP X pins σ Q) X.xe s := by
  obtain ⟨es, ep, hr, _, h1, h2, _⟩ := D.sizes I
  refine truthy_rawd D.at'.sys hr (by omega) ?_
  have : (es.size == 0) = kvs.isEmpty := by
    rw [h1]
    cases kvs <;> rfl
  rw [this]
  exact ⟨H, I.tok _, q⟩
theorem d_sub {Q : VK} {v : V} {u : Value} {d c : PyData} {value slice : Expr} (ok : XOk X) (D : DView X Y H a ps kvs) (I : L2.Inv X pins σ H s) (o : Op X.K Y2 H v d) (r : RelV v u) (hk : keysOk (d :: kvs.map (·.1)) = true) (hc : look kvs d = some c) (q : ∀ w, Rp X.K Y H w c → Q w H)
    (hs : subscripted slice false (.ref a) u = operate [.ref a, u] (getItem (.ref a) u)) : wpAny (model X.prog X.w) X.A (subscriptTail value slice (.ref a) u) (EP X pins σ Q) X.xe s := by
  obtain ⟨es, ep, hr, _, h1, h2, _⟩ := D.sizes I
  exact subTail hr.typeIs slot_dict_getitem.lookup (d_item ok D I o r hk hc q) hs
/-! ### stores -/
theorem rx_over {k : NestedKey} {v : V} {r : Value} (rv : RelV v r) : ∀ {ps : List DE} {xs : List (NestedKey × Addr × Value)}, Paired RX ps xs → Paired RX (ps.map (fun p => if p.1 = k then (p.1, p.2.1, v) else p)) (xs.map (putAt k r))
  | _, _, .nil => .nil
  | p :: ps, x :: xs, .cons r1 t => by
    refine .cons ?_ (rx_over rv t)
    unfold putAt
    dsimp only
    by_cases c : p.1 = k
    · rw [if_pos c, if_pos (by rw [← r1.1]; exact c)]; exact ⟨r1.1, r1.2.1, rv⟩
    · rw [if_neg c, if_neg (by rw [← r1.1]; exact c)]; exact r1
theorem rx_put {k : NestedKey} {b : Addr} {v : V} {r : Value} (rv : RelV v r) {ps : List DE} {xs : List (NestedKey × Addr × Value)} (h : Paired RX ps xs) : Paired RX (pput ps k (.ref b) v) (storedH xs k b r) := by
  unfold pput storedH
  rw [(rx_at h).1]
  split
  · exact rx_over rv h
  · exact paired_app h (.cons ⟨rfl, rfl, rv⟩ .nil)
theorem ri_over {k : Int} {v : V} {r : Value} (rv : RelV v r) : ∀ {ps : List DE} {xs : List (Int × Value)}, Paired RI ps xs → Paired RI (ps.map (fun p => if p.1 = .num k then (p.1, p.2.1, v) else p)) (xs.map fun kv => if kv.1 = k then (kv.1, r) else kv)
  | _, _, .nil => .nil
  | p :: ps, x :: xs, .cons r1 t => by
    refine .cons ?_ (ri_over rv t)
    dsimp only
    have e : p.1 = .num k ↔ x.1 = k := by
      rw [r1.1]
      exact ⟨fun z => by injection z, fun z => by rw [z]⟩
    by_cases c : x.1 = k
    · rw [if_pos (e.mpr c), if_pos c]; exact ⟨r1.1, r1.2.1, rv⟩
    · rw [if_neg (fun z => c (e.mp z)), if_neg c]; exact r1
theorem ri_any {k : Int} : ∀ {ps : List DE} {xs : List (Int × Value)}, Paired RI ps xs → (xs.any fun kv => decide (kv.1 = k)) = (pfind ps (.num k)).isSome
  | _, _, .nil => rfl
  | p :: ps, x :: xs, .cons r1 t => by
    have ih := ri_any (k := k) t
    rw [List.any_cons, ih]
    unfold pfind
    rw [List.find?_cons, r1.1]
    have hd : decide (NestedKey.num x.1 = .num k) = decide (x.1 = k) := by
      by_cases c : x.1 = k
      · rw [decide_eq_true c, c]; simp
      · rw [decide_eq_false c]; exact decide_eq_false fun z => c (by injection z)
    rw [hd]
    cases decide (x.1 = k) <;> rfl
theorem ri_put {k : Int} {v : V} {r : Value} (rv : RelV v r) {ps : List DE} {xs : List (Int × Value)} (h : Paired RI ps xs) : Paired RI (pput ps (.num k) (.int k) v) (stored xs k r) := by
  unfold pput stored
  rw [ri_any h]
  split
  · exact ri_over rv h
  · exact paired_app h (.cons ⟨rfl, rfl, rv⟩ .nil)
theorem ent_rx {P : Program} {w : World} : ∀ {ps : List DE} {xs : List (NestedKey × Addr × Value)}, Paired RX ps xs → (∀ p ∈ ps, ∃ d, nkOf d = some p.1) → Paired Ent ps (xs.map (entryOfKey (nestedKind P w)))
  | _, _, .nil, _ => .nil
  | p :: ps, x :: xs, .cons r1 t, h => by
    refine .cons ⟨fun w' => ?_, ?_, r1.2.2⟩ (ent_rx t fun p hp => h p (List.mem_cons_of_mem _ hp))
    · obtain ⟨d, e⟩ := h p (List.mem_cons_self ..)
      show x.1.hash w = _
      rw [← r1.1]
      exact key_free e w w'
    · rw [r1.2.1]; exact rfl
theorem ent_ri {P : Program} {w : World} : ∀ {es : List DictEntry} {ps : List DE} {xs : List (Int × Value)}, Paired RI ps xs → Pairs (PySem.intKind P w) es xs → (∀ e ∈ es, ∃ k, (PySem.intKind P w).is k e.key = true ∧ e.hash = (PySem.intKind P w).hash k) → Paired Ent ps es
  | _, _, _, .nil, .nil, _ => .nil
  | e :: es, p :: ps, x :: xs, .cons r1 t, .cons h1 h2 t2, h => by
    refine .cons ⟨fun w' => ?_, ?_, ?_⟩ (ent_ri t t2 fun p hp => h p (List.mem_cons_of_mem _ hp))
    · obtain ⟨k, e1, e2⟩ := h e (List.mem_cons_self ..)
      have := (PySem.intKind P w).inj _ _ _ e1 h1
      rw [e2, this, r1.1]
      rfl
    · rw [r1.2.1]
      obtain ⟨tk, z⟩ := Value.isInt_shape (show Value.isInt x.1 e.key = true from h1)
      exact ⟨tk, z⟩
    · rw [h2]; exact r1.2.2
theorem keys_src {ps : List DE} {kds : List PyData} (h : kds.map nkOf = ps.map fun p => some p.1) : ∀ p ∈ ps, ∃ d, nkOf d = some p.1 := fun p hp => by
  have : some p.1 ∈ kds.map nkOf := by rw [h]; exact List.mem_map.mpr ⟨p, hp, rfl⟩
  obtain ⟨d, _, e⟩ := List.mem_map.mp this
  exact ⟨d, e⟩
/-- the description after a store -/
theorem dct_ok {P : Program} {w : World} {H' : Hp} {h' : Heap} {es : Array DictEntry} {ep : Nat} (r : h'.DictRaw a es ep) : ObjOk P w H' h' a (DctO a es ep) :=
  ⟨r, let ⟨o, e, _⟩ := r; ⟨o, e⟩, fun h1 h2 x k => x.at k⟩
theorem d_store {Q : Unit → Shared → Prop} {vk v : V} {u r : Value} {kd vd : PyData} (ok : XOk X) (D : DView X Y H a ps kvs) (I : L2.Inv X pins σ H s) (o : Rp X.K Y H vk kd) (rk : RelV vk u) (ov : Rp X.K Y H v vd) (rv : RelV v r)
    (hk : keysOk (kd :: kvs.map (·.1)) = true) (hl : kvs.length < 1000000) (hY : Y a) (h : ∀ ho ps' s', L2.Inv X pins σ (upd H a ho) s' → DView X Y (upd H a ho) a ps' (store kvs kd vd) → Q () s') :
    wpAny (model X.prog X.w) X.A (setItem (.ref a) u r) Q X.xe s := by
  obtain ⟨es0, ep0, _, _, _, h2, eH⟩ := D.sizes I
  have lp := paired_len D.pk
  have fin : ∀ (k : NestedKey) (h' : Heap) (es : Array DictEntry) (ep tk : Nat), nkOf kd = some k → h'.DictRaw a es ep → Heap.SameBut a s.heap h' → ((∀ p ∈ pput ps k vk v, ∃ d, nkOf d = some p.1) → Paired Ent (pput ps k vk v) es.toList) → Q () { s with heap := h', toks := tk } := by
    intro k h' es ep tk ek raw hs pe
    have K0 : Keeps (fun b => b = a) H (upd H a (DctO a es ep)) := Keeps.put rfl
    have K1 : Keeps Y H (upd H a (DctO a es ep)) := K0.mono fun b z => by rw [z]; exact hY
    have pk := pk_store (x := vk) ek o ov D.pk
    obtain ⟨b1, b2, b3⟩ := pkv_back pk
    refine h _ (pput ps k vk v) _ (d_write I (by rw [eH]; exact True.intro) hs (let ⟨q, e, _⟩ := raw; ⟨q, e⟩) (dct_ok raw)) ⟨⟨⟨es, ep, upd_same, pe (keys_src b1)⟩, b1, pput_nodup D.at'.nd, D.at'.sys, ?_⟩, b2.move K1 fun _ z => z, b3.move K1 fun _ z => z⟩
    have := pput_len ps k vk v
    omega
  have hsl : kvs.length ≤ sizeLine := by rw [sizeLine_eq]; omega
  rcases keysOk_cases hk with hh | hh
  · obtain ⟨i, rfl, rfl, hi⟩ := (Op.rp o).intKey rk (hh _ (List.mem_cons_self ..))
    obtain ⟨xs, dv, rx⟩ := D.viewI I fun d hd => hh d (List.mem_cons_of_mem _ hd)
    refine wpAny_setItem_pairs (hsz := by rw [← paired_len rx, lp]; exact hsl) hi dv fun h' dv' hs => ?_
    obtain ⟨ob, es, ep, e1, e2, e3, e4, e5, e6⟩ := dv'
    exact fin (.num i) h' es ep _ (by rw [nkOf]) ⟨ob, e1, e2, e3⟩ hs fun _ => ent_ri (ri_put rv rx) e5 fun e he => e4 e (Array.mem_toList_iff.mp he)
  · obtain ⟨k, b, ek, rfl, rfl, hi⟩ := (Op.rp o).tupKey I rk (hh _ (List.mem_cons_self ..))
    obtain ⟨xs, dv, rx⟩ := D.viewT I fun d hd => hh d (List.mem_cons_of_mem _ hd)
    refine wpAny_setItem_heap (hsz := by rw [← paired_len rx, lp]; exact hsl) (room8 ok) hi dv fun h' dv' hs => ?_
    obtain ⟨ob, es, ep, e1, e2, e3, e4, e5, e6⟩ := dv'
    refine fin k h' es ep _ ek ⟨ob, e1, e2, e3⟩ hs fun src => ?_
    rw [e4]
    exact ent_rx (rx_put rv rx) src
end
end PL

set_option autoImplicit false
set_option linter.all false
set_option Elab.async false
set_option maxRecDepth 100000
set_option maxHeartbeats 1000000
/-! PL4: comparisons, truth, items, slices. -/
namespace PL
open PySem PySem.Spec PyProof.Rows L2
def boolR (o : Option Bool) : Option Res := o.map fun b => .val (.bool b)
theorem boolR_some {o : Option Bool} {r : Res} (h : boolR o = some r) : ∃ b, o = some b ∧ r = .val (.bool b) := by
  cases o with
  | none => cases h
  | some b => exact ⟨b, rfl, (Option.some.inj h).symm⟩
theorem deep_ok {d : PyData} (h : deepOk d = true) : d.plain = true ∧ d.depth ≤ 30 := by
  unfold deepOk at h
  rw [Bool.and_eq_true] at h
  exact ⟨h.1, of_decide_eq_true h.2⟩
theorem deeps_ok {d : List PyData} (h : deepOks d = true) : PyData.plainAll d = true ∧ PyData.depthAll d ≤ 30 := by
  unfold deepOks at h
  rw [Bool.and_eq_true] at h
  exact ⟨h.1, of_decide_eq_true h.2⟩
section
variable {X : Cx} {pins : List (Addr × Obj)} {σ : L2.St} {H : Hp} {s : Shared} {Y : Addr → Prop}
mutual
theorem Rp.reads (I : L2.Inv X pins σ H s) : ∀ {v : V} {d : PyData}, Rp X.K Y H v d → ∀ {u : Value}, RelV v u → ∃ as, Reads s.heap u d as
  | _, _, .non, _, r => by cases r; exact ⟨_, .none⟩
  | _, _, .bl b, _, r => by cases r; exact ⟨_, .bool b⟩
  | _, _, .int i, _, r => by obtain ⟨t, rfl⟩ := r; exact ⟨_, .int i t⟩
  | _, _, .str x, _, r => by obtain ⟨t, rfl⟩ := r; exact ⟨_, .str x t⟩
  | _, _, .tup n rd ra, _, r => by
    cases r
    obtain ⟨its, rv, ⟨o, ho, hc, n, hd⟩, _⟩ := I.tuple (.inl rd)
    obtain ⟨as, hr⟩ := ra.readsAll I rv
    exact ⟨_, .tuple ho hc hd hr⟩
  | _, _, .tupK rd ra, _, r => by
    cases r
    obtain ⟨its, rv, ⟨o, ho, hc, n, hd⟩, _⟩ := I.tuple rd.sq
    obtain ⟨as, hr⟩ := ra.readsAll I rv
    exact ⟨_, .tuple ho hc hd hr⟩
  | _, _, .lst n rd ra, _, r => by
    cases r
    obtain ⟨its, rv, ⟨o, n, ho, hc, _, hd⟩, _⟩ := I.list (.inl rd)
    obtain ⟨as, hr⟩ := ra.readsAll I rv
    exact ⟨_, .list ho hc hd hr⟩
  | _, _, .dct n rd ra rb, _, r => by
    cases r
    obtain ⟨es, ep, e, pe, o, ho, hc, hd⟩ := rd.raw I
    obtain ⟨k1, k2⟩ := ent_keys pe
    obtain ⟨as, hr⟩ := ra.readsAll I k1
    obtain ⟨bs, hr2⟩ := rb.readsAll I k2
    exact ⟨_, .dict ho hc.1 hd hr hr2⟩
theorem RpA.readsAll (I : L2.Inv X pins σ H s) : ∀ {vs : List V} {ds : List PyData}, RpA X.K Y H vs ds → ∀ {us : List Value}, Vals vs us → ∃ as, ReadsAll s.heap us ds as
  | _, _, .nil, _, r => by cases r; exact ⟨_, .nil⟩
  | _, _, .cons a b, _, r => by
    cases r with
    | cons r1 r2 =>
      obtain ⟨as, q1⟩ := a.reads I r1
      obtain ⟨bs, q2⟩ := b.readsAll I r2
      exact ⟨_, .cons q1 q2⟩
end
theorem Op.reads {v : V} {u : Value} {d : PyData} (o : Op X.K Y H v d) (I : L2.Inv X pins σ H s) (r : RelV v u) : ∃ as, Reads s.heap u d as := o.asRp.reads I r
theorem fin_b {Q : VK} {k : Bool} (I : L2.Inv X pins σ H s) (q : ∀ v H', New X.K Y H H' v (.val (.bool k)) → Q v H') : EP X pins σ Q (.bool k) s := ⟨.bl k, H, I, rfl, q _ _ (new_bl k)⟩
/-- a comparison's rule -/
def CmpOk (X : Cx) (op : CmpOp) : Prop := OpR X (compareOp op) (rOp2 X.K fun d e => boolR (cmpD op d e))
theorem op_cmp_eq (ok : XOk X) : CmpOk X .Eq := by
  rintro pins s σ H x y v u Q I rx ry ⟨Y, d, e, r, t, hx, hy, hg, q⟩
  obtain ⟨b, hb, rfl⟩ := boolR_some hg
  obtain ⟨hz, rfl⟩ := ite_some hb
  rw [Bool.and_eq_true] at hz
  have h1 := deep_ok hz.1
  have h2 := deep_ok hz.2
  obtain ⟨as, r1⟩ := hx.reads I rx
  obtain ⟨bs, r2⟩ := hy.reads I ry
  exact SeqAt.eq_plain r1 r2 h1.1 h2.1 (by have := ok.un; omega) (fin_b I q)
theorem op_cmp_ne (ok : XOk X) : CmpOk X .NotEq := by
  rintro pins s σ H x y v u Q I rx ry ⟨Y, d, e, r, t, hx, hy, hg, q⟩
  obtain ⟨b, hb, rfl⟩ := boolR_some hg
  obtain ⟨hz, rfl⟩ := ite_some hb
  rw [Bool.and_eq_true] at hz
  have h1 := deep_ok hz.1
  have h2 := deep_ok hz.2
  obtain ⟨as, r1⟩ := hx.reads I rx
  obtain ⟨bs, r2⟩ := hy.reads I ry
  exact SeqAt.ne_plain r1 r2 h1.1 h2.1 (by have := ok.un; omega) (fin_b I q)
theorem ord_ok {d e : PyData} (h : ordOk d e = true) : W.alike d e = true ∧ d.depth ≤ 30 ∧ e.depth ≤ 30 ∧ d ≠ .none := by
  unfold ordOk at h
  rw [Bool.and_eq_true, Bool.and_eq_true, Bool.and_eq_true] at h
  refine ⟨h.1.1.1, (deep_ok h.1.1.2).2, (deep_ok h.1.2).2, fun z => ?_⟩
  have := h.2
  rw [z] at this
  cases this
theorem op_cmp_lt (ok : XOk X) : CmpOk X .Lt := by
  rintro pins s σ H x y v u Q I rx ry ⟨Y, d, e, r, t, hx, hy, hg, q⟩
  obtain ⟨b, hb, rfl⟩ := boolR_some hg
  obtain ⟨hz, rfl⟩ := ite_some hb
  obtain ⟨h1, h2, h3, h4⟩ := ord_ok hz
  obtain ⟨as, r1⟩ := hx.reads I rx
  obtain ⟨bs, r2⟩ := hy.reads I ry
  exact W.lt_data r1 r2 h1 h4 (by have := ok.un; omega) (fin_b I q)
theorem op_cmp_gt (ok : XOk X) : CmpOk X .Gt := by
  rintro pins s σ H x y v u Q I rx ry ⟨Y, d, e, r, t, hx, hy, hg, q⟩
  obtain ⟨b, hb, rfl⟩ := boolR_some hg
  obtain ⟨hz, rfl⟩ := ite_some hb
  obtain ⟨h1, h2, h3, h4⟩ := ord_ok hz
  obtain ⟨as, r1⟩ := hx.reads I rx
  obtain ⟨bs, r2⟩ := hy.reads I ry
  exact W.gt_data r1 r2 h1 h4 (by have := ok.un; omega) (fin_b I q)
theorem op_cmp_le (ok : XOk X) : CmpOk X .LtE := by
  rintro pins s σ H x y v u Q I rx ry ⟨Y, d, e, r, t, hx, hy, hg, q⟩
  obtain ⟨b, hb, rfl⟩ := boolR_some hg
  obtain ⟨hz, rfl⟩ := ite_some hb
  obtain ⟨h1, h2, h3, h4⟩ := ord_ok hz
  obtain ⟨as, r1⟩ := hx.reads I rx
  obtain ⟨bs, r2⟩ := hy.reads I ry
  exact W.le_data r1 r2 h1 h4 (by have := ok.un; omega) (fin_b I q)
theorem op_cmp_ge (ok : XOk X) : CmpOk X .GtE := by
  rintro pins s σ H x y v u Q I rx ry ⟨Y, d, e, r, t, hx, hy, hg, q⟩
  obtain ⟨b, hb, rfl⟩ := boolR_some hg
  obtain ⟨hz, rfl⟩ := ite_some hb
  obtain ⟨h1, h2, h3, h4⟩ := ord_ok hz
  obtain ⟨as, r1⟩ := hx.reads I rx
  obtain ⟨bs, r2⟩ := hy.reads I ry
  exact W.ge_data r1 r2 h1 h4 (by have := ok.un; omega) (fin_b I q)
theorem op_cmp_in (ok : XOk X) : CmpOk X .In := by
  rintro pins s σ H x y v u Q I rx ry ⟨Y, d, e, r, t, hx, hy, hg, q⟩
  obtain ⟨b, hb, rfl⟩ := boolR_some hg
  have hun := ok.un
  cases e with
  | list ys =>
    obtain ⟨hz, rfl⟩ := ite_some (show (if (deepOk d && deepOks ys) = true then _ else none) = some b from hb)
    rw [Bool.and_eq_true] at hz
    have h1 := deep_ok hz.1
    have h2 := deeps_ok hz.2
    obtain ⟨as, r1⟩ := hx.reads I rx
    obtain ⟨bs, r2⟩ := hy.reads I ry
    exact SeqAt.in_list_data r2 r1 h2.1 h1.1 (by omega) (fin_b I q)
  | tuple ys =>
    obtain ⟨hz, rfl⟩ := ite_some (show (if (deepOk d && deepOks ys) = true then _ else none) = some b from hb)
    rw [Bool.and_eq_true] at hz
    have h1 := deep_ok hz.1
    have h2 := deeps_ok hz.2
    obtain ⟨as, r1⟩ := hx.reads I rx
    obtain ⟨bs, r2⟩ := hy.reads I ry
    exact SeqAt.in_tuple_data r2 r1 h2.1 h1.1 (by omega) (fin_b I q)
  | str z =>
    cases d with
    | str w =>
      cases hb
      rw [hx.str] at rx
      rw [hy.str] at ry
      exact op_in_str pins s σ H _ _ v u Q I rx ry ⟨w, z, rfl, rfl, q _ _ (new_bl _)⟩
    | _ => cases hb
  | dict kvs =>
    obtain ⟨hz, rfl⟩ := ite_some (show (if keysOk (d :: kvs.map (·.1)) = true then _ else none) = some b from hb)
    obtain ⟨a, ps, rfl, D⟩ := hy.view
    cases ry
    exact d_in ok D I hx rx hz (q _ _ (new_bl _))
  | _ => cases hb
theorem op_cmp_notIn (ok : XOk X) : CmpOk X .NotIn := by
  rintro pins s σ H x y v u Q I rx ry ⟨Y, d, e, r, t, hx, hy, hg, q⟩
  obtain ⟨b, hb, rfl⟩ := boolR_some hg
  have hun := ok.un
  obtain ⟨b', hc, rfl⟩ : ∃ b', inD d e = some b' ∧ b = !b' := by
    have hb : (inD d e).map (!·) = some b := hb
    cases h : inD d e with
    | none => rw [h] at hb; cases hb
    | some b' => rw [h] at hb; exact ⟨b', rfl, (Option.some.inj hb).symm⟩
  cases e with
  | list ys =>
    obtain ⟨hz, rfl⟩ := ite_some (show (if (deepOk d && deepOks ys) = true then _ else none) = some b' from hc)
    rw [Bool.and_eq_true] at hz
    have h1 := deep_ok hz.1
    have h2 := deeps_ok hz.2
    obtain ⟨as, r1⟩ := hx.reads I rx
    obtain ⟨bs, r2⟩ := hy.reads I ry
    exact SeqAt.notIn_list_data r2 r1 h2.1 h1.1 (by omega) (fin_b I q)
  | tuple ys =>
    obtain ⟨hz, rfl⟩ := ite_some (show (if (deepOk d && deepOks ys) = true then _ else none) = some b' from hc)
    rw [Bool.and_eq_true] at hz
    have h1 := deep_ok hz.1
    have h2 := deeps_ok hz.2
    obtain ⟨as, r1⟩ := hx.reads I rx
    obtain ⟨bs, r2⟩ := hy.reads I ry
    exact SeqAt.notIn_tuple_data r2 r1 h2.1 h1.1 (by omega) (fin_b I q)
  | str z =>
    cases d with
    | str w =>
      cases hc
      rw [hx.str] at rx
      rw [hy.str] at ry
      exact L2.op_notin_str pins s σ H _ _ v u Q I rx ry ⟨w, z, rfl, rfl, q _ _ (new_bl _)⟩
    | _ => cases hc
  | dict kvs =>
    obtain ⟨hz, rfl⟩ := ite_some (show (if keysOk (d :: kvs.map (·.1)) = true then _ else none) = some b' from hc)
    obtain ⟨a, ps, rfl, D⟩ := hy.view
    cases ry
    exact d_notIn ok D I hx rx hz (q _ _ (new_bl _))
  | _ => cases hc
theorem op_cmp_is (ok : XOk X) : CmpOk X .Is := by
  rintro pins s σ H x y v u Q I rx ry ⟨Y, d, e, r, t, hx, hy, hg, q⟩
  obtain ⟨b, hb, rfl⟩ := boolR_some hg
  cases e with
  | none =>
    refine op_isN pins s σ H x y v u Q I rx ry ⟨hy.non, ?_⟩
    have : decide (x = V.non) = b := by
      cases d with
      | none => rw [hx.non]; cases hb; rfl
      | bool i => rw [hx.bl]; cases hb; rfl
      | int i => rw [hx.int]; cases hb; rfl
      | str i => rw [hx.str]; cases hb; rfl
      | list i => obtain ⟨a, xs, e, _⟩ := hx.list; rw [e]; cases hb; rfl
      | tuple i => obtain ⟨a, xs, e, _⟩ := hx.tuple; rw [e]; cases hb; rfl
      | dict i => obtain ⟨a, ps, e, _⟩ := hx.view; rw [e]; cases hb; rfl
    rw [this]
    exact q _ _ (new_bl b)
  | bool j =>
    cases d with
    | bool i =>
      cases hb
      refine op_is_bl pins s σ H x y v u Q I rx ry ⟨i, j, hx.bl, hy.bl, ?_⟩
      rw [← Bool.beq_eq_decide_eq]
      exact q _ _ (new_bl _)
    | _ => cases hb
  | _ => cases d <;> cases hb
theorem op_cmp_isNot (ok : XOk X) : CmpOk X .IsNot := by
  rintro pins s σ H x y v u Q I rx ry ⟨Y, d, e, r, t, hx, hy, hg, q⟩
  obtain ⟨b, hb, rfl⟩ := boolR_some hg
  obtain ⟨b', hc, rfl⟩ : ∃ b', isD d e = some b' ∧ b = !b' := by
    have hb : (isD d e).map (!·) = some b := hb
    cases h : isD d e with
    | none => rw [h] at hb; cases hb
    | some b' => rw [h] at hb; exact ⟨b', rfl, (Option.some.inj hb).symm⟩
  cases e with
  | none =>
    refine op_notN pins s σ H x y v u Q I rx ry ⟨hy.non, ?_⟩
    have : decide (x = V.non) = b' := by
      cases d with
      | none => rw [hx.non]; cases hc; rfl
      | bool i => rw [hx.bl]; cases hc; rfl
      | int i => rw [hx.int]; cases hc; rfl
      | str i => rw [hx.str]; cases hc; rfl
      | list i => obtain ⟨a, xs, e, _⟩ := hx.list; rw [e]; cases hc; rfl
      | tuple i => obtain ⟨a, xs, e, _⟩ := hx.tuple; rw [e]; cases hc; rfl
      | dict i => obtain ⟨a, ps, e, _⟩ := hx.view; rw [e]; cases hc; rfl
    rw [this]
    exact q _ _ (new_bl _)
  | bool j =>
    cases d with
    | bool i =>
      cases hc
      refine op_isnot_bl pins s σ H x y v u Q I rx ry ⟨i, j, hx.bl, hy.bl, ?_⟩
      rw [← Bool.beq_eq_decide_eq]
      exact q _ _ (new_bl _)
    | _ => cases hc
  | _ => cases d <;> cases hc
theorem op_cmp (ok : XOk X) (op : CmpOp) : CmpOk X op := by
  cases op with
  | Eq => exact op_cmp_eq ok
  | NotEq => exact op_cmp_ne ok
  | Lt => exact op_cmp_lt ok
  | LtE => exact op_cmp_le ok
  | Gt => exact op_cmp_gt ok
  | GtE => exact op_cmp_ge ok
  | Is => exact op_cmp_is ok
  | IsNot => exact op_cmp_isNot ok
  | In => exact op_cmp_in ok
  | NotIn => exact op_cmp_notIn ok
theorem op_bin (ok : XOk X) (op : Operator) : OpR X (binaryOp op) (rOp2 X.K (binD op)) := by
  cases op with
  | Add => exact op_bin_add ok
  | Sub => exact op_bin_sub ok
  | Mult => exact op_bin_mul ok
  | Mod => exact op_bin_mod ok
  | FloorDiv => exact op_bin_fdiv ok
  | Pow => exact op_bin_pow ok
  | LShift => exact op_bin_shl ok
  | _ =>
    rintro pins s σ H x y v u Q I rx ry ⟨Y, d, e, r, t, hx, hy, hg, q⟩
    cases d <;> cases e <;> cases hg

/-! ### truth -/
def rTr (K : PySem.W.Frag) : V → Hp → (Bool → Hp → Prop) → Prop := fun x H Q => ∃ Y d b, Trk Y H ∧ Op K Y H x d ∧ truthD d = some b ∧ Q b H
theorem tru_v {K : PySem.W.Frag} {x : V} {d : PyData} {b : Bool} (hn : ∀ kvs, d ≠ .dict kvs) (hx : Op K Y H x d) (hb : truthD d = some b) : TruV K x H b := by
  cases d with
  | none => rw [hx.non]; cases hb; exact (rfl : false = false)
  | bool i => rw [hx.bl]; cases hb; exact (rfl : i = i)
  | int i => rw [hx.int]; cases hb; exact (rfl : (i != 0) = _)
  | str i =>
    rw [hx.str]
    obtain ⟨hz, rfl⟩ := ite_some (show (if szOk i.length = true then _ else none) = some b from hb)
    exact ⟨szOk_le hz, rfl⟩
  | list i =>
    obtain ⟨a, xs, e, h, r⟩ := hx.list
    rw [e]
    cases hb
    exact .inl ⟨xs, h, by cases r <;> rfl⟩
  | tuple i =>
    obtain ⟨a, xs, e, h, r⟩ := hx.tuple
    rw [e]
    cases hb
    exact .inr (.inl ⟨xs, h, by cases r <;> rfl⟩)
  | dict i => exact absurd rfl (hn i)
theorem tru_op (ok : XOk X) : TruR X (rTr X.K) := by
  rintro pins s σ H x v Q I rx ⟨Y, d, b, t, hx, hb, q⟩
  cases d with
  | dict kvs =>
    obtain ⟨a, ps, rfl, D⟩ := hx.view
    cases rx
    cases hb
    exact d_truth D I q
  | _ => exact tru_ok pins s σ H x v Q I rx ⟨b, tru_v (by intro _ z; cases z) hx hb, q⟩

/-! ### a[i], a[lo:hi] -/
def valR (o : Option PyData) : Option Res := o.map .val
theorem ix_eq (n : Nat) (i : Int) : ixD n i = ixN n i := rfl
theorem ix_at {K : PySem.W.Frag} {xs : List V} {ds : List PyData} {i : Int} {d : PyData} (r : RpA K Y H xs ds) (h : ((ixD ds.length i).bind fun j => ds[j]?) = some d) : ∃ v, atI xs i = some v ∧ Rp K Y H v d := by
  unfold atI
  rw [← ix_eq, r.length]
  cases e : ixD ds.length i with
  | none => rw [e] at h; cases h
  | some j =>
    rw [e] at h
    obtain ⟨v, e1, rr⟩ := r.get (show ds[j]? = some d from h)
    exact ⟨v, e1, rr⟩
theorem ix_op (ok : XOk X) : IxR X (rOp2 X.K fun d e => valR (idxD d e)) := by
  rintro value slice pins s σ H x y v u Q I rx ry ⟨Y, d, e, r, t, hx, hy, hg, q⟩ hs
  have hg : valR (idxD d e) = some r := hg
  obtain ⟨c, hc, rfl⟩ : ∃ c, idxD d e = some c ∧ r = .val c := by
    cases h : idxD d e with
    | none => rw [h] at hg; cases hg
    | some c => rw [h] at hg; exact ⟨c, rfl, (Option.some.inj hg).symm⟩
  by_cases isd : ∃ kvs, d = .dict kvs
  · obtain ⟨kvs, rfl⟩ := isd
    obtain ⟨a, ps, rfl, D⟩ := hx.view
    have hc : (if keysOk (e :: kvs.map (·.1)) = true then look kvs e else none) = some c := hc
    split at hc
    · rename_i hk
      cases rx
      exact d_sub ok D I hy ry hk hc (fun w r => q _ _ (new_keep (r.move Keeps.refl fun _ z => z))) hs
    · cases hc
  refine ix_seq value slice pins s σ H x y v u Q I rx ry ?_ hs
  cases d with
  | list ds =>
    cases e with
    | int i =>
      obtain ⟨a, xs, e1, h, rr⟩ := hx.list
      obtain ⟨w, e2, r2⟩ := ix_at rr hc
      exact .inl ⟨a, xs, i, w, e1, hy.int, h, e2, q _ _ (new_keep r2)⟩
    | _ => cases hc
  | tuple ds =>
    cases e with
    | int i =>
      obtain ⟨a, xs, e1, h, rr⟩ := hx.tuple
      obtain ⟨w, e2, r2⟩ := ix_at rr hc
      exact .inr (.inl ⟨a, xs, i, w, e1, hy.int, h, e2, q _ _ (new_keep r2)⟩)
    | _ => cases hc
  | str z =>
    cases e with
    | int i =>
      obtain ⟨hz, hc⟩ : szOk z.length = true ∧ ((ixD z.length i).bind fun j => (z.cps[j]?).map fun c => PyData.str ⟨#[c]⟩) = some c := by
        have hc : (if szOk z.length = true then ((ixD z.length i).bind fun j => (z.cps[j]?).map fun c => PyData.str ⟨#[c]⟩) else none) = some c := hc
        split at hc
        · rename_i h; exact ⟨h, hc⟩
        · cases hc
      obtain ⟨w, e2, rfl⟩ : ∃ w, atI z.cps.toList i = some w ∧ c = PyData.str ⟨#[w]⟩ := by
        unfold atI
        rw [← ix_eq]
        have hl : z.cps.toList.length = z.length := by simp [Str.length]
        rw [hl]
        cases e3 : ixD z.length i with
        | none => rw [e3] at hc; cases hc
        | some j =>
          rw [e3] at hc
          have hc : (z.cps[j]?).map (fun c => PyData.str ⟨#[c]⟩) = some c := hc
          cases e4 : z.cps[j]? with
          | none => rw [e4] at hc; cases hc
          | some w =>
            rw [e4] at hc
            exact ⟨w, by simpa using e4, (Option.some.inj hc).symm⟩
      exact .inr (.inr ⟨z, i, w, hx.str, hy.int, szOk_le hz, e2, q _ _ (new_str _)⟩)
    | _ => cases hc
  | dict ds => exact absurd ⟨ds, rfl⟩ isd
  | _ => cases e <;> cases hc
theorem bnd_eq (n d : Nat) (o : Option Int) : bnd n d o = HT.sIx n d o := by
  cases o with
  | none => rfl
  | some v => rfl
theorem RpA.cut {K : PySem.W.Frag} {xs : List V} {ds : List PyData} (r : RpA K Y H xs ds) (lo hi : Option Int) : RpA K Y H (cutV xs lo hi) (cut ds lo hi) := by
  unfold cutV PL.cut
  rw [bnd_eq, bnd_eq, r.length]
  exact (r.drop _).take _
/-- a[lo:hi], by values -/
def rSl (K : PySem.W.Frag) : V → Option Int → Option Int → Hp → VK → Prop := fun x lo hi H Q => ∃ Y d r, Trk Y H ∧ Op K Y H x d ∧ sliD d lo hi = some r ∧ ∀ v H', New K Y H H' v r → Q v H'
theorem sl_op (ok : XOk X) : SlR X (rSl X.K) := by
  rintro pins s σ H x v vl vu lo hi sl Q I rx hs pl pu ⟨Y, d, r, t, hx, hg, q⟩
  cases d with
  | list ds =>
    cases hg
    obtain ⟨a, xs, e, h, rr⟩ := hx.list
    exact sl_list pins s σ H x v vl vu lo hi sl Q I rx hs pl pu ⟨a, xs, e, h, fun p hp => q _ _ (new_lst hp (rr.cut lo hi))⟩
  | tuple ds =>
    cases hg
    obtain ⟨a, xs, e, h, rr⟩ := hx.tuple
    refine sl_tupA pins s σ H x v vl vu lo hi sl Q I rx hs pl pu ⟨a, xs, e, h, fun z => ?_, fun _ p hp => q _ _ (new_tup t hp (rr.cut lo hi))⟩
    have : PL.cut ds lo hi = ds := by
      unfold PL.cut
      rw [bnd_eq, bnd_eq, ← rr.length, z.1, z.2, List.drop_zero, Nat.sub_zero, rr.length, List.take_length]
    rw [this] at q
    exact q _ _ (new_keep (by rw [← e]; exact hx.tupRp))
  | str z =>
    obtain ⟨hz, rfl⟩ := ite_some (show (if szOk z.length = true then _ else none) = some r from hg)
    have : (⟨(PL.cut z.cps.toList lo hi).toArray⟩ : Str) = cutS z lo hi := by
      unfold PL.cut cutS
      first | rfl | (rw [bnd_eq, bnd_eq]; rfl) | skip
    rw [this] at q
    exact sl_str pins s σ H x v vl vu lo hi sl Q I rx hs pl pu ⟨z, hx.str, szOk_le hz, q _ _ (new_str _)⟩
  | _ => cases hg
end
end PL

set_option autoImplicit false
set_option linter.all false
set_option Elab.async false
set_option maxRecDepth 100000
set_option maxHeartbeats 1000000
/-! PL5: built-ins, by values. -/
namespace PL
open PySem PySem.Spec PyProof.Rows L2
section
variable {X : Cx} {pins : List (Addr × Obj)} {σ : L2.St} {H : Hp} {s : Shared} {Y : Addr → Prop}
theorem OpA.one {vs : List V} {d : PyData} (o : OpA X.K Y H vs [d]) : ∃ v, vs = [v] ∧ Op X.K Y H v d := by
  cases o with
  | cons a b => cases b; exact ⟨_, rfl, a⟩
theorem OpA.two {vs : List V} {d e : PyData} (o : OpA X.K Y H vs [d, e]) : ∃ v w, vs = [v, w] ∧ Op X.K Y H v d ∧ Op X.K Y H w e := by
  cases o with
  | cons a b => obtain ⟨w, rfl, r⟩ := b.one; exact ⟨_, w, rfl, a, r⟩
theorem OpA.three {vs : List V} {d e f : PyData} (o : OpA X.K Y H vs [d, e, f]) : ∃ v w z, vs = [v, w, z] ∧ Op X.K Y H v d ∧ Op X.K Y H w e ∧ Op X.K Y H z f := by
  cases o with
  | cons a b => obtain ⟨w, z, rfl, r, t⟩ := b.two; exact ⟨_, w, z, rfl, a, r, t⟩
/-- a list or tuple that is looked at -/
theorem op_seq {v : V} {u : Value} {d : PyData} {ds : List PyData} (o : Op X.K Y H v d) (hs : seq? d = some ds) (I : L2.Inv X pins σ H s) (r : RelV v u) :
    ∃ a xs its, v = .ref a ∧ u = .ref a ∧ RpA X.K Y H xs ds ∧ Vals xs its ∧ xs.length ≤ sizeLine ∧ (∃ as, ReadsAll s.heap its ds as) ∧ (s.heap.IsList a its.toArray ∨ s.heap.IsTuple a its.toArray) ∧ (d = .list ds → s.heap.IsList a its.toArray) ∧ (d = .tuple ds → s.heap.IsTuple a its.toArray) := by
  cases d with
  | list es =>
    cases hs
    obtain ⟨a, xs, rfl, h, rr⟩ := o.list
    cases r
    obtain ⟨its, rv, pl, z⟩ := I.list h
    exact ⟨a, xs, its, rfl, rfl, rr, rv, z, rr.readsAll I rv, .inl pl.isList, (fun _ => pl.isList), (fun q => nomatch q)⟩
  | tuple es =>
    cases hs
    obtain ⟨a, xs, rfl, h, rr⟩ := o.tuple
    cases r
    obtain ⟨its, rv, pl, z⟩ := I.tuple h
    exact ⟨a, xs, its, rfl, rfl, rr, rv, z, rr.readsAll I rv, .inr pl, (fun q => nomatch q), (fun _ => pl)⟩
  | _ => cases hs
theorem one_some {f : PyData → Option Res} {ds : List PyData} {r : Res} (h : one f ds = some r) : ∃ x, ds = [x] ∧ f x = some r := by
  match ds, h with
  | [x], h => exact ⟨x, rfl, h⟩
  | [], h => cases h
  | _ :: _ :: _, h => cases h
theorem ovS_some {f : List PyData → Option Res} {d : PyData} {r : Res} (h : ovS f d = some r) : ∃ xs, seq? d = some xs ∧ f xs = some r := by
  unfold ovS at h
  cases e : seq? d with
  | none => rw [e] at h; cases h
  | some xs => rw [e] at h; exact ⟨xs, rfl, h⟩
theorem bi_len (ok : XOk X) : CallR X (.builtin "len") (rCl X.K (biD .len)) := by
  rintro pins s σ H xs us Q I rv ⟨Y, ds, r, t, ho, hg, q⟩
  obtain ⟨d, rfl, hg⟩ := one_some hg
  obtain ⟨v, rfl, o⟩ := ho.one
  cases d with
  | list ys =>
    obtain ⟨hz, rfl⟩ := ite_some hg
    obtain ⟨a, xs, rfl, h, rr⟩ := o.list
    exact call_len pins s σ H _ us Q I rv ⟨_, ys.length, rfl, .inl ⟨xs, h, rr.length.symm⟩, q _ _ (new_int _)⟩
  | tuple ys =>
    obtain ⟨hz, rfl⟩ := ite_some hg
    obtain ⟨a, xs, rfl, h, rr⟩ := o.tuple
    exact call_len pins s σ H _ us Q I rv ⟨_, ys.length, rfl, .inr ⟨xs, h, rr.length.symm⟩, q _ _ (new_int _)⟩
  | str z =>
    obtain ⟨hz, rfl⟩ := ite_some hg
    rw [o.str] at rv
    exact call_len pins s σ H _ us Q I rv ⟨_, z.length, rfl, ⟨szOk_le hz, rfl⟩, q _ _ (new_int _)⟩
  | dict kvs =>
    obtain ⟨hz, rfl⟩ := ite_some hg
    obtain ⟨a, ps, rfl, D⟩ := o.view
    obtain ⟨u, rfl, ru⟩ := vals1 rv
    cases ru
    exact d_len D I (q _ _ (new_int _))
  | _ => cases hg
theorem bi_abs (ok : XOk X) : CallR X (.builtin "abs") (rCl X.K (biD .abs)) := by
  rintro pins s σ H xs us Q I rv ⟨Y, ds, r, t, ho, hg, q⟩
  obtain ⟨d, rfl, hg⟩ := one_some hg
  obtain ⟨v, rfl, o⟩ := ho.one
  cases d with
  | int i =>
    cases hg
    rw [o.int] at rv
    exact call_abs pins s σ H _ us Q I rv ⟨i, rfl, q _ _ (new_int _)⟩
  | _ => cases hg
theorem bi_int (ok : XOk X) : CallR X (.type "int") (rCl X.K (biD .int)) := by
  rintro pins s σ H xs us Q I rv ⟨Y, ds, r, t, ho, hg, q⟩
  obtain ⟨d, rfl, hg⟩ := one_some hg
  obtain ⟨v, rfl, o⟩ := ho.one
  cases d with
  | int i =>
    cases hg
    rw [o.int] at rv
    exact call_int1 pins s σ H _ us Q I rv (.inl ⟨i, rfl, q _ _ (new_int _)⟩)
  | bool i =>
    cases hg
    rw [o.bl] at rv
    exact call_int1 pins s σ H _ us Q I rv (.inr ⟨i, rfl, q _ _ (new_int _)⟩)
  | _ => cases hg
theorem ints_vals : ∀ {ds : List PyData} {ns : List Int} {vs : List V}, ints? ds = some ns → RpA X.K Y H vs ds → vs = ns.map V.int
  | [], ns, _, h, r => by cases h; cases r; rfl
  | .int i :: ds, ns, _, h, r => by
    cases r with
    | cons a b =>
      cases a
      cases e : ints? ds with
      | none => rw [ints?, e] at h; cases h
      | some m =>
        rw [ints?, e] at h
        cases h
        rw [ints_vals e b]; rfl
  | .none :: _, _, _, h, _ => by cases h
  | .bool _ :: _, _, _, h, _ => by cases h
  | .str _ :: _, _, _, h, _ => by cases h
  | .list _ :: _, _, _, h, _ => by cases h
  | .tuple _ :: _, _, _, h, _ => by cases h
  | .dict _ :: _, _, _, h, _ => by cases h
theorem sum_tup (hh : X.A.handled = none) {a : Addr} {its : List Value} {ns : List Int} {Q : Value → Shared → Prop} {E : Value → Shared → Prop} (hl : s.heap.IsTuple a its.toArray) (hi : IntsAre its ns)
    (h : ∀ h' tk t', (∀ b o, s.heap.get? b = some o → h'.get? b = some o) → Q (.int ns.sum t') { s with heap := h', toks := tk }) : wpAny (model X.prog X.w) X.A (call (.builtin "sum") [.ref a]) Q E s := by
  obtain ⟨xs, e⟩ := hi.allInts.items
  have hn : numsOf (intItems xs).toList = ns := by rw [← e]; exact hi.numsOf
  rw [nums_intItems] at hn
  rw [e] at hl
  refine W.ktm_sumG hh hl fun h' tk t' hk => ?_
  have z := h h' tk t' hk
  rw [preSum_eq, List.take_of_length_le (by simp), hn]
  exact z
theorem bi_sum (ok : XOk X) : CallR X (.builtin "sum") (rCl X.K (biD .sum)) := by
  rintro pins s σ H xs us Q I rv ⟨Y, ds, r, t, ho, hg, q⟩
  obtain ⟨d, rfl, hg⟩ := one_some hg
  obtain ⟨v, rfl, o⟩ := ho.one
  obtain ⟨u, rfl, ru⟩ := vals1 rv
  obtain ⟨es, e, hg⟩ := ovS_some hg
  unfold sumL at hg
  cases e2 : ints? es with
  | none => rw [e2] at hg; cases hg
  | some ns =>
    rw [e2] at hg
    cases hg
    obtain ⟨a, ws, its, rfl, rfl, rr, rw', z, _, hl, _, _⟩ := op_seq o e I ru
    rw [ints_vals e2 rr] at rw'
    rcases hl with hl | hl
    · exact sum_raw (I.ok.hd ok.calm) hl rw'.ints fun h' tk t' hk => ⟨.int _, H, I.kept hk, ⟨_, rfl⟩, q _ _ (new_int _)⟩
    · exact sum_tup (I.ok.hd ok.calm) hl rw'.ints fun h' tk t' hk => ⟨.int _, H, I.kept hk, ⟨_, rfl⟩, q _ _ (new_int _)⟩
theorem self_alike {xs : List PyData} (h : selfAlike xs = true) : ∀ x ∈ xs, ∀ y ∈ xs, W.alike x y = true := fun x hx y hy =>
  List.all_eq_true.mp (List.all_eq_true.mp h x hx) y hy
theorem ord_all {xs : List PyData} (h : ordAll xs = true) : W.AlikeAll xs ∧ PyData.plainAll xs = true ∧ PyData.depthAll xs ≤ 30 := by
  unfold ordAll at h
  rw [Bool.and_eq_true, Bool.and_eq_true] at h
  have h2 := deeps_ok h.1.2
  refine ⟨⟨self_alike h.1.1, fun x hx z => ?_⟩, h2.1, h2.2⟩
  have := List.all_eq_true.mp h.2 x hx
  rw [z] at this
  cases this
/-- an item that is handed on -/
theorem pick_item {xs : List V} {its : List Value} {ds : List PyData} {i : Nat} {u : Value} {m : PyData} {h' : Heap} {bs : List Addr} (I : L2.Inv X pins σ H s) (rr : RpA X.K Y H xs ds) (rv : Vals xs its) (hp : PyData.plainAll ds = true)
    (k : ∀ b o, s.heap.get? b = some o → h'.get? b = some o) (hi : its.toArray[i]? = some u) (hm : Reads h' u m bs) : ∃ v, RelV v u ∧ Rp X.K Y H v m := by
  have hi : its[i]? = some u := by simpa using hi
  have hlt : i < xs.length := by
    rw [rv.length]
    exact (List.getElem?_eq_some_iff.mp hi).1
  obtain ⟨w, e1, r1⟩ := rv.get (List.getElem?_eq_getElem hlt)
  rw [hi] at e1
  cases e1
  obtain ⟨d, e2, r2⟩ := rr.at (List.getElem?_eq_getElem hlt)
  obtain ⟨as, r3⟩ := r2.reads I r1
  have e := SeqAt.plain_unique d m u as bs (W.plain_mem hp (List.mem_of_getElem? e2)) (PyProof.Rows.Reads.keeps k r3) hm
  subst e
  exact ⟨_, r1, r2⟩
theorem ints_ops : ∀ {ds : List PyData} {ns : List Int} {vs : List V}, ints? ds = some ns → OpA X.K Y H vs ds → vs = ns.map V.int
  | [], ns, _, h, r => by cases h; cases r; rfl
  | .int i :: ds, ns, _, h, r => by
    cases r with
    | cons a b =>
      have := a.int
      subst this
      cases e : ints? ds with
      | none => rw [ints?, e] at h; cases h
      | some m =>
        rw [ints?, e] at h
        cases h
        rw [ints_ops e b]; rfl
  | .none :: _, _, _, h, _ => by cases h
  | .bool _ :: _, _, _, h, _ => by cases h
  | .str _ :: _, _, _, h, _ => by cases h
  | .list _ :: _, _, _, h, _ => by cases h
  | .tuple _ :: _, _, _, h, _ => by cases h
  | .dict _ :: _, _, _, h, _ => by cases h
theorem ovI_some {f : List Int → Option Res} {ds : List PyData} {r : Res} (h : ovI f ds = some r) : ∃ ns, ints? ds = some ns ∧ f ns = some r := by
  unfold ovI at h
  cases e : ints? ds with
  | none => rw [e] at h; cases h
  | some xs => rw [e] at h; exact ⟨xs, rfl, h⟩
theorem minA_some {ds : List PyData} {r : Res} (h : minA ds = some r) : (∃ x, ds = [x] ∧ ovS minL x = some r) ∨ ovI minI ds = some r := by
  match ds, h with
  | [x], h => exact .inl ⟨x, rfl, h⟩
  | [], h => exact .inr h
  | _ :: _ :: _, h => exact .inr h
theorem maxA_some {ds : List PyData} {r : Res} (h : maxA ds = some r) : (∃ x, ds = [x] ∧ ovS maxL x = some r) ∨ ovI maxI ds = some r := by
  match ds, h with
  | [x], h => exact .inl ⟨x, rfl, h⟩
  | [], h => exact .inr h
  | _ :: _ :: _, h => exact .inr h
theorem int3 {i j k : Int} {us : List Value} (r : Vals [V.int i, V.int j, V.int k] us) : ∃ a b c, us = [Value.int i a, Value.int j b, Value.int k c] := by
  cases r with
  | cons r1 rv =>
    obtain ⟨u2, u3, rfl, r2, r3⟩ := vals2 rv
    obtain ⟨t1, rfl⟩ := r1
    obtain ⟨t2, rfl⟩ := r2
    obtain ⟨t3, rfl⟩ := r3
    exact ⟨t1, t2, t3, rfl⟩
theorem bi_min (ok : XOk X) : CallR X (.builtin "min") (rCl X.K (biD .min)) := by
  rintro pins s σ H xs us Q I rv ⟨Y, ds, r, t, ho, hg, q⟩
  have hun := ok.un
  rcases minA_some hg with ⟨d, rfl, hg⟩ | hg
  · obtain ⟨v, rfl, o⟩ := ho.one
    obtain ⟨u, rfl, ru⟩ := vals1 rv
    obtain ⟨es, e, hg⟩ := ovS_some hg
    cases es with
    | nil => cases hg
    | cons y ys =>
      obtain ⟨hz, rfl⟩ := ite_some hg
      obtain ⟨h1, h2, h3⟩ := ord_all hz
      obtain ⟨a, ws, its, rfl, rfl, rr, rw', z, ⟨as, ra⟩, hl, _, _⟩ := op_seq o e I ru
      have fin : ∀ (i : Nat) (u : Value) (h' : Heap) (tk : Nat) (bs : List Addr), its.toArray[i]? = some u → Reads h' u (W.minD y ys) bs → (∀ b o, s.heap.get? b = some o → h'.get? b = some o) → EP X pins σ Q u { s with heap := h', toks := tk } := fun i u h' tk bs hi hm k => by
        obtain ⟨w, r1, r2⟩ := pick_item I rr rw' h2 k hi hm
        exact ⟨w, H, I.kept k, r1, q _ _ (new_keep r2)⟩
      rcases hl with hl | hl
      · exact W.min_list_data (I.ok.hd ok.calm) hl (by simpa using ra) h1 (by omega) fin
      · exact W.min_tuple_data (I.ok.hd ok.calm) hl (by simpa using ra) h1 (by omega) fin
  · obtain ⟨ns, e, hg⟩ := ovI_some hg
    have ev := ints_ops e ho
    match ns, hg with
    | [i, j], hg =>
      cases hg
      rw [ev] at rv
      exact call_min2 ok.calm pins s σ H _ us Q I rv ⟨i, j, rfl, q _ _ (new_int _)⟩
    | [i, j, k], hg =>
      cases hg
      rw [ev] at rv
      obtain ⟨t1, t2, t3, rfl⟩ := int3 rv
      refine PySem.min_three_ints (I.ok.hd ok.calm) fun h' tk k' => ⟨_, H, I.kept k', ?_, q _ _ (new_int _)⟩
      by_cases h1 : j < i
      · by_cases h2 : k < j
        · rw [if_pos h1, if_pos h2, if_pos h1, if_pos h2]; exact ⟨_, rfl⟩
        · rw [if_pos h1, if_neg h2, if_pos h1, if_neg h2]; exact ⟨_, rfl⟩
      · by_cases h2 : k < i
        · rw [if_neg h1, if_pos h2, if_neg h1, if_pos h2]; exact ⟨_, rfl⟩
        · rw [if_neg h1, if_neg h2, if_neg h1, if_neg h2]; exact ⟨_, rfl⟩
    | [], hg => cases hg
    | [_], hg => cases hg
    | _ :: _ :: _ :: _ :: _, hg => cases hg
theorem bi_max (ok : XOk X) : CallR X (.builtin "max") (rCl X.K (biD .max)) := by
  rintro pins s σ H xs us Q I rv ⟨Y, ds, r, t, ho, hg, q⟩
  have hun := ok.un
  rcases maxA_some hg with ⟨d, rfl, hg⟩ | hg
  · obtain ⟨v, rfl, o⟩ := ho.one
    obtain ⟨u, rfl, ru⟩ := vals1 rv
    obtain ⟨es, e, hg⟩ := ovS_some hg
    cases es with
    | nil => cases hg
    | cons y ys =>
      obtain ⟨hz, rfl⟩ := ite_some hg
      obtain ⟨h1, h2, h3⟩ := ord_all hz
      obtain ⟨a, ws, its, rfl, rfl, rr, rw', z, ⟨as, ra⟩, hl, _, _⟩ := op_seq o e I ru
      have fin : ∀ (i : Nat) (u : Value) (h' : Heap) (tk : Nat) (bs : List Addr), its.toArray[i]? = some u → Reads h' u (W.maxD y ys) bs → (∀ b o, s.heap.get? b = some o → h'.get? b = some o) → EP X pins σ Q u { s with heap := h', toks := tk } := fun i u h' tk bs hi hm k => by
        obtain ⟨w, r1, r2⟩ := pick_item I rr rw' h2 k hi hm
        exact ⟨w, H, I.kept k, r1, q _ _ (new_keep r2)⟩
      rcases hl with hl | hl
      · exact W.max_list_data (I.ok.hd ok.calm) hl (by simpa using ra) h1 (by omega) fin
      · exact W.max_tuple_data (I.ok.hd ok.calm) hl (by simpa using ra) h1 (by omega) fin
  · obtain ⟨ns, e, hg⟩ := ovI_some hg
    have ev := ints_ops e ho
    match ns, hg with
    | [i, j], hg =>
      cases hg
      rw [ev] at rv
      exact call_max2 ok.calm pins s σ H _ us Q I rv ⟨i, j, rfl, q _ _ (new_int _)⟩
    | [i, j, k], hg =>
      cases hg
      rw [ev] at rv
      obtain ⟨t1, t2, t3, rfl⟩ := int3 rv
      refine PySem.max_three_ints (I.ok.hd ok.calm) fun h' tk k' => ⟨_, H, I.kept k', ?_, q _ _ (new_int _)⟩
      by_cases h1 : j > i
      · by_cases h2 : k > j
        · rw [if_pos h1, if_pos h2, if_pos h1, if_pos h2]; exact ⟨_, rfl⟩
        · rw [if_pos h1, if_neg h2, if_pos h1, if_neg h2]; exact ⟨_, rfl⟩
      · by_cases h2 : k > i
        · rw [if_neg h1, if_pos h2, if_neg h1, if_pos h2]; exact ⟨_, rfl⟩
        · rw [if_neg h1, if_neg h2, if_neg h1, if_neg h2]; exact ⟨_, rfl⟩
    | [], hg => cases hg
    | [_], hg => cases hg
    | _ :: _ :: _ :: _ :: _, hg => cases hg
theorem plain_truths {xs : List PyData} (h : xs.all plainTruth = true) : PyData.plainAll xs = true ∧ ∀ x ∈ xs, x.fits63 := by
  induction xs with
  | nil => exact ⟨rfl, fun _ z => nomatch z⟩
  | cons x xs ih =>
    rw [List.all_cons, Bool.and_eq_true] at h
    obtain ⟨i1, i2⟩ := ih h.2
    refine ⟨?_, fun y hy => ?_⟩
    · rw [PyData.plainAll, i1, Bool.and_true]
      cases x <;> first | rfl | exact absurd h.1 (by simp [plainTruth])
    · rcases List.mem_cons.mp hy with rfl | hy
      · cases y <;> first | trivial | exact absurd h.1 (by simp [plainTruth])
      · exact i2 y hy
theorem bi_all (ok : XOk X) : CallR X (.builtin "all") (rCl X.K (biD .all)) := by
  rintro pins s σ H xs us Q I rv ⟨Y, ds, r, t, ho, hg, q⟩
  obtain ⟨d, rfl, hg⟩ := one_some hg
  obtain ⟨v, rfl, o⟩ := ho.one
  obtain ⟨u, rfl, ru⟩ := vals1 rv
  obtain ⟨es, e, hg⟩ := ovS_some hg
  obtain ⟨hz, rfl⟩ := ite_some hg
  obtain ⟨h1, h2⟩ := plain_truths hz
  obtain ⟨a, ws, its, rfl, rfl, rr, rw', z, ⟨as, ra⟩, hl, _, _⟩ := op_seq o e I ru
  rcases hl with hl | hl
  · exact W.all_list_data (I.ok.hd ok.calm) hl (by simpa using ra) h1 h2 fun h' tk k => ⟨.bl _, H, I.kept k, rfl, q _ _ (new_bl _)⟩
  · exact W.all_tuple_data (I.ok.hd ok.calm) hl (by simpa using ra) h1 h2 fun h' tk k => ⟨.bl _, H, I.kept k, rfl, q _ _ (new_bl _)⟩
theorem bi_any (ok : XOk X) : CallR X (.builtin "any") (rCl X.K (biD .any)) := by
  rintro pins s σ H xs us Q I rv ⟨Y, ds, r, t, ho, hg, q⟩
  obtain ⟨d, rfl, hg⟩ := one_some hg
  obtain ⟨v, rfl, o⟩ := ho.one
  obtain ⟨u, rfl, ru⟩ := vals1 rv
  obtain ⟨es, e, hg⟩ := ovS_some hg
  obtain ⟨hz, rfl⟩ := ite_some hg
  obtain ⟨h1, h2⟩ := plain_truths hz
  obtain ⟨a, ws, its, rfl, rfl, rr, rw', z, ⟨as, ra⟩, hl, _, _⟩ := op_seq o e I ru
  rcases hl with hl | hl
  · exact W.any_list_data (I.ok.hd ok.calm) hl (by simpa using ra) h1 h2 fun h' tk k => ⟨.bl _, H, I.kept k, rfl, q _ _ (new_bl _)⟩
  · exact W.any_tuple_data (I.ok.hd ok.calm) hl (by simpa using ra) h1 h2 fun h' tk k => ⟨.bl _, H, I.kept k, rfl, q _ _ (new_bl _)⟩
theorem bi_list (ok : XOk X) : CallR X (.type "list") (rCl X.K (biD .list)) := by
  rintro pins s σ H xs us Q I rv ⟨Y, ds, r, t, ho, hg, q⟩
  obtain ⟨d, rfl, hg⟩ := one_some hg
  obtain ⟨v, rfl, o⟩ := ho.one
  obtain ⟨es, e, hg⟩ := ovS_some hg
  cases hg
  cases d with
  | list ys =>
    cases e
    obtain ⟨a, xs, rfl, h, rr⟩ := o.list
    exact call_list_of pins s σ H _ us Q I rv ⟨a, xs, rfl, .inl h, fun l hl => q _ _ (new_lst hl rr)⟩
  | tuple ys =>
    cases e
    obtain ⟨a, xs, rfl, h, rr⟩ := o.tuple
    exact call_list_of pins s σ H _ us Q I rv ⟨a, xs, rfl, .inr h, fun l hl => q _ _ (new_lst hl rr)⟩
  | _ => cases e
theorem bi_tuple (ok : XOk X) : CallR X (.type "tuple") (rCl X.K (biD .tuple)) := by
  rintro pins s σ H xs us Q I rv ⟨Y, ds, r, t, ho, hg, q⟩
  obtain ⟨d, rfl, hg⟩ := one_some hg
  obtain ⟨v, rfl, o⟩ := ho.one
  obtain ⟨es, e, hg⟩ := ovS_some hg
  cases hg
  cases d with
  | list ys =>
    cases e
    obtain ⟨a, xs, rfl, h, rr⟩ := o.list
    exact call_tuple_of pins s σ H _ us Q I rv ⟨a, xs, rfl, .inl ⟨h, fun l hl => q _ _ (new_tup t hl rr)⟩⟩
  | tuple ys =>
    cases e
    have hr := o.tupRp
    obtain ⟨a, xs, rfl, h, rr⟩ := o.tuple
    exact call_tuple_of pins s σ H _ us Q I rv ⟨a, xs, rfl, .inr ⟨h, q _ _ (new_keep hr)⟩⟩
  | _ => cases e
theorem each_rp : ∀ {xs : List V} {its : List Value} {ds : List PyData}, RpA X.K Y H xs ds → Vals xs its → PySem.W.EachIs (fun u d => ∃ x, RelV x u ∧ Rp X.K Y H x d) its ds
  | _, _, _, .nil, .nil => .nil
  | _, _, _, .cons a b, .cons r rs => .cons ⟨_, r, a⟩ (each_rp b rs)
theorem rp_each : ∀ {its : List Value} {ds : List PyData}, PySem.W.EachIs (fun u d => ∃ x, RelV x u ∧ Rp X.K Y H x d) its ds → ∃ xs : List V, Vals xs its ∧ RpA X.K Y H xs ds
  | _, _, .nil => ⟨[], .nil, .nil⟩
  | _, _, .cons ⟨x, r, a⟩ b => by
    obtain ⟨xs, rs, b'⟩ := rp_each b
    exact ⟨x :: xs, .cons r rs, .cons a b'⟩
theorem each_reads (I : L2.Inv X pins σ H s) : ∀ {xs : List V} {its : List Value} {ds : List PyData}, RpA X.K Y H xs ds → Vals xs its → PySem.W.EachIs (fun u d => ∃ as, Reads s.heap u d as) its ds
  | _, _, _, .nil, .nil => .nil
  | _, _, _, .cons a b, .cons r rs => .cons (a.reads I r) (each_reads I b rs)
theorem sort_kind {xs : List PyData} (h : sortKind xs = true) : W.Sortable xs := by
  unfold sortKind at h
  rw [Bool.or_eq_true] at h
  rcases h with h | h
  · refine .inl fun d hd => ?_
    have := List.all_eq_true.mp h d hd
    cases d with
    | tuple ys =>
      cases ys with
      | nil => cases this
      | cons y ys => exact ⟨y, ys, rfl⟩
    | _ => cases this
  · refine .inr fun d hd => ?_
    have := List.all_eq_true.mp h d hd
    cases d with
    | tuple ys => cases this
    | none => cases this
    | _ => exact ⟨(fun z => nomatch z), (fun _ z => nomatch z)⟩
theorem depth_mem : ∀ {xs : List PyData} {x : PyData}, x ∈ xs → x.depth ≤ PyData.depthAll xs
  | y :: ys, x, h => by
    rw [PyData.depthAll]
    rcases List.mem_cons.mp h with rfl | h
    · exact Nat.le_max_left _ _
    · exact Nat.le_trans (depth_mem h) (Nat.le_max_right _ _)
theorem es_keys {es : Array DictEntry} {acc : Array Value} (h : ItemsOf (fun i v => ∃ hi : i < es.size, v = es[i].key) acc es.size) : acc.toList = es.toList.map (·.key) := by
  refine List.ext_getElem? fun j => ?_
  rw [Array.getElem?_toList, List.getElem?_map, Array.getElem?_toList]
  by_cases hj : j < es.size
  · have hz : j < acc.size := by rw [h.1]; exact hj
    obtain ⟨_, e⟩ := h.2 j acc[j] (Array.getElem?_eq_getElem hz)
    rw [Array.getElem?_eq_getElem hz, Array.getElem?_eq_getElem hj, e]; rfl
  · rw [Array.getElem?_eq_none (by rw [h.1]; omega), Array.getElem?_eq_none (by omega)]; rfl
/-- sorted(d), by the raw entries -/
theorem sorted_rawd {a : Addr} {es : Array DictEntry} {ep : Nat} {Q : Value → Shared → Prop} {E : Value → Shared → Prop} (lo : (a == sysModules) = false) (hm : s.heap.DictRaw a es ep) (hh : X.A.handled = none) (hn : es.size ≤ sizeLine)
    (h : ∀ (h' : Heap) (tk : Nat), (∀ b o, s.heap.get? b = some o → h'.get? b = some o) →
      wpAny (model X.prog X.w) X.A.in1 (call (.builtin "list.sort") [.ref h'.objs.size]) (fun _ s' => Q (.ref h'.objs.size) s') E { s with heap := h'.push { cls := .type "list", data := .seq (es.toList.map (·.key)).toArray }, toks := tk }) :
    wpAny (model X.prog X.w) X.A (call (.builtin "sorted") [.ref a]) Q E s := by
  refine Calls.call_function_entry kind_sorted plain_sorted entry_sorted (args_sorted1 _) ?_
  unfold Builtin.«sorted»
  refine wpAny_bind (m := checkCount "sorted" 1 1 _) (wpAny_pure ?_)
  refine wpAny_bind (W.kdu_collect (A := X.A.in1) (KdlSrc.rawDict lo) hh hm hn fun h' tk acc hk hacc => ?_)
  have hl : acc.toList = es.toList.map (·.key) := es_keys hacc
  refine wpAny_bind (wpAny_newList ?_ (by rw [hl, List.length_map, Array.length_toList]; exact hn))
  have hg := h h' tk hk
  rw [← hl] at hg
  refine wpAny_bind (wpAny_holding (wpAny_mono hg (fun _ s' x => ?_) fun _ _ e => e))
  exact wpAny_pure ⟨_, rfl, x⟩
theorem each_mono {α β : Type} {R S : α → β → Prop} (f : ∀ a b, R a b → S a b) {xs : List α} {ys : List β} (h : PySem.W.EachIs R xs ys) : PySem.W.EachIs S xs ys := h.mono f
theorem tup0_shape {es : List PyData} (h : tup0 es = true) : ∃ ys, es = .tuple [] :: ys ∧ ∀ d ∈ ys, ∃ xs, d = .tuple xs := by
  unfold tup0 at h
  split at h
  · refine ⟨_, rfl, fun d hd => ?_⟩
    have := List.all_eq_true.mp h d hd
    cases d with
    | tuple xs => exact ⟨xs, rfl⟩
    | _ => cases this
  · cases h
/-- sorted(t) of a tuple -/
theorem sorted_tupS {a : Addr} {o : Obj} {its : Array Value} {n : Nat} {Q : Value → Shared → Prop} {E : Value → Shared → Prop} (ho : s.heap.get? a = some o) (hc : o.cls = .type "tuple") (hd : o.data = .seq its n) (hn : its.size ≤ sizeLine)
    (h : ∀ (h' : Heap), (∀ b o, s.heap.get? b = some o → h'.get? b = some o) →
      wpAny (model X.prog X.w) X.A.in1 (call (.builtin "list.sort") [.ref h'.objs.size]) (fun _ s' => Q (.ref h'.objs.size) s') E { s with heap := h'.push { cls := .type "list", data := .seq its.toList.toArray } }) :
    wpAny (model X.prog X.w) X.A (call (.builtin "sorted") [.ref a]) Q E s := by
  refine Calls.call_function_entry kind_sorted plain_sorted entry_sorted (args_sorted1 _) ?_
  unfold Builtin.«sorted»
  refine wpAny_bind (m := checkCount "sorted" 1 1 _) (wpAny_pure ?_)
  refine wpAny_bind (wpAny_collect_seq a (.inr rfl) ho hc hd (fun h' hk => ?_) hn)
  refine wpAny_bind (wpAny_newList ?_ (by rw [Array.length_toList]; exact hn))
  have hg := h h' hk
  refine wpAny_bind (wpAny_holding (wpAny_mono hg (fun _ s' x => ?_) fun _ _ e => e))
  exact wpAny_pure ⟨_, rfl, x⟩
theorem bi_sorted (ok : XOk X) : CallR X (.builtin "sorted") (rCl X.K (biD .sorted)) := by
  rintro pins s σ H xs us Q I rv ⟨Y, ds, r, t, ho, hg, q⟩
  have hun := ok.un
  obtain ⟨d, rfl, hg⟩ := one_some hg
  obtain ⟨v, rfl, o⟩ := ho.one
  cases d with
  | list es =>
    obtain ⟨hz, rfl⟩ := ite_some hg
    rw [Bool.and_eq_true, Bool.and_eq_true, Bool.and_eq_true] at hz
    obtain ⟨⟨⟨h1, h2⟩, h3⟩, h4⟩ := hz
    have h2 := deeps_ok h2
    obtain ⟨u, rfl, ru⟩ := vals1 rv
    obtain ⟨a, ws, its, rfl, rfl, rr, rw', z, _, _, hl, _⟩ := op_seq o rfl I ru
    rw [sortD_merge] at q
    by_cases h5 : sortKind es = true
    case neg =>
      have h3 : tup0 es = true := by simpa [h5] using h3
      obtain ⟨ys, rfl, ht⟩ := tup0_shape h3
      · refine sorted_tup0 (R := fun u d => ∃ x, RelV x u ∧ Rp X.K Y H x d) (hl rfl) (each_rp rr rw') (each_reads I rr rw') (self_alike h1) ht (szOk_le h4) (fun b hb => ?_) fun out ho' e => ?_
        · have := depth_mem hb
          omega
        · obtain ⟨zs, r1, r2⟩ := rp_each e
          obtain ⟨n, hn⟩ := sortedAll_at s.heap its out.toArray
          have hlen := r1.length
          have hs := szOk_le h4
          rw [List.length_cons] at hs
          refine ⟨.ref (s.heap.objs.size + 1), _, I.laid (t' := s.toks) (o := .lst zs) (fun b o' h => sortedAll_old h) (Nat.le_succ _) ⟨by omega, out, n, r1, hn⟩, rfl, q _ _ (new_lst (I.hok.fresh (Nat.le_succ _)) r2)⟩
    have h3 := h5
    refine W.sorted_data (enc := fun d => d) (bs := es) (R := fun u d => ∃ x, RelV x u ∧ Rp X.K Y H x d) (hl rfl) (each_rp rr rw') (each_reads I rr rw') (by rw [List.map_id']; exact self_alike h1) (by rw [List.map_id']; exact sort_kind h3) (szOk_le h4) (fun b hb => ?_) fun out ho' e => ?_
    · have := depth_mem hb
      omega
    · obtain ⟨ys, r1, r2⟩ := rp_each e
      obtain ⟨n, hn⟩ := sortedAll_at s.heap its out.toArray
      have hlen := r1.length
      have hs := szOk_le h4
      refine ⟨.ref (s.heap.objs.size + 1), _, I.laid (t' := s.toks) (o := .lst ys) (fun b o' h => sortedAll_old h) (Nat.le_succ _) ⟨by omega, out, n, r1, hn⟩, rfl, q _ _ (new_lst (I.hok.fresh (Nat.le_succ _)) r2)⟩
  | dict kvs =>
    obtain ⟨hz, rfl⟩ := ite_some (show (if (selfAlike (kvs.map (·.1)) && deepOks (kvs.map (·.1)) && sortKind (kvs.map (·.1)) && szOk (kvs.map (·.1)).length) = true then _ else none) = some r from hg)
    rw [Bool.and_eq_true, Bool.and_eq_true, Bool.and_eq_true] at hz
    obtain ⟨⟨⟨h1, h2⟩, h3⟩, h4⟩ := hz
    have h2 := deeps_ok h2
    obtain ⟨u, rfl, ru⟩ := vals1 rv
    obtain ⟨a, ps, rfl, D⟩ := o.view
    cases ru
    rw [sortD_merge] at q
    obtain ⟨es, ep, hr, pe, z1, z2, _⟩ := D.sizes I
    have rk := (ent_keys pe).1
    have hlen := rk.length
    have hs := szOk_le h4
    rw [List.length_map] at hs
    refine sorted_rawd D.at'.sys hr (I.ok.hd ok.calm) (by omega) fun h' tk hk => ?_
    have hD : s.heap.get? h'.objs.size = none := by
      cases q : s.heap.get? h'.objs.size with
      | none => rfl
      | some u => exact absurd (Heap.lt_size (hk _ _ q)) (Nat.lt_irrefl _)
    have I1 : L2.Inv X pins σ H { s with heap := h', toks := tk } := I.kept hk
    have hH : H h'.objs.size = none := I1.hok.fresh (Nat.le_refl _)
    have here : (h'.push { cls := .type "list", data := .seq (es.toList.map (·.key)).toArray }).get? h'.objs.size = some (seqObj "list" (es.toList.map (·.key)).toArray 0) := Heap.get?_push_size _ rfl
    refine W.list_sort_data (enc := fun d => d) (bs := kvs.map (·.1)) (R := fun u d => ∃ x, RelV x u ∧ Rp X.K Y H x d) here (each_rp D.ra rk) (each_mono (fun v b ⟨as, r⟩ => ⟨as, PyProof.Rows.Reads.keeps (fun b o e => Heap.get?_push_of_some _ (hk b o e)) r, fun z => by
      obtain ⟨o, e⟩ := PyProof.On.reads_mem_get r _ z
      rw [hD] at e; cases e⟩) (each_reads I D.ra rk)) (by rw [List.map_id']; exact self_alike h1) (by rw [List.map_id']; exact sort_kind h3) (szOk_le h4) (fun b hb => ?_) fun out ho' e => ?_
    · have := depth_mem hb
      show X.A.units + 1 + 1 + b.depth < cLine
      omega
    · obtain ⟨ys, r1, r2⟩ := rp_each e
      obtain ⟨n, hn⟩ := sortedHeap_at (vs := es.toList.map (·.key)) (out := out.toArray) here
      have hlen := r1.length
      have hs := szOk_le h4
      refine ⟨.ref h'.objs.size, _, I.laidN (a := h'.objs.size) (o := .lst ys) (fun b o' q => ?_) hD hH ⟨by omega, out, n, r1, hn⟩, rfl, q _ _ (new_lst hH r2)⟩
      have hb : b ≠ h'.objs.size := fun z => by rw [z, hD] at q; cases q
      rw [sortedHeap_old hb (by rw [size_push']; exact Nat.lt_succ_of_lt (Heap.lt_size (hk _ _ q)))]
      exact Heap.get?_push_of_some _ (hk _ _ q)
  | tuple es =>
    obtain ⟨hz, rfl⟩ := ite_some (show (if (selfAlike es && deepOks es && sortKind es && szOk es.length) = true then _ else none) = some r from hg)
    rw [Bool.and_eq_true, Bool.and_eq_true, Bool.and_eq_true] at hz
    obtain ⟨⟨⟨h1, h2⟩, h3⟩, h4⟩ := hz
    have h2 := deeps_ok h2
    obtain ⟨u, rfl, ru⟩ := vals1 rv
    obtain ⟨a, ws, its, rfl, rfl, rr, rw', z, _, hlen0, _, hT⟩ := op_seq o rfl I ru
    rw [sortD_merge] at q
    have hs := szOk_le h4
    obtain ⟨o0, ho, hc, n, hd⟩ := hT rfl
    have hlen := rw'.length
    have hle : ws.length = es.length := rr.length
    refine sorted_tupS ho hc hd (by rw [List.size_toArray]; omega) fun h' hk => ?_
    have hD : s.heap.get? h'.objs.size = none := by
      cases q : s.heap.get? h'.objs.size with
      | none => rfl
      | some u => exact absurd (Heap.lt_size (hk _ _ q)) (Nat.lt_irrefl _)
    have I1 : L2.Inv X pins σ H { s with heap := h' } := I.kept (t' := s.toks) hk
    have hH : H h'.objs.size = none := I1.hok.fresh (Nat.le_refl _)
    have here : (h'.push { cls := .type "list", data := .seq its.toArray.toList.toArray }).get? h'.objs.size = some (seqObj "list" its.toArray 0) := Heap.get?_push_size _ rfl
    refine W.list_sort_data (enc := fun d => d) (bs := es) (vs := its) (R := fun u d => ∃ x, RelV x u ∧ Rp X.K Y H x d) here (each_rp rr rw') (each_mono (fun v b ⟨as, r⟩ => ⟨as, PyProof.Rows.Reads.keeps (fun b o e => Heap.get?_push_of_some _ (hk b o e)) r, fun z => by
      obtain ⟨o, e⟩ := PyProof.On.reads_mem_get r _ z
      rw [hD] at e; cases e⟩) (each_reads I rr rw')) (by rw [List.map_id']; exact self_alike h1) (by rw [List.map_id']; exact sort_kind h3) (szOk_le h4) (fun b hb => ?_) fun out ho' e => ?_
    · have := depth_mem hb
      show X.A.units + 1 + 1 + b.depth < cLine
      omega
    · obtain ⟨ys, r1, r2⟩ := rp_each e
      obtain ⟨n, hn⟩ := sortedHeap_at (vs := its) (out := out.toArray) here
      have hlen := r1.length
      have hs := szOk_le h4
      refine ⟨.ref h'.objs.size, _, I.laidN (a := h'.objs.size) (o := .lst ys) (fun b o' q => ?_) hD hH ⟨by omega, out, n, r1, hn⟩, rfl, q _ _ (new_lst hH r2)⟩
      have hb : b ≠ h'.objs.size := fun z => by rw [z, hD] at q; cases q
      rw [sortedHeap_old hb (by rw [size_push']; exact Nat.lt_succ_of_lt (Heap.lt_size (hk _ _ q)))]
      exact Heap.get?_push_of_some _ (hk _ _ q)
  | _ => cases hg
end
end PL

set_option autoImplicit false
set_option linter.all false
set_option Elab.async false
set_option maxRecDepth 100000
set_option maxHeartbeats 1000000
/-! PL6: expressions. -/
namespace PL
open PySem PySem.Spec PyProof.Rows L2

/-- an operand that waits -/
def Held (K : PySem.W.Frag) (Z : Addr → Prop) (ρ : PL.Env) (σ : L2.St) (H : Hp) (v : V) : Res → Prop
  | .val d => Rp K (Fb Z ρ σ) H v d
  | .fresh d => ∃ a, v = .ref a ∧ ¬ HotAt ρ σ a ∧ Own K (Fb Z ρ σ) H a d
  | .ref i => σ[i]? = some (some v)
inductive HeldA (K : PySem.W.Frag) (Z : Addr → Prop) (ρ : PL.Env) (σ : L2.St) (H : Hp) : List V → List Res → Prop
  | nil : HeldA K Z ρ σ H [] []
  | cons {v : V} {vs : List V} {r : Res} {rs : List Res} : Held K Z ρ σ H v r → HeldA K Z ρ σ H vs rs → HeldA K Z ρ σ H (v :: vs) (r :: rs)
section
variable {K : PySem.W.Frag} {B Z : Addr → Prop} {ρ ρ1 ρ2 : PL.Env} {σ : L2.St} {H H1 H2 : Hp} {v : V} {r : Res}
theorem PostR.held (p : PostR K B Z ρ σ H v r) : Held K Z ρ σ H v r := by
  cases r with
  | val d => exact p.2
  | fresh d =>
    obtain ⟨a, e, n, _, c, o⟩ := p
    exact ⟨a, e, c.nhot (.inl rfl), o.move Keeps.refl (fun b z => plus_fb (.inr z)) fun u e => e⟩
  | ref i => exact p.1
theorem Held.move (h : Held K Z ρ1 σ H1 v r) (q : PostX K B Z ρ1 ρ2 σ H1 H2) : Held K Z ρ2 σ H2 v r := by
  cases r with
  | val d => exact Rp.move (keep_fb q.keep) (fb_sub q.sub) h
  | fresh d =>
    obtain ⟨a, e, n, o⟩ := h
    exact ⟨a, e, fun z => n (q.sub a z), o.move (keep_fb q.keep) (fb_sub q.sub) fun u e => q.keep.old a u e n⟩
  | ref i => exact h
theorem HeldA.move (q : PostX K B Z ρ1 ρ2 σ H1 H2) : ∀ {vs : List V} {rs : List Res}, HeldA K Z ρ1 σ H1 vs rs → HeldA K Z ρ2 σ H2 vs rs
  | _, _, .nil => .nil
  | _, _, .cons a b => .cons (a.move q) (b.move q)
theorem Held.op {d : PyData} (h : Held K Z ρ σ H v r) (C : Conc K B Z ρ σ H) (e : peek ρ r = some d) : Op K (Fb Z ρ σ) H v d := by
  cases r with
  | val d' => cases e; exact .rp h
  | fresh d' =>
    cases e
    obtain ⟨a, rfl, _, o⟩ := h
    exact .own o
  | ref i =>
    unfold peek gets at e
    dsimp only at e
    have hv : σ[i]? = some (some v) := h
    cases h : ρ[i]? with
    | none => rw [h] at e; cases e
    | some s =>
      rw [h] at e
      cases s with
      | no => cases e
      | c d' =>
        cases e
        obtain ⟨w, e1, rr⟩ := C.cold i d h
        rw [hv] at e1
        cases e1
        exact .rp rr
      | h io d' =>
        cases e
        obtain ⟨a, e1, n, _, o⟩ := C.hot i io d h
        rw [hv] at e1
        cases e1
        exact .own o
theorem HeldA.op (C : Conc K B Z ρ σ H) : ∀ {vs : List V} {rs : List Res} {ds : List PyData}, HeldA K Z ρ σ H vs rs → peeks ρ rs = some ds → OpA K (Fb Z ρ σ) H vs ds
  | _, _, ds, .nil, e => by cases e; exact .nil
  | v :: vs, r :: rs, ds, .cons a b, e => by
    unfold peeks at e
    cases h1 : peek ρ r with
    | none => rw [h1] at e; cases e
    | some d =>
      cases h2 : peeks ρ rs with
      | none => rw [h1, h2] at e; cases e
      | some es =>
        rw [h1, h2] at e
        cases e
        exact .cons (a.op C h1) (b.op C h2)

theorem gets_some {i : Nat} {s : Slot} (e : gets ρ i = s) (n : s ≠ .no) : ρ[i]? = some s := by
  unfold gets at e
  cases h : ρ[i]? with
  | none => rw [h] at e; exact absurd e.symm n
  | some t => rw [h] at e; rw [← e]; rfl
theorem set_get {i j : Nat} {s t : Slot} (h : (ρ.set i s)[j]? = some t) : (i = j ∧ s = t) ∨ (i ≠ j ∧ ρ[j]? = some t) := by
  by_cases e : i = j
  · subst e
    by_cases l : i < ρ.length
    · rw [List.getElem?_set_self l] at h
      exact .inl ⟨rfl, Option.some.inj h⟩
    · rw [List.getElem?_eq_none (by rw [List.length_set]; omega)] at h
      cases h
  · rw [List.getElem?_set_ne e] at h
    exact .inr ⟨e, h⟩
theorem hot_set_c {i : Nat} {d : PyData} {a : Addr} (h : HotAt (ρ.set i (.c d)) σ a) : HotAt ρ σ a := by
  obtain ⟨j, io, e, h1, h2⟩ := h
  rcases set_get h1 with ⟨_, z⟩ | ⟨_, z⟩
  · cases z
  · exact ⟨j, io, e, z, h2⟩
theorem sub_set_c {i : Nat} {d : PyData} : Sub ρ (ρ.set i (.c d)) := fun j io e h => by
  rcases set_get h with ⟨_, z⟩ | ⟨_, z⟩
  · cases z
  · exact ⟨e, z⟩
/-- one's own thing is given up -/
theorem Conc.freeze (C : Conc K B Z ρ σ H) {i : Nat} {io : Bool} {d : PyData} (h : ρ[i]? = some (.h io d)) : Conc K B Z (ρ.set i (.c d)) σ H ∧ ∀ v, σ[i]? = some (some v) → Rp K (Fb Z (ρ.set i (.c d)) σ) H v d := by
  have sub : ∀ a, HotAt (ρ.set i (.c d)) σ a → HotAt ρ σ a := fun a => hot_set_c
  have key : ∀ v, σ[i]? = some (some v) → Rp K (Fb Z (ρ.set i (.c d)) σ) H v d := fun v hv => by
    obtain ⟨a, e1, n, _, o⟩ := C.hot i io d h
    rw [hv] at e1
    cases e1
    refine o.rp (fb_sub sub) fun z => ?_
    rcases z with z | ⟨j, io', d', z1, z2⟩
    · exact n z
    · rcases set_get z1 with ⟨_, z⟩ | ⟨ne, z⟩
      · cases z
      · exact ne (C.inj i j io io' d d' a h z hv z2)
  refine ⟨⟨fun j e hj => ?_, fun j io' e hj => ?_, fun j k io1 io2 d1 d2 a h1 h2 => ?_, C.tr, C.trB, by rw [List.length_set]; exact C.len⟩, key⟩
  · rcases set_get hj with ⟨rfl, z⟩ | ⟨ne, z⟩
    · cases z
      obtain ⟨a, e1, _⟩ := C.hot i io d h
      exact ⟨_, e1, key _ e1⟩
    · obtain ⟨w, e1, rr⟩ := C.cold j e z
      exact ⟨w, e1, rr.less (fb_sub sub)⟩
  · rcases set_get hj with ⟨_, z⟩ | ⟨ne, z⟩
    · cases z
    · obtain ⟨a, e1, n, b, o⟩ := C.hot j io' e z
      exact ⟨a, e1, n, b, o.move Keeps.refl (fb_sub sub) fun u e => e⟩
  · rcases set_get h1 with ⟨_, z⟩ | ⟨_, z1⟩
    · cases z
    · rcases set_get h2 with ⟨_, z⟩ | ⟨_, z2⟩
      · cases z
      · exact C.inj j k io1 io2 d1 d2 a z1 z2
theorem cold_ok {ρ' : PL.Env} {d : PyData} (p : PostR K B Z ρ σ H v r) (e : PL.cold ρ r = .ok d ρ') : PostX K B Z ρ ρ' σ H H ∧ Rp K (Fb Z ρ' σ) H v d := by
  have C := p.conc
  cases r with
  | val d' => cases e; exact ⟨.refl C, p.2⟩
  | fresh d' =>
    cases e
    obtain ⟨a, rfl, n, _, c, o⟩ := p
    exact ⟨.refl C, o.rp (fun b z => plus_fb (.inr z)) fun z => z.elim n (c.nhot (.inl rfl))⟩
  | ref i =>
    obtain ⟨hv, _⟩ := p
    unfold PL.cold at e
    dsimp only at e
    cases h : gets ρ i with
    | no => rw [h] at e; cases e
    | c d' =>
      rw [h] at e
      cases e
      obtain ⟨w, e1, rr⟩ := C.cold i d (gets_some h (by intro z; cases z))
      rw [hv] at e1
      cases e1
      exact ⟨.refl C, rr⟩
    | h io d' =>
      rw [h] at e
      cases e
      obtain ⟨C', k⟩ := C.freeze (gets_some h (by intro z; cases z))
      exact ⟨⟨Keeps.refl, sub_set_c, C'⟩, k v hv⟩
theorem cold_exc {c : Str} {ρ' : PL.Env} (e : PL.cold ρ r = .exc c ρ') : False := by
  cases r with
  | val d' => cases e
  | fresh d' => cases e
  | ref i =>
    unfold PL.cold at e
    dsimp only at e
    cases h : gets ρ i <;> rw [h] at e <;> cases e
end

/-! ### lists of operands -/
def tSA (K : PySem.W.Frag) (Wx : WX) (f : PL.Env → Out (List Res)) : TA := fun σ H Q => ∃ B Z ρ, Conc K B Z ρ σ H ∧ tOut (f ρ) (fun rs ρ' => ∀ vs H', PostX K B Z ρ ρ' σ H H' → HeldA K Z ρ' σ H' vs rs → Q vs H') (Gx K Wx B Z ρ σ H)
def SA (X : Cx) (Wx : WX) (es : List Expr) (f : PL.Env → Out (List Res)) : Prop := PA X es (tSA X.K Wx f)
def tSC (K : PySem.W.Frag) (Wx : WX) (f : PL.Env → Out (List PyData)) : TA := fun σ H Q => ∃ B Z ρ, Conc K B Z ρ σ H ∧ tOut (f ρ) (fun ds ρ' => ∀ vs H', PostX K B Z ρ ρ' σ H H' → RpA K (Fb Z ρ' σ) H' vs ds → Q vs H') (Gx K Wx B Z ρ σ H)
def SC (X : Cx) (Wx : WX) (es : List Expr) (f : PL.Env → Out (List PyData)) : Prop := PA X es (tSC X.K Wx f)
theorem pa_mono {X : Cx} {es : List Expr} {t t' : TA} (h : PA X es t) (i : ∀ σ H Q, t' σ H Q → t σ H Q) : PA X es t' := ⟨fun pos pins s σ H Q I q => h.run pos pins s σ H Q I (i σ H Q q)⟩
section
variable {X : Cx} {Wx : WX} {e : Expr} {es : List Expr} {fa : PL.Env → Out Res} {fr : PL.Env → Out (List Res)} {fc : PL.Env → Out (List PyData)}
theorem sa_nil : SA X Wx [] (fun ρ => .ok [] ρ) := pa_mono pa_nil fun σ H Q ⟨B, Z, ρ, C, h⟩ => h [] H (.refl C) .nil
theorem sc_nil : SC X Wx [] (fun ρ => .ok [] ρ) := pa_mono pa_nil fun σ H Q ⟨B, Z, ρ, C, h⟩ => h [] H (.refl C) .nil
theorem sa_run {K : PySem.W.Frag} {B Z : Addr → Prop} {ρ : PL.Env} {σ : L2.St} {H : Hp} {β : Type} {k : List Res → PL.Env → Out β} {Qok : β → PL.Env → Prop} {Qx : Str → PL.Env → Prop} {T : List V → Hp → Prop}
    (C : Conc K B Z ρ σ H) (h : tOut (bind (fr ρ) k) Qok Qx) (hx : ∀ c ρ', Qx c ρ' → Gx K Wx B Z ρ σ H c ρ')
    (next : ∀ rs ρ1 vs H1, PostX K B Z ρ ρ1 σ H H1 → HeldA K Z ρ1 σ H1 vs rs → tOut (k rs ρ1) Qok Qx → T vs H1) : tSA K Wx fr σ H T := by
  refine ⟨B, Z, ρ, C, ?_⟩
  cases e : fr ρ with
  | ok r ρ1 =>
    rw [e] at h
    exact fun vs H1 p a => next r ρ1 vs H1 p a h
  | exc c ρ1 =>
    rw [e] at h
    exact hx c ρ1 h
  | stuck =>
    rw [e] at h
    exact h
theorem sc_run {K : PySem.W.Frag} {B Z : Addr → Prop} {ρ : PL.Env} {σ : L2.St} {H : Hp} {β : Type} {k : List PyData → PL.Env → Out β} {Qok : β → PL.Env → Prop} {Qx : Str → PL.Env → Prop} {T : List V → Hp → Prop}
    (C : Conc K B Z ρ σ H) (h : tOut (bind (fc ρ) k) Qok Qx) (hx : ∀ c ρ', Qx c ρ' → Gx K Wx B Z ρ σ H c ρ')
    (next : ∀ ds ρ1 vs H1, PostX K B Z ρ ρ1 σ H H1 → RpA K (Fb Z ρ1 σ) H1 vs ds → tOut (k ds ρ1) Qok Qx → T vs H1) : tSC K Wx fc σ H T := by
  refine ⟨B, Z, ρ, C, ?_⟩
  cases e : fc ρ with
  | ok r ρ1 =>
    rw [e] at h
    exact fun vs H1 p a => next r ρ1 vs H1 p a h
  | exc c ρ1 =>
    rw [e] at h
    exact hx c ρ1 h
  | stuck =>
    rw [e] at h
    exact h
theorem sa_cons (ha : SE X Wx e fa) (hr : SA X Wx es fr) (hs : starEach (e :: es) X.env = (false, eval e X.env) :: starEach es X.env) : SA X Wx (e :: es) (fun ρ => bind (fa ρ) fun r ρ1 => bind (fr ρ1) fun rs ρ2 => .ok (r :: rs) ρ2) := by
  refine pa_mono (pa_cons ha hr hs) fun σ H Q ⟨B, Z, ρ, C, h⟩ => ?_
  refine sub_run C h (fun _ _ z => z) fun r ρ1 x H1 P1 h1 => sa_run P1.conc h1 (fun c ρ' z => z.step P1.x) fun rs ρ2 vs H2 P2 a h2 => ?_
  exact h2 (x :: vs) H2 (P1.x.seq P2) (.cons (P1.res.held.move P2) a)
/-- behind a cold -/
theorem cold_run {K : PySem.W.Frag} {B Z : Addr → Prop} {ρ : PL.Env} {σ : L2.St} {H : Hp} {v : V} {r : Res} {β : Type} {k : PyData → PL.Env → Out β} {Qok : β → PL.Env → Prop} {Qx : Str → PL.Env → Prop} {T : Prop}
    (p : PostR K B Z ρ σ H v r) (h : tOut (bind (PL.cold ρ r) k) Qok Qx) (next : ∀ d ρ1, PostX K B Z ρ ρ1 σ H H → Rp K (Fb Z ρ1 σ) H v d → tOut (k d ρ1) Qok Qx → T) : T := by
  cases e : PL.cold ρ r with
  | ok d ρ1 =>
    rw [e] at h
    obtain ⟨q1, q2⟩ := cold_ok p e
    exact next d ρ1 q1 q2 h
  | exc c ρ1 => exact (cold_exc e).elim
  | stuck =>
    rw [e] at h
    exact h.elim
theorem sc_cons (ha : SE X Wx e fa) (hr : SC X Wx es fc) (hs : starEach (e :: es) X.env = (false, eval e X.env) :: starEach es X.env) : SC X Wx (e :: es) (fun ρ => bind (fa ρ) fun r ρ1 => bind (PL.cold ρ1 r) fun d ρ2 => bind (fc ρ2) fun ds ρ3 => .ok (d :: ds) ρ3) := by
  refine pa_mono (pa_cons ha hr hs) fun σ H Q ⟨B, Z, ρ, C, h⟩ => ?_
  refine sub_run C h (fun _ _ z => z) fun r ρ1 x H1 P1 h1 => ?_
  refine cold_run P1.res h1 fun d ρ2 P2 rp h2 => ?_
  refine sc_run P2.conc h2 (fun c ρ' z => z.step (P1.x.seq P2)) fun ds ρ3 vs H3 P3 a h3 => ?_
  exact h3 (x :: vs) H3 ((P1.x.seq P2).seq P3) (.cons (rp.move (keep_fb P3.keep) (fb_sub P3.sub)) a)
end

/-! ### the forms -/
section
variable {X : Cx} {Wx : WX} {a b c : Expr} {fa fb fc' : PL.Env → Out Res} {pos : Pos}
theorem se_var {i : Nat} {x : Str} {pos : Pos} (hN : X.N[i]? = some x) (hv : Vis X.env.scope x) (hd : (x == ("__debug__" : Str)) = false) (hcd : (x == ("__classdict__" : Str)) = false) :
    SE X Wx (.Name x pos) (fun ρ => match gets ρ i with | .no => .stuck | .c d => .ok (.val d) ρ | .h _ _ => .ok (.ref i) ρ) := by
  refine pe_mono (pe_var hN hv hd hcd) fun σ H Q ⟨B, Z, ρ, C, h⟩ => ?_
  dsimp only at h
  cases e : gets ρ i with
  | no => rw [e] at h; exact h.elim
  | c d =>
    rw [e] at h
    obtain ⟨v, e1, r⟩ := C.cold i d (gets_some e (by intro z; cases z))
    exact ⟨v, e1, h v H (post_val C r)⟩
  | h io d =>
    rw [e] at h
    obtain ⟨a, e1, n, _, o⟩ := C.hot i io d (gets_some e (by intro z; cases z))
    exact ⟨_, e1, h _ H ⟨Keeps.refl, Sub.refl, ⟨e1, C⟩, fun _ _ e => nomatch e⟩⟩
theorem se_val {e : Expr} {v : V} {d : PyData} (h : PE X e (tC v)) (r : ∀ Y H, Rp X.K Y H v d) : SE X Wx e (fun ρ => .ok (.val d) ρ) :=
  pe_mono h fun σ H Q ⟨B, Z, ρ, C, h⟩ => h v H (post_val C (r _ _))
/-- as a test -/
def tST (K : PySem.W.Frag) (Wx : WX) (f : PL.Env → Out Bool) : TT := fun σ H Q => ∃ B Z ρ, Conc K B Z ρ σ H ∧ tOut (f ρ) (fun b ρ' => ∀ H', PostX K B Z ρ ρ' σ H H' → Q b H') (Gx K Wx B Z ρ σ H)
def ST (X : Cx) (Wx : WX) (e : Expr) (f : PL.Env → Out Bool) : Prop := PT X e (tST X.K Wx f)
theorem st_run {K : PySem.W.Frag} {B Z : Addr → Prop} {ρ : PL.Env} {σ : L2.St} {H : Hp} {β : Type} {ft : PL.Env → Out Bool} {k : Bool → PL.Env → Out β} {Qok : β → PL.Env → Prop} {Qx : Str → PL.Env → Prop} {T : Bool → Hp → Prop}
    (C : Conc K B Z ρ σ H) (h : tOut (bind (ft ρ) k) Qok Qx) (hx : ∀ c ρ', Qx c ρ' → Gx K Wx B Z ρ σ H c ρ')
    (next : ∀ b ρ1 H1, PostX K B Z ρ ρ1 σ H H1 → tOut (k b ρ1) Qok Qx → T b H1) : tST K Wx ft σ H T := by
  refine ⟨B, Z, ρ, C, ?_⟩
  cases e : ft ρ with
  | ok r ρ1 =>
    rw [e] at h
    exact fun H1 p => next r ρ1 H1 p h
  | exc c ρ1 =>
    rw [e] at h
    exact hx c ρ1 h
  | stuck =>
    rw [e] at h
    exact h
theorem truth_run {K : PySem.W.Frag} {B Z : Addr → Prop} {ρ : PL.Env} {σ : L2.St} {H : Hp} {v : V} {r : Res} {Qok : Bool → PL.Env → Prop} {Qx : Str → PL.Env → Prop}
    (p : PostR K B Z ρ σ H v r) (h : tOut (truthR r ρ) Qok Qx) : ∃ d b, Op K (Fb Z ρ σ) H v d ∧ peek ρ r = some d ∧ truthD d = some b ∧ Qok b ρ := by
  unfold truthR at h
  cases e : peek ρ r with
  | none => rw [e] at h; exact h.elim
  | some d =>
    rw [e] at h
    obtain ⟨b, e2, q⟩ := h.ofO
    exact ⟨d, b, p.held.op p.conc e, rfl, e2, q⟩
/-- any expression whose test is its value's truth -/
theorem st_val (ok : XOk X) (ha : SE X Wx a fa) (he : ∀ whole, isTrue a X.env whole = (do let v ← whole; standAt a.pos; holding [v] (truthy v))) : ST X Wx a (fun ρ => bind (fa ρ) truthR) := by
  refine ⟨fun pins s σ H Q I ⟨B, Z, ρ, C, h⟩ => ?_⟩
  refine isTrue_plain (thn (ha.run pins s σ H (fun v H1 => rTr X.K v H1 Q) I ?_) fun v s1 ⟨x, H1, I1, r1, q1⟩ => tru_op ok pins s1 σ H1 x v Q I1 r1 q1) (he _)
  refine sub_run C h (fun _ _ z => z) fun r ρ1 v H1 P1 h1 => ?_
  obtain ⟨d, b, o, _, e2, q⟩ := truth_run P1.res h1
  exact ⟨_, d, b, fun a z => P1.conc.fb z, o, e2, q H1 P1.x⟩
theorem bind_bind {α β γ : Type} (x : Out α) (f : α → PL.Env → Out β) (g : β → PL.Env → Out γ) : bind (bind x f) g = bind x fun a ρ => bind (f a ρ) g := by
  cases x <;> rfl
theorem bind_ok {α β : Type} (a : α) (ρ : PL.Env) (f : α → PL.Env → Out β) : bind (.ok a ρ) f = f a ρ := rfl
theorem pe_notR {ta : TE} {r : V → Hp → (Bool → Hp → Prop) → Prop} (ha : PE X a ta) (hr : TruR X r) : PE X (.UnaryOp .Not a pos) (fun σ H Q => ta σ H fun x H' => r x H' fun c H2 => Q (.bl (!c)) H2) := by
  refine ⟨fun pins s σ H Q I h => ?_⟩
  refine UnaryOp_ (thn (ha.run pins s σ H _ I h) fun v s1 ⟨x, H1, I1, r1, q1⟩ => ?_)
  exact not_of (thn (hr pins s1 σ H1 x v (fun c H2 => Q (.bl (!c)) H2) I1 r1 q1) fun c s2 ⟨H2, I2, q2⟩ => ⟨.bl (!c), H2, I2, rfl, q2⟩)
theorem se_not (ok : XOk X) (ha : SE X Wx a fa) : SE X Wx (.UnaryOp .Not a pos) (fun ρ => bind (fa ρ) fun r ρ1 => bind (truthR r ρ1) fun b ρ2 => .ok (.val (.bool (!b))) ρ2) := by
  refine pe_mono (pe_notR ha (tru_op ok)) fun σ H Q ⟨B, Z, ρ, C, h⟩ => ?_
  refine sub_run C h (fun _ _ z => z) fun r ρ1 v H1 P1 h1 => ?_
  unfold truthR at h1
  cases e : peek ρ1 r with
  | none => rw [e] at h1; exact h1.elim
  | some d =>
    rw [e] at h1
    cases e2 : truthD d with
    | none => dsimp only at h1; rw [e2] at h1; exact h1.elim
    | some b =>
      dsimp only at h1
      rw [e2] at h1
      exact ⟨_, d, b, fun a z => P1.conc.fb z, P1.res.held.op P1.conc e, e2, h1 _ H1 (P1.x.post (post_val P1.conc (.bl _)))⟩
theorem st_not (ha : ST X Wx a (fun ρ => bind (fa ρ) truthR)) : ST X Wx (.UnaryOp .Not a pos) (fun ρ => bind (bind (fa ρ) fun r ρ1 => bind (truthR r ρ1) fun b ρ2 => .ok (.val (.bool (!b))) ρ2) truthR) := by
  refine pt_mono (pt_not ha) fun σ H Q ⟨B, Z, ρ, C, h⟩ => ?_
  have h : tOut (bind (bind (fa ρ) truthR) fun b ρ2 => .ok (!b) ρ2) (fun b ρ' => ∀ H', PostX X.K B Z ρ ρ' σ H H' → Q b H') (Gx X.K Wx B Z ρ σ H) := by
    dsimp only at h
    rw [bind_bind] at h ⊢
    cases e : fa ρ with
    | ok r ρ1 =>
      rw [e] at h
      dsimp only [PL.bind] at h ⊢
      cases e2 : truthR r ρ1 with
      | ok b ρ2 => rw [e2] at h; exact h
      | exc c ρ2 => rw [e2] at h; exact h
      | stuck => rw [e2] at h; exact h
    | exc c ρ1 => rw [e] at h; exact h
    | stuck => rw [e] at h; exact h
  refine st_run (ft := fun ρ => bind (fa ρ) truthR) C h (fun _ _ z => z) fun b ρ1 H1 P1 h1 => ?_
  exact h1 H1 P1
theorem se_neg (ha : SE X Wx a fa) : SE X Wx (.UnaryOp .USub a pos) (fun ρ => bind (fa ρ) fun ra ρ1 => negR ra ρ1) := by
  refine pe_mono (pe_un un_neg ha) fun σ H Q ⟨B, Z, ρ, C, h⟩ => ?_
  refine sub_run C h (fun _ _ z => z) fun r ρ1 v H1 P1 h1 => ?_
  unfold negR at h1
  cases e : peek ρ1 r with
  | none => rw [e] at h1; exact h1.elim
  | some d =>
    rw [e] at h1
    have o := P1.res.held.op P1.conc e
    cases d with
    | int i => exact ⟨i, o.int, h1 _ H1 (P1.x.post (post_val P1.conc (.int _)))⟩
    | _ => exact h1.elim
theorem se_ife (hc : ST X Wx c (fun ρ => bind (fc' ρ) truthR)) (ha : SE X Wx a fa) (hb : SE X Wx b fb) :
    SE X Wx (.IfExp c a b pos) (fun ρ => bind (fc' ρ) fun r ρ1 => bind (truthR r ρ1) fun t ρ2 => if t then fa ρ2 else fb ρ2) := by
  refine pe_mono (pe_ifExp hc ha hb) fun σ H Q ⟨B, Z, ρ, C, h⟩ => ?_
  have h : tOut (bind (bind (fc' ρ) truthR) fun t ρ2 => if t then fa ρ2 else fb ρ2) (fun r ρ' => ∀ v H', Post X.K B Z ρ ρ' σ H H' v r → Q v H') (Gx X.K Wx B Z ρ σ H) := by
    rw [bind_bind]; exact h
  refine st_run (ft := fun ρ => bind (fc' ρ) truthR) C h (fun _ _ z => z) fun t ρ1 H1 P1 h1 => ?_
  cases t with
  | true => exact ⟨B, Z, ρ1, P1.conc, tOut.mono h1 (fun r ρ' q v H' p => q v H' (P1.post p)) fun c ρ' g => g.step P1⟩
  | false => exact ⟨B, Z, ρ1, P1.conc, tOut.mono h1 (fun r ρ' q v H' p => q v H' (P1.post p)) fun c ρ' g => g.step P1⟩

/-! ### and, or -/
theorem se_one {op : BoolOp} (ha : SE X Wx a fa) : SE X Wx (.BoolOp op [a] pos) (fun ρ => bind (fa ρ) fun r ρ1 => .ok r ρ1) := by
  refine pe_mono (pe_one ha) fun σ H Q ⟨B, Z, ρ, C, h⟩ => ?_
  exact sub_run C h (fun _ _ z => z) fun r ρ1 v H1 P1 h1 => h1 v H1 P1
theorem se_and {rest : List Expr} (ha : SE X Wx a fa) (hb : SE X Wx (.BoolOp .And (b :: rest) pos) fb) :
    SE X Wx (.BoolOp .And (a :: b :: rest) pos) (fun ρ => bind (fa ρ) fun r ρ1 => match peek ρ1 r with | some (.bool true) => fb ρ1 | some (.bool false) => .ok (.val (.bool false)) ρ1 | _ => .stuck) := by
  refine pe_mono (pe_and ha hb) fun σ H Q ⟨B, Z, ρ, C, h⟩ => ?_
  refine sub_run C h (fun _ _ z => z) fun r ρ1 v H1 P1 h1 => ?_
  cases e : peek ρ1 r with
  | none => rw [e] at h1; exact h1.elim
  | some d =>
    rw [e] at h1
    have o := P1.res.held.op P1.conc e
    cases d with
    | bool t =>
      cases t with
      | true => exact ⟨true, o.bl, (if_pos rfl).mpr ⟨B, Z, ρ1, P1.conc, tOut.mono h1 (fun r ρ' q v H' p => q v H' (P1.x.post p)) fun c ρ' g => g.step P1.x⟩⟩
      | false => exact ⟨false, o.bl, (if_neg Bool.false_ne_true).mpr (h1 _ H1 (P1.x.post (post_val P1.conc (.bl _))))⟩
    | _ => exact h1.elim
theorem se_or {rest : List Expr} (ha : SE X Wx a fa) (hb : SE X Wx (.BoolOp .Or (b :: rest) pos) fb) :
    SE X Wx (.BoolOp .Or (a :: b :: rest) pos) (fun ρ => bind (fa ρ) fun r ρ1 => match peek ρ1 r with | some (.bool false) => fb ρ1 | some (.bool true) => .ok (.val (.bool true)) ρ1 | _ => .stuck) := by
  refine pe_mono (pe_or ha hb) fun σ H Q ⟨B, Z, ρ, C, h⟩ => ?_
  refine sub_run C h (fun _ _ z => z) fun r ρ1 v H1 P1 h1 => ?_
  cases e : peek ρ1 r with
  | none => rw [e] at h1; exact h1.elim
  | some d =>
    rw [e] at h1
    have o := P1.res.held.op P1.conc e
    cases d with
    | bool t =>
      cases t with
      | false => exact ⟨false, o.bl, (if_neg Bool.false_ne_true).mpr ⟨B, Z, ρ1, P1.conc, tOut.mono h1 (fun r ρ' q v H' p => q v H' (P1.x.post p)) fun c ρ' g => g.step P1.x⟩⟩
      | true => exact ⟨true, o.bl, (if_pos rfl).mpr (h1 _ H1 (P1.x.post (post_val P1.conc (.bl _))))⟩
    | _ => exact h1.elim
/-- .. as tests: whatever 'whole' is -/
def SW (X : Cx) (Wx : WX) (e : Expr) (f : PL.Env → Out Bool) : Prop := PW X e (tST X.K Wx f)
theorem SW.st {e : Expr} {f : PL.Env → Out Bool} (h : SW X Wx e f) : ST X Wx e f := PW.pt h
theorem tST.of {K : PySem.W.Frag} {f g : PL.Env → Out Bool} (e : ∀ ρ, f ρ = g ρ) {σ : L2.St} {H : Hp} {Q : Bool → Hp → Prop} (h : tST K Wx f σ H Q) : tST K Wx g σ H Q := by
  obtain ⟨B, Z, ρ, C, h⟩ := h
  exact ⟨B, Z, ρ, C, by rw [← e]; exact h⟩
theorem sw_one {op : BoolOp} (ha : ST X Wx a (fun ρ => bind (fa ρ) truthR)) : SW X Wx (.BoolOp op [a] pos) (fun ρ => bind (bind (fa ρ) fun r ρ1 => .ok r ρ1) truthR) := by
  have e : ∀ ρ, bind (bind (fa ρ) fun r ρ1 => .ok r ρ1) truthR = bind (fa ρ) truthR := fun ρ => by rw [bind_bind]; rfl
  cases op with
  | And => exact pw_mono (pw_and1 ha) fun σ H Q h => h.of e
  | Or => exact pw_mono (pw_or1 ha) fun σ H Q h => h.of e
theorem sw_and {rest : List Expr} (ha : ST X Wx a (fun ρ => bind (fa ρ) truthR)) (hb : SW X Wx (.BoolOp .And (b :: rest) pos) (fun ρ => bind (fb ρ) truthR)) :
    SW X Wx (.BoolOp .And (a :: b :: rest) pos) (fun ρ => bind (bind (fa ρ) fun r ρ1 => match peek ρ1 r with | some (.bool true) => fb ρ1 | some (.bool false) => .ok (.val (.bool false)) ρ1 | _ => .stuck) truthR) := by
  refine pw_mono (pw_and ha hb) fun σ H Q ⟨B, Z, ρ, C, h⟩ => ?_
  have h : tOut (bind (bind (fa ρ) truthR) fun t ρ2 => if t = true then bind (fb ρ2) truthR else .ok false ρ2) (fun b ρ' => ∀ H', PostX X.K B Z ρ ρ' σ H H' → Q b H') (Gx X.K Wx B Z ρ σ H) := by
    dsimp only at h
    rw [bind_bind] at h ⊢
    cases e : fa ρ with
    | ok r ρ1 =>
      rw [e] at h
      dsimp only [PL.bind] at h ⊢
      unfold truthR
      cases e2 : peek ρ1 r with
      | none => rw [e2] at h; exact h.elim
      | some d =>
        rw [e2] at h
        cases d with
        | bool t => cases t <;> exact h
        | _ => exact h.elim
    | exc c ρ1 => rw [e] at h; exact h
    | stuck => rw [e] at h; exact h
  refine st_run (ft := fun ρ => bind (fa ρ) truthR) C h (fun _ _ z => z) fun t ρ1 H1 P1 h1 => ?_
  cases t with
  | true => exact ⟨B, Z, ρ1, P1.conc, tOut.mono h1 (fun r ρ' q H' p => q H' (P1.seq p)) fun c ρ' g => g.step P1⟩
  | false => exact h1 H1 P1
theorem sw_or {rest : List Expr} (ha : ST X Wx a (fun ρ => bind (fa ρ) truthR)) (hb : SW X Wx (.BoolOp .Or (b :: rest) pos) (fun ρ => bind (fb ρ) truthR)) :
    SW X Wx (.BoolOp .Or (a :: b :: rest) pos) (fun ρ => bind (bind (fa ρ) fun r ρ1 => match peek ρ1 r with | some (.bool false) => fb ρ1 | some (.bool true) => .ok (.val (.bool true)) ρ1 | _ => .stuck) truthR) := by
  refine pw_mono (pw_or ha hb) fun σ H Q ⟨B, Z, ρ, C, h⟩ => ?_
  have h : tOut (bind (bind (fa ρ) truthR) fun t ρ2 => if t = true then .ok true ρ2 else bind (fb ρ2) truthR) (fun b ρ' => ∀ H', PostX X.K B Z ρ ρ' σ H H' → Q b H') (Gx X.K Wx B Z ρ σ H) := by
    dsimp only at h
    rw [bind_bind] at h ⊢
    cases e : fa ρ with
    | ok r ρ1 =>
      rw [e] at h
      dsimp only [PL.bind] at h ⊢
      unfold truthR
      cases e2 : peek ρ1 r with
      | none => rw [e2] at h; exact h.elim
      | some d =>
        rw [e2] at h
        cases d with
        | bool t => cases t <;> exact h
        | _ => exact h.elim
    | exc c ρ1 => rw [e] at h; exact h
    | stuck => rw [e] at h; exact h
  refine st_run (ft := fun ρ => bind (fa ρ) truthR) C h (fun _ _ z => z) fun t ρ1 H1 P1 h1 => ?_
  cases t with
  | true => exact h1 H1 P1
  | false => exact ⟨B, Z, ρ1, P1.conc, tOut.mono h1 (fun r ρ' q H' p => q H' (P1.seq p)) fun c ρ' g => g.step P1⟩
end
end PL

set_option autoImplicit false
set_option linter.all false
set_option Elab.async false
set_option maxRecDepth 100000
set_option maxHeartbeats 1000000
/-! PL7: chains of comparisons, displays, built-in calls, items, slices. -/
namespace PL
open PySem PySem.Spec PyProof.Rows L2
structure SCh (X : Cx) (Wx : WX) (ops : List CmpOp) (es : List Expr) (g : Res → PL.Env → Out Bool) : Prop where
  val : ∀ (pos : Pos) (pins : List (Addr × Obj)) (s : Shared) (σ : L2.St) (H : Hp) (u : Value) (x : V) (B Z : Addr → Prop) (ρ : PL.Env) (ra : Res) (Q : VK), L2.Inv X pins σ H s → RelV x u → Conc X.K B Z ρ σ H → Held X.K Z ρ σ H x ra →
    tOut (g ra ρ) (fun b ρ' => ∀ H', PostX X.K B Z ρ ρ' σ H H' → Q (.bl b) H') (Gx X.K Wx B Z ρ σ H) → wpAny (model X.prog X.w) X.A (compareChain pos u ops (evalEach es X.env)) (EP X pins σ Q) X.xe s
  tst : ∀ (pos : Pos) (pins : List (Addr × Obj)) (s : Shared) (σ : L2.St) (H : Hp) (u : Value) (x : V) (B Z : Addr → Prop) (ρ : PL.Env) (ra : Res) (Q : Bool → Hp → Prop), L2.Inv X pins σ H s → RelV x u → Conc X.K B Z ρ σ H → Held X.K Z ρ σ H x ra →
    tOut (g ra ρ) (fun b ρ' => ∀ H', PostX X.K B Z ρ ρ' σ H H' → Q b H') (Gx X.K Wx B Z ρ σ H) → wpAny (model X.prog X.w) X.A (testChain pos u ops (evalEach es X.env)) (TP X pins σ Q) X.xe s
section
variable {X : Cx} {Wx : WX}
theorem cmp_run {K : PySem.W.Frag} {B Z : Addr → Prop} {ρ1 : PL.Env} {σ : L2.St} {H1 : Hp} {x y : V} {ra rb : Res} {op : CmpOp} {β : Type} {k : Bool → PL.Env → Out β} {Qok : β → PL.Env → Prop} {Qx : Str → PL.Env → Prop}
    (ha : Held K Z ρ1 σ H1 x ra) (p : PostR K B Z ρ1 σ H1 y rb) (h : tOut (bind (cmpR op ra rb ρ1) k) Qok Qx) : ∃ d e b, Op K (Fb Z ρ1 σ) H1 x d ∧ Op K (Fb Z ρ1 σ) H1 y e ∧ cmpD op d e = some b ∧ tOut (k b ρ1) Qok Qx := by
  unfold cmpR at h
  cases e1 : peek ρ1 ra with
  | none => rw [e1] at h; exact h.elim
  | some d =>
    cases e2 : peek ρ1 rb with
    | none => rw [e1, e2] at h; exact h.elim
    | some e =>
      rw [e1, e2] at h
      dsimp only at h
      cases e3 : cmpD op d e with
      | none => rw [e3] at h; exact h.elim
      | some b =>
        rw [e3] at h
        exact ⟨d, e, b, ha.op p.conc e1, p.held.op p.conc e2, e3, h⟩
theorem cmp_do {op : CmpOp} (ho : CmpOk X op) {pins : List (Addr × Obj)} {s : Shared} {σ : L2.St} {H : Hp} {x y : V} {v u : Value} {B Z : Addr → Prop} {ρ : PL.Env} {d e : PyData} {b : Bool} {R : Value → Shared → Prop}
    (I : L2.Inv X pins σ H s) (rx : RelV x v) (ry : RelV y u) (C : Conc X.K B Z ρ σ H) (o1 : Op X.K (Fb Z ρ σ) H x d) (o2 : Op X.K (Fb Z ρ σ) H y e) (h : cmpD op d e = some b)
    (q : ∀ s' H', L2.Inv X pins σ H' s' → PostX X.K B Z ρ ρ σ H H' → R (.bool b) s') : wpAny (model X.prog X.w) X.A (compareOp op v u) R X.xe s := by
  refine thn (ho pins s σ H x y v u (fun z H' => z = .bl b ∧ PostX X.K B Z ρ ρ σ H H') I rx ry ⟨Fb Z ρ σ, d, e, _, fun a z => C.fb z, o1, o2, (show Option.map (fun b => Res.val (PyData.bool b)) (cmpD op d e) = some (.val (.bool b)) by rw [h]; rfl), fun z H' n => ?_⟩) fun c s' ⟨z, H', I', r', ez, p⟩ => ?_
  · obtain ⟨k, rp⟩ := n
    cases rp
    exact ⟨rfl, (post_new C ⟨k, Rp.bl b⟩ : Post X.K B Z ρ ρ σ H H' (.bl b) (.val (.bool b))).x⟩
  · subst ez
    cases r'
    exact q s' H' I' p
theorem sch_last {op : CmpOp} {e : Expr} {f : PL.Env → Out Res} (ho : CmpOk X op) (he : SE X Wx e f) : SCh X Wx [op] [e] (fun ra ρ => bind (f ρ) fun rb ρ1 => bind (cmpR op ra rb ρ1) fun b ρ2 => .ok b ρ2) := by
  constructor
  · intro pos pins s σ H u x B Z ρ ra Q I r C ha h
    refine chain_last (thn (he.run pins s σ H (fun y H1 => ∀ s1 w, L2.Inv X pins σ H1 s1 → RelV y w → wpAny (model X.prog X.w) X.A (compareOp op u w) (EP X pins σ Q) X.xe s1) I ?_) fun w s1 ⟨y, H1, I1, r1, q1⟩ => q1 s1 w I1 r1)
    refine sub_run C h (fun _ _ z => z) fun rb ρ1 y H1 P1 h1 s1 w I1 r1 => ?_
    obtain ⟨d, e', b, o1, o2, hc, h2⟩ := cmp_run (ha.move P1.x) P1.res h1
    exact cmp_do ho I1 r r1 P1.conc o1 o2 hc fun s' H' I' p => ⟨.bl b, H', I', rfl, h2 H' (P1.x.seq p)⟩
  · intro pos pins s σ H u x B Z ρ ra Q I r C ha h
    refine test_last (thn (he.run pins s σ H (fun y H1 => ∀ s1 w, L2.Inv X pins σ H1 s1 → RelV y w → wpAny (model X.prog X.w) X.A (compareOp op u w) (fun c s2 => wpAny (model X.prog X.w) X.A (truthy c) (TP X pins σ Q) X.xe s2) X.xe s1) I ?_) fun w s1 ⟨y, H1, I1, r1, q1⟩ => q1 s1 w I1 r1)
    refine sub_run C h (fun _ _ z => z) fun rb ρ1 y H1 P1 h1 s1 w I1 r1 => ?_
    obtain ⟨d, e', b, o1, o2, hc, h2⟩ := cmp_run (ha.move P1.x) P1.res h1
    exact cmp_do ho I1 r r1 P1.conc o1 o2 hc fun s' H' I' p => wpAny_truthy_bool ⟨H', I', h2 H' (P1.x.seq p)⟩
theorem sch_link {op op' : CmpOp} {ops : List CmpOp} {e e2 : Expr} {es : List Expr} {f : PL.Env → Out Res} {g : Res → PL.Env → Out Bool} (ho : CmpOk X op) (he : SE X Wx e f) (hr : SCh X Wx (op' :: ops) (e2 :: es) g) :
    SCh X Wx (op :: op' :: ops) (e :: e2 :: es) (fun ra ρ => bind (f ρ) fun rb ρ1 => bind (cmpR op ra rb ρ1) fun b ρ2 => if b then g rb ρ2 else .ok false ρ2) := by
  constructor
  · intro pos pins s σ H u x B Z ρ ra Q I r C ha h
    refine chain_link (thn (he.run pins s σ H (fun y H1 => ∀ s1 w, L2.Inv X pins σ H1 s1 → RelV y w → wpAny (model X.prog X.w) X.A (compareOp op u w) (fun c s2 => wpAny (model X.prog X.w) X.A (truthy c)
      (fun t s3 => if t then wpAny (model X.prog X.w) X.A (compareChain pos w (op' :: ops) (evalEach (e2 :: es) X.env)) (EP X pins σ Q) X.xe s3 else EP X pins σ Q c s3) X.xe s2) X.xe s1) I ?_) fun w s1 ⟨y, H1, I1, r1, q1⟩ => q1 s1 w I1 r1)
    refine sub_run C h (fun _ _ z => z) fun rb ρ1 y H1 P1 h1 s1 w I1 r1 => ?_
    obtain ⟨d, e', b, o1, o2, hc, h2⟩ := cmp_run (ha.move P1.x) P1.res h1
    refine cmp_do ho I1 r r1 P1.conc o1 o2 hc fun s' H' I' p => wpAny_truthy_bool ?_
    have pp := P1.x.seq p
    cases b with
    | false => exact ite_ff ⟨.bl false, H', I', rfl, h2 H' pp⟩
    | true => exact ite_tt (hr.val pos pins s' σ H' w y B Z ρ1 rb Q I' r1 pp.conc (P1.res.held.move p) (tOut.mono h2 (fun b ρ' q H2 p2 => q H2 (pp.seq p2)) fun c ρ' z => z.step pp))
  · intro pos pins s σ H u x B Z ρ ra Q I r C ha h
    refine test_link (thn (he.run pins s σ H (fun y H1 => ∀ s1 w, L2.Inv X pins σ H1 s1 → RelV y w → wpAny (model X.prog X.w) X.A (compareOp op u w) (fun c s2 => wpAny (model X.prog X.w) X.A (truthy c)
      (fun t s3 => if t then wpAny (model X.prog X.w) X.A (testChain pos w (op' :: ops) (evalEach (e2 :: es) X.env)) (TP X pins σ Q) X.xe s3 else TP X pins σ Q false s3) X.xe s2) X.xe s1) I ?_) fun w s1 ⟨y, H1, I1, r1, q1⟩ => q1 s1 w I1 r1)
    refine sub_run C h (fun _ _ z => z) fun rb ρ1 y H1 P1 h1 s1 w I1 r1 => ?_
    obtain ⟨d, e', b, o1, o2, hc, h2⟩ := cmp_run (ha.move P1.x) P1.res h1
    refine cmp_do ho I1 r r1 P1.conc o1 o2 hc fun s' H' I' p => wpAny_truthy_bool ?_
    have pp := P1.x.seq p
    cases b with
    | false => exact ite_ff ⟨H', I', h2 H' pp⟩
    | true => exact ite_tt (hr.tst pos pins s' σ H' w y B Z ρ1 rb Q I' r1 pp.conc (P1.res.held.move p) (tOut.mono h2 (fun b ρ' q H2 p2 => q H2 (pp.seq p2)) fun c ρ' z => z.step pp))
theorem se_cmp {a : Expr} {ops : List CmpOp} {es : List Expr} {pos : Pos} {fa : PL.Env → Out Res} {g : Res → PL.Env → Out Bool} (ha : SE X Wx a fa) (hr : SCh X Wx ops es g) (hm : lastMarks ops es = false) :
    SE X Wx (.Compare a ops es pos) (fun ρ => bind (fa ρ) fun ra ρ1 => bind (g ra ρ1) fun b ρ2 => .ok (.val (.bool b)) ρ2) := by
  refine ⟨fun pins s σ H Q I ⟨B, Z, ρ, C, h⟩ => ?_⟩
  show wpAny _ _ (do compareChain pos (← eval a X.env) ops (markedEach ops es (evalEach es X.env))) _ _ _
  rw [markedEach_of_false _ _ _ hm]
  refine wpAny_bind (thn (ha.run pins s σ H (fun x H1 => ∀ s1 u, L2.Inv X pins σ H1 s1 → RelV x u → wpAny (model X.prog X.w) X.A (compareChain pos u ops (evalEach es X.env)) (EP X pins σ Q) X.xe s1) I ?_) fun u s1 ⟨x, H1, I1, r1, q1⟩ => q1 s1 u I1 r1)
  refine sub_run C h (fun _ _ z => z) fun ra ρ1 x H1 P1 h1 s1 u I1 r1 => ?_
  refine hr.val pos pins s1 σ H1 u x B Z ρ1 ra Q I1 r1 P1.conc P1.res.held ?_
  cases e : g ra ρ1 with
  | ok b ρ2 =>
    rw [e] at h1
    exact fun H' p => h1 _ H' ((P1.x.seq p).post (post_val p.conc (.bl b)))
  | exc c ρ2 =>
    rw [e] at h1
    exact Gx.step h1 P1.x
  | stuck =>
    rw [e] at h1
    exact h1
theorem st_cmp {a : Expr} {ops : List CmpOp} {es : List Expr} {pos : Pos} {fa : PL.Env → Out Res} {g : Res → PL.Env → Out Bool} (ha : SE X Wx a fa) (hr : SCh X Wx ops es g) (hm : lastMarks ops es = false) :
    ST X Wx (.Compare a ops es pos) (fun ρ => bind (bind (fa ρ) fun ra ρ1 => bind (g ra ρ1) fun b ρ2 => .ok (.val (.bool b)) ρ2) truthR) := by
  refine ⟨fun pins s σ H Q I ⟨B, Z, ρ, C, h⟩ => ?_⟩
  show wpAny _ _ (do testChain pos (← eval a X.env) ops (markedEach ops es (evalEach es X.env))) _ _ _
  rw [markedEach_of_false _ _ _ hm]
  refine wpAny_bind (thn (ha.run pins s σ H (fun x H1 => ∀ s1 u, L2.Inv X pins σ H1 s1 → RelV x u → wpAny (model X.prog X.w) X.A (testChain pos u ops (evalEach es X.env)) (TP X pins σ Q) X.xe s1) I ?_) fun u s1 ⟨x, H1, I1, r1, q1⟩ => q1 s1 u I1 r1)
  dsimp only at h
  rw [bind_bind] at h
  refine sub_run C h (fun _ _ z => z) fun ra ρ1 x H1 P1 h1 s1 u I1 r1 => ?_
  refine hr.tst pos pins s1 σ H1 u x B Z ρ1 ra Q I1 r1 P1.conc P1.res.held ?_
  rw [bind_bind] at h1
  cases e : g ra ρ1 with
  | ok b ρ2 =>
    rw [e] at h1
    exact fun H' p => h1 H' (P1.x.seq p)
  | exc c ρ2 =>
    rw [e] at h1
    exact Gx.step h1 P1.x
  | stuck =>
    rw [e] at h1
    exact h1

/-! ### displays -/
theorem se_tup {es : List Expr} {fc : PL.Env → Out (List PyData)} {k : Nat} {pos : Pos} (h : SC X Wx es fc) : SE X Wx (.Tuple es k pos) (fun ρ => bind (fc ρ) fun ds ρ1 => if szOk ds.length then .ok (.val (.tuple ds)) ρ1 else .stuck) := by
  refine pe_mono (pe_tup h) fun σ H Q ⟨B, Z, ρ, C, h⟩ => ?_
  refine sc_run C h (fun _ _ z => z) fun ds ρ1 vs H1 P1 rp h1 => ?_
  by_cases hz : szOk ds.length = true
  · rw [if_pos hz] at h1
    refine ⟨by rw [rp.length]; exact szOk_le hz, fun p hp => h1 _ _ (P1.post (post_new P1.conc (new_tup (fun a z => P1.conc.fb z) hp rp)))⟩
  · rw [if_neg hz] at h1
    exact h1.elim
theorem se_lst {es : List Expr} {fc : PL.Env → Out (List PyData)} {pos : Pos} (h : SC X Wx es fc) : SE X Wx (.List es pos) (fun ρ => bind (fc ρ) fun ds ρ1 => if szOk ds.length then .ok (.fresh (.list ds)) ρ1 else .stuck) := by
  refine pe_mono (pe_lst h) fun σ H Q ⟨B, Z, ρ, C, h⟩ => ?_
  refine sc_run C h (fun _ _ z => z) fun ds ρ1 vs H1 P1 rp h1 => ?_
  by_cases hz : szOk ds.length = true
  · rw [if_pos hz] at h1
    refine ⟨by rw [rp.length]; exact szOk_le hz, fun p hp => h1 _ _ (P1.post (post_new P1.conc (new_lst hp rp)))⟩
  · rw [if_neg hz] at h1
    exact h1.elim

/-! ### no stars -/
def unstar : Expr → Bool
  | .Starred .. => false
  | _ => true
theorem star_cons {e : Expr} {es : List Expr} {env : PySem.Env} (h : unstar e = true) : starEach (e :: es) env = (false, eval e env) :: starEach es env := by
  cases e <;> first | rfl | cases h
theorem star_any {pos : Pos} {env : PySem.Env} : ∀ {es : List Expr}, es.all unstar = true → (backTo pos (starEach es env)).any (·.1) = false
  | [], _ => rfl
  | e :: es, h => by
    rw [List.all_cons, Bool.and_eq_true] at h
    rw [star_cons h.1]
    exact star_any (es := es) h.2

/-! ### calls of built-ins -/
section
variable {x : Str} {e : Expr} {es : List Expr} {fr : PL.Env → Out (List Res)} {p pos : Pos} {b : Bi}
theorem bi_run {K : PySem.W.Frag} {B Z : Addr → Prop} {ρ : PL.Env} {σ : L2.St} {H : Hp} {b : Bi} {Q : VK} (C : Conc K B Z ρ σ H)
    (h : tOut (bind (fr ρ) fun rs ρ1 => biR b rs ρ1) (fun r ρ' => ∀ v H', Post K B Z ρ ρ' σ H H' v r → Q v H') (Gx K Wx B Z ρ σ H)) : tSA K Wx fr σ H fun vs H1 => rCl K (biD b) vs H1 Q := by
  refine sa_run C h (fun _ _ z => z) fun rs ρ1 vs H1 P1 a h1 => ?_
  unfold biR at h1
  cases e1 : peeks ρ1 rs with
  | none => rw [e1] at h1; exact h1.elim
  | some ds =>
    rw [e1] at h1
    obtain ⟨r, e2, q⟩ := h1.ofO
    exact ⟨Fb Z ρ1 σ, ds, r, fun a z => P1.conc.fb z, a.op P1.conc e1, e2, fun v H' n => q v H' (P1.post (post_new P1.conc n))⟩
theorem se_callB {id : String} (hc : CallR X (.builtin id) (rCl X.K (biD b))) (hg : Gl X x) (hm : X.mg x = none) (hv : bootBuiltins x = some (.builtin id)) (ha : SA X Wx (e :: es) fr) (hn : x ≠ "__name__") (hdb : (x == ("__debug__" : Str)) = false)
    (hs : (e :: es).all unstar = true) : SE X Wx (.Call (.Name x p) (e :: es) [] pos) (fun ρ => bind (fr ρ) fun rs ρ1 => biR b rs ρ1) := by
  rw [List.all_cons, Bool.and_eq_true] at hs
  refine pe_mono (pe_callB hc hg hm hv ha hn hdb (star_cons hs.1) (star_any hs.2)) fun σ H Q ⟨B, Z, ρ, C, h⟩ => bi_run C h
theorem se_callTy {T : String} (hc : CallR X (.type T) (rCl X.K (biD b))) (hg : Gl X x) (hm : X.mg x = none) (hv : bootBuiltins x = some (.type T)) (ha : SA X Wx (e :: es) fr) (hn : x ≠ "__name__") (hdb : (x == ("__debug__" : Str)) = false)
    (hs : (e :: es).all unstar = true) : SE X Wx (.Call (.Name x p) (e :: es) [] pos) (fun ρ => bind (fr ρ) fun rs ρ1 => biR b rs ρ1) := by
  rw [List.all_cons, Bool.and_eq_true] at hs
  refine pe_mono (pe_callTy hc hg hm hv ha hn hdb (star_cons hs.1) (star_any hs.2)) fun σ H Q ⟨B, Z, ρ, C, h⟩ => bi_run C h
end

/-! ### items, slices -/
def plainIx : Expr → Bool
  | .Slice .. => false
  | _ => true
theorem plain_ix {b : Expr} (h : plainIx b = true) : PlainIx b := by
  intro o i
  cases b <;> first | rfl | cases h
section
variable {a i : Expr} {fa fi : PL.Env → Out Res} {pos p2 : Pos}
theorem se_idx (ok : XOk X) (ha : SE X Wx a fa) (hi : SE X Wx i fi) (hp : plainIx i = true) : SE X Wx (.Subscript a i pos) (fun ρ => bind (fa ρ) fun ra ρ1 => bind (fi ρ1) fun ri ρ2 => idxR ra ri ρ2) := by
  refine pe_mono (pe_ix (ix_op ok) ha hi (plain_ix hp)) fun σ H Q ⟨B, Z, ρ, C, h⟩ => ?_
  refine sub_run C h (fun _ _ z => z) fun ra ρ1 x H1 P1 h1 => sub_run P1.conc h1 (fun c ρ' z => z.step P1.x) fun rb ρ2 y H2 P2 h2 => ?_
  unfold idxR at h2
  cases e1 : peek ρ2 ra with
  | none => rw [e1] at h2; exact h2.elim
  | some d =>
    cases e2 : peek ρ2 rb with
    | none => rw [e1, e2] at h2; exact h2.elim
    | some e =>
      rw [e1, e2] at h2
      dsimp only at h2
      cases e3 : idxD d e with
      | none => rw [e3] at h2; exact h2.elim
      | some m =>
        rw [e3] at h2
        exact ⟨Fb Z ρ2 σ, d, e, _, fun a z => P2.conc.fb z, peek_op P1.res P2.x e1, peek_op P2.res (.refl P2.conc) e2, by show Option.map Res.val (idxD d e) = _; rw [e3]; rfl, fun v H' n => h2 v H' ((P1.x.seq P2.x).post (post_new P2.conc n))⟩
/-- a slice's bound -/
def tSO (K : PySem.W.Frag) (Wx : WX) (f : PL.Env → Out (Option Int)) : TO := fun σ H Q => ∃ B Z ρ, Conc K B Z ρ σ H ∧ tOut (f ρ) (fun o ρ' => ∀ H', PostX K B Z ρ ρ' σ H H' → Q o H') (Gx K Wx B Z ρ σ H)
def SO (X : Cx) (Wx : WX) (e : Option Expr) (f : PL.Env → Out (Option Int)) : Prop := PO X e (tSO X.K Wx f)
theorem po_mono {e : Option Expr} {t t' : TO} (h : PO X e t) (i : ∀ σ H Q, t' σ H Q → t σ H Q) : PO X e t' := ⟨fun pins s σ H Q I q => h.run pins s σ H Q I (i σ H Q q)⟩
theorem so_none : SO X Wx none (fun ρ => .ok none ρ) := po_mono po_none fun σ H Q ⟨B, Z, ρ, C, h⟩ => h H (.refl C)
theorem so_some (ha : SE X Wx a fa) : SO X Wx (some a) (fun ρ => bind (fa ρ) intR) := by
  refine po_mono (po_some ha) fun σ H Q ⟨B, Z, ρ, C, h⟩ => ?_
  refine sub_run C h (fun _ _ z => z) fun r ρ1 x H1 P1 h1 => ?_
  unfold intR at h1
  cases r with
  | val d =>
    cases d with
    | int i =>
      have o : Op X.K (Fb Z ρ1 σ) H1 x (.int i) := .rp P1.res.2
      exact ⟨i, o.int, h1 H1 P1.x⟩
    | _ => exact h1.elim
  | _ => exact h1.elim
theorem so_run {K : PySem.W.Frag} {B Z : Addr → Prop} {ρ : PL.Env} {σ : L2.St} {H : Hp} {β : Type} {fo : PL.Env → Out (Option Int)} {k : Option Int → PL.Env → Out β} {Qok : β → PL.Env → Prop} {Qx : Str → PL.Env → Prop} {T : Option Int → Hp → Prop}
    (C : Conc K B Z ρ σ H) (h : tOut (bind (fo ρ) k) Qok Qx) (hx : ∀ c ρ', Qx c ρ' → Gx K Wx B Z ρ σ H c ρ')
    (next : ∀ o ρ1 H1, PostX K B Z ρ ρ1 σ H H1 → tOut (k o ρ1) Qok Qx → T o H1) : tSO K Wx fo σ H T := by
  refine ⟨B, Z, ρ, C, ?_⟩
  cases e : fo ρ with
  | ok r ρ1 =>
    rw [e] at h
    exact fun H1 p => next r ρ1 H1 p h
  | exc c ρ1 =>
    rw [e] at h
    exact hx c ρ1 h
  | stuck =>
    rw [e] at h
    exact h
theorem se_sli {lo hi : Option Expr} {fl fh : PL.Env → Out (Option Int)} (ok : XOk X) (ha : SE X Wx a fa) (hl : SO X Wx lo fl) (hh : SO X Wx hi fh) :
    SE X Wx (.Subscript a (.Slice lo hi none p2) pos) (fun ρ => bind (fa ρ) fun ra ρ1 => bind (fl ρ1) fun l ρ2 => bind (fh ρ2) fun u ρ3 => sliR ra l u ρ3) := by
  refine pe_mono (pe_slice (sl_op ok) ha hl hh) fun σ H Q ⟨B, Z, ρ, C, h⟩ => ?_
  refine sub_run C h (fun _ _ z => z) fun ra ρ1 x H1 P1 h1 => so_run P1.conc h1 (fun c ρ' z => z.step P1.x) fun l ρ2 H2 P2 h2 => so_run P2.conc h2 (fun c ρ' z => z.step (P1.x.seq P2)) fun u ρ3 H3 P3 h3 => ?_
  unfold sliR at h3
  cases e1 : peek ρ3 ra with
  | none => rw [e1] at h3; exact h3.elim
  | some d =>
    rw [e1] at h3
    obtain ⟨r, e3, q⟩ := h3.ofO
    exact ⟨Fb Z ρ3 σ, d, r, fun a z => P3.conc.fb z, peek_op P1.res (P2.seq P3) e1, e3, fun v H' n => q v H' ((P1.x.seq (P2.seq P3)).post (post_new P3.conc n))⟩
end

/-! ### methods that change a list of one's own -/
section
variable {K : PySem.W.Frag} {B Z : Addr → Prop} {ρ : PL.Env} {σ : L2.St} {H : Hp}
theorem set_sub {i : Nat} {io : Bool} {d d' : PyData} (h : ρ[i]? = some (.h io d)) : Sub ρ (ρ.set i (.h io d')) := fun j io' e z => by
  rcases set_get z with ⟨rfl, w⟩ | ⟨_, z⟩
  · cases w; exact ⟨d, h⟩
  · exact ⟨e, z⟩
theorem Conc.write (C : Conc K B Z ρ σ H) {i : Nat} {io : Bool} {d d' : PyData} {a : Addr} {o : HO} (h : ρ[i]? = some (.h io d)) (ha : σ[i]? = some (some (.ref a))) (ow : Own K (Fb Z ρ σ) (upd H a o) a d') :
    PostX K B Z ρ (ρ.set i (.h io d')) σ H (upd H a o) := by
  have hot : HotAt ρ σ a := ⟨i, io, d, h, ha⟩
  have sub : Sub ρ (ρ.set i (.h io d')) := set_sub h
  have kp : Keeps (Fb Z ρ σ) H (upd H a o) := Keeps.put (.inr hot)
  have li : i < ρ.length := by
    rcases Nat.lt_or_ge i ρ.length with l | l
    · exact l
    · rw [List.getElem?_eq_none l] at h; cases h
  refine ⟨Keeps.put hot, sub, fun j e z => ?_, fun j io' e z => ?_, fun j k io1 io2 d1 d2 b h1 h2 s1 s2 => ?_, fun b z => kp.there b (C.tr b z), fun b z => kp.there b (C.trB b z), by rw [List.length_set]; exact C.len⟩
  · rcases set_get z with ⟨_, z⟩ | ⟨_, z⟩
    · cases z
    · obtain ⟨w, e1, r⟩ := C.cold j e z
      exact ⟨w, e1, r.move kp (fb_sub sub.hot)⟩
  · rcases set_get z with ⟨rfl, w⟩ | ⟨ne, z⟩
    · cases w
      obtain ⟨b, e1, n, nb, _⟩ := C.hot i io d h
      rw [ha] at e1
      cases e1
      exact ⟨a, ha, n, nb, ow.move Keeps.refl (fb_sub sub.hot) fun u e => e⟩
    · obtain ⟨b, e1, n, nb, ob⟩ := C.hot j io' e z
      refine ⟨b, e1, n, nb, ob.move kp (fb_sub sub.hot) fun u eu => ?_⟩
      rw [upd_ne (fun q => ne (C.inj i j io io' d e a h z ha (by rw [← q]; exact e1)))]
      exact eu
  · obtain ⟨e1, h1⟩ := sub j io1 d1 h1
    obtain ⟨e2, h2⟩ := sub k io2 d2 h2
    exact C.inj j k io1 io2 e1 e2 b h1 h2 s1 s2
end
end
end PL

set_option autoImplicit false
set_option linter.all false
set_option Elab.async false
set_option maxRecDepth 100000
set_option maxHeartbeats 1000000
/-! PL8: methods that change a list of one's own. -/
namespace PL
open PySem PySem.Spec PyProof.Rows L2
section
variable {X : Cx} {Wx : WX}
def rMt (K : PySem.W.Frag) (m : Me) : V → List V → Hp → VK → Prop := fun x vs H Q => ∃ (Y : Addr → Prop) (a : Addr) (xs : List V) (es ds : List PyData) (y d' : PyData), x = .ref a ∧ Y a ∧ H a = some (.lst xs) ∧ RpA K Y H xs es ∧ RpA K Y H vs ds ∧
  metM m (.list es) ds = some (y, d') ∧ ∀ v o, Own K Y (upd H a o) a d' → Rp K Y (upd H a o) v y → Q v (upd H a o)
theorem own_new {K : PySem.W.Frag} {Y : Addr → Prop} {H : Hp} {a : Addr} {xs : List V} {ds : List PyData} (hY : Y a) (r : RpA K Y H xs ds) : Own K Y (upd H a (.lst xs)) a (.list ds) :=
  ⟨xs, upd_same, r.move (Keeps.put hY) fun _ z => z⟩
theorem RpA.nil' {K : PySem.W.Frag} {Y : Addr → Prop} {H : Hp} {vs : List V} (r : RpA K Y H vs []) : vs = [] := by cases r; rfl
theorem RpA.one' {K : PySem.W.Frag} {Y : Addr → Prop} {H : Hp} {vs : List V} {d : PyData} (r : RpA K Y H vs [d]) : ∃ v, vs = [v] ∧ Rp K Y H v d := by
  cases r with
  | cons a b => rw [b.nil']; exact ⟨_, rfl, a⟩
theorem mtm_append : MtR X "list.append" (rMt X.K .append) := by
  rintro pins s σ H x vs v us Q I rx rv ⟨Y, a, xs, es, ds, y, d', rfl, hY, hH, r, rd, h, q⟩
  match ds, rd, h with
  | [], _, h => cases h
  | _ :: _ :: _, _, h => cases h
  | [d], rd, h =>
    obtain ⟨z, rfl, rz⟩ := rd.one'
    by_cases hz : szOk es.length = true
    · rw [metM, if_pos hz] at h
      cases h
      refine mt_append pins s σ H _ _ v us Q I rx rv ⟨a, xs, z, rfl, rfl, hH, by rw [r.length]; exact szOk_lt hz, q _ _ (own_new hY (r.append (.cons rz .nil))) .non⟩
    · rw [metM, if_neg hz] at h
      cases h
theorem mtm_extend : MtR X "list.extend" (rMt X.K .extend) := by
  rintro pins s σ H x vs v us Q I rx rv ⟨Y, a, xs, es, ds, y, d', rfl, hY, hH, r, rd, h, q⟩
  match ds, rd, h with
  | [], _, h => cases h
  | _ :: _ :: _, _, h => exact absurd h (by simp [metM])
  | [d], rd, h =>
    obtain ⟨z, rfl, rz⟩ := rd.one'
    cases d with
    | list ys =>
      by_cases hz : szOk (es.length + ys.length) = true
      · rw [metM, if_pos hz] at h
        cases h
        cases rz with
        | @lst b zs _ nb hb rb =>
          cases rx
          obtain ⟨u, rfl, ru⟩ := L2.Vals.one rv
          cases ru
          obtain ⟨z, its, n, ri, hl, e⟩ := I.lstM hH
          obtain ⟨z2, its2, n2, r2, e2⟩ := rd_list I hb
          have hle := szOk_le hz
          have hl2 := r2.length
          have len1 := r.length
          have len2 := rb.length
          have hsz : its.toArray.size + its2.toArray.size ≤ sizeLine := by rw [List.size_toArray, List.size_toArray]; omega
          have hlong : ¬ (!its.toArray.isEmpty && Builtin.List.listTooLong (its.toArray.size + its2.toArray.size)) = true := by
            rw [notLongL hsz, Bool.and_false]
            exact Bool.false_ne_true
          refine call_meets F.slot_list_extend ⟨_, e, rfl⟩ F.entry_list_extend (F.args_list_extend_2 _ _)
            (AutoSeq1.list_extend_list_list_0 a its.toArray n b its2.toArray n2 hlong (by rw [List.size_toArray]; omega) (by omega)) ⟨e, e2, ?_⟩
          refine ⟨.non, _, I.lset (its' := its ++ its2) hH e (by simp) (ri.append r2) ?_, rfl, q _ _ (own_new hY (r.append rb)) .non⟩
          rw [List.length_append]
          omega
      · rw [metM, if_neg hz] at h
        cases h
    | _ => cases h
theorem mtm_pop : MtR X "list.pop" (rMt X.K .pop) := by
  rintro pins s σ H x vs v us Q I rx rv ⟨Y, a, xs, es, ds, y, d', rfl, hY, hH, r, rd, h, q⟩
  match ds, rd, h with
  | [], rd, h =>
    cases rd.nil'
    rw [metM] at h
    cases e : es[es.length - 1]? with
    | none => rw [e] at h; cases h
    | some w =>
      rw [e] at h
      cases h
      obtain ⟨v', e1, r1⟩ := r.get e
      have e1' : xs[xs.length - 1]? = some v' := by rw [r.length]; exact e1
      exact mt_pop pins s σ H _ _ v us Q I rx rv ⟨a, xs, v', rfl, rfl, hH, e1', q _ _ (own_new hY r.dropLast) (r1.move (Keeps.put hY) fun _ z => z)⟩
  | _ :: _ :: _, _, h => exact absurd h (by simp [metM])
  | [d], rd, h =>
    obtain ⟨z, rfl, rz⟩ := rd.one'
    cases d with
    | int i =>
      cases rz
      rw [metM] at h
      cases e : ixD es.length i with
      | none => rw [e] at h; cases h
      | some j =>
        rw [e] at h
        dsimp only [Option.bind_some] at h
        cases e2 : es[j]? with
        | none => rw [e2] at h; cases h
        | some w =>
          rw [e2] at h
          cases h
          obtain ⟨v', e1, r1⟩ := r.get e2
          rw [ix_eq, ← r.length] at e
          obtain ⟨k1, k2, k3, k4⟩ := ixN_seq e
          have hz := (I.lstM hH).1
          have hn := line63
          exact mt_popAt pins s σ H _ _ v us Q I rx rv ⟨a, xs, i, j, v', rfl, rfl, hH, by omega, by omega, k1, e1, q _ _ (own_new hY (r.eraseIdx j)) (r1.move (Keeps.put hY) fun _ z => z)⟩
    | _ => cases h

/-! ### o.m(..) as an expression -/
section
variable {o e : Expr} {es : List Expr} {name : Str} {apos cpos : Pos} {fo : PL.Env → Out Res} {fc : PL.Env → Out (List PyData)} {m : Me} {id : String}
/-- what stands ahead of an attribute: no call of super -/
def plainBase : Expr → Bool
  | .Call .. => false
  | _ => true
theorem plain_base {o : Expr} {name : Str} {env : PySem.Env} (h : plainBase o = true) : attributeBase o name env (eval o env) = eval o env := by
  cases o <;> first | rfl | cases h
theorem recv_hot {m : Me} {ro : Res} {ρ : PL.Env} (hm : isMut m = true) (hu : isUpd m = false) (h : recvOk m ro ρ = true) : ∃ i io ds, ro = .ref i ∧ gets ρ i = .h io (.list ds) := by
  unfold recvOk at h
  rw [if_pos hm] at h
  cases ro with
  | ref i =>
    dsimp only at h
    cases e : gets ρ i with
    | h io d =>
      rw [e] at h
      dsimp only at h
      cases d with
      | list ds => exact ⟨i, io, ds, rfl, e⟩
      | dict ds => rw [recvD, hu] at h; cases h
      | _ => cases h
    | _ => rw [e] at h; cases h
  | _ => cases h
theorem met_run {K : PySem.W.Frag} {B Z : Addr → Prop} {ρ ρ1 ρ2 : PL.Env} {σ : L2.St} {H H1 H2 : Hp} {x : V} {vs : List V} {ro : Res} {ds : List PyData} {Q : VK} (hm : isMut m = true) (hu : isUpd m = false) (P1 : Post K B Z ρ ρ1 σ H H1 x ro) (P2 : PostX K B Z ρ1 ρ2 σ H1 H2) (rp : RpA K (Fb Z ρ2 σ) H2 vs ds)
    (h : tOut (metR m ro ds ρ2) (fun r ρ' => ∀ v H', Post K B Z ρ ρ' σ H H' v r → Q v H') (Gx K Wx B Z ρ σ H)) : rMt K m x vs H2 Q := by
  unfold metR at h
  rw [if_pos hm] at h
  cases ro with
  | ref i =>
    dsimp only at h
    cases e : gets ρ2 i with
    | h io d =>
      rw [e] at h
      dsimp only at h
      cases e2 : metM m d ds with
      | none => rw [e2] at h; exact h.elim
      | some p =>
        obtain ⟨y, d'⟩ := p
        rw [e2] at h
        have hs := gets_some e (by intro z; cases z)
        obtain ⟨a, e3, n, nb, ow⟩ := P2.conc.hot i io d hs
        have hv : σ[i]? = some (some x) := P1.res.1
        rw [hv] at e3
        cases e3
        cases d with
        | list es =>
          obtain ⟨xs, hH, r⟩ := ow
          refine ⟨Fb Z ρ2 σ, a, xs, es, ds, y, d', rfl, .inr ⟨i, io, _, hs, hv⟩, hH, r, rp, e2, fun v o ow' rv => ?_⟩
          have W := P2.conc.write hs hv ow'
          exact h v _ ((P1.x.seq (P2.seq W)).post (post_val W.conc (rv.less (fb_sub W.sub))))
        | dict kvs => exact absurd e2 (by cases m <;> first | (cases hu; done) | simp [metM])
        | _ => exact ow.elim
    | _ => rw [e] at h; exact h.elim
  | _ => exact h.elim
theorem recv_ty {K : PySem.W.Frag} {B Z : Addr → Prop} {ρ1 : PL.Env} {σ : L2.St} {H1 : Hp} {x : V} {ro : Res} (hm : isMut m = true) (hu : isUpd m = false) (p : PostR K B Z ρ1 σ H1 x ro) (h : recvOk m ro ρ1 = true) : tyV K "list" x H1 := by
  obtain ⟨i, io, es, rfl, e⟩ := recv_hot hm hu h
  obtain ⟨a, e3, n, nb, xs, hH, r⟩ := p.2.hot i io _ (gets_some e (by intro z; cases z))
  have hv : σ[i]? = some (some x) := p.1
  rw [hv] at e3
  cases e3
  exact .inl ⟨rfl, xs, SqL.of hH⟩
theorem se_metM (hm : isMut m = true) (hu : isUpd m = false) (slot : PySem.Slot "list" name id) (hty : typeOf (.builtin id) = pure (.type "method_descriptor")) (hr : MtR X id (rMt X.K m)) (ho : SE X Wx o fo) (ha : SC X Wx (e :: es) fc)
    (hb : plainBase o = true) (hs : (e :: es).all unstar = true) (hn : decide ((e :: es).length < 30) = true) (hline : (apos.endLine == cpos.line) = true) :
    SE X Wx (.Call (.Attribute o name apos) (e :: es) [] cpos) (fun ρ => bind (fo ρ) fun ro ρ1 => if recvOk m ro ρ1 then bind (fc ρ1) fun ds ρ2 => metR m ro ds ρ2 else .stuck) := by
  have hs' := hs
  rw [List.all_cons, Bool.and_eq_true] at hs'
  have few : ∀ {es : List Expr}, es.all unstar = true → (backTo cpos (starEach es X.env)).all (fun x => !x.1) = true := by
    intro es
    induction es with
    | nil => intro _; rfl
    | cons a r ih =>
      intro h
      rw [List.all_cons, Bool.and_eq_true] at h
      rw [star_cons h.1]
      exact ih h.2
  refine pe_mono (pe_bm PySem.F.plainAttrs_list slot hty hr ho ha (plain_base hb) ?_ hline (star_cons hs'.1) (star_any hs'.2)) fun σ H Q ⟨B, Z, ρ, C, h⟩ => ?_
  · rw [few hs]
    show (true && true && decide ((e :: es).length + 0 + 0 < 30)) = true
    simpa using hn
  · refine sub_run C h (fun _ _ z => z) fun ro ρ1 x H1 P1 h1 => ?_
    by_cases hk : recvOk m ro ρ1 = true
    · rw [if_pos hk] at h1
      refine ⟨recv_ty hm hu P1.res hk, sc_run P1.conc h1 (fun c ρ' z => z.step P1.x) fun ds ρ2 vs H2 P2 rp h2 => met_run hm hu P1 P2 rp h2⟩
    · rw [if_neg hk] at h1
      exact h1.elim
theorem se_metM0 (hm : isMut m = true) (hu : isUpd m = false) (slot : PySem.Slot "list" name id) (hty : typeOf (.builtin id) = pure (.type "method_descriptor")) (hr : MtR X id (rMt X.K m)) (ho : SE X Wx o fo)
    (hb : plainBase o = true) (hline : (apos.endLine == cpos.line) = true) :
    SE X Wx (.Call (.Attribute o name apos) [] [] cpos) (fun ρ => bind (fo ρ) fun ro ρ1 => if recvOk m ro ρ1 then bind (.ok [] ρ1) fun ds ρ2 => metR m ro ds ρ2 else .stuck) := by
  refine pe_mono (pe_bm0 PySem.F.plainAttrs_list slot hty hr ho (plain_base hb) hline) fun σ H Q ⟨B, Z, ρ, C, h⟩ => ?_
  refine sub_run C h (fun _ _ z => z) fun ro ρ1 x H1 P1 h1 => ?_
  by_cases hk : recvOk m ro ρ1 = true
  · rw [if_pos hk] at h1
    exact ⟨recv_ty hm hu P1.res hk, met_run hm hu P1 (.refl P1.conc) .nil h1⟩
  · rw [if_neg hk] at h1
    exact h1.elim
end
end
end PL

set_option autoImplicit false
set_option linter.all false
set_option Elab.async false
set_option maxRecDepth 100000
set_option maxHeartbeats 1000000
/-! PL9: the slots change. -/
namespace PL
open PySem PySem.Spec PyProof.Rows L2
section
variable {K : PySem.W.Frag} {Y Y' : Addr → Prop} {H H' : Hp}
theorem rdThere {a : Addr} {u : HO} (r : Rd H a u) (h : H a = none) : False := by
  rcases r with r | ⟨o, r⟩
  · rw [h] at r; cases r
  · rw [h] at r; cases r
mutual
/-- what is newly forbidden did not stand -/
theorem Rp.shift (k : Keeps Y H H') (hY : ∀ a, Y' a → Y a ∨ H a = none) : ∀ {v : V} {d : PyData}, Rp K Y H v d → Rp K Y' H' v d
  | _, _, .non => .non
  | _, _, .bl b => .bl b
  | _, _, .int i => .int i
  | _, _, .str x => .str x
  | _, _, .tup n r a => .tup (fun z => (hY _ z).elim n (rdThere r)) (rdKeeps k n r) (a.shift k hY)
  | _, _, .tupK r a => .tupK r (a.shift k hY)
  | _, _, .lst n r a => .lst (fun z => (hY _ z).elim n (rdThere r)) (rdKeeps k n r) (a.shift k hY)
  | _, _, .dct n r a b => .dct (fun z => (hY _ z).elim n r.there) (r.move fun o e => k.old _ o e n) (a.shift k hY) (b.shift k hY)
theorem RpA.shift (k : Keeps Y H H') (hY : ∀ a, Y' a → Y a ∨ H a = none) : ∀ {v : List V} {d : List PyData}, RpA K Y H v d → RpA K Y' H' v d
  | _, _, .nil => .nil
  | _, _, .cons a b => .cons (a.shift k hY) (b.shift k hY)
end
theorem Own.shift {a : Addr} {d : PyData} (o : Own K Y H a d) (k : Keeps Y H H') (hY : ∀ a, Y' a → Y a ∨ H a = none) (ha : ∀ u, H a = some u → H' a = some u) : Own K Y' H' a d := by
  cases d with
  | list ds =>
    obtain ⟨xs, e, r⟩ := o
    exact ⟨xs, ha _ e, r.shift k hY⟩
  | dict kvs =>
    obtain ⟨ps, e, r, r2⟩ := o
    exact ⟨ps, e.move ha, r.shift k hY, r2.shift k hY⟩
  | _ => exact o.elim
end
/-- behind a statement -/
structure PostS (K : PySem.W.Frag) (B Z : Addr → Prop) (ρ ρ' : PL.Env) (σ σ' : L2.St) (H H' : Hp) : Prop where
  keep : Keeps (HotAt ρ σ) H H'
  sub : ∀ a, HotAt ρ' σ' a → HotAt ρ σ a ∨ H a = none
  io : ∀ (i : Nat) (d' : PyData), ρ'[i]? = some (Slot.h true d') → (∃ d, ρ[i]? = some (Slot.h true d)) ∧ σ'[i]? = σ[i]?
  conc : Conc K B Z ρ' σ' H'
section
variable {K : PySem.W.Frag} {B Z : Addr → Prop} {ρ ρ1 ρ2 : PL.Env} {σ σ1 σ2 : L2.St} {H H1 H2 : Hp} {v : V} {d : PyData}
theorem PostX.s (p : PostX K B Z ρ ρ1 σ H H1) : PostS K B Z ρ ρ1 σ σ H H1 := ⟨p.keep, fun a z => .inl (p.sub a z), fun i d e => by
  obtain ⟨d1, e1⟩ := p.sl i true d e
  exact ⟨⟨d1, e1⟩, rfl⟩, p.conc⟩
theorem PostS.refl (C : Conc K B Z ρ σ H) : PostS K B Z ρ ρ σ σ H H := (PostX.refl C).s
theorem PostS.seq (p : PostS K B Z ρ ρ1 σ σ1 H H1) (q : PostS K B Z ρ1 ρ2 σ1 σ2 H1 H2) : PostS K B Z ρ ρ2 σ σ2 H H2 := by
  refine ⟨⟨fun a o e n => q.keep.old a o (p.keep.old a o e n) fun z => (p.sub a z).elim n (fun z => by rw [z] at e; cases e), fun a z => q.keep.there a (p.keep.there a z)⟩, fun a z => ?_, fun i d e => ?_, q.conc⟩
  · rcases q.sub a z with z | z
    · exact p.sub a z
    · exact .inr (p.keep.notnew z)
  · obtain ⟨⟨d1, e1⟩, s1⟩ := q.io i d e
    obtain ⟨e2, s2⟩ := p.io i d1 e1
    exact ⟨e2, s1.trans s2⟩
theorem PostS.fb (p : PostS K B Z ρ ρ1 σ σ1 H H1) : ∀ a, Fb Z ρ1 σ1 a → Fb Z ρ σ a ∨ H a = none := fun a z => by
  rcases z with z | z
  · exact .inl (.inl z)
  · exact (p.sub a z).imp .inr id
theorem PostS.kfb (p : PostS K B Z ρ ρ1 σ σ1 H H1) : Keeps (Fb Z ρ σ) H H1 := keep_fb p.keep
theorem setO_get {i j : Nat} {v : V} {x : Option V} (h : (σ.set i (some v))[j]? = some x) : (i = j ∧ x = some v) ∨ (i ≠ j ∧ σ[j]? = some x) := by
  by_cases e : i = j
  · subst e
    by_cases l : i < σ.length
    · rw [List.getElem?_set_self l] at h
      exact .inl ⟨rfl, (Option.some.inj h).symm⟩
    · rw [List.getElem?_eq_none (by rw [List.length_set]; omega)] at h
      cases h
  · rw [List.getElem?_set_ne e] at h
    exact .inr ⟨e, h⟩
theorem get_len {α : Type} {l : List α} {i : Nat} {x : α} (h : l[i]? = some x) : i < l.length := by
  rcases Nat.lt_or_ge i l.length with z | z
  · exact z
  · rw [List.getElem?_eq_none z] at h; cases h
theorem hot_setC {i : Nat} {a : Addr} (h : HotAt (ρ.set i (.c d)) (σ.set i (some v)) a) : HotAt ρ σ a := by
  obtain ⟨j, io, e, h1, h2⟩ := h
  rcases set_get h1 with ⟨_, z⟩ | ⟨ne, z⟩
  · cases z
  · rw [List.getElem?_set_ne ne] at h2
    exact ⟨j, io, e, z, h2⟩
/-- data into a slot -/
theorem Conc.setC (C : Conc K B Z ρ σ H) (i : Nat) (r : Rp K (Fb Z ρ σ) H v d) : PostS K B Z ρ (ρ.set i (.c d)) σ (σ.set i (some v)) H H := by
  have sub : ∀ a, HotAt (ρ.set i (.c d)) (σ.set i (some v)) a → HotAt ρ σ a := fun a ⟨j, io, e, h1, h2⟩ => by
    rcases set_get h1 with ⟨_, z⟩ | ⟨ne, z⟩
    · cases z
    · rw [List.getElem?_set_ne ne] at h2
      exact ⟨j, io, e, z, h2⟩
  refine ⟨Keeps.refl, fun a z => .inl (sub a z), fun j e h => ?_, fun j e h => ?_, fun j io e h => ?_, fun j k io1 io2 d1 d2 a h1 h2 s1 s2 => ?_, C.tr, C.trB, by rw [List.length_set, List.length_set]; exact C.len⟩
  · rcases set_get h with ⟨_, z⟩ | ⟨ne, z⟩
    · cases z
    · exact ⟨⟨e, z⟩, by rw [List.getElem?_set_ne ne]⟩
  · rcases set_get h with ⟨rfl, z⟩ | ⟨ne, z⟩
    · cases z
      have l : i < σ.length := Nat.lt_of_lt_of_le (by have := get_len h; rw [List.length_set] at this; exact this) C.len
      exact ⟨v, by rw [List.getElem?_set_self l], r.less (fun a z => z.imp id (sub a))⟩
    · obtain ⟨w, e1, r1⟩ := C.cold j e z
      exact ⟨w, by rw [List.getElem?_set_ne ne]; exact e1, r1.less (fun a z => z.imp id (sub a))⟩
  · rcases set_get h with ⟨_, z⟩ | ⟨ne, z⟩
    · cases z
    · obtain ⟨a, e1, n, nb, o⟩ := C.hot j io e z
      exact ⟨a, by rw [List.getElem?_set_ne ne]; exact e1, n, nb, o.move Keeps.refl (fun a z => z.imp id (sub a)) fun u e => e⟩
  · rcases set_get h1 with ⟨_, z⟩ | ⟨n1, z1⟩
    · cases z
    · rcases set_get h2 with ⟨_, z⟩ | ⟨n2, z2⟩
      · cases z
      · rw [List.getElem?_set_ne n1] at s1
        rw [List.getElem?_set_ne n2] at s2
        exact C.inj j k io1 io2 d1 d2 a z1 z2 s1 s2
/-- a thing of one's own into a slot -/
theorem Conc.setH {p : Addr} (C : Conc K B (Plus p Z) ρ σ H) (i : Nat) (nz : ¬ Z p) (nb : ¬ B p) (o : Own K (Fb (Plus p Z) ρ σ) H p d) : Conc K B Z (ρ.set i (.h false d)) (σ.set i (some (.ref p))) H ∧
    (∀ a, Fb Z (ρ.set i (.h false d)) (σ.set i (some (.ref p))) a → Fb (Plus p Z) ρ σ a) ∧ (∀ a, HotAt (ρ.set i (.h false d)) (σ.set i (some (.ref p))) a → a = p ∨ HotAt ρ σ a) := by
  have sub : ∀ a, HotAt (ρ.set i (.h false d)) (σ.set i (some (.ref p))) a → a = p ∨ HotAt ρ σ a := fun a ⟨j, io, e, h1, h2⟩ => by
    rcases set_get h1 with ⟨rfl, z⟩ | ⟨ne, z⟩
    · rcases setO_get h2 with ⟨_, z⟩ | ⟨ne, _⟩
      · cases z; exact .inl rfl
      · exact absurd rfl ne
    · rw [List.getElem?_set_ne ne] at h2
      exact .inr ⟨j, io, e, z, h2⟩
  have fb : ∀ a, Fb Z (ρ.set i (.h false d)) (σ.set i (some (.ref p))) a → Fb (Plus p Z) ρ σ a := fun a z => by
    rcases z with z | z
    · exact .inl (.inr z)
    · exact (sub a z).imp .inl id
  refine ⟨⟨fun j e h => ?_, fun j io e h => ?_, fun j k io1 io2 d1 d2 a h1 h2 s1 s2 => ?_, fun a z => C.tr a (.inr z), C.trB, by rw [List.length_set, List.length_set]; exact C.len⟩, fb, sub⟩
  · rcases set_get h with ⟨_, z⟩ | ⟨ne, z⟩
    · cases z
    · obtain ⟨w, e1, r1⟩ := C.cold j e z
      exact ⟨w, by rw [List.getElem?_set_ne ne]; exact e1, r1.less fb⟩
  · rcases set_get h with ⟨rfl, z⟩ | ⟨ne, z⟩
    · cases z
      have l : i < σ.length := Nat.lt_of_lt_of_le (by have := get_len h; rw [List.length_set] at this; exact this) C.len
      exact ⟨p, by rw [List.getElem?_set_self l], nz, fun _ => nb, o.move Keeps.refl fb fun u e => e⟩
    · obtain ⟨a, e1, n, nb, o⟩ := C.hot j io e z
      exact ⟨a, by rw [List.getElem?_set_ne ne]; exact e1, fun z => n (.inr z), nb, o.move Keeps.refl fb fun u e => e⟩
  · rcases set_get h1 with ⟨rfl, z1⟩ | ⟨n1, z1⟩
    · rcases set_get h2 with ⟨e2, _⟩ | ⟨n2, z2⟩
      · exact e2
      · rcases setO_get s1 with ⟨_, z⟩ | ⟨ne, _⟩
        · cases z
          rw [List.getElem?_set_ne n2] at s2
          exact absurd ⟨k, io2, d2, z2, s2⟩ (C.nhot (.inl rfl))
        · exact absurd rfl ne
    · rw [List.getElem?_set_ne n1] at s1
      rcases set_get h2 with ⟨rfl, _⟩ | ⟨n2, z2⟩
      · rcases setO_get s2 with ⟨_, z⟩ | ⟨ne, _⟩
        · cases z
          exact absurd ⟨j, io1, d1, z1, s1⟩ (C.nhot (.inl rfl))
        · exact absurd rfl ne
      · rw [List.getElem?_set_ne n2] at s2
        exact C.inj j k io1 io2 d1 d2 a z1 z2 s1 s2
end
end PL

set_option autoImplicit false
set_option linter.all false
set_option Elab.async false
set_option maxRecDepth 100000
set_option maxHeartbeats 1000000
/-! PL10: statements. -/
namespace PL
open PySem PySem.Spec PyProof.Rows L2
def tSt (o : SOut) (Qn : PL.Env → Prop) (Qr : Slot → PL.Env → Prop) (Qx : Str → PL.Env → Prop) : Prop := match o with
  | .nx ρ => Qn ρ
  | .rt s ρ => Qr s ρ
  | .exc c ρ => Qx c ρ
  | .stuck => False
theorem tSt.mono {o : SOut} {Qn Qn' : PL.Env → Prop} {Qr Qr' : Slot → PL.Env → Prop} {Qx Qx' : Str → PL.Env → Prop} (h : tSt o Qn Qr Qx) (h1 : ∀ ρ, Qn ρ → Qn' ρ) (h2 : ∀ s ρ, Qr s ρ → Qr' s ρ) (h3 : ∀ c ρ, Qx c ρ → Qx' c ρ) : tSt o Qn' Qr' Qx' := by
  cases o with
  | nx ρ => exact h1 ρ h
  | rt s ρ => exact h2 s ρ h
  | exc c ρ => exact h3 c ρ h
  | stuck => exact h
/-- what is handed back -/
def RetV (K : PySem.W.Frag) (B Z : Addr → Prop) (ρ : PL.Env) (σ : L2.St) (H : Hp) (v : V) : Slot → Prop
  | .no => False
  | .c d => Rp K (Fb Z ρ σ) H v d
  | .h _ d => ∃ a, v = .ref a ∧ ¬ B a ∧ ¬ Z a ∧ Own K (fun b => b = a ∨ Fb Z ρ σ b) H a d ∧ ∀ (i : Nat) (io : Bool) (d' : PyData), ρ[i]? = some (Slot.h io d') → ∃ b, σ[i]? = some (some (.ref b)) ∧ Own K (fun b => b = a ∨ Fb Z ρ σ b) H b d'
def Gs (K : PySem.W.Frag) (Wx : WX) (B Z : Addr → Prop) (ρ : PL.Env) (σ : L2.St) (H : Hp) (c : Str) (ρ' : PL.Env) : Prop := ∀ σ' H', PostS K B Z ρ ρ' σ σ' H H' → Wx c σ' H'
theorem Gs.step {K : PySem.W.Frag} {Wx : WX} {B Z : Addr → Prop} {ρ ρ1 : PL.Env} {σ σ1 : L2.St} {H H1 : Hp} {c : Str} {ρ' : PL.Env} (g : Gs K Wx B Z ρ σ H c ρ') (p : PostS K B Z ρ ρ1 σ σ1 H H1) : Gs K Wx B Z ρ1 σ1 H1 c ρ' :=
  fun σ' H' q => g σ' H' (p.seq q)
theorem Gs.x {K : PySem.W.Frag} {Wx : WX} {B Z : Addr → Prop} {ρ : PL.Env} {σ : L2.St} {H : Hp} {c : Str} {ρ' : PL.Env} (g : Gs K Wx B Z ρ σ H c ρ') : Gx K Wx B Z ρ σ H c ρ' := fun H' p => g σ H' p.s
def tSS (K : PySem.W.Frag) (Wx : WX) (f : PL.Env → SOut) : TS := fun D σ H => ∃ B Z ρ, Conc K B Z ρ σ H ∧ tSt (f ρ) (fun ρ' => ∀ σ' H', PostS K B Z ρ ρ' σ σ' H H' → D.nx σ' H')
  (fun s ρ' => ∀ v σ' H', PostS K B Z ρ ρ' σ σ' H H' → RetV K B Z ρ' σ' H' v s → D.rt v H') (Gs K Wx B Z ρ σ H)
def SS (X : Cx) (Wx : WX) (st : Stmt) (f : PL.Env → SOut) : Prop := PS X st (tSS X.K Wx f)
def SSs (X : Cx) (Wx : WX) (sts : List Stmt) (f : PL.Env → SOut) : Prop := PSs X sts (tSS X.K Wx f)
theorem ps_mono {X : Cx} {st : Stmt} {t t' : TS} (h : PS X st t) (i : ∀ D σ H, t' D σ H → t D σ H) : PS X st t' := ⟨fun pins s σ H D I q => h.run pins s σ H D I (i D σ H q)⟩
theorem pss_mono {X : Cx} {st : List Stmt} {t t' : TS} (h : PSs X st t) (i : ∀ D σ H, t' D σ H → t D σ H) : PSs X st t' := ⟨fun pins s σ H D I q => h.run pins s σ H D I (i D σ H q)⟩
theorem pg_mono {X : Cx} {tg : Expr} {t t' : TG} (h : PG X tg t) (i : ∀ x σ H Q, t' x σ H Q → t x σ H Q) : PG X tg t' := ⟨fun pins s σ H v u Q I r q => h.run pins s σ H v u Q I r (i v σ H Q q)⟩
theorem pgs_mono {X : Cx} {tg : List Expr} {t t' : TGs} (h : PGs X tg t) (i : ∀ x σ H Q, t' x σ H Q → t x σ H Q) : PGs X tg t' := ⟨fun pins s σ H v u Q I r q => h.run pins s σ H v u Q I r (i v σ H Q q)⟩
section
variable {K : PySem.W.Frag} {Wx : WX} {B Z : Addr → Prop} {ρ ρ0 ρ1 : PL.Env} {σ : L2.St} {H H0 H1 : Hp} {α : Type} {Qn : PL.Env → Prop} {Qr : Slot → PL.Env → Prop} {Qx : Str → PL.Env → Prop}
theorem sub_runS {fa : PL.Env → Out Res} {k : Res → PL.Env → SOut} {T : V → Hp → Prop} (C : Conc K B Z ρ σ H) (h : tSt (sb (fa ρ) k) Qn Qr Qx) (hx : ∀ c ρ', Qx c ρ' → Gx K Wx B Z ρ σ H c ρ')
    (next : ∀ r ρ1 v H1, Post K B Z ρ ρ1 σ H H1 v r → tSt (k r ρ1) Qn Qr Qx → T v H1) : tSE K Wx fa σ H T := by
  refine ⟨B, Z, ρ, C, ?_⟩
  cases e : fa ρ with
  | ok r ρ1 =>
    rw [e] at h
    exact fun v H1 p => next r ρ1 v H1 p h
  | exc c ρ1 =>
    rw [e] at h
    exact hx c ρ1 h
  | stuck =>
    rw [e] at h
    exact h
theorem st_runS {ft : PL.Env → Out Bool} {k : Bool → PL.Env → SOut} {T : Bool → Hp → Prop} (C : Conc K B Z ρ σ H) (h : tSt (sb (ft ρ) k) Qn Qr Qx) (hx : ∀ c ρ', Qx c ρ' → Gx K Wx B Z ρ σ H c ρ')
    (next : ∀ b ρ1 H1, PostX K B Z ρ ρ1 σ H H1 → tSt (k b ρ1) Qn Qr Qx → T b H1) : tST K Wx ft σ H T := by
  refine ⟨B, Z, ρ, C, ?_⟩
  cases e : ft ρ with
  | ok r ρ1 =>
    rw [e] at h
    exact fun H1 p => next r ρ1 H1 p h
  | exc c ρ1 =>
    rw [e] at h
    exact hx c ρ1 h
  | stuck =>
    rw [e] at h
    exact h
theorem cold_runS {v : V} {r : Res} {k : PyData → PL.Env → SOut} {T : Prop} (p : PostR K B Z ρ σ H v r) (h : tSt (sb (PL.cold ρ r) k) Qn Qr Qx)
    (next : ∀ d ρ1, PostX K B Z ρ ρ1 σ H H → Rp K (Fb Z ρ1 σ) H v d → tSt (k d ρ1) Qn Qr Qx → T) : T := by
  cases e : PL.cold ρ r with
  | ok d ρ1 =>
    rw [e] at h
    obtain ⟨q1, q2⟩ := cold_ok p e
    exact next d ρ1 q1 q2 h
  | exc c ρ1 => exact (cold_exc e).elim
  | stuck =>
    rw [e] at h
    exact h.elim
theorem slot_cases {v : V} {r : Res} {hot : Bool} {s : Slot} {ρ2 : PL.Env} {T : Prop} (P : Post K B Z ρ0 ρ1 σ H0 H1 v r) (e : slotOf hot r ρ1 = .ok s ρ2)
    (nextC : ∀ d, s = .c d → PostX K B Z ρ0 ρ2 σ H0 H1 → Rp K (Fb Z ρ2 σ) H1 v d → T)
    (nextH : ∀ p d, ρ2 = ρ1 → s = .h false d → v = .ref p → ¬ Z p → ¬ B p → H0 p = none → PostX K B Z ρ0 ρ1 σ H0 H1 → Conc K B (Plus p Z) ρ1 σ H1 → Own K (Fb (Plus p Z) ρ1 σ) H1 p d → T) : T := by
  have key : ∀ r', r = r' → bind (PL.cold ρ1 r') (fun d ρ1 => .ok (Slot.c d) ρ1) = .ok s ρ2 → T := fun r' er e => by
    subst er
    cases e2 : PL.cold ρ1 r with
    | ok d ρ3 =>
      rw [e2] at e
      cases e
      obtain ⟨q1, q2⟩ := cold_ok P.res e2
      exact nextC d rfl (P.x.seq q1) q2
    | exc c ρ3 => rw [e2] at e; cases e
    | stuck => rw [e2] at e; cases e
  cases hot with
  | false => exact key r rfl (by cases r <;> exact e)
  | true =>
    cases r with
    | fresh d =>
      cases e
      obtain ⟨p, ev, nz, nb, c, o⟩ := P.res
      exact nextH p d rfl rfl ev nz nb (P.nw d p rfl ev) P.x c o
    | val d => exact key _ rfl e
    | ref i => exact key _ rfl e
theorem slot_exc {r : Res} {hot : Bool} {c : Str} {ρ2 : PL.Env} (e : slotOf hot r ρ1 = .exc c ρ2) : False := by
  have key : ∀ r', bind (PL.cold ρ1 r') (fun d ρ1 => .ok (Slot.c d) ρ1) = .exc c ρ2 → False := fun r' e => by
    cases e2 : PL.cold ρ1 r' with
    | ok d ρ3 => rw [e2] at e; cases e
    | exc c ρ3 => exact cold_exc e2
    | stuck => rw [e2] at e; cases e
  cases hot with
  | false => exact key r (by cases r <;> exact e)
  | true =>
    cases r with
    | fresh d => cases e
    | val d => exact key (.val d) e
    | ref i => exact key (.ref i) e
theorem asg_post {v : V} {r : Res} {hot : Bool} {s : Slot} {ρ2 : PL.Env} (P : Post K B Z ρ0 ρ1 σ H0 H1 v r) (e : slotOf hot r ρ1 = .ok s ρ2) (i : Nat) : PostS K B Z ρ0 (ρ2.set i s) σ (σ.set i (some v)) H0 H1 := by
  refine slot_cases P e (fun d es px rp => ?_) fun p d e2 es ev nz nb hn px C o => ?_
  · subst es
    exact px.s.seq (px.conc.setC i rp)
  · subst e2 es ev
    obtain ⟨C', fb, sub⟩ := C.setH i nz nb o
    refine ⟨px.keep, fun a z => ?_, fun j d' h => ?_, C'⟩
    · rcases sub a z with z | z
      · exact .inr (by rw [z]; exact hn)
      · exact .inl (px.sub a z)
    · rcases set_get h with ⟨_, z⟩ | ⟨ne, z⟩
      · cases z
      · exact ⟨px.sl j true d' z, by rw [List.getElem?_set_ne ne]⟩
end
section
variable {X : Cx} {Wx : WX} {e : Expr} {fa : PL.Env → Out Res} {pos : Pos}
/-- name = e, however it is stored -/
theorem ss_asgT {st : Stmt} {i : Nat} {hot : Bool} (h : PS X st (tAsg (tSE X.K Wx fa) (gName i))) : SS X Wx st (fun ρ => sb (fa ρ) fun r ρ1 => sb (slotOf hot r ρ1) fun s ρ2 => .nx (ρ2.set i s)) := by
  refine ps_mono h fun D σ H ⟨B, Z, ρ, C, h⟩ => ?_
  refine sub_runS C h (fun _ _ z => z.x) fun r ρ1 v H1 P1 h1 => ?_
  cases e2 : slotOf hot r ρ1 with
  | ok s ρ2 =>
    rw [e2] at h1
    exact h1 _ H1 (asg_post P1 e2 i)
  | exc c ρ2 => exact (slot_exc e2).elim
  | stuck => rw [e2] at h1; exact h1.elim
def isComp : Expr → Bool
  | .ListComp .. | .SetComp .. | .DictComp .. => true
  | _ => false
theorem no_swap {e : Expr} {t : Option Expr} {l : Nat} {env : PySem.Env} (h : isComp e = false) : swapsWith e t l env = pure false := by
  cases e <;> first | rfl | cases h
theorem asg_set {i : Nat} {x : Str} {pos' : Pos} (hN : X.N.Nodup) (hi : X.N[i]? = some x) (hx : Loc X.env.scope x) (hf : X.fn x = true ∨ X.env.scope.names.lookup x = some .local) (he : SE X Wx e fa) (hs : swapsWith e (some (.Name x pos')) pos.line X.env = pure false) : PS X (.Assign [.Name x pos'] e pos) (tAsg (tSE X.K Wx fa) (gName i)) :=
  ps_set hN hi hx he hs hf
theorem ss_expr (he : SE X Wx e fa) (hs : isComp e = false) : SS X Wx (.Expr e pos) (fun ρ => sb (fa ρ) fun _ ρ1 => .nx ρ1) := by
  refine ps_mono (ps_expr he (no_swap hs)) fun D σ H ⟨B, Z, ρ, C, h⟩ => ?_
  exact sub_runS C h (fun _ _ z => z.x) fun r ρ1 v H1 P1 h1 => h1 σ H1 P1.x.s
theorem ss_pass : SS X Wx (.Pass pos) (fun ρ => .nx ρ) := ps_mono ps_pass fun D σ H ⟨B, Z, ρ, C, h⟩ => h σ H (.refl C)
theorem ss_ret (he : SE X Wx e fa) : SS X Wx (.Return (some e) pos) (fun ρ => sb (fa ρ) fun r ρ1 => retOf r ρ1) := by
  refine ps_mono (ps_ret he) fun D σ H ⟨B, Z, ρ, C, h⟩ => ?_
  refine sub_runS C h (fun _ _ z => z.x) fun r ρ1 v H1 P1 h1 => ?_
  unfold retOf at h1
  cases r with
  | val d => exact h1 v σ H1 P1.x.s P1.res.2
  | fresh d =>
    obtain ⟨a, ev, nz, nb, c, o⟩ := P1.res
    exact h1 v σ H1 P1.x.s ⟨a, ev, nb, nz, o.move Keeps.refl (fun b z => plus_fb z) fun u e => e, fun i io d' e => by
      obtain ⟨b, e1, _, _, ob⟩ := c.hot i io d' e
      exact ⟨b, e1, ob.move Keeps.refl (fun b z => plus_fb z) fun u e => e⟩⟩
  | ref i =>
    have hv : σ[i]? = some (some v) := P1.res.1
    dsimp only at h1
    cases e : gets ρ1 i with
    | no => rw [e] at h1; exact h1.elim
    | c d =>
      rw [e] at h1
      obtain ⟨w, e1, r⟩ := P1.conc.cold i d (gets_some e (by intro z; cases z))
      rw [hv] at e1
      cases e1
      exact h1 v σ H1 P1.x.s r
    | h io d =>
      cases io with
      | true => rw [e] at h1; exact h1.elim
      | false =>
        rw [e] at h1
        have hs := gets_some e (by intro z; cases z)
        obtain ⟨a, e1, nz, nb, o⟩ := P1.conc.hot i false d hs
        rw [hv] at e1
        cases e1
        have fb : ∀ b, (b = a ∨ Fb Z ρ1 σ b) → Fb Z ρ1 σ b := fun b z => z.elim (fun z => by rw [z]; exact .inr ⟨i, false, d, hs, hv⟩) id
        exact h1 (.ref a) σ H1 P1.x.s ⟨a, rfl, nb rfl, nz, o.move Keeps.refl fb fun u e => e, fun j io d' e => by
          obtain ⟨b, e1, _, _, ob⟩ := P1.conc.hot j io d' e
          exact ⟨b, e1, ob.move Keeps.refl fb fun u e => e⟩⟩
theorem ss_retN : SS X Wx (.Return none pos) (fun ρ => .rt (.c .none) ρ) := ps_mono ps_retN fun D σ H ⟨B, Z, ρ, C, h⟩ => h .non σ H (.refl C) .non
theorem ss_if {c : Expr} {a b : List Stmt} {fc : PL.Env → Out Bool} {ga gb : PL.Env → SOut} (hc : ST X Wx c fc) (ha : SSs X Wx a ga) (hb : SSs X Wx b gb) :
    SS X Wx (.If c a b pos) (fun ρ => sb (fc ρ) fun t ρ1 => if t then ga ρ1 else gb ρ1) := by
  refine ps_mono (ps_if hc ha hb) fun D σ H ⟨B, Z, ρ, C, h⟩ => ?_
  refine st_runS C h (fun _ _ z => z.x) fun t ρ1 H1 P1 h1 => ?_
  cases t with
  | true => exact (if_pos rfl).mpr ⟨B, Z, ρ1, P1.conc, tSt.mono h1 (fun ρ' q σ' H' p => q σ' H' (P1.s.seq p)) (fun s ρ' q v σ' H' p => q v σ' H' (P1.s.seq p)) fun c ρ' g => g.step P1.s⟩
  | false => exact (if_neg Bool.false_ne_true).mpr ⟨B, Z, ρ1, P1.conc, tSt.mono h1 (fun ρ' q σ' H' p => q σ' H' (P1.s.seq p)) (fun s ρ' q v σ' H' p => q v σ' H' (P1.s.seq p)) fun c ρ' g => g.step P1.s⟩
theorem sss_nil : SSs X Wx [] (fun ρ => .nx ρ) := pss_mono pss_nil fun D σ H ⟨B, Z, ρ, C, h⟩ => h σ H (.refl C)
theorem sss_cons {st : Stmt} {sts : List Stmt} {f g : PL.Env → SOut} (h1 : SS X Wx st f) (h2 : SSs X Wx sts g) : SSs X Wx (st :: sts) (fun ρ => match f ρ with | .nx ρ1 => g ρ1 | r => r) := by
  refine pss_mono (pss_cons h1 h2) fun D σ H ⟨B, Z, ρ, C, h⟩ => ?_
  refine ⟨B, Z, ρ, C, ?_⟩
  dsimp only at h
  cases e : f ρ with
  | nx ρ1 =>
    rw [e] at h
    exact fun σ1 H1 P1 => ⟨B, Z, ρ1, P1.conc, tSt.mono h (fun ρ' q σ' H' p => q σ' H' (P1.seq p)) (fun s ρ' q v σ' H' p => q v σ' H' (P1.seq p)) fun c ρ' g => g.step P1⟩
  | rt s ρ1 => rw [e] at h; exact h
  | exc c ρ1 => rw [e] at h; exact h
  | stuck => rw [e] at h; exact h
/-- a while -/
theorem ss_while {c : Expr} {b : List Stmt} {fc : PL.Env → Out Bool} {gb : PL.Env → SOut} {N : Nat} (hp : PassesOwn (model X.prog X.w) X.A X.env X.xe) (hc : ST X Wx c fc) (hb : SSs X Wx b gb) : SS X Wx (.While c b [] pos) (fun ρ => whileN fc gb N ρ) := by
  refine ps_mono (ps_while hp hc hb) fun D σ0 H0 ⟨B, Z, ρ0, C, h⟩ => ?_
  refine ⟨fun m σ H => ∃ ρ, PostS X.K B Z ρ0 ρ σ0 σ H0 H ∧ tSt (whileN fc gb m ρ) (fun ρ' => ∀ σ' H', PostS X.K B Z ρ0 ρ' σ0 σ' H0 H' → D.nx σ' H')
    (fun s ρ' => ∀ v σ' H', PostS X.K B Z ρ0 ρ' σ0 σ' H0 H' → RetV X.K B Z ρ' σ' H' v s → D.rt v H') (Gs X.K Wx B Z ρ0 σ0 H0), ⟨N, ρ0, .refl C, h⟩, ?_⟩
  rintro m σ H ⟨ρ, P, h⟩
  cases m with
  | zero => exact h.elim
  | succ m =>
    refine ⟨B, Z, ρ, P.conc, ?_⟩
    rw [whileN] at h
    cases e : fc ρ with
    | stuck => rw [e] at h; exact h.elim
    | exc c ρ1 =>
      rw [e] at h
      exact (Gs.step h P).x
    | ok t ρ1 =>
      rw [e] at h
      intro H1 P1
      have P2 := P.seq P1.s
      cases t with
      | false =>
        rw [if_neg Bool.false_ne_true]
        exact h σ H1 P2
      | true =>
        rw [if_pos rfl]
        refine ⟨fun σ' H' => ∃ ρ', PostS X.K B Z ρ0 ρ' σ0 σ' H0 H' ∧ tSt (whileN fc gb m ρ') (fun ρ' => ∀ σ' H', PostS X.K B Z ρ0 ρ' σ0 σ' H0 H' → D.nx σ' H')
          (fun s ρ' => ∀ v σ' H', PostS X.K B Z ρ0 ρ' σ0 σ' H0 H' → RetV X.K B Z ρ' σ' H' v s → D.rt v H') (Gs X.K Wx B Z ρ0 σ0 H0), fun σ' H' q => ⟨m, Nat.lt_succ_self m, q⟩, B, Z, ρ1, P1.conc, ?_⟩
        dsimp only at h
        cases e2 : gb ρ1 with
        | nx ρ2 =>
          rw [e2] at h
          exact fun σ' H' p => ⟨ρ2, P2.seq p, h⟩
        | rt s ρ2 =>
          rw [e2] at h
          exact fun v σ' H' p => h v σ' H' (P2.seq p)
        | exc c ρ2 =>
          rw [e2] at h
          exact Gs.step h P2
        | stuck =>
          rw [e2] at h
          exact h
end
end PL

set_option autoImplicit false
set_option linter.all false
set_option Elab.async false
set_option maxRecDepth 100000
set_option maxHeartbeats 1000000
/-! PL11: targets, stores, several names at once. -/
namespace PL
open PySem PySem.Spec PyProof.Rows L2
mutual
def tgIn (vs : List Nat) : Tg → Bool
  | .nm i => vs.contains i
  | .tp ts => tgsIn vs ts
def tgsIn (vs : List Nat) : List Tg → Bool
  | [] => true
  | t :: ts => tgIn vs t && tgsIn vs ts
end
theorem wipe_set {σ : L2.St} {i : Nat} {x : V} : ∀ {vs : List Nat}, i ∈ vs → wipe (σ.set i (some x)) vs = wipe σ vs
  | [], h => by cases h
  | v :: vs, h => by
    unfold wipe
    by_cases e : i ∈ vs
    · rw [wipe_set e]
    · have ev : i = v := by
        rcases List.mem_cons.mp h with h | h
        · exact h
        · exact absurd h e
      subst ev
      clear h
      have key : ∀ (ws : List Nat) (τ : L2.St), i ∉ ws → wipe (τ.set i (some x)) ws = (wipe τ ws).set i (some x) := by
        intro ws
        induction ws with
        | nil => intro τ _; rfl
        | cons w ws ih =>
          intro τ hn
          have h1 : i ≠ w := fun z => hn (by rw [z]; exact List.mem_cons_self)
          have h2 : i ∉ ws := fun z => hn (List.mem_cons_of_mem _ z)
          show (wipe (τ.set i (some x)) ws).set w none = ((wipe τ ws).set w none).set i (some x)
          rw [ih τ h2, List.set_comm _ _ h1]
      rw [key vs σ e, List.set_set]
section
variable {X : Cx} {Wx : WX} {pos : Pos}
def tSG (K : PySem.W.Frag) (T : Tg) : TG := fun x σ H Q => ∃ B Z ρ d ρ', Conc K B Z ρ σ H ∧ Rp K (Fb Z ρ σ) H x d ∧ asgT T d ρ = some ρ' ∧ ∀ σ', PostS K B Z ρ ρ' σ σ' H H → (∀ vs, tgIn vs T = true → wipe σ' vs = wipe σ vs) → Q σ' H
def tSGs (K : PySem.W.Frag) (Ts : List Tg) : TGs := fun xs σ H Q => ∃ B Z ρ ds ρ', Conc K B Z ρ σ H ∧ RpA K (Fb Z ρ σ) H xs ds ∧ asgTs Ts ds ρ = some ρ' ∧ ∀ σ', PostS K B Z ρ ρ' σ σ' H H → (∀ vs, tgsIn vs Ts = true → wipe σ' vs = wipe σ vs) → Q σ' H
def SG (X : Cx) (tg : Expr) (T : Tg) : Prop := PG X tg (tSG X.K T)
def SGs (X : Cx) (tgs : List Expr) (Ts : List Tg) : Prop := PGs X tgs (tSGs X.K Ts)
theorem sg_nm {i : Nat} {x : Str} (hN : X.N.Nodup) (hi : X.N[i]? = some x) (hx : Loc X.env.scope x) (hf : X.fn x = true ∨ X.env.scope.names.lookup x = some .local) : SG X (.Name x pos) (.nm i) := by
  refine pg_mono (pg_name hN hi hx hf) fun v σ H Q ⟨B, Z, ρ, d, ρ', C, r, e, q⟩ => ?_
  cases e
  exact q _ (C.setC i r) fun vs h => wipe_set (by simpa [tgIn] using h)
theorem sgs_nil : SGs X [] [] := pgs_mono pgs_nil fun v σ H Q ⟨B, Z, ρ, d, ρ', C, r, e, q⟩ => by
  cases r with
  | nil =>
    cases e
    exact ⟨rfl, q σ (.refl C) fun _ _ => rfl⟩
  | cons a b => cases e
theorem asg_cons {e : Expr} {es : List Expr} {env : PySem.Env} (h : unstar e = true) : (assignEach (e :: es) env).map (·.2) = assign e env :: (assignEach es env).map (·.2) := by
  cases e <;> first | rfl | cases h
theorem sgs_cons {t : Expr} {ts : List Expr} {T : Tg} {Ts : List Tg} (h1 : SG X t T) (h2 : SGs X ts Ts) (hs : unstar t = true) : SGs X (t :: ts) (T :: Ts) := by
  refine pgs_mono (pgs_cons h1 h2 (asg_cons hs)) fun xs σ H Q ⟨B, Z, ρ, ds, ρ', C, r, e, q⟩ => ?_
  cases r with
  | nil => cases e
  | @cons v vs d ds a b =>
    rw [asgTs] at e
    cases e1 : asgT T d ρ with
    | none => rw [e1] at e; cases e
    | some ρ1 =>
      rw [e1] at e
      refine ⟨v, vs, rfl, B, Z, ρ, d, ρ1, C, a, e1, fun σ1 P1 w1 => ⟨B, Z, ρ1, ds, ρ', P1.conc, b.shift P1.kfb P1.fb, e, fun σ2 P2 w2 => q σ2 (P1.seq P2) fun ws hw => ?_⟩⟩
      rw [tgsIn, Bool.and_eq_true] at hw
      rw [w2 ws hw.2, w1 ws hw.1]
theorem asg_each : ∀ {es : List Expr} {env : PySem.Env}, es.all unstar = true → (assignEach es env).length = es.length ∧ (assignEach es env).findIdx? (·.1) = none
  | [], _, _ => ⟨rfl, rfl⟩
  | e :: es, env, h => by
    rw [List.all_cons, Bool.and_eq_true] at h
    obtain ⟨h1, h2⟩ := asg_each (env := env) h.2
    have e1 : assignEach (e :: es) env = (false, assign e env) :: assignEach es env := by
      cases e <;> first | rfl | (have := h.1; cases this)
    rw [e1]
    refine ⟨by rw [List.length_cons, List.length_cons, h1], ?_⟩
    rw [List.findIdx?_cons]
    simp [h2]
theorem asgTs_len : ∀ {Ts : List Tg} {ds : List PyData} {ρ ρ' : PL.Env}, asgTs Ts ds ρ = some ρ' → Ts.length = ds.length
  | [], [], _, _, _ => rfl
  | [], _ :: _, _, _, h => by cases h
  | _ :: _, [], _, _, h => by cases h
  | T :: Ts, d :: ds, ρ, ρ', h => by
    rw [asgTs] at h
    cases e1 : asgT T d ρ with
    | none => rw [e1] at h; cases h
    | some ρ1 =>
      rw [e1] at h
      rw [List.length_cons, List.length_cons, asgTs_len h]
theorem sg_tp {ts : List Expr} {Ts : List Tg} {k : Nat} (hc : X.calm = true) (h : SGs X ts Ts) (hs : ts.all unstar = true) (hl : ts.length = Ts.length) : SG X (.Tuple ts k pos) (.tp Ts) := by
  obtain ⟨a1, a2⟩ := asg_each (env := X.env) hs
  refine pg_mono (pg_tup hc h a1 a2) fun x σ H Q ⟨B, Z, ρ, d, ρ', C, r, e, q⟩ => ?_
  cases d with
  | tuple ds =>
    rw [asgT] at e
    have hl2 := asgTs_len e
    cases r with
    | tup n rd ra => exact ⟨_, _, rfl, .inl rd, by rw [ra.length]; omega, B, Z, ρ, ds, ρ', C, ra, e, fun σ' P w => q σ' P fun vs hv => w vs (by rw [tgIn] at hv; exact hv)⟩
    | tupK rd ra => exact ⟨_, _, rfl, rd.sq, by rw [ra.length]; omega, B, Z, ρ, ds, ρ', C, ra, e, fun σ' P w => q σ' P fun vs hv => w vs (by rw [tgIn] at hv; exact hv)⟩
  | _ => cases e
/-- no stores in turn -/
def foldAll (vs : List Expr) : Bool := vs.all (foldedForSure 8)
def nameLocal (sc : Scope) (line : Nat) : Expr → Option Str
  | .Name id pos => if sc.names.lookup id == some .local && pos.line == line then some id else none
  | _ => none
def swapNone (sc : Scope) (tg e : Expr) : Bool := match tg, e with
  | .Tuple ts _ _, .Tuple vs _ _ => !(ts.length == 2 || ts.length == 3) || vs.length != ts.length || (!vs.any (fun | .Starred .. => true | _ => false) && ((ts.filterMap (nameLocal sc ((ts.head?.map (·.pos.line)).getD 0))).length != ts.length || foldAll vs))
  | .List _ _, _ => false
  | .Tuple _ _ _, _ => true
  | _, _ => true
theorem ss_unp {tg e : Expr} {T : Tg} {fa : PL.Env → Out Res} (he : SE X Wx e fa) (hg : SG X tg T) (hs : swapsWithSole [tg] e pos.line X.env = pure false) (hw : swappedStores [tg] e X.env = pure none) (hu : unstar tg = true) :
    SS X Wx (.Assign [tg] e pos) (fun ρ => sb (fa ρ) fun r ρ1 => sb (PL.cold ρ1 r) fun d ρ2 => match asgT T d ρ2 with | some ρ3 => .nx ρ3 | none => .stuck) := by
  refine ps_mono (ps_asg he hg hs hw (by rw [asg_cons hu]; rfl)) fun D σ H ⟨B, Z, ρ, C, h⟩ => ?_
  refine sub_runS C h (fun _ _ z => z.x) fun r ρ1 x H1 P1 h1 => cold_runS P1.res h1 fun d ρ2 P2 rp h2 => ?_
  cases e : asgT T d ρ2 with
  | none => rw [e] at h2; exact h2.elim
  | some ρ3 =>
    rw [e] at h2
    exact ⟨B, Z, ρ2, d, ρ3, P2.conc, rp, e, fun σ' P3 _ => h2 σ' H1 ((P1.x.s.seq P2.s).seq P3)⟩
/-- d[k] = v -/
def rSetD (X : Cx) : V → V → V → Hp → (Hp → Prop) → Prop := fun o i v H Q => ∃ Y a kvs k vd ps, o = .ref a ∧ Y a ∧ DView X Y H a ps kvs ∧ Rp X.K Y H i k ∧ Rp X.K Y H v vd ∧ keysOk (k :: kvs.map (·.1)) = true ∧ kvs.length < 1000000 ∧
  ∀ ho ps', DView X Y (upd H a ho) a ps' (store kvs k vd) → Q (upd H a ho)
theorem set_dict (ok : XOk X) : PSet X (rSetD X) := by
  intro pins s σ H o i v ov iv u Q I ro ri rv h
  obtain ⟨Y, a, kvs, k, vd, ps, rfl, hY, D, oi, ow, hk, hl, q⟩ := h
  cases ro
  exact d_store ok D I oi ri ow rv hk hl hY fun ho ps' s' I' D' => ⟨_, I', q ho ps' D'⟩
theorem set_both (ok : XOk X) : PSet X (fun o i v H Q => rSetL o i v H Q ∨ rSetD X o i v H Q) := by
  intro pins s σ H o i v ov iv u Q I ro ri rv h
  rcases h with h | h
  · exact set_list pins s σ H o i v ov iv u Q I ro ri rv h
  · exact set_dict ok pins s σ H o i v ov iv u Q I ro ri rv h
/-- o[i] = e -/
theorem ss_sub (ok : XOk X) {i : Nat} {x : Str} {px pt : Pos} {ix e : Expr} {fa fi : PL.Env → Out Res} (hN : X.N[i]? = some x) (hv : Vis X.env.scope x) (hd : (x == ("__debug__" : Str)) = false) (hcd : (x == ("__classdict__" : Str)) = false)
    (he : SE X Wx e fa) (hi : SE X Wx ix fi) (hs : swapsWithSole [.Subscript (.Name x px) ix pt] e pos.line X.env = pure false) (hpi : plainIx ix = true) :
    SS X Wx (.Assign [.Subscript (.Name x px) ix pt] e pos) (fun ρ => sb (fa ρ) fun r ρ1 => sb (PL.cold ρ1 r) fun v ρ2 => if isHot ρ2 i then sb (fi ρ2) fun rk ρ3 => sb (PL.cold ρ3 rk) fun k ρ4 => match subAt i k v ρ4 with
      | some ρ5 => .nx ρ5
      | none => .stuck
    else .stuck) := by
  refine ps_mono (ps_asg he (pg_sub (pe_var hN hv hd hcd) hi (set_both ok) (by intro v; cases ix <;> first | rfl | cases hpi)) hs) fun D σ H ⟨B, Z, ρ, C, h⟩ => ?_
  refine sub_runS C h (fun _ _ z => z.x) fun r ρ1 w H1 P1 h1 => cold_runS P1.res h1 fun v ρ2 P2 rp h2 => ?_
  by_cases hh : isHot ρ2 i = true
  · rw [if_pos hh] at h2
    unfold isHot at hh
    cases e1 : gets ρ2 i with
    | h io d0 =>
      obtain ⟨a, ea, _⟩ := P2.conc.hot i io d0 (gets_some e1 (by intro z; cases z))
      refine ⟨.ref a, ea, sub_runS P2.conc h2 (fun _ _ z => ((z.step P1.x.s).step P2.s).x) fun rk ρ3 y H2 P3 h3 => cold_runS P3.res h3 fun k ρ4 P4 rk' h4 => ?_⟩
      cases e2 : subAt i k v ρ4 with
      | none => rw [e2] at h4; exact h4.elim
      | some ρ5 =>
        rw [e2] at h4
        unfold subAt at e2
        cases e3 : gets ρ4 i with
        | h io' d =>
          rw [e3] at e2
          dsimp only at e2
          cases e4 : setD d k v with
          | none => rw [e4] at e2; cases e2
          | some d' =>
            rw [e4] at e2
            cases e2
            have hs4 := gets_some e3 (by intro z; cases z)
            obtain ⟨a', ea', nz, nb, ow⟩ := P4.conc.hot i io' d hs4
            rw [ea] at ea'
            cases ea'
            cases d with
            | list ds =>
              obtain ⟨xs, hH, ra⟩ := ow
              cases k with
              | int j =>
                cases rk'
                cases e5 : ixD ds.length j with
                | none => rw [setD, e5] at e4; cases e4
                | some n =>
                  rw [setD, e5] at e4
                  cases e4
                  have px := (P3.x.seq P4)
                  have rp4 : Rp X.K (Fb Z ρ4 σ) H2 w v := rp.move (keep_fb px.keep) (fb_sub px.sub)
                  have hot : Fb Z ρ4 σ a := .inr ⟨i, io', _, hs4, ea⟩
                  refine .inl ⟨a, xs, j, n, rfl, rfl, hH, by rw [ra.length, ← ix_eq]; exact e5, ?_⟩
                  exact h4 σ _ ((P1.x.s.seq P2.s).seq ((px.s).seq (P4.conc.write hs4 ea (own_new hot (ra.set rp4 n))).s))
              | _ => cases e4
            | dict kvs =>
              obtain ⟨ps, D1, D2, D3⟩ := ow
              obtain ⟨hz, rfl⟩ := ite_some (show (if (keysOk (k :: kvs.map (·.1)) && decide (kvs.length < 1000000)) = true then some (PyData.dict (store kvs k v)) else none) = some d' from e4)
              rw [Bool.and_eq_true] at hz
              have px := (P3.x.seq P4)
              have rp4 : Rp X.K (Fb Z ρ4 σ) H2 w v := rp.move (keep_fb px.keep) (fb_sub px.sub)
              have hot : Fb Z ρ4 σ a := .inr ⟨i, io', _, hs4, ea⟩
              refine .inr ⟨Fb Z ρ4 σ, a, kvs, k, v, ps, rfl, hot, ⟨D1, D2, D3⟩, rk', rp4, hz.1, of_decide_eq_true hz.2, fun ho ps' D' => ?_⟩
              have ow2 : Own X.K (Fb Z ρ4 σ) (upd H2 a ho) a (.dict (store kvs k v)) := ⟨ps', D'.at', D'.ra, D'.rb⟩
              exact h4 σ _ ((P1.x.s.seq P2.s).seq ((px.s).seq (P4.conc.write hs4 ea ow2).s))
            | _ => exact ow.elim
        | _ => rw [e3] at e2; cases e2
    | _ => rw [e1] at hh; cases hh
  · rw [if_neg hh] at h2
    exact h2.elim

/-! ### several names at once -/
/-- slots that wait; Zf forbids those of one's own too, N: they are new -/
inductive PndA (K : PySem.W.Frag) (B N Zf : Addr → Prop) (ρ : PL.Env) (σ : L2.St) (H : Hp) : (Addr → Prop) → List V → List Slot → Prop
  | nil : PndA K B N Zf ρ σ H Zf [] []
  | c {Z : Addr → Prop} {v : V} {d : PyData} {vs : List V} {ss : List Slot} : Rp K (Fb Zf ρ σ) H v d → PndA K B N Zf ρ σ H Z vs ss → PndA K B N Zf ρ σ H Z (v :: vs) (.c d :: ss)
  | h {Z : Addr → Prop} {p : Addr} {d : PyData} {vs : List V} {ss : List Slot} : ¬ Z p → ¬ B p → N p → Own K (Fb Zf ρ σ) H p d → PndA K B N Zf ρ σ H (Plus p Z) vs ss → PndA K B N Zf ρ σ H Z (.ref p :: vs) (.h false d :: ss)
def setV (σ : L2.St) : List Nat → List V → L2.St
  | i :: is, v :: vs => (setV σ is vs).set i (some v)
  | _, _ => σ
theorem par_store {K : PySem.W.Frag} {B N Zf : Addr → Prop} {ρ : PL.Env} {σ : L2.St} {H : Hp} (C : Conc K B Zf ρ σ H) : ∀ {Z : Addr → Prop} {vs : List V} {ss : List Slot}, PndA K B N Zf ρ σ H Z vs ss → ∀ {is : List Nat} {ρ2 : PL.Env}, setAll ρ is ss = some ρ2 →
    Conc K B Z ρ2 (setV σ is vs) H ∧ (∀ a, Fb Z ρ2 (setV σ is vs) a → Fb Zf ρ σ a) ∧ (∀ a, HotAt ρ2 (setV σ is vs) a → HotAt ρ σ a ∨ N a) ∧
      ∀ (i : Nat) (d' : PyData), ρ2[i]? = some (Slot.h true d') → (∃ d, ρ[i]? = some (Slot.h true d)) ∧ (setV σ is vs)[i]? = σ[i]? := by
  intro Z vs ss p
  induction p with
  | nil =>
    intro is ρ2 e
    cases is with
    | nil =>
      cases e
      exact ⟨C, fun a z => z, fun a z => .inl z, fun i d e => ⟨⟨d, e⟩, rfl⟩⟩
    | cons i is => cases e
  | @c Z v d vs ss r p ih =>
    intro is ρ2 e
    cases is with
    | nil => cases e
    | cons i is =>
      rw [setAll] at e
      cases e1 : setAll ρ is ss with
      | none => rw [e1] at e; cases e
      | some ρ1 =>
        rw [e1] at e
        cases e
        obtain ⟨c1, f1, h1, i1⟩ := ih e1
        have P := c1.setC i (r.less f1)
        refine ⟨P.conc, fun a z => ?_, fun a z => ?_, fun j d' e => ?_⟩
        · rcases z with z | z
          · exact f1 a (.inl z)
          · exact f1 a (.inr (hot_setC z))
        · exact h1 a (hot_setC z)
        · obtain ⟨⟨d1, q1⟩, q2⟩ := P.io j d' e
          obtain ⟨q3, q4⟩ := i1 j d1 q1
          exact ⟨q3, q2.trans q4⟩
  | @h Z p d vs ss nz nb np o pp ih =>
    intro is ρ2 e
    cases is with
    | nil => cases e
    | cons i is =>
      rw [setAll] at e
      cases e1 : setAll ρ is ss with
      | none => rw [e1] at e; cases e
      | some ρ1 =>
        rw [e1] at e
        cases e
        obtain ⟨c1, f1, h1, i1⟩ := ih e1
        obtain ⟨c2, f2, s2⟩ := c1.setH i nz nb (o.move Keeps.refl f1 fun u e => e)
        refine ⟨c2, fun a z => f1 a (f2 a z), fun a z => ?_, fun j d' e => ?_⟩
        · rcases s2 a z with z | z
          · exact .inr (by rw [z]; exact np)
          · exact h1 a z
        · rcases set_get e with ⟨_, z⟩ | ⟨ne, z⟩
          · cases z
          · obtain ⟨q3, q4⟩ := i1 j d' z
            exact ⟨q3, by rw [setV, List.getElem?_set_ne ne]; exact q4⟩
end
end PL

set_option autoImplicit false
set_option linter.all false
set_option Elab.async false
set_option maxRecDepth 100000
set_option maxHeartbeats 1000000
/-! PL12: several names at once. -/
namespace PL
open PySem PySem.Spec PyProof.Rows L2
section
variable {K : PySem.W.Frag} {B N N' Zf Z : Addr → Prop} {ρ : PL.Env} {σ : L2.St} {H : Hp} {vs : List V} {ss : List Slot}
theorem PndA.mono (p : PndA K B N Zf ρ σ H Z vs ss) (h : ∀ a, N a → N' a) : PndA K B N' Zf ρ σ H Z vs ss := by
  induction p with
  | nil => exact .nil
  | c r _ ih => exact .c r ih
  | h a b c d _ ih => exact .h a b (h _ c) d ih
theorem PndA.new (p : PndA K B N Zf ρ σ H Z vs ss) : ∀ a, Zf a → Z a ∨ N a := by
  induction p with
  | nil => exact fun a z => .inl z
  | c r _ ih => exact ih
  | h a b c d _ ih =>
    intro x z
    rcases ih x z with (z | z) | z
    · exact .inr (by rw [z]; exact c)
    · exact .inl z
    · exact .inr z
theorem PndA.length (p : PndA K B N Zf ρ σ H Z vs ss) : vs.length = ss.length := by
  induction p with
  | nil => rfl
  | c r _ ih => rw [List.length_cons, List.length_cons, ih]
  | h a b c d _ ih => rw [List.length_cons, List.length_cons, ih]
end
def tSP (K : PySem.W.Frag) (Wx : WX) (f : PL.Env → Out (List Slot)) : TA := fun σ H Q => ∃ B Z ρ, Conc K B Z ρ σ H ∧
  tOut (f ρ) (fun ss ρ' => ∀ vs H', (∃ Zf, Keeps (HotAt ρ σ) H H' ∧ Sub ρ ρ' ∧ Conc K B Zf ρ' σ H' ∧ PndA K B (fun a => H a = none) Zf ρ' σ H' Z vs ss) → Q vs H') (Gx K Wx B Z ρ σ H)
def SPr (X : Cx) (Wx : WX) (es : List Expr) (f : PL.Env → Out (List Slot)) : Prop := PA X es (tSP X.K Wx f)
section
variable {X : Cx} {Wx : WX} {e : Expr} {es : List Expr} {fa : PL.Env → Out Res} {fp : PL.Env → Out (List Slot)} {hot : Bool}
theorem sp_nil : SPr X Wx [] (fun ρ => .ok [] ρ) := pa_mono pa_nil fun σ H Q ⟨B, Z, ρ, C, h⟩ => h [] H ⟨Z, Keeps.refl, Sub.refl, C, .nil⟩
theorem sp_cons (ha : SE X Wx e fa) (hr : SPr X Wx es fp) (hs : unstar e = true) : SPr X Wx (e :: es) (fun ρ => bind (fa ρ) fun r ρ1 => bind (slotOf hot r ρ1) fun s ρ2 => bind (fp ρ2) fun ss ρ3 => .ok (s :: ss) ρ3) := by
  refine pa_mono (pa_cons ha hr (star_cons hs)) fun σ H Q ⟨B, Z, ρ, C, h⟩ => ?_
  refine sub_run C h (fun _ _ z => z) fun r ρ1 v H1 P1 h1 => ?_
  cases e2 : slotOf hot r ρ1 with
  | exc c ρ2 => exact (slot_exc e2).elim
  | stuck => rw [e2] at h1; exact h1.elim
  | ok s ρ2 =>
    rw [e2] at h1
    have h1 : tOut (bind (fp ρ2) fun ss ρ3 => .ok (s :: ss) ρ3) _ _ := h1
    refine slot_cases P1 e2 (fun d es px rp => ?_) fun p d e3 es ev nz nb hn px C' o => ?_
    · subst es
      refine ⟨B, Z, ρ2, px.conc, ?_⟩
      cases e4 : fp ρ2 with
      | stuck => rw [e4] at h1; exact h1
      | exc c ρ3 => rw [e4] at h1; exact Gx.step h1 px
      | ok ss ρ3 =>
        rw [e4] at h1
        rintro vs H2 ⟨Zf, k2, s2, C2, pn⟩
        refine h1 (v :: vs) H2 ⟨Zf, px.keep.seq k2 px.sub, px.sl.trans s2, C2, .c (rp.shift (keep_fb k2) fun a z => ?_) (pn.mono fun a z => px.keep.notnew z)⟩
        rcases z with z | z
        · exact (pn.new a z).imp .inl id
        · exact .inl (.inr (s2.hot a z))
    · subst e3 es ev
      refine ⟨B, Plus p Z, ρ2, C', ?_⟩
      cases e4 : fp ρ2 with
      | stuck => rw [e4] at h1; exact h1
      | exc c ρ3 =>
        rw [e4] at h1
        exact fun H' q => h1 H' (px.seq ⟨q.keep, q.sl, q.conc.less fun _ z => .inr z⟩)
      | ok ss ρ3 =>
        rw [e4] at h1
        rintro vs H2 ⟨Zf, k2, s2, C2, pn⟩
        refine h1 (.ref p :: vs) H2 ⟨Zf, px.keep.seq k2 px.sub, px.sl.trans s2, C2, .h nz nb hn (o.shift (keep_fb k2) (fun a z => ?_) fun u e => k2.old p u e fun z => C'.nhot (.inl rfl) z) (pn.mono fun a z => px.keep.notnew z)⟩
        rcases z with z | z
        · exact (pn.new a z).imp .inl id
        · exact .inl (.inr (s2.hot a z))
theorem par_post {K : PySem.W.Frag} {B Z Zf : Addr → Prop} {ρ ρ1 ρ2 : PL.Env} {σ : L2.St} {H H1 : Hp} {vs : List V} {ss : List Slot} {is : List Nat} (k : Keeps (HotAt ρ σ) H H1) (s : Sub ρ ρ1) (C : Conc K B Zf ρ1 σ H1) (p : PndA K B (fun a => H a = none) Zf ρ1 σ H1 Z vs ss)
    (e : setAll ρ1 is ss = some ρ2) : PostS K B Z ρ ρ2 σ (setV σ is vs) H H1 := by
  obtain ⟨c, f, h, i⟩ := par_store C p e
  refine ⟨k, fun a z => (h a z).imp (s.hot a) id, fun j d' q => ?_, c⟩
  obtain ⟨⟨d, q1⟩, q2⟩ := i j d' q
  exact ⟨s j true d q1, q2⟩
theorem setAll_len {ρ : PL.Env} : ∀ {is : List Nat} {ss : List Slot} {ρ2 : PL.Env}, setAll ρ is ss = some ρ2 → is.length = ss.length
  | [], [], _, _ => rfl
  | [], _ :: _, _, h => by cases h
  | _ :: _, [], _, h => by cases h
  | i :: is, s :: ss, _, h => by
    rw [setAll] at h
    cases e : setAll ρ is ss with
    | none => rw [e] at h; cases h
    | some ρ1 => rw [List.length_cons, List.length_cons, setAll_len e]
theorem any_star : ∀ {es : List Expr}, es.all unstar = true → (es.any fun | .Starred .. => true | _ => false) = false
  | [], _ => rfl
  | e :: es, h => by
    rw [List.all_cons, Bool.and_eq_true] at h
    rw [List.any_cons, any_star h.2]
    have h1 := h.1
    cases e <;> first | rfl | (exact absurd h1 (by decide)) | (simp [unstar] at h1)
theorem swap_two {x y : Str} {px py pt pt2 : Pos} {kt k2 : Nat} {a b : Expr} {env : PySem.Env} (hk : env.scope.kind = .function) (hx : env.scope.names.lookup x = some .local) (hy : env.scope.names.lookup y = some .local) (hl : (py.line == px.line) = true) (hxy : (x == y) = false)
    (hs : [a, b].all unstar = true) (hf : foldAll [a, b] = false) (hc : [a, b].all (constantsAlone 8) = false) : swappedStores [.Tuple [.Name x px, .Name y py] kt pt] (.Tuple [a, b] k2 pt2) env = pure (some [x, y]) := by
  have kx : env.kindOf x = some .local := hx
  have ky : env.kindOf y = some .local := hy
  have hb : env.blockKind = .function := by unfold Env.blockKind; rw [hk]; rfl
  have hxy' : (y == x) = false := by
    rw [beq_eq_false_iff_ne] at hxy ⊢
    exact fun z => hxy z.symm
  have st := any_star hs
  unfold foldAll at hf
  unfold swappedStores
  simp only [List.length_cons, List.length_nil, hb, st, hf, hc, List.filterMap_cons, List.filterMap_nil, kx, ky, List.head?_cons, Option.map_some, Option.getD_some, Expr.pos, hl]
  simp [hl, hxy, hxy', Expr.pos, List.eraseDups_cons]
  intro h
  rw [List.any_cons, List.any_cons, List.any_nil, Bool.or_false, Bool.or_eq_false_iff] at st
  rcases h with h | h
  · exact Bool.noConfusion (h.symm.trans st.1)
  · exact Bool.noConfusion (h.symm.trans st.2)
theorem swap_three {x y z : Str} {px py pz pt pt2 : Pos} {kt k2 : Nat} {a b c : Expr} {env : PySem.Env} (hk : env.scope.kind = .function) (hx : env.scope.names.lookup x = some .local) (hy : env.scope.names.lookup y = some .local) (hz : env.scope.names.lookup z = some .local)
    (hl : (py.line == px.line) = true) (hl2 : (pz.line == px.line) = true) (hxy : (x == y) = false) (hxz : (x == z) = false) (hyz : (y == z) = false)
    (hs : [a, b, c].all unstar = true) (hf : foldAll [a, b, c] = false) (hc : [a, b, c].all (constantsAlone 8) = false) : swappedStores [.Tuple [.Name x px, .Name y py, .Name z pz] kt pt] (.Tuple [a, b, c] k2 pt2) env = pure (some [x, y, z]) := by
  have kx : env.kindOf x = some .local := hx
  have ky : env.kindOf y = some .local := hy
  have kz : env.kindOf z = some .local := hz
  have hb : env.blockKind = .function := by unfold Env.blockKind; rw [hk]; rfl
  have fl : ∀ {u w : Str}, (u == w) = false → (w == u) = false := fun {u w} h => by
    rw [beq_eq_false_iff_ne] at h ⊢
    exact fun z => h z.symm
  have st := any_star hs
  unfold foldAll at hf
  unfold swappedStores
  simp only [List.length_cons, List.length_nil, hb, st, hf, hc, List.filterMap_cons, List.filterMap_nil, kx, ky, kz, List.head?_cons, Option.map_some, Option.getD_some, Expr.pos, hl, hl2]
  simp [hl, hl2, hxy, hxz, hyz, fl hxy, fl hxz, fl hyz, Expr.pos, List.eraseDups_cons]
  intro h
  rw [List.any_cons, List.any_cons, List.any_cons, List.any_nil, Bool.or_false, Bool.or_eq_false_iff, Bool.or_eq_false_iff] at st
  rcases h with h | h | h
  · exact Bool.noConfusion (h.symm.trans st.1)
  · exact Bool.noConfusion (h.symm.trans st.2.1)
  · exact Bool.noConfusion (h.symm.trans st.2.2)
theorem swap_none {tg e : Expr} {env : PySem.Env} (hk : env.scope.kind = .function) (h : swapNone env.scope tg e = true) : swappedStores [tg] e env = pure none := by
  have hb : env.blockKind = .function := by unfold Env.blockKind; rw [hk]; rfl
  cases tg <;> first | rfl | (cases h; done) | skip
  rename_i ts kt pt
  cases e <;> first | rfl | skip
  rename_i vs k2 pt2
  unfold swappedStores
  dsimp only
  rw [swapNone] at h
  by_cases h1 : (!(ts.length == 2 || ts.length == 3) || vs.length != ts.length) = true
  · exact if_pos (by rw [h1]; rfl)
  · rw [Bool.not_eq_true] at h1
    rw [h1, Bool.false_or, Bool.and_eq_true, Bool.not_eq_true', Bool.or_eq_true] at h
    rw [if_neg (by rw [h1, hb]; decide)]
    rw [if_neg (fun q => Bool.noConfusion (q.symm.trans h.1))]
    rcases h.2 with h2 | h2
    · exact if_pos ((Bool.or_eq_true _ _).mpr (.inl h2))
    · by_cases h3 : ((ts.filterMap (nameLocal env.scope ((ts.head?.map (·.pos.line)).getD 0))).length != ts.length || (ts.filterMap (nameLocal env.scope ((ts.head?.map (·.pos.line)).getD 0))).eraseDups.length != (ts.filterMap (nameLocal env.scope ((ts.head?.map (·.pos.line)).getD 0))).length) = true
      · exact if_pos h3
      · exact (if_neg h3).trans (if_pos h2)
theorem ss_par2 {i j : Nat} {x y : Str} {px py pt pt2 pos : Pos} {kt k2 : Nat} {a b : Expr} {f : PL.Env → Out (List Slot)} (hc : X.calm = true) (hk : X.env.scope.kind = .function) (hN : X.N.Nodup) (hi : X.N[i]? = some x) (hj : X.N[j]? = some y)
    (hx : X.env.scope.names.lookup x = some .local) (hy : X.env.scope.names.lookup y = some .local) (hl : (py.line == px.line) = true) (hxy : (x == y) = false) (hs : [a, b].all unstar = true) (hf : foldAll [a, b] = false) (hca : [a, b].all (constantsAlone 8) = false)
    (ha : SPr X Wx [a, b] f) : SS X Wx (.Assign [.Tuple [.Name x px, .Name y py] kt pt] (.Tuple [a, b] k2 pt2) pos) (fun ρ => sb (f ρ) fun ss ρ1 => match setAll ρ1 [i, j] ss with | some ρ2 => .nx ρ2 | none => .stuck) := by
  have hij : i ≠ j := fun z => by
    rw [z, hj] at hi
    cases hi
    simp at hxy
  refine ps_mono (ps_par hc hN hi hj hij hx hy ha (swap_two hk hx hy hl hxy hs hf hca) rfl) fun D σ H ⟨B, Z, ρ, C, h⟩ => ?_
  refine ⟨B, Z, ρ, C, ?_⟩
  dsimp only at h
  cases e : f ρ with
  | stuck => rw [e] at h; exact h
  | exc c ρ1 => rw [e] at h; exact Gs.x h
  | ok ss ρ1 =>
    rw [e] at h
    rintro vs H1 ⟨Zf, kp, sl, C1, pn⟩
    cases e2 : setAll ρ1 [i, j] ss with
    | none => exact (show False by simpa [sb, e2, tSt] using h).elim
    | some ρ2 =>
      replace h : ∀ σ' H', PostS X.K B Z ρ ρ2 σ σ' H H' → D.nx σ' H' := by simpa [sb, e2, tSt] using h
      have l := setAll_len e2
      have l2 := pn.length
      match vs, l2.trans l.symm with
      | [v, w], _ =>
        refine ⟨v, w, rfl, ?_⟩
        have P : PostS X.K B Z ρ ρ2 σ ((σ.set j (some w)).set i (some v)) H H1 := par_post kp sl C1 pn e2
        rw [List.set_comm _ _ (Ne.symm hij)] at P
        exact h _ H1 P
theorem ss_par3 {i j l : Nat} {x y z : Str} {px py pz pt pt2 pos : Pos} {kt k2 : Nat} {a b c : Expr} {f : PL.Env → Out (List Slot)} (hc : X.calm = true) (hk : X.env.scope.kind = .function) (hN : X.N.Nodup) (hi : X.N[i]? = some x) (hj : X.N[j]? = some y) (hl : X.N[l]? = some z)
    (hx : X.env.scope.names.lookup x = some .local) (hy : X.env.scope.names.lookup y = some .local) (hz : X.env.scope.names.lookup z = some .local) (hl1 : (py.line == px.line) = true) (hl2 : (pz.line == px.line) = true) (hxy : (x == y) = false) (hxz : (x == z) = false) (hyz : (y == z) = false)
    (hs : [a, b, c].all unstar = true) (hf : foldAll [a, b, c] = false) (hca : [a, b, c].all (constantsAlone 8) = false)
    (ha : SPr X Wx [a, b, c] f) : SS X Wx (.Assign [.Tuple [.Name x px, .Name y py, .Name z pz] kt pt] (.Tuple [a, b, c] k2 pt2) pos) (fun ρ => sb (f ρ) fun ss ρ1 => match setAll ρ1 [i, j, l] ss with | some ρ2 => .nx ρ2 | none => .stuck) := by
  have key : ∀ {i j : Nat} {x y : Str}, X.N[i]? = some x → X.N[j]? = some y → (x == y) = false → i ≠ j := fun {i j x y} hi hj hxy z => by
    rw [z, hj] at hi
    cases hi
    simp at hxy
  have hij := key hi hj hxy
  have hil := key hi hl hxz
  have hjl := key hj hl hyz
  refine ps_mono (ps_par3 hc hN hi hj hl hij hil hjl hx hy hz ha (swap_three hk hx hy hz hl1 hl2 hxy hxz hyz hs hf hca) rfl) fun D σ H ⟨B, Z, ρ, C, h⟩ => ?_
  refine ⟨B, Z, ρ, C, ?_⟩
  dsimp only at h
  cases e : f ρ with
  | stuck => rw [e] at h; exact h
  | exc c ρ1 => rw [e] at h; exact Gs.x h
  | ok ss ρ1 =>
    rw [e] at h
    rintro vs H1 ⟨Zf, kp, sl, C1, pn⟩
    cases e2 : setAll ρ1 [i, j, l] ss with
    | none => exact (show False by simpa [sb, e2, tSt] using h).elim
    | some ρ2 =>
      replace h : ∀ σ' H', PostS X.K B Z ρ ρ2 σ σ' H H' → D.nx σ' H' := by simpa [sb, e2, tSt] using h
      have ln := setAll_len e2
      have l2 := pn.length
      match vs, l2.trans ln.symm with
      | [u, v, w], _ =>
        refine ⟨u, v, w, rfl, ?_⟩
        have P : PostS X.K B Z ρ ρ2 σ (((σ.set l (some w)).set j (some v)).set i (some u)) H H1 := par_post kp sl C1 pn e2
        have e3 : ((σ.set l (some w)).set j (some v)).set i (some u) = ((σ.set i (some u)).set j (some v)).set l (some w) := by
          rw [List.set_comm (l := σ.set l (some w)) _ _ (Ne.symm hij), List.set_comm (l := σ) _ _ (Ne.symm hil), List.set_comm _ _ (Ne.symm hjl)]
        rw [e3] at P
        exact h _ H1 P
end
end PL

set_option autoImplicit false
set_option linter.all false
set_option Elab.async false
set_option maxRecDepth 100000
set_option maxHeartbeats 4000000
/-! PW0: enumerate over a tuple. -/
namespace PL
open PySem PySem.Spec PyProof.Rows L2
theorem meets_enumerate_newTup (l : Addr) (items : Array Value) (n : Nat) (dct : Option Addr) (sl : Array (Option Value)) :
    Meets (Builtin.«enumerate.__new__» ⟨[.type "enumerate", .ref l], []⟩) (fun _ R s => s.heap.get? l = some { cls := .type "tuple", dict := dct, data := .seq items n, slots := sl } ∧
      R (.ok (.ret (.ref (s.heap.push { cls := .type "tuple_iterator", data := .fields #[.ref l, .int 0 0] }).objs.size)))
        { s with heap := (s.heap.push { cls := .type "tuple_iterator", data := .fields #[.ref l, .int 0 0] }).push { cls := .type "enumerate", data := .fields #[.none, .bool false, .ref s.heap.objs.size, rawInt 0, .none, .none] } }) :=
  .of_wp fun prog w A R s h => by
    obtain ⟨hp, g, d, tk, os⟩ := s; obtain ⟨hl, h⟩ := h
    have isub := sub_enumerate
    have hL : Heap.IsTuple (Shared.heap ⟨hp, g, d, tk, os⟩) l items := ⟨_, hl, rfl, n, rfl⟩
    wp_walk using AutoSeq1.wpAny_loadPart' hl
    refine wpAny_stack_any fun st => wpAny_pure ?_
    split
    · rename_i c _ _ _ _ _
      cases (c == Value.type "enumerate")
      · wp_walk using AutoSeq1.wpAny_loadPart' hl, wpAny_pyIter_tuple hL
        exact ⟨_, rfl, h⟩
      · wp_walk using AutoSeq1.wpAny_loadPart' hl, wpAny_pyIter_tuple hL
        exact ⟨_, rfl, h⟩
    · wp_walk using AutoSeq1.wpAny_loadPart' hl, wpAny_pyIter_tuple hL
      exact ⟨_, rfl, h⟩
section
variable {prog : Program} {w : World} {A : Around} {E : Value → Shared → Prop} {s : Shared}
theorem call_enumerate_tup {l : Addr} {items : Array Value} {Q : Value → Shared → Prop} (tL : s.heap.IsTuple l items)
    (fin : ∀ h', IsEnum h' (s.heap.objs.size + 1) s.heap.objs.size 0 .none → h'.IsTupleIter s.heap.objs.size l 0 → h'.objs.size = s.heap.objs.size + 2 →
      (∀ b o, s.heap.get? b = some o → h'.get? b = some o) → Q (.ref (s.heap.objs.size + 1)) { s with heap := h' }) :
    wpAny (model prog w) A (call (.type "enumerate") [.ref l]) Q E s := by
  obtain ⟨⟨c, dct, dt, sl⟩, hl, hc, n, hd⟩ := tL
  replace hc : c = .type "tuple" := hc
  replace hd : dt = .seq items n := hd
  subst hc hd
  refine callType_new F.called_enumerate (by decide) (F.typeCall_enumerate_1 _) (F.newCall_enumerate_1 _) (fun obj => F.args_object_init_2 obj _) F.entry_enumerate_new
    (meets_enumerate_newTup l items n dct sl) ⟨hl, ?_⟩
  have hz : (s.heap.push { cls := .type "tuple_iterator", data := .fields #[.ref l, .int 0 0] }).objs.size = s.heap.objs.size + 1 := Heap.size_push ..
  show _ ∧ _
  rw [hz]
  have en : IsEnum ((s.heap.push { cls := .type "tuple_iterator", data := .fields #[.ref l, .int 0 0] }).push
      { cls := .type "enumerate", data := .fields #[.none, .bool false, .ref s.heap.objs.size, rawInt 0, .none, .none] }) (s.heap.objs.size + 1) s.heap.objs.size 0 .none := by
    have := Heap.get?_push_size (s.heap.push { cls := .type "tuple_iterator", data := .fields #[.ref l, .int 0 0] })
      (o := { cls := .type "enumerate", data := .fields #[.none, .bool false, .ref s.heap.objs.size, rawInt 0, .none, .none] }) rfl
    rw [hz] at this; exact this
  refine ⟨⟨_, en, rfl⟩, fin _ en ⟨_, Heap.get?_push_of_some _ (Heap.get?_push_size _ rfl), rfl, rfl⟩ (by rw [Heap.size_push, hz]) fun b o x => Heap.get?_push_of_some _ (Heap.get?_push_of_some _ x)⟩
end
/-- the tuple at a, each item in a new pair -/
def IteT (K : PySem.W.Frag) (a : Addr) : It :=
  ⟨fun i H => ∃ (xs : List V) (x : V), SqT K H a xs ∧ xs[i]? = some x, fun i H v H' => ∃ T x, v = .ref T ∧ H T = none ∧ H' = upd H T (.tup [.int (i : Nat), x]) ∧ ∀ xs, SqT K H a xs → xs[i]? = some x, fun i H => ∃ xs : List V, SqT K H a xs ∧ xs.length ≤ i⟩
theorem turn_enumTup {P : Program} {w : World} {K : PySem.W.Frag} {elts : List Expr} {kk : Nat} {tpos : Pos} (a e it : Addr) (nea : a ≠ e) (nia : a ≠ it) :
    Turn P w K (.Tuple elts kk tpos) (IteT K a) [e, it] e (fun i h => (∃ old, IsEnum h e it ((i : Nat) : Int) old) ∧ h.IsTupleIter it a i ∧ e ≠ it) where
  mem := by simp
  obj := fun i h st b hb => by
    obtain ⟨⟨old, he⟩, ⟨o, ho, hc, hd⟩, _⟩ := st
    have e' : b = e ∨ b = it := by simpa using hb
    rcases e' with z | z
    · rw [z]; exact ⟨_, he, fun v q => nomatch q⟩
    · rw [z]; exact ⟨o, ho, fun v q => by rw [hd] at q; cases q⟩
  keep := fun i h h' st k => let ⟨⟨old, he⟩, hi, ne⟩ := st; ⟨⟨old, k e (by simp) _ he⟩, hi.at fun o q => k it (by simp) o q, ne⟩
  item := by
    intro X hP hw hK hc i pins s σ H E I hf st hg
    subst hP hw hK
    obtain ⟨⟨old, he⟩, hit, ne⟩ := st
    obtain ⟨xs, x, hq, hx⟩ := hg
    obtain ⟨its, rv, p, hz⟩ := I.tuple hq
    obtain ⟨u, hu, ru⟩ := rv.get hx
    have hel : e < s.heap.objs.size := Heap.lt_size he
    have hil : it < s.heap.objs.size := by obtain ⟨_, q, _⟩ := hit; exact Heap.lt_size q
    have li : i < its.toArray.size := by
      have := (List.getElem?_eq_some_iff.mp hu).1
      simpa using this
    refine wpAny_pyNext_enum_itemD (Draws.tuple (A := X.A.in1) (by exact I.ok.hd hc) it a nia its.toArray) he ⟨hit, p⟩ li ne (by simp; exact ⟨ne, fun z => nea z.symm⟩) fun x' h' tk hP ho hs' hT hsz hk => ?_
    have ex : x' = u := by
      have : its.toArray[i]? = some x' := hP
      rw [show its.toArray[i]? = some u by simpa using hu] at this
      exact (Option.some.inj this).symm
    subst ex
    refine ⟨_, rfl, wpAny_letOwnedTupleGo_enum (s := { s with heap := h', toks := tk + 1 }) ho fun h'' he' sb => ?_⟩
    have hT2 : h''.get? s.heap.objs.size = some { cls := .type "tuple", data := .seq #[.int i tk, x'] } := (sb.2 _ (Nat.ne_of_gt hel)).trans hT
    have new : ObjOk X.prog X.w (upd H s.heap.objs.size (.tup [.int (i : Nat), x])) h'' s.heap.objs.size (.tup [.int (i : Nat), x]) :=
      ⟨by show 2 ≤ sizeLine; decide, [.int i tk, x'], .cons ⟨_, rfl⟩ (.cons ru .nil), ⟨_, hT2, rfl, _, rfl⟩⟩
    have I1 : Inv X pins σ (upd H s.heap.objs.size (.tup [.int (i : Nat), x])) { s with heap := h'', toks := tk + 1 } :=
      I.turnedNew (ch := [e, it]) (fun b ob hb q => (sb.2 b (fun z => hb (by simp [z]))).trans (hk b ob (fun z => hb (by simp [z])) (fun z => hb (by simp [z])) q)) hf (Nat.le_refl _) new
    refine ⟨.ref s.heap.objs.size, _, I1, rfl, ⟨_, x, rfl, I.hok.fresh (Nat.le_refl _), rfl, fun ys hy => by rw [I.tuple_inj hy hq]; exact hx⟩, ⟨⟨x', ?_⟩, hs'.1.at fun o q => (sb.2 it (Ne.symm ne)).trans q, ne⟩, fun b hb => ?_⟩
    · have e1 : ((i + 1 : Nat) : Int) = (i : Int) + 1 := by omega
      rw [e1]; exact he'
    · have hb' : b < s.heap.objs.size := by
        have e' : b = e ∨ b = it := by simpa using hb
        rcases e' with z | z
        · rw [z]; exact hel
        · rw [z]; exact hil
      rw [upd_ne (Nat.ne_of_lt hb')]
      exact (hf b hb).1
  done := by
    intro X hP hw hK hc i pins s σ H E I hf st hg
    subst hP hw hK
    obtain ⟨⟨old, he⟩, hit, ne⟩ := st
    obtain ⟨xs, hq, hx⟩ := hg
    obtain ⟨its, rv, p, hz⟩ := I.tuple hq
    obtain ⟨f0, f1, f2, f3, f4, f5⟩ := hf it (by simp)
    have hl := rv.length
    unfold pyNext
    have tI : s.TypeIs (.ref e) "enumerate" := ⟨_, he, rfl⟩
    refine wpAny_bind (wpAny_attempt (wpAny_callSpecial?_slot (name := Str.ofString "__next__") tI F.slot_enumerate_next
      (wpAny_call_entry F.slot_enumerate_next tI F.entry_enumerate_next ?_ (F.args_enumerate_next_1 _))))
    show wpAny _ _ (field (.ref e) 2 >>= _) _ _ _
    refine wpAny_bind (wpAny_field he rfl (x := .ref it) rfl ?_)
    refine wpAny_bind (wpAny_nextOf_tuple_end (by exact I.ok.hd hc) hit p (by simp; omega) fun h' x eb hx' => ?_)
    obtain ⟨o, ho, hcl⟩ := hx'
    refine wpAny_bind (wpAny_isInstance (T := "StopIteration") (b := true) ⟨o, ho, hcl⟩ isSubtype_stop ?_)
    exact wpAny_pure ⟨rfl, I.turned (t' := s.toks) (fun b o hb q => eb b o hb q) f0 f1 f3 f4 f5⟩
  self := fun A i s Q E st h => let ⟨⟨_, he⟩, _⟩ := st; wpAny_pyIter_enum he h
def iEnumA (K : PySem.W.Frag) (ta : TA) : TI := fun σ H R => ta σ H fun vs H1 => ∃ a xs, vs = [.ref a] ∧ ((SqL K H1 a xs ∧ R (Ite K a) H1) ∨ (SqT K H1 a xs ∧ R (IteT K a) H1))
theorem pi_enumA {X : Cx} {e : Expr} {ta : TA} {p pos tpos : Pos} {elts : List Expr} {kk : Nat} (hg : Gl X "enumerate") (hm : X.mg "enumerate" = none) (ha : PA X [e] ta) (hs : starEach [e] X.env = [(false, eval e X.env)] := by rfl) :
    PI X (.Tuple elts kk tpos) (.Call (.Name "enumerate" p) [e] [] pos) (iEnumA X.K ta) := by
  refine ⟨fun pins s σ H R I h => ?_⟩
  refine Call_ (ld_blt I hg hm boot_enumerate (PyProof.Rows.callWith_type1 (thn (ha.run pos pins s σ H _ I h) fun us s1 ⟨vs, H1, I1, r1, q1⟩ => ?_) hs rfl))
  obtain ⟨a, xs, ex, q1⟩ := q1
  subst ex
  cases r1 with
  | cons r rr =>
    cases rr
    cases r
    have fpk : ∀ b, b ∈ [s1.heap.objs.size + 1, s1.heap.objs.size] → FpOk X pins H1 b := fun b hb => by
      have e' : b = s1.heap.objs.size + 1 ∨ b = s1.heap.objs.size := by simpa using hb
      have hle : s1.heap.objs.size ≤ b := by
        rcases e' with z | z
        · rw [z]; exact Nat.le_add_right _ _
        · rw [z]; exact Nat.le_refl _
      exact I1.fpOk hle (I1.hok.fresh hle)
    rcases q1 with ⟨hq, q⟩ | ⟨hq, q⟩
    · obtain ⟨its, rv, p', hz⟩ := I1.list hq
      refine call_enumerate_list p'.isList fun h' he hit hsz hk => wpAny_pyIter_enum he ?_
      have I2 : Inv X pins σ H1 { s1 with heap := h' } := I1.kept (t' := s1.toks) hk
      exact ⟨s1.heap.objs.size + 1, [s1.heap.objs.size + 1, s1.heap.objs.size], _, _, H1, rfl, I2, turn_enum a (s1.heap.objs.size + 1) s1.heap.objs.size, ⟨⟨.none, he⟩, hit, Nat.succ_ne_self _⟩, fpk, q⟩
    · obtain ⟨its, rv, p', hz⟩ := I1.tuple hq
      obtain ⟨o1, ho1, _⟩ := id p'
      have la := Heap.lt_size ho1
      refine call_enumerate_tup (show s1.heap.IsTuple a its.toArray from p') fun h' he hit hsz hk => wpAny_pyIter_enum he ?_
      have I2 : Inv X pins σ H1 { s1 with heap := h' } := I1.kept (t' := s1.toks) hk
      exact ⟨s1.heap.objs.size + 1, [s1.heap.objs.size + 1, s1.heap.objs.size], _, _, H1, rfl, I2, turn_enumTup a (s1.heap.objs.size + 1) s1.heap.objs.size (Nat.ne_of_lt (Nat.lt_succ_of_lt la)) (Nat.ne_of_lt la), ⟨⟨.none, he⟩, hit, Nat.succ_ne_self _⟩, fpk, q⟩
end PL

set_option autoImplicit false
set_option linter.all false
set_option Elab.async false
set_option maxRecDepth 100000
set_option maxHeartbeats 1000000
/-! PL13: what is walked; for. -/
namespace PL
open PySem PySem.Spec PyProof.Rows L2
/-- the walk of J hands out the items, while the heap keeps what Y0 does not forbid -/
structure WalkD (K : PySem.W.Frag) (Y0 : Addr → Prop) (H0 : Hp) (J : It) (items : List PyData) : Prop where
  goes : ∀ i H, i < items.length → Keeps Y0 H0 H → J.go i H
  stops : ∀ H, Keeps Y0 H0 H → J.stop items.length H
  yields : ∀ (i : Nat) (H : Hp) (x : V) (H' : Hp) (d : PyData) (Y' : Addr → Prop), items[i]? = some d → Keeps Y0 H0 H → (∀ a, Y' a → Y0 a ∨ H0 a = none) → (∀ a, Y' a → H a ≠ none) → J.yld i H x H' → Keeps NoM H H' ∧ Rp K Y' H' x d
section
variable {K : PySem.W.Frag} {Y0 : Addr → Prop} {H0 : Hp} {a b : Addr} {xs ys : List V} {ds es : List PyData}
theorem keep_L {M : Addr → Prop} {H H' : Hp} (k : Keeps M H H') (n : ¬ M a) (r : Rd H a (.lst xs)) : SqL K H' a xs := .inl (rdKeeps k n r)
theorem walkD_list (n : ¬ Y0 a) (r : Rd H0 a (.lst xs)) (ra : RpA K Y0 H0 xs ds) : WalkD K Y0 H0 (Itl K a) ds := by
  refine ⟨fun i H hi k => ?_, fun H k => ⟨xs, keep_L k n r, by rw [ra.length]; exact Nat.le_refl _⟩, fun i H x H' d Y' hi k hY hn y => ?_⟩
  · obtain ⟨v, e, _⟩ := ra.get (List.getElem?_eq_getElem hi)
    exact ⟨xs, v, keep_L k n r, e⟩
  · obtain ⟨e, y⟩ := y
    subst e
    obtain ⟨v, e, rp⟩ := ra.get hi
    have ev := y xs (keep_L k n r)
    rw [e] at ev
    cases ev
    exact ⟨Keeps.refl, rp.shift k hY⟩
theorem walkD_tup (r : ∀ H, Keeps Y0 H0 H → SqT K H a xs) (ra : RpA K Y0 H0 xs ds) : WalkD K Y0 H0 (Itt K a) ds := by
  refine ⟨fun i H hi k => ?_, fun H k => ⟨xs, r H k, by rw [ra.length]; exact Nat.le_refl _⟩, fun i H x H' d Y' hi k hY hn y => ?_⟩
  · obtain ⟨v, e, _⟩ := ra.get (List.getElem?_eq_getElem hi)
    exact ⟨xs, v, r H k, e⟩
  · obtain ⟨e, y⟩ := y
    subst e
    obtain ⟨v, e, rp⟩ := ra.get hi
    have ev := y xs (r H' k)
    rw [e] at ev
    cases ev
    exact ⟨Keeps.refl, rp.shift k hY⟩
theorem walkD_str {z : Str} : WalkD K Y0 H0 (Its z) (z.cps.toList.map fun c => PyData.str ⟨#[c]⟩) := by
  refine ⟨fun i H hi k => ?_, fun H k => ?_, fun i H x H' d Y' hi k hY hn y => ?_⟩
  · show i < z.cps.size
    simpa using hi
  · show z.cps.size ≤ _
    simp
  · obtain ⟨e, c, hc, ex⟩ := y
    subst e ex
    rw [List.getElem?_map, Array.getElem?_toList, hc] at hi
    cases hi
    exact ⟨Keeps.refl, .str _⟩
theorem walkD_range {lo : Int} {n : Nat} : WalkD K Y0 H0 (Itr lo n) ((List.range n).map fun (k : Nat) => PyData.int (lo + (k : Int))) := by
  refine ⟨fun i H hi k => ?_, fun H k => ?_, fun i H x H' d Y' hi k hY hn y => ?_⟩
  · show i < n
    simpa using hi
  · show n ≤ _
    simp
  · obtain ⟨e, ex⟩ := y
    subst e ex
    rw [List.getElem?_map] at hi
    obtain ⟨j, ej, ed⟩ := Option.map_eq_some_iff.mp hi
    obtain ⟨_, rfl⟩ := List.getElem?_eq_some_iff.mp ej
    subst ed
    rw [List.getElem_range]
    exact ⟨Keeps.refl, .int _⟩
theorem walkD_rangeC {lo c : Int} {n : Nat} {f : Nat → Int} (hf : ∀ k : Nat, f k = lo + (k : Int) * c) : WalkD K Y0 H0 (Itc lo c n) ((List.range n).map fun (k : Nat) => PyData.int (f k)) := by
  refine ⟨fun i H hi k => ?_, fun H k => ?_, fun i H x H' d Y' hi k hY hn y => ?_⟩
  · show i < n
    simpa using hi
  · show n ≤ _
    simp
  · obtain ⟨e, ex⟩ := y
    subst e ex
    rw [List.getElem?_map] at hi
    obtain ⟨j, ej, ed⟩ := Option.map_eq_some_iff.mp hi
    obtain ⟨_, rfl⟩ := List.getElem?_eq_some_iff.mp ej
    subst ed
    rw [List.getElem_range, hf]
    exact ⟨Keeps.refl, .int _⟩
theorem new_pair {Y' : Addr → Prop} {H H' : Hp} {T : Addr} {x y : V} {d e : PyData} (hn : ∀ a, Y' a → H a ≠ none) (hT : H T = none) (eH : H' = upd H T (.tup [x, y])) (r1 : Rp K Y' H x d) (r2 : Rp K Y' H y e) : Keeps NoM H H' ∧ Rp K Y' H' (.ref T) (.tuple [d, e]) := by
  subst eH
  have k : Keeps NoM H (upd H T (.tup [x, y])) := Keeps.new hT
  exact ⟨k, .tup (fun z => hn T z hT) (.inl upd_same) (.cons (r1.move k.any fun _ z => z) (.cons (r2.move k.any fun _ z => z) .nil))⟩
theorem enum_get : ∀ {ds : List PyData} {k : Int} {i : Nat} {d : PyData}, (enumFrom k ds)[i]? = some d → ∃ e, ds[i]? = some e ∧ d = .tuple [.int (k + i), e]
  | [], k, i, d, h => by simp [enumFrom] at h
  | x :: xs, k, 0, d, h => by
    simp [enumFrom] at h
    exact ⟨x, rfl, by rw [← h]; simp⟩
  | x :: xs, k, i + 1, d, h => by
    rw [enumFrom, List.getElem?_cons_succ] at h
    obtain ⟨e, h1, h2⟩ := enum_get h
    exact ⟨e, by rw [List.getElem?_cons_succ]; exact h1, by rw [h2]; congr 3; omega⟩
theorem enum_len : ∀ {ds : List PyData} {k : Int}, (enumFrom k ds).length = ds.length
  | [], _ => rfl
  | _ :: xs, k => by rw [enumFrom, List.length_cons, List.length_cons, enum_len]
theorem walkD_enum (n : ¬ Y0 a) (r : Rd H0 a (.lst xs)) (ra : RpA K Y0 H0 xs ds) : WalkD K Y0 H0 (Ite K a) (enumFrom 0 ds) := by
  refine ⟨fun i H hi k => ?_, fun H k => ⟨xs, keep_L k n r, by rw [ra.length, enum_len]; exact Nat.le_refl _⟩, fun i H x H' d Y' hi k hY hn y => ?_⟩
  · rw [enum_len] at hi
    obtain ⟨v, e, _⟩ := ra.get (List.getElem?_eq_getElem hi)
    exact ⟨xs, v, keep_L k n r, e⟩
  · obtain ⟨T, w, ex, hT, eH, y⟩ := y
    subst ex
    obtain ⟨e, he, ed⟩ := enum_get hi
    obtain ⟨v, ev, rp⟩ := ra.get he
    have ew := y xs (keep_L k n r)
    rw [ev] at ew
    cases ew
    have ei : (0 : Int) + (i : Int) = (i : Int) := by omega
    rw [ei] at ed
    rw [ed]
    exact new_pair hn hT eH (.int _) (rp.shift k hY)
theorem walkD_enumT (r : ∀ H, Keeps Y0 H0 H → SqT K H a xs) (ra : RpA K Y0 H0 xs ds) : WalkD K Y0 H0 (IteT K a) (enumFrom 0 ds) := by
  refine ⟨fun i H hi k => ?_, fun H k => ⟨xs, r H k, by rw [ra.length, enum_len]; exact Nat.le_refl _⟩, fun i H x H' d Y' hi k hY hn y => ?_⟩
  · rw [enum_len] at hi
    obtain ⟨v, e, _⟩ := ra.get (List.getElem?_eq_getElem hi)
    exact ⟨xs, v, r H k, e⟩
  · obtain ⟨T, w, ex, hT, eH, y⟩ := y
    subst ex
    obtain ⟨e, he, ed⟩ := enum_get hi
    obtain ⟨v, ev, rp⟩ := ra.get he
    have ew := y xs (r H k)
    rw [ev] at ew
    cases ew
    have ei : (0 : Int) + (i : Int) = (i : Int) := by omega
    rw [ei] at ed
    rw [ed]
    exact new_pair hn hT eH (.int _) (rp.shift k hY)
theorem zip_get : ∀ {ds es : List PyData} {i : Nat} {d : PyData}, (zip2 ds es)[i]? = some d → ∃ u w, ds[i]? = some u ∧ es[i]? = some w ∧ d = .tuple [u, w]
  | [], es, i, d, h => by simp [zip2] at h
  | x :: xs, [], i, d, h => by simp [zip2] at h
  | x :: xs, y :: ys, 0, d, h => by
    simp [zip2] at h
    exact ⟨x, y, rfl, rfl, h.symm⟩
  | x :: xs, y :: ys, i + 1, d, h => by
    rw [zip2, List.getElem?_cons_succ] at h
    obtain ⟨u, w, h1, h2, h3⟩ := zip_get h
    exact ⟨u, w, by rw [List.getElem?_cons_succ]; exact h1, by rw [List.getElem?_cons_succ]; exact h2, h3⟩
theorem zip_len : ∀ {ds es : List PyData}, (zip2 ds es).length = min ds.length es.length
  | [], es => by simp [zip2]
  | _ :: _, [] => by simp [zip2]
  | x :: xs, y :: ys => by rw [zip2, List.length_cons, List.length_cons, List.length_cons, zip_len]; omega
theorem walkD_zip (na : ¬ Y0 a) (r : Rd H0 a (.lst xs)) (ra : RpA K Y0 H0 xs ds) (nb : ¬ Y0 b) (r2 : Rd H0 b (.lst ys)) (ra2 : RpA K Y0 H0 ys es) : WalkD K Y0 H0 (Itz K a b) (zip2 ds es) := by
  refine ⟨fun i H hi k => ?_, fun H k => ⟨xs, ys, keep_L k na r, keep_L k nb r2, by rw [ra.length, ra2.length, zip_len]; omega⟩, fun i H x H' d Y' hi k hY hn y => ?_⟩
  · rw [zip_len] at hi
    obtain ⟨v, e, _⟩ := ra.get (List.getElem?_eq_getElem (show i < ds.length by omega))
    obtain ⟨w, e2, _⟩ := ra2.get (List.getElem?_eq_getElem (show i < es.length by omega))
    exact ⟨xs, ys, v, w, keep_L k na r, keep_L k nb r2, e, e2⟩
  · obtain ⟨T, u, w, ex, hT, eH, y1, y2⟩ := y
    subst ex
    obtain ⟨e1, e2, h1, h2, ed⟩ := zip_get hi
    obtain ⟨v1, ev1, rp1⟩ := ra.get h1
    obtain ⟨v2, ev2, rp2⟩ := ra2.get h2
    have ew := y1 xs (keep_L k na r)
    rw [ev1] at ew
    cases ew
    have ew := y2 ys (keep_L k nb r2)
    rw [ev2] at ew
    cases ew
    rw [ed]
    exact new_pair hn hT eH (rp1.shift k hY) (rp2.shift k hY)
theorem walkD_zipT (r : ∀ H, Keeps Y0 H0 H → SqT K H a xs) (ra : RpA K Y0 H0 xs ds) (r2 : ∀ H, Keeps Y0 H0 H → SqT K H b ys) (ra2 : RpA K Y0 H0 ys es) : WalkD K Y0 H0 (RZ.ItzT K a b) (zip2 ds es) := by
  refine ⟨fun i H hi k => ?_, fun H k => ⟨xs, ys, r H k, r2 H k, by rw [ra.length, ra2.length, zip_len]; omega⟩, fun i H x H' d Y' hi k hY hn y => ?_⟩
  · rw [zip_len] at hi
    obtain ⟨v, e, _⟩ := ra.get (List.getElem?_eq_getElem (show i < ds.length by omega))
    obtain ⟨w, e2, _⟩ := ra2.get (List.getElem?_eq_getElem (show i < es.length by omega))
    exact ⟨xs, ys, v, w, r H k, r2 H k, e, e2⟩
  · obtain ⟨T, u, w, ex, hT, eH, y1, y2⟩ := y
    subst ex
    obtain ⟨e1, e2, h1, h2, ed⟩ := zip_get hi
    obtain ⟨v1, ev1, rp1⟩ := ra.get h1
    obtain ⟨v2, ev2, rp2⟩ := ra2.get h2
    have ew := y1 xs (r H k)
    rw [ev1] at ew
    cases ew
    have ew := y2 ys (r2 H k)
    rw [ev2] at ew
    cases ew
    rw [ed]
    exact new_pair hn hT eH (rp1.shift k hY) (rp2.shift k hY)
/-- a tuple stays -/
theorem tup_keep {v : V} {es : List PyData} (r : Rp K Y0 H0 v (.tuple es)) : ∃ a xs, v = .ref a ∧ (∀ H, Keeps Y0 H0 H → SqT K H a xs) ∧ RpA K Y0 H0 xs es := by
  cases r with
  | tup n rd ra => exact ⟨_, _, rfl, fun H k => .inl (rdKeeps k n rd), ra⟩
  | tupK rd ra => exact ⟨_, _, rfl, fun H k => rd.sq, ra⟩
end
/-- a dict's keys -/
def ItD (a : Addr) (es : Array DictEntry) (ep : Nat) (ps : List DE) : It :=
  ⟨fun i H => H a = some (DctO a es ep) ∧ i < es.size, fun i H x H' => H' = H ∧ ∃ p, ps[i]? = some p ∧ x = p.2.1, fun i H => H a = some (DctO a es ep) ∧ es.size ≤ i⟩
theorem pair_get {α β : Type} {F : α → β → Prop} : ∀ {as : List α} {bs : List β}, Paired F as bs → ∀ {i : Nat} {b : β}, bs[i]? = some b → ∃ a, as[i]? = some a ∧ F a b
  | _, _, .nil, i, b, h => by simp at h
  | _, _, .cons r t, 0, b, h => by simp at h; subst h; exact ⟨_, rfl, r⟩
  | _, _, .cons r t, i + 1, b, h => by
    obtain ⟨a, e, q⟩ := pair_get t (i := i) (b := b) (by simpa using h)
    exact ⟨a, by simpa using e, q⟩
theorem turn_dict {P : Program} {w : World} {K : PySem.W.Frag} {tg : Expr} {a : Addr} {es : Array DictEntry} {ep : Nat} {ps : List DE} (it : Addr) (pe : Paired Ent ps es.toList) : Turn P w K tg (ItD a es ep ps) [it] it (fun i h => h.IsKeyIter it a i es.size ep) where
  mem := by simp
  obj := fun i h st b hb => by
    have e : b = it := by simpa using hb
    subst e
    obtain ⟨oi, e, c, dd⟩ := st
    exact ⟨oi, e, fun v z => by rw [dd] at z; cases z⟩
  keep := fun i h h' st k => st.at fun oi e => k it (by simp) oi e
  item := by
    intro X hP hw hK hc i pins s σ H E I hf st hg
    subst hP hw hK
    obtain ⟨hd, hi⟩ := hg
    obtain ⟨f0, f1, f2, f3, f4, f5⟩ := hf it (by simp)
    have hr : s.heap.DictRaw a es ep := (I.hok a _ hd).1
    obtain ⟨p, ep', r⟩ := pair_get pe (i := i) (b := es[i]) (by simp [hi])
    refine wpAny_pyNext_keys_item_raw st hr hi fun h' st' sb => ?_
    have I1 : L2.Inv X pins σ H { s with heap := h' } := I.turned (t' := s.toks) (fun b ob hb e => (sb.2 b hb).trans e) f0 f1 f3 f4 f5
    obtain ⟨oi, e, c, dd⟩ := id st'
    exact ⟨_, rfl, go_of (s := { s with heap := h' }) e c dd (by decide) ⟨p.2.1, H, I1, r.2.1, ⟨rfl, p, ep', rfl⟩, st', fun b hb => (hf b hb).1⟩⟩
  done := by
    intro X hP hw hK hc i pins s σ H E I hf st hg
    subst hP hw hK
    obtain ⟨hd, hi⟩ := hg
    obtain ⟨f0, f1, f2, f3, f4, f5⟩ := hf it (by simp)
    have hr : s.heap.DictRaw a es ep := (I.hok a _ hd).1
    exact wpAny_pyNext_keys_end_raw (I.ok.hd hc) st hr hi fun h' eb => ⟨rfl, I.turned (t' := s.toks) (fun b ob hb e => eb b ob hb e) f0 f1 f3 f4 f5⟩
  self := fun A i s Q E st h => wpAny_pyIter_keyiter st h
theorem walkD_dict {K : PySem.W.Frag} {Y0 : Addr → Prop} {H0 : Hp} {a : Addr} {es : Array DictEntry} {ep : Nat} {ps : List DE} {ks : List PyData} (n : ¬ Y0 a) (e : H0 a = some (DctO a es ep)) (hs : es.size = ks.length) (ra : RpA K Y0 H0 (ps.map (·.2.1)) ks) : WalkD K Y0 H0 (ItD a es ep ps) ks := by
  refine ⟨fun i H hi k => ⟨k.old _ _ e n, by omega⟩, fun H k => ⟨k.old _ _ e n, by omega⟩, fun i H x H' d Y' hi k hY hn y => ?_⟩
  obtain ⟨eH, p, ep, ex⟩ := y
  subst eH ex
  obtain ⟨v, e1, rp⟩ := ra.get hi
  rw [List.getElem?_map, ep] at e1
  cases e1
  exact ⟨Keeps.refl, rp.shift k hY⟩
def tSI (K : PySem.W.Frag) (Wx : WX) (f : PL.Env → Out (List PyData)) : TI := fun σ H R => ∃ B Z ρ, Conc K B Z ρ σ H ∧ tOut (f ρ) (fun items ρ' => ∀ J H', PostX K B Z ρ ρ' σ H H' → WalkD K (Fb Z ρ' σ) H' J items → R J H') (Gx K Wx B Z ρ σ H)
def SI (X : Cx) (Wx : WX) (tg iter : Expr) (f : PL.Env → Out (List PyData)) : Prop := PI X tg iter (tSI X.K Wx f)
theorem pi_mono {X : Cx} {tg iter : Expr} {t t' : TI} (h : PI X tg iter t) (i : ∀ σ H R, t' σ H R → t σ H R) : PI X tg iter t' := ⟨fun pins s σ H R I q => h.run pins s σ H R I (i σ H R q)⟩
/-- what is walked, of the operands' data -/
def walkF (k : IK) (fc : PL.Env → Out (List PyData)) : PL.Env → Out (List PyData) := fun ρ => bind (fc ρ) fun ds ρ1 => match itemsD k ds with
  | some items => .ok items ρ1
  | none => .stuck
theorem walk_run {Wx : WX} {K : PySem.W.Frag} {fc : PL.Env → Out (List PyData)} {k : IK} {σ : L2.St} {H : Hp} {R : It → Hp → Prop} {T : List V → Hp → Prop} (h : tSI K Wx (walkF k fc) σ H R)
    (next : ∀ (B Z : Addr → Prop) (ρ ρ1 : PL.Env) (ds items : List PyData) (vs : List V) (H1 : Hp), PostX K B Z ρ ρ1 σ H H1 → RpA K (Fb Z ρ1 σ) H1 vs ds → itemsD k ds = some items → (∀ J, WalkD K (Fb Z ρ1 σ) H1 J items → R J H1) → T vs H1) : tSC K Wx fc σ H T := by
  obtain ⟨B, Z, ρ, C, h⟩ := h
  refine sc_run C h (fun _ _ z => z) fun ds ρ1 vs H1 P1 rp h1 => ?_
  cases e : itemsD k ds with
  | none => rw [e] at h1; exact h1.elim
  | some items =>
    rw [e] at h1
    exact next B Z ρ ρ1 ds items vs H1 P1 rp e fun J w => h1 J H1 P1 w
section
variable {X : Cx} {Wx : WX} {tg e e2 e3 : Expr} {fa : PL.Env → Out Res} {fc : PL.Env → Out (List PyData)} {p pos tpos : Pos}
theorem si_plain (he : SE X Wx e fa) : SI X Wx tg e (walkF .plain fun ρ => bind (fa ρ) fun r ρ1 => bind (PL.cold ρ1 r) fun d ρ2 => bind (.ok [] ρ2) fun ds ρ3 => .ok (d :: ds) ρ3) := by
  refine ⟨fun pins s σ H R I ⟨B, Z, ρ, C, h⟩ => ?_⟩
  refine thn (he.run pins s σ H (fun x H1 => ∃ (d : PyData) (items : List PyData) (ρ2 : PL.Env), Rp X.K (Fb Z ρ2 σ) H1 x d ∧ itemsD .plain [d] = some items ∧ ∀ J, WalkD X.K (Fb Z ρ2 σ) H1 J items → R J H1) I ?_) fun v s1 ⟨x, H1, I1, r1, d, items, ρ2, rp, e, q⟩ => ?_
  · unfold walkF at h
    rw [bind_bind] at h
    refine sub_run C h (fun _ _ z => z) fun r ρ1 x H1 P1 h1 => ?_
    rw [bind_bind] at h1
    refine cold_run P1.res h1 fun d ρ2 P2 rp h2 => ?_
    have h2 : tOut (match itemsD .plain [d] with | some items => Out.ok items ρ2 | none => Out.stuck) _ _ := h2
    cases e : itemsD .plain [d] with
    | none => rw [e] at h2; exact h2.elim
    | some items =>
      rw [e] at h2
      exact ⟨d, items, ρ2, rp, e, fun J w => h2 J H1 (P1.x.seq P2) w⟩
  · cases d with
    | list ds =>
      cases e
      cases rp with
      | @lst a xs _ n rd ra =>
        cases r1
        obtain ⟨its, rv, p, hz⟩ := I1.list (show SqL X.K H1 a xs from .inl rd)
        refine wpAny_pyIter_list p.isList ?_
        exact pi_one (tk := s1.toks) I1 _ (turn_list a _) ⟨_, Heap.get?_push_size _ rfl, rfl, rfl⟩ (q _ (walkD_list n rd ra))
    | tuple ds =>
      cases e
      obtain ⟨a, xs, rfl, ht, ra⟩ := tup_keep rp
      cases r1
      obtain ⟨its, rv, p, hz⟩ := I1.tuple (ht H1 Keeps.refl)
      refine wpAny_pyIter_tuple (show s1.heap.IsTuple a its.toArray from p) ?_
      exact pi_one (tk := s1.toks) I1 _ (turn_tuple a _) ⟨_, Heap.get?_push_size _ rfl, rfl, rfl⟩ (q _ (walkD_tup ht ra))
    | str x =>
      cases e
      cases rp
      obtain ⟨t, rfl⟩ := r1
      have q := q _ walkD_str
      cases ha : x.cps.all (· < 128)
      · exact wpAny_pyIter_wide ha (pi_one (tk := s1.toks) I1 _ (turn_str _ x t "str_iterator" (.inr rfl)) ⟨_, Heap.get?_push_size _ rfl, rfl, rfl⟩ q)
      · exact wpAny_pyIter_ascii ha (pi_one (tk := s1.toks) I1 _ (turn_str _ x t "str_ascii_iterator" (.inl rfl)) ⟨_, Heap.get?_push_size _ rfl, rfl, rfl⟩ q)
    | dict kvs =>
      cases e
      cases rp with
      | @dct a ps _ n rd ra rb =>
        cases r1
        obtain ⟨es, ep, hr, pe, z1, z2, eH⟩ := (DView.mk rd ra rb : DView X (Fb Z ρ2 σ) H1 a ps kvs).sizes I1
        refine wpAny_pyIter_dict_raw rd.sys hr ?_
        exact pi_one (tk := s1.toks) I1 _ (turn_dict _ pe) ⟨_, Heap.get?_push_size _ rfl, rfl, rfl⟩ (q _ (walkD_dict n eH (by rw [z1, List.length_map]) ra))
    | _ => cases e
theorem range1_ok {lo hi st : Int} {items : List PyData} (h : range1 lo hi st = some items) : -1000000000 ≤ lo ∧ lo ≤ 1000000000 ∧ -1000000000 ≤ hi ∧ hi ≤ 1000000000 ∧
    ((st = 1 ∧ items = (List.range (hi - lo).toNat).map fun (k : Nat) => .int (lo + (k : Int))) ∨ (st = -1 ∧ items = (List.range (lo - hi).toNat).map fun (k : Nat) => .int (lo - (k : Int))) ∨
      (1 < st ∧ st ≤ 1000000 ∧ items = (List.range (if lo < hi then (hi - lo - 1) / st + 1 else 0).toNat).map fun (k : Nat) => .int (lo + (k : Int) * st))) := by
  unfold range1 at h
  split at h
  · rename_i hb
    simp only [Bool.and_eq_true, decide_eq_true_eq] at hb
    refine ⟨hb.1.1.1, hb.1.1.2, hb.1.2, hb.2, ?_⟩
    split at h
    · cases h; exact .inl ⟨by assumption, rfl⟩
    · split at h
      · cases h; exact .inr (.inl ⟨by assumption, rfl⟩)
      · split at h
        · rename_i hc
          simp only [Bool.and_eq_true, decide_eq_true_eq] at hc
          cases h
          exact .inr (.inr ⟨hc.1, hc.2, rfl⟩)
        · cases h
  · cases h
theorem RpA.ints1 {K : PySem.W.Frag} {Y : Addr → Prop} {H : Hp} {vs : List V} {i : Int} (r : RpA K Y H vs [.int i]) : vs = [.int i] := by
  cases r with
  | cons a b => cases a; cases b; rfl
theorem RpA.ints2 {K : PySem.W.Frag} {Y : Addr → Prop} {H : Hp} {vs : List V} {i j : Int} (r : RpA K Y H vs [.int i, .int j]) : vs = [.int i, .int j] := by
  cases r with
  | cons a b => cases a; rw [b.ints1]
theorem RpA.ints3 {K : PySem.W.Frag} {Y : Addr → Prop} {H : Hp} {vs : List V} {i j k : Int} (r : RpA K Y H vs [.int i, .int j, .int k]) : vs = [.int i, .int j, .int k] := by
  cases r with
  | cons a b => cases a; rw [b.ints2]
theorem range1_st {lo hi : Int} {items : List PyData} (h : range1 lo hi 1 = some items) : items = (List.range (hi - lo).toNat).map fun (k : Nat) => .int (lo + (k : Int)) := by
  obtain ⟨_, _, _, _, h | h | h⟩ := range1_ok h
  · exact h.2
  · exact absurd h.1 (by decide)
  · exact absurd h.1 (by decide)
theorem ints_eq : ∀ {ds : List PyData} {ns : List Int}, ints? ds = some ns → ds = ns.map .int
  | [], ns, h => by cases h; rfl
  | d :: ds, ns, h => by
    cases d with
    | int i =>
      cases e : ints? ds with
      | none => rw [ints?, e] at h; cases h
      | some m =>
        rw [ints?, e] at h
        cases h
        rw [ints_eq e]; rfl
    | _ => cases h
theorem r1_some {ds items : List PyData} (h : itemsD .r1 ds = some items) : ∃ n, ds = [.int n] ∧ range1 0 n 1 = some items := by
  have h : rg1 (ints? ds) = some items := h
  unfold rg1 at h
  split at h
  · rename_i n e; exact ⟨n, ints_eq e, h⟩
  · cases h
theorem r2_some {ds items : List PyData} (h : itemsD .r2 ds = some items) : ∃ lo hi, ds = [.int lo, .int hi] ∧ range1 lo hi 1 = some items := by
  have h : rg2 (ints? ds) = some items := h
  unfold rg2 at h
  split at h
  · rename_i lo hi e; exact ⟨lo, hi, ints_eq e, h⟩
  · cases h
theorem r3_some {ds items : List PyData} (h : itemsD .r3 ds = some items) : ∃ lo hi st, ds = [.int lo, .int hi, .int st] ∧ range1 lo hi st = some items := by
  have h : rg3 (ints? ds) = some items := h
  unfold rg3 at h
  split at h
  · rename_i lo hi st e; exact ⟨lo, hi, st, ints_eq e, h⟩
  · cases h
theorem si_range1 (hg : Gl X "range") (hm : X.mg "range" = none) (ha : SC X Wx [e] fc) (hs : unstar e = true) : SI X Wx tg (.Call (.Name "range" p) [e] [] pos) (walkF .r1 fc) := by
  refine pi_mono (pi_range1 hg hm ha (by rw [star_cons hs]; rfl)) fun σ H R h => walk_run h fun B Z ρ ρ1 ds items vs H1 P rp ei q => ?_
  obtain ⟨n, rfl, ei⟩ := r1_some ei
  obtain ⟨h1, h2, h3, h4, _⟩ := range1_ok ei
  have e2 := range1_st ei
  subst e2
  rw [rp.ints1]
  refine ⟨n, rfl, by omega, by omega, ?_⟩
  exact q (Itr 0 n.toNat) (by rw [show (n - 0).toNat = n.toNat by omega]; exact walkD_range)
theorem si_range2 (hg : Gl X "range") (hm : X.mg "range" = none) (ha : SC X Wx [e, e2] fc) (hs : unstar e = true) (hs2 : unstar e2 = true) : SI X Wx tg (.Call (.Name "range" p) [e, e2] [] pos) (walkF .r2 fc) := by
  refine pi_mono (pi_range2 hg hm ha (by rw [star_cons hs, star_cons hs2]; rfl) (by rw [star_cons hs2]; rfl)) fun σ H R h => walk_run h fun B Z ρ ρ1 ds items vs H1 P rp ei q => ?_
  obtain ⟨lo, hi, rfl, ei⟩ := r2_some ei
  obtain ⟨h1, h2, h3, h4, _⟩ := range1_ok ei
  have e2 := range1_st ei
  subst e2
  rw [rp.ints2]
  exact ⟨lo, hi, rfl, ⟨by omega, by omega, by omega, by omega⟩, q _ walkD_range⟩
theorem size_up {i j c : Int} (h5 : 1 < c) : Builtin.Range.rangeSize i j c = (((if i < j then (j - i - 1) / c + 1 else 0).toNat : Nat) : Int) := by
  unfold Builtin.Range.rangeSize
  rw [if_pos (by omega)]
  by_cases h : i < j
  · rw [if_pos h]
    have := Int.ediv_nonneg (a := j - i - 1) (b := c) (by omega) (by omega)
    omega
  · rw [if_neg h]; rfl
theorem small_up {i j c : Int} (h1 : -1000000000 ≤ i) (h2 : i ≤ 1000000000) (h3 : -1000000000 ≤ j) (h4 : j ≤ 1000000000) (h5 : 1 < c) (h6 : c ≤ 1000000) : Builtin.Range.small i j c = true := by
  have hs : 0 ≤ Builtin.Range.rangeSize i j c ∧ Builtin.Range.rangeSize i j c ≤ 2000000001 := by
    unfold Builtin.Range.rangeSize
    rw [if_pos (by omega)]
    split
    · have := Int.ediv_nonneg (a := j - i - 1) (b := c) (by omega) (by omega)
      have := Int.ediv_le_self (a := j - i - 1) c (by omega)
      omega
    · omega
  unfold Builtin.Range.small
  simp only [Builtin.Range.rangeFitsLong, Bool.and_eq_true, Bool.or_eq_true, decide_eq_true_eq, beq_iff_eq, show c > 0 by omega, if_true]
  refine ⟨⟨⟨⟨?_, ?_⟩, ?_⟩, ?_⟩, .inr ?_⟩ <;> omega
theorem si_range3 (hg : Gl X "range") (hm : X.mg "range" = none) (ha : SC X Wx [e, e2, e3] fc) (hs : [e, e2, e3].all unstar = true) : SI X Wx tg (.Call (.Name "range" p) [e, e2, e3] [] pos) (walkF .r3 fc) := by
  rw [List.all_cons, Bool.and_eq_true] at hs
  refine pi_mono (pi_range3 hg hm ha (star_cons hs.1) (star_any hs.2)) fun σ H R h => walk_run h fun B Z ρ ρ1 ds items vs H1 P rp ei q => ?_
  obtain ⟨lo, hi, st, rfl, ei⟩ := r3_some ei
  obtain ⟨h1, h2, h3, h4, h5⟩ := range1_ok ei
  rw [rp.ints3]
  rcases h5 with ⟨rfl, rfl⟩ | ⟨rfl, rfl⟩ | ⟨h5, h6, rfl⟩
  · refine ⟨lo, hi, 1, (hi - lo).toNat, rfl, ⟨by decide, by decide, small_one (by omega) (by omega) (by omega) (by omega), rangeSize_nat lo hi⟩, q _ (walkD_rangeC fun k => by omega)⟩
  · refine ⟨lo, hi, -1, (lo - hi).toNat, rfl, RgC.neg (by omega) (by omega) (by omega) (by omega), q _ (walkD_rangeC fun k => by omega)⟩
  · exact ⟨lo, hi, st, _, rfl, ⟨by omega, by omega, small_up h1 h2 h3 h4 h5 h6, size_up h5⟩, q _ (walkD_rangeC fun k => rfl)⟩
theorem si_enum {elts : List Expr} {kk : Nat} (hg : Gl X "enumerate") (hm : X.mg "enumerate" = none) (ha : SC X Wx [e] fc) (hs : unstar e = true) : SI X Wx (.Tuple elts kk tpos) (.Call (.Name "enumerate" p) [e] [] pos) (walkF .enum fc) := by
  refine pi_mono (pi_enumA hg hm ha (by rw [star_cons hs]; rfl)) fun σ H R h => walk_run h fun B Z ρ ρ1 ds items vs H1 P rp ei q => ?_
  have ei : enumD ds = some items := ei
  unfold enumD at ei
  split at ei
  · cases ei
    obtain ⟨v, rfl, r⟩ := rp.one'
    cases r with
    | @lst a xs _ n rd ra => exact ⟨a, xs, rfl, .inl ⟨.inl rd, q _ (walkD_enum n rd ra)⟩⟩
  · cases ei
    obtain ⟨v, rfl, r⟩ := rp.one'
    obtain ⟨a, xs, rfl, t1, ra⟩ := tup_keep r
    exact ⟨a, xs, rfl, .inr ⟨t1 H1 Keeps.refl, q _ (walkD_enumT t1 ra)⟩⟩
  · cases ei
theorem si_zip {elts : List Expr} {kk : Nat} (hg : Gl X "zip") (hm : X.mg "zip" = none) (ha : SC X Wx [e, e2] fc) (hs : unstar e = true) (hs2 : unstar e2 = true) : SI X Wx (.Tuple elts kk tpos) (.Call (.Name "zip" p) [e, e2] [] pos) (walkF .zip fc) := by
  refine pi_mono (RZ.pi_zipA hg hm ha (star_cons hs) (star_any (by rw [List.all_cons, hs2]; rfl))) fun σ H R h => walk_run h fun B Z ρ ρ1 ds items vs H1 P rp ei q => ?_
  have ei : zipD ds = some items := ei
  unfold zipD at ei
  split at ei
  · cases ei
    cases rp with
    | cons r1 rr =>
      obtain ⟨w, rfl, r2⟩ := rr.one'
      cases r1 with
      | @lst a xs _ n rd ra =>
        cases r2 with
        | @lst b ys _ n2 rd2 ra2 => exact ⟨a, b, xs, ys, rfl, .inl ⟨.inl rd, .inl rd2, q _ (walkD_zip n rd ra n2 rd2 ra2)⟩⟩
  · cases ei
    cases rp with
    | cons r1 rr =>
      obtain ⟨w, rfl, r2⟩ := rr.one'
      obtain ⟨a, xs, rfl, t1, ra⟩ := tup_keep r1
      obtain ⟨b, ys, rfl, t2, ra2⟩ := tup_keep r2
      exact ⟨a, b, xs, ys, rfl, .inr ⟨t1 H1 Keeps.refl, t2 H1 Keeps.refl, q _ (walkD_zipT t1 ra t2 ra2)⟩⟩
  · cases ei

/-! ### for -/
/-- the turns' invariant: the walked stands -/
theorem ss_for {T : Tg} {body : List Stmt} {fi : PL.Env → Out (List PyData)} {gb : PL.Env → SOut} (hp : PassesOwn (model X.prog X.w) X.A X.env X.xe) (hc : X.calm = true) (hi : SI X Wx tg e fi) (hg : SG X tg T) (hb : SSs X Wx body gb) (hs : ∀ x, foldedSetIterable e X.env x = pure x) :
    SS X Wx (.For tg e body [] pos) (fun ρ => sb (fi ρ) fun items ρ1 => forL T gb items ρ1) := by
  refine ps_mono (ps_for hp hc hi hg hb hs) fun D σ H ⟨B, Z, ρ, C, h⟩ => ?_
  refine ⟨B, Z, ρ, C, ?_⟩
  dsimp only at h
  cases e1 : fi ρ with
  | stuck => rw [e1] at h; exact h
  | exc c ρ1 => rw [e1] at h; exact Gs.x h
  | ok items ρ1 =>
    rw [e1] at h
    intro J H1 P1 W
    have h : tSt (forL T gb items ρ1) _ _ _ := h
    refine ⟨fun i m σ2 H2 => m = items.length - i ∧ i ≤ items.length ∧ ∃ ρ2, PostS X.K B Z ρ1 ρ2 σ σ2 H1 H2 ∧ tSt (forL T gb (items.drop i) ρ2) (fun ρ' => ∀ σ' H', PostS X.K B Z ρ ρ' σ σ' H H' → D.nx σ' H')
      (fun s ρ' => ∀ v σ' H', PostS X.K B Z ρ ρ' σ σ' H H' → RetV X.K B Z ρ' σ' H' v s → D.rt v H') (Gs X.K Wx B Z ρ σ H), ⟨items.length, by simp, Nat.zero_le _, ρ1, .refl P1.conc, h⟩, ?_⟩
    rintro i m σ2 H2 ⟨rfl, hi, ρ2, P2, h2⟩
    have kp := P2.kfb
    by_cases hlt : i < items.length
    · refine .inr ⟨W.goes i H2 hlt kp, fun σ3 H3 => ∃ ρ3, PostS X.K B Z ρ1 ρ3 σ σ3 H1 H3 ∧ tSt (forL T gb (items.drop (i + 1)) ρ3) (fun ρ' => ∀ σ' H', PostS X.K B Z ρ ρ' σ σ' H H' → D.nx σ' H')
        (fun s ρ' => ∀ v σ' H', PostS X.K B Z ρ ρ' σ σ' H H' → RetV X.K B Z ρ' σ' H' v s → D.rt v H') (Gs X.K Wx B Z ρ σ H), fun σ3 H3 q => ⟨items.length - (i + 1), by omega, rfl, hlt, q⟩, fun x H3 y => ?_⟩
      have ed : items[i]? = some items[i] := List.getElem?_eq_getElem hlt
      obtain ⟨k3, rx⟩ := W.yields i H2 x H3 _ (Fb Z ρ2 σ2) ed kp P2.fb (fun a z => P2.conc.fb z) y
      have C3 := P2.conc.grow k3
      have P3 : PostS X.K B Z ρ2 ρ2 σ2 σ2 H2 H3 := (⟨k3.any, Sub.refl, C3⟩ : PostX X.K B Z ρ2 ρ2 σ2 H2 H3).s
      rw [List.drop_eq_getElem_cons hlt, forL] at h2
      cases e2 : asgT T items[i] ρ2 with
      | none => rw [e2] at h2; exact h2.elim
      | some ρ3 =>
        rw [e2] at h2
        refine ⟨B, Z, ρ2, items[i], ρ3, C3, rx, e2, fun σ4 P4 _ => ⟨B, Z, ρ3, P4.conc, ?_⟩⟩
        have P5 := P2.seq (P3.seq P4)
        have h2 : tSt (match gb ρ3 with | .nx ρ2 => forL T gb (items.drop (i + 1)) ρ2 | r => r) _ _ _ := h2
        cases e4 : gb ρ3 with
        | nx ρ4 =>
          rw [e4] at h2
          exact fun σ' H' p => ⟨ρ4, P5.seq p, h2⟩
        | rt s ρ4 =>
          rw [e4] at h2
          exact fun v σ' H' p => h2 v σ' H' (P1.s.seq (P5.seq p))
        | exc c ρ4 =>
          rw [e4] at h2
          exact (Gs.step (Gs.step h2 P1.s) P5)
        | stuck =>
          rw [e4] at h2
          exact h2
    · have e : i = items.length := by omega
      subst e
      refine .inl ⟨W.stops H2 kp, ?_⟩
      rw [List.drop_length, forL] at h2
      exact h2 σ2 H2 (P1.s.seq P2)
end
end PL

set_option autoImplicit false
set_option linter.all false
set_option Elab.async false
set_option maxRecDepth 100000
set_option maxHeartbeats 1000000
/-! PL14: list comprehensions. -/
namespace PL
open PySem PySem.Spec PyProof.Rows L2
section
variable {ρ ρ' : PL.Env} {σ : L2.St}
theorem wipeE_get {i : Nat} {s : Slot} : ∀ {own : List Nat}, (wipeE ρ own)[i]? = some s → (i ∈ own ∧ s = .no) ∨ (i ∉ own ∧ ρ[i]? = some s)
  | [], h => .inr ⟨by simp, h⟩
  | j :: js, h => by
    rw [wipeE] at h
    rcases set_get h with ⟨rfl, z⟩ | ⟨ne, z⟩
    · exact .inl ⟨List.mem_cons_self, z.symm⟩
    · rcases wipeE_get z with ⟨h1, h2⟩ | ⟨h1, h2⟩
      · exact .inl ⟨List.mem_cons_of_mem _ h1, h2⟩
      · exact .inr ⟨fun q => (List.mem_cons.mp q).elim (fun q => ne q.symm) h1, h2⟩
theorem wipe_other {i : Nat} : ∀ {own : List Nat}, i ∉ own → (wipe σ own)[i]? = σ[i]?
  | [], _ => rfl
  | j :: js, h => by
    have h1 : j ≠ i := fun z => h (by rw [z]; exact List.mem_cons_self)
    have h2 : i ∉ js := fun z => h (List.mem_cons_of_mem _ z)
    rw [wipe, List.getElem?_set_ne h1]
    exact wipe_other h2
theorem wipeE_len : ∀ {own : List Nat}, (wipeE ρ own).length = ρ.length
  | [] => rfl
  | j :: js => by rw [wipeE, List.length_set]; exact wipeE_len
theorem wipe_len (σ : L2.St) : ∀ (own : List Nat), (wipe σ own).length = σ.length
  | [] => rfl
  | j :: js => by rw [wipe, List.length_set]; exact wipe_len σ js
theorem wipe_in {i : Nat} {x : Option V} : ∀ {own : List Nat}, i ∈ own → (wipe σ own)[i]? = some x → x = none
  | [], h, _ => by cases h
  | j :: js, h, e => by
    rw [wipe] at e
    by_cases q : j = i
    · subst q
      by_cases l : j < (wipe σ js).length
      · rw [List.getElem?_set_self l] at e; exact (Option.some.inj e).symm
      · rw [List.getElem?_eq_none (by rw [List.length_set]; omega)] at e; cases e
    · rw [List.getElem?_set_ne q] at e
      exact wipe_in ((List.mem_cons.mp h).resolve_left fun z => q z.symm) e
theorem wipe_idem (own : List Nat) : wipe (wipe σ own) own = wipe σ own := by
  apply List.ext_getElem?
  intro i
  by_cases h : i ∈ own
  · by_cases l : i < σ.length
    · have l1 : i < (wipe σ own).length := by rw [wipe_len]; exact l
      have l2 : i < (wipe (wipe σ own) own).length := by rw [wipe_len]; exact l1
      rw [List.getElem?_eq_getElem l1, List.getElem?_eq_getElem l2]
      rw [wipe_in h (List.getElem?_eq_getElem l1), wipe_in h (List.getElem?_eq_getElem l2)]
    · rw [List.getElem?_eq_none (by rw [wipe_len, wipe_len]; omega), List.getElem?_eq_none (by rw [wipe_len]; omega)]
  · rw [wipe_other h]
theorem backE_get {ρ0 : PL.Env} {i : Nat} {s : Slot} : ∀ {own : List Nat}, (backE ρ0 ρ own)[i]? = some s → (i ∈ own ∧ gets ρ0 i = s) ∨ (i ∉ own ∧ ρ[i]? = some s)
  | [], h => .inr ⟨by simp, h⟩
  | j :: js, h => by
    rw [backE] at h
    rcases set_get h with ⟨rfl, z⟩ | ⟨ne, z⟩
    · exact .inl ⟨List.mem_cons_self, z⟩
    · rcases backE_get z with ⟨h1, h2⟩ | ⟨h1, h2⟩
      · exact .inl ⟨List.mem_cons_of_mem _ h1, h2⟩
      · exact .inr ⟨fun q => (List.mem_cons.mp q).elim (fun q => ne q.symm) h1, h2⟩
theorem backE_len {ρ0 : PL.Env} : ∀ {own : List Nat}, (backE ρ0 ρ own).length = ρ.length
  | [] => rfl
  | j :: js => by rw [backE, List.length_set]; exact backE_len
/-- none of these slots is one's own -/
def Cool (ρ : PL.Env) (own : List Nat) : Prop := ∀ i ∈ own, ∀ io d, ρ[i]? ≠ some (Slot.h io d)
theorem cool_of {own : List Nat} (h : own.all (notHot ρ) = true) : Cool ρ own := fun i hi io d e => by
  have z := List.all_eq_true.mp h i hi
  unfold notHot gets at z
  rw [e] at z
  cases z
theorem Cool.wipe (own : List Nat) : Cool (wipeE ρ own) own := fun i hi io d e => by
  rcases wipeE_get e with ⟨_, z⟩ | ⟨z, _⟩
  · cases z
  · exact z hi
theorem Cool.sub {own : List Nat} (c : Cool ρ own) (s : Sub ρ ρ') : Cool ρ' own := fun i hi io d e => by
  obtain ⟨d1, e1⟩ := s i io d e
  exact c i hi io d1 e1
theorem wipe_sub {own : List Nat} : Sub ρ (wipeE ρ own) := fun i io d e => by
  rcases wipeE_get e with ⟨_, z⟩ | ⟨_, z⟩
  · cases z
  · exact ⟨d, z⟩
theorem hot_wipe {own : List Nat} {a : Addr} (h : HotAt (wipeE ρ own) (wipe σ own) a) : HotAt ρ σ a := by
  obtain ⟨i, io, d, e1, e2⟩ := h
  rcases wipeE_get e1 with ⟨_, z⟩ | ⟨n, z⟩
  · cases z
  · rw [wipe_other n] at e2
    exact ⟨i, io, d, z, e2⟩
end
mutual
theorem asgT_sub : ∀ {T : Tg} {d : PyData} {ρ ρ' : PL.Env}, asgT T d ρ = some ρ' → Sub ρ ρ' ∧ ρ'.length = ρ.length
  | .nm i, d, ρ, ρ', h => by
    rw [asgT] at h
    cases h
    exact ⟨sub_set_c, List.length_set⟩
  | .tp ts, d, ρ, ρ', h => by
    cases d with
    | tuple ds =>
      rw [asgT] at h
      exact asgTs_sub h
    | _ => cases h
theorem asgTs_sub : ∀ {T : List Tg} {d : List PyData} {ρ ρ' : PL.Env}, asgTs T d ρ = some ρ' → Sub ρ ρ' ∧ ρ'.length = ρ.length
  | [], [], ρ, ρ', h => by cases h; exact ⟨Sub.refl, rfl⟩
  | [], _ :: _, _, _, h => by cases h
  | _ :: _, [], _, _, h => by cases h
  | T :: Ts, d :: ds, ρ, ρ', h => by
    rw [asgTs] at h
    cases e : asgT T d ρ with
    | none => rw [e] at h; cases h
    | some ρ1 =>
      rw [e] at h
      obtain ⟨a, l⟩ := asgT_sub e
      obtain ⟨b, l2⟩ := asgTs_sub h
      exact ⟨a.trans b, l2.trans l⟩
end
section
variable {K : PySem.W.Frag} {B Z : Addr → Prop} {ρ ρ1 : PL.Env} {σ : L2.St} {H H1 : Hp} {own : List Nat}
theorem Conc.wipeE (C : Conc K B Z ρ σ H) (own : List Nat) : Conc K B Z (wipeE ρ own) (wipe σ own) H := by
  have fb : ∀ a, Fb Z (PL.wipeE ρ own) (wipe σ own) a → Fb Z ρ σ a := fun a z => z.imp id hot_wipe
  refine ⟨fun i d e => ?_, fun i io d e => ?_, fun i j io1 io2 d1 d2 a h1 h2 s1 s2 => ?_, C.tr, C.trB, by rw [wipeE_len, wipe_len]; exact C.len⟩
  · rcases wipeE_get e with ⟨_, z⟩ | ⟨n, z⟩
    · cases z
    · obtain ⟨v, e1, r⟩ := C.cold i d z
      exact ⟨v, by rw [wipe_other n]; exact e1, r.less fb⟩
  · rcases wipeE_get e with ⟨_, z⟩ | ⟨n, z⟩
    · cases z
    · obtain ⟨a, e1, nz, nb, o⟩ := C.hot i io d z
      exact ⟨a, by rw [wipe_other n]; exact e1, nz, nb, o.move Keeps.refl fb fun u e => e⟩
  · rcases wipeE_get h1 with ⟨_, z⟩ | ⟨n1, z1⟩
    · cases z
    · rcases wipeE_get h2 with ⟨_, z⟩ | ⟨n2, z2⟩
      · cases z
      · rw [wipe_other n1] at s1
        rw [wipe_other n2] at s2
        exact C.inj i j io1 io2 d1 d2 a z1 z2 s1 s2
/-- a write at a forbidden place -/
theorem Conc.put (C : Conc K B Z ρ σ H) {p : Addr} {o : HO} (h : Z p) : Conc K B Z ρ σ (upd H p o) := by
  have kp : Keeps (Fb Z ρ σ) H (upd H p o) := Keeps.put (.inl h)
  refine ⟨fun i d e => ?_, fun i io d e => ?_, C.inj, fun a z => kp.there a (C.tr a z), fun a z => kp.there a (C.trB a z), C.len⟩
  · obtain ⟨v, e1, r⟩ := C.cold i d e
    exact ⟨v, e1, r.move kp fun _ z => z⟩
  · obtain ⟨a, e1, nz, nb, w⟩ := C.hot i io d e
    exact ⟨a, e1, nz, nb, w.move kp (fun _ z => z) fun u eu => by rw [upd_ne (fun q => nz (by rw [q]; exact h))]; exact eu⟩
theorem Conc.back {D : Addr} {ρt : PL.Env} (C1 : Conc K B Z ρ1 σ H1) (Ct : Conc K B (Plus D Z) ρt (wipe σ own) H) (hD : H1 D = none) (cool : Cool ρ1 own) (sub : Sub (PL.wipeE ρ1 own) ρt) (kp : Keeps (Fb Z ρ1 σ) H1 H) :
    Conc K B (Plus D Z) (backE ρ1 ρt own) σ H ∧ Sub ρ1 (backE ρ1 ρt own) ∧ ∀ a, HotAt (backE ρ1 ρt own) σ a → HotAt ρt (wipe σ own) a := by
  have hs : ∀ {i : Nat} {io : Bool} {d : PyData}, (backE ρ1 ρt own)[i]? = some (.h io d) → i ∉ own ∧ ρt[i]? = some (.h io d) := fun {i io d} e => by
    rcases backE_get e with ⟨h1, h2⟩ | z
    · exact absurd (gets_some h2 (by intro z; cases z)) (cool i h1 io d)
    · exact z
  have sb : Sub ρ1 (backE ρ1 ρt own) := fun i io d e => by
    obtain ⟨n, e1⟩ := hs e
    obtain ⟨d1, e2⟩ := sub i io d e1
    rcases wipeE_get e2 with ⟨z, _⟩ | ⟨_, z⟩
    · exact absurd z n
    · exact ⟨d1, z⟩
  have hot : ∀ a, HotAt (backE ρ1 ρt own) σ a → HotAt ρt (wipe σ own) a := fun a ⟨i, io, d, e1, e2⟩ => by
    obtain ⟨n, e3⟩ := hs e1
    exact ⟨i, io, d, e3, by rw [wipe_other n]; exact e2⟩
  have fb : ∀ a, Fb (Plus D Z) (backE ρ1 ρt own) σ a → Fb (Plus D Z) ρt (wipe σ own) a := fun a z => z.imp id (hot a)
  refine ⟨⟨fun i d e => ?_, fun i io d e => ?_, fun i j io1 io2 d1 d2 a h1 h2 s1 s2 => ?_, Ct.tr, Ct.trB, by rw [backE_len]; have q := Ct.len; rw [wipe_len] at q; exact q⟩, sb, hot⟩
  · rcases backE_get e with ⟨h1, h2⟩ | ⟨n, h2⟩
    · obtain ⟨v, e1, r⟩ := C1.cold i d (gets_some h2 (by intro z; cases z))
      refine ⟨v, e1, r.shift kp fun a z => ?_⟩
      rcases z with (z | z) | z
      · exact .inr (by rw [z]; exact hD)
      · exact .inl (.inl z)
      · exact .inl (.inr (sb.hot a z))
    · obtain ⟨v, e1, r⟩ := Ct.cold i d h2
      exact ⟨v, by rw [wipe_other n] at e1; exact e1, r.less fb⟩
  · obtain ⟨n, e1⟩ := hs e
    obtain ⟨a, e2, nz, nb, o⟩ := Ct.hot i io d e1
    exact ⟨a, by rw [wipe_other n] at e2; exact e2, nz, nb, o.move Keeps.refl fb fun u e => e⟩
  · obtain ⟨n1, e1⟩ := hs h1
    obtain ⟨n2, e2⟩ := hs h2
    exact Ct.inj i j io1 io2 d1 d2 a e1 e2 (by rw [wipe_other n1]; exact s1) (by rw [wipe_other n2]; exact s2)
end
/-- one turn -/
def stepF (T : Tg) (ft : PL.Env → Out Bool) (fe : PL.Env → Out Res) (own : List Nat) (d : PyData) (ρ2 : PL.Env) : Out (Option PyData) := match asgT T d (wipeE ρ2 own) with
  | some ρ3 => bind (ft ρ3) fun b ρ4 => if b then bind (fe ρ4) fun r ρ5 => bind (PL.cold ρ5 r) fun x ρ6 => .ok (some x) (wipeE ρ6 own) else .ok none (wipeE ρ4 own)
  | none => .stuck
def lcF (fi : PL.Env → Out (List PyData)) (T : Tg) (ft : PL.Env → Out Bool) (fe : PL.Env → Out Res) (own : List Nat) : PL.Env → Out Res := fun ρ => bind (fi ρ) fun items ρ1 => if own.all (notHot ρ1) then
  bind (lcL (stepF T ft fe own) items [] (wipeE ρ1 own)) fun acc ρ9 => Out.ok (Res.fresh (PyData.list acc)) (backE ρ1 ρ9 own) else .stuck
def WF : WX := fun _ _ _ => False
theorem lc_reads {K : PySem.W.Frag} {Wx : WX} {fi : PL.Env → Out (List PyData)} {T : Tg} {ft : PL.Env → Out Bool} {fe : PL.Env → Out Res} {own : List Nat} {σ : L2.St} {H : Hp} {Q : VK} (ht : tgIn own T = true)
    (h : tSE K Wx (lcF fi T ft fe own) σ H Q) : tLc (tSI K Wx fi) (tSG K T) (tST K WF ft) (tSE K WF fe) own σ H Q := by
  obtain ⟨B, Z, ρ, C, h⟩ := h
  refine ⟨B, Z, ρ, C, ?_⟩
  unfold lcF at h
  cases e1 : fi ρ with
  | stuck => rw [e1] at h; exact h
  | exc c ρ1 => rw [e1] at h; exact h
  | ok items ρ1 =>
    rw [e1] at h
    intro J H1 P1 W D hD
    have h : tOut (if own.all (notHot ρ1) = true then bind (lcL (stepF T ft fe own) items [] (wipeE ρ1 own)) fun acc ρ9 => Out.ok (Res.fresh (PyData.list acc)) (backE ρ1 ρ9 own) else .stuck) _ _ := h
    by_cases hc : own.all (notHot ρ1) = true
    · rw [if_pos hc] at h
      have cool := cool_of hc
      have C1 := P1.conc
      have Cw := (C1.wipeE own)
      have nz : ¬ Z D := fun z => C1.tr D z hD
      have nb : ¬ B D := fun z => C1.trB D z hD
      have k0 : Keeps NoM H1 (upd H1 D (.lst [])) := Keeps.new hD
      have Cs : Conc K B (Plus D Z) (wipeE ρ1 own) (wipe σ own) (upd H1 D (.lst [])) := Cw.bar hD (by rw [upd_same]; exact fun z => nomatch z) k0
      refine ⟨fun i m H2 => m = items.length - i ∧ i ≤ items.length ∧ ∃ (ρt : PL.Env) (av : List V) (ad : List PyData), Sub (wipeE ρ1 own) ρt ∧ Cool ρt own ∧ Conc K B (Plus D Z) ρt (wipe σ own) H2 ∧
        Keeps (Fb Z ρ1 σ) H1 H2 ∧ Keeps (HotAt ρ1 σ) H1 H2 ∧ H2 D = some (.lst av) ∧ RpA K (Fb (Plus D Z) ρt (wipe σ own)) H2 av ad ∧
        tOut (bind (lcL (stepF T ft fe own) (items.drop i) ad ρt) fun acc ρ9 => Out.ok (Res.fresh (PyData.list acc)) (backE ρ1 ρ9 own)) (fun r ρ' => ∀ v H', Post K B Z ρ ρ' σ H H' v r → Q v H') (Gx K Wx B Z ρ σ H),
        ⟨items.length, by simp, Nat.zero_le _, wipeE ρ1 own, [], [], Sub.refl, Cool.wipe own, Cs, k0.any, k0.any, upd_same, .nil, h⟩, ?_⟩
      rintro i m H2 ⟨rfl, hi, ρt, av, ad, sub, cl, Ct, kp, kh, hHD, ra, h2⟩
      have sub1 : ∀ a, HotAt ρt (wipe σ own) a → HotAt ρ1 σ a := fun a z => hot_wipe (sub.hot a z)
      by_cases hlt : i < items.length
      · -- the next state
        refine .inr ⟨W.goes i H2 hlt kp, fun H3 => i + 1 ≤ items.length ∧ ∃ (ρt : PL.Env) (av : List V) (ad : List PyData), Sub (wipeE ρ1 own) ρt ∧ Cool ρt own ∧ Conc K B (Plus D Z) ρt (wipe σ own) H3 ∧
          Keeps (Fb Z ρ1 σ) H1 H3 ∧ Keeps (HotAt ρ1 σ) H1 H3 ∧ H3 D = some (.lst av) ∧ RpA K (Fb (Plus D Z) ρt (wipe σ own)) H3 av ad ∧
          tOut (bind (lcL (stepF T ft fe own) (items.drop (i + 1)) ad ρt) fun acc ρ9 => Out.ok (Res.fresh (PyData.list acc)) (backE ρ1 ρ9 own)) (fun r ρ' => ∀ v H', Post K B Z ρ ρ' σ H H' v r → Q v H') (Gx K Wx B Z ρ σ H),
          fun H3 q => ⟨items.length - (i + 1), by omega, rfl, q⟩, fun x H3 y => ?_⟩
        have ed : items[i]? = some items[i] := List.getElem?_eq_getElem hlt
        obtain ⟨k3, rx⟩ := W.yields i H2 x H3 _ (Fb (Plus D Z) (wipeE ρt own) (wipe σ own)) ed kp (fun a z => by
          rcases z with (z | z) | z
          · exact .inr (by rw [z]; exact hD)
          · exact .inl (.inl z)
          · exact .inl (.inr (sub1 a (wipe_sub.hot a z)))) (fun a z => by
          rcases z with z | z
          · exact Ct.tr a z
          · exact Ct.fb (.inr (wipe_sub.hot a z))) y
        have C3 : Conc K B (Plus D Z) (wipeE ρt own) (wipe σ own) H3 := by
          have q := (Ct.grow k3).wipeE own
          rw [wipe_idem] at q
          exact q
        rw [List.drop_eq_getElem_cons hlt, lcL] at h2
        have hst : stepF T ft fe own items[i] ρt = (match asgT T items[i] (wipeE ρt own) with
          | some ρ3 => bind (ft ρ3) fun b ρ4 => if b then bind (fe ρ4) fun r ρ5 => bind (PL.cold ρ5 r) fun x ρ6 => .ok (some x) (wipeE ρ6 own) else .ok none (wipeE ρ4 own)
          | none => .stuck) := rfl
        cases e2 : asgT T items[i] (wipeE ρt own) with
        | none => rw [e2] at hst; rw [hst] at h2; exact h2.elim
        | some ρ3 =>
          rw [e2] at hst
          dsimp only at hst
          obtain ⟨asub, alen⟩ := asgT_sub e2
          refine ⟨B, Plus D Z, wipeE ρt own, items[i], ρ3, C3, rx, e2, fun σ4 P4 w4 => ⟨by rw [w4 own ht, wipe_idem], ?_⟩⟩
          have wσ : wipe σ4 own = wipe σ own := by rw [w4 own ht, wipe_idem]
          refine ⟨B, Plus D Z, ρ3, P4.conc, ?_⟩
          cases e4 : ft ρ3 with
          | stuck => rw [e4] at hst; rw [hst] at h2; exact h2.elim
          | exc c ρ4 => rw [e4] at hst; rw [hst] at h2; exact h2.elim
          | ok b ρ4 =>
            rw [e4, bind_ok] at hst
            intro H4 P5
            -- behind the test
            have done : ∀ {ρ6 : PL.Env} {H6 : Hp}, PostX K B (Plus D Z) ρ3 ρ6 σ4 H3 H6 → Sub (wipeE ρ1 own) (wipeE ρ6 own) ∧ Cool (wipeE ρ6 own) own ∧ Conc K B (Plus D Z) (wipeE ρ6 own) (wipe σ own) H6 ∧
                Keeps (Fb Z ρ1 σ) H1 H6 ∧ Keeps (HotAt ρ1 σ) H1 H6 ∧ H6 D = some (.lst av) ∧ RpA K (Fb (Plus D Z) (wipeE ρ6 own) (wipe σ own)) H6 av ad ∧ (∀ a, Fb (Plus D Z) (wipeE ρ6 own) (wipe σ own) a → Fb (Plus D Z) ρ6 σ4 a) := fun {ρ6 H6} P6 => by
              have s6 : Sub (wipeE ρt own) ρ6 := asub.trans P6.sl
              have hot4 : ∀ a, HotAt ρ3 σ4 a → HotAt (wipeE ρt own) (wipe σ own) a := fun a ⟨j, io, d, q1, q2⟩ => by
                obtain ⟨d1, q3⟩ := asub j io d q1
                rcases wipeE_get q3 with ⟨_, z⟩ | ⟨n, z⟩
                · cases z
                · refine ⟨j, io, d1, q3, ?_⟩
                  rw [← wσ, wipe_other n]; exact q2
              have k6 : Keeps (HotAt (wipeE ρt own) (wipe σ own)) H2 H6 := (k3.any).trans (P6.keep.mono hot4)
              have k7 : Keeps (HotAt ρ1 σ) H2 H6 := k6.mono fun a z => sub1 a (wipe_sub.hot a z)
              have C6 : Conc K B (Plus D Z) (wipeE ρ6 own) (wipe σ own) H6 := by
                have q := P6.conc.wipeE own
                rw [wσ] at q
                exact q
              have fb6 : ∀ a, HotAt (wipeE ρ6 own) (wipe σ own) a → HotAt ρt (wipe σ own) a := fun a z => wipe_sub.hot a (s6.hot a (wipe_sub.hot a z))
              refine ⟨(sub.trans wipe_sub).trans (s6.trans wipe_sub), Cool.wipe own, C6, kp.trans (k7.mono fun a z => .inr z), kh.trans k7, k6.old D _ hHD fun z => C3.nhot (.inl rfl) z, ?_, fun a z => ?_⟩
              · exact ra.move (keep_fb (Z := Plus D Z) (k6.mono fun a z => wipe_sub.hot a z)) fun a z => z.imp id (fb6 a)
              · refine z.imp id fun z => ?_
                rw [← wσ] at z
                exact hot_wipe z
            cases b with
            | false =>
              rw [if_neg Bool.false_ne_true]
              rw [if_neg Bool.false_ne_true] at hst
              rw [hst] at h2
              have h2 : tOut (bind (lcL (stepF T ft fe own) (items.drop (i + 1)) ad (wipeE ρ4 own)) fun acc ρ9 => Out.ok (Res.fresh (PyData.list acc)) (backE ρ1 ρ9 own)) _ _ := h2
              obtain ⟨a1, a3, a4, a5, a6, a7, a8, _⟩ := done P5
              exact ⟨hlt, wipeE ρ4 own, av, ad, a1, a3, a4, a5, a6, a7, a8, h2⟩
            | true =>
              rw [if_pos rfl]
              refine ⟨B, Plus D Z, ρ4, P5.conc, ?_⟩
              rw [if_pos rfl] at hst
              cases e5 : fe ρ4 with
              | stuck => rw [e5] at hst; rw [hst] at h2; exact h2.elim
              | exc c ρ5 => rw [e5] at hst; rw [hst] at h2; exact h2.elim
              | ok r ρ5 =>
                rw [e5, bind_ok] at hst
                intro v H5 P7
                cases e6 : PL.cold ρ5 r with
                | stuck => rw [e6] at hst; rw [hst] at h2; exact h2.elim
                | exc c ρ6 => rw [e6] at hst; rw [hst] at h2; exact h2.elim
                | ok d ρ6 =>
                  rw [e6, bind_ok] at hst
                  rw [hst] at h2
                  obtain ⟨P8, rv⟩ := cold_ok P7.res e6
                  obtain ⟨a1, a3, a4, a5, a6, a7, a8, a9⟩ := done ((P5.seq P7.x).seq P8)
                  have h2 : tOut (bind (if szOk ad.length = true then lcL (stepF T ft fe own) (items.drop (i + 1)) (ad ++ [d]) (wipeE ρ6 own) else .stuck) fun acc ρ9 => Out.ok (Res.fresh (PyData.list acc)) (backE ρ1 ρ9 own)) _ _ := h2
                  by_cases hz : szOk ad.length = true
                  · rw [if_pos hz] at h2
                    have kD : Keeps (Fb (Plus D Z) (wipeE ρ6 own) (wipe σ own)) H5 (upd H5 D (.lst (av ++ [v]))) := Keeps.put (.inl (.inl rfl))
                    have kn : ∀ {M : Addr → Prop}, Keeps M H1 H5 → Keeps M H1 (upd H5 D (.lst (av ++ [v]))) := fun {M} k => ⟨fun a o e n => by rw [upd_ne (fun q => by rw [q, hD] at e; cases e)]; exact k.old a o e n, fun a z => kD.there a (k.there a z)⟩
                    exact ⟨av, a7, by rw [ra.length]; exact szOk_lt hz, hlt, wipeE ρ6 own, av ++ [v], ad ++ [d], a1, a3, a4.put (.inl rfl), kn a5, kn a6, upd_same, (a8.append (.cons (rv.less a9) .nil)).move kD fun _ z => z, h2⟩
                  · rw [if_neg hz] at h2
                    exact h2.elim
      · have e : i = items.length := by omega
        subst e
        refine .inl ⟨W.stops H2 kp, ?_⟩
        rw [List.drop_length, lcL] at h2
        obtain ⟨Cb, sb, hb⟩ := Conc.back C1 Ct hD cool sub kp
        refine h2 (.ref D) H2 ⟨P1.keep.seq kh P1.sub, P1.sl.trans sb, ⟨D, rfl, nz, nb, Cb, ⟨av, hHD, ra.less fun a z => z.imp id (hb a)⟩⟩, fun _ a _ ea => ?_⟩
        cases ea
        exact P1.keep.notnew hD
    · rw [if_neg hc] at h
      exact h.elim
end PL

set_option autoImplicit false
set_option linter.all false
set_option Elab.async false
set_option maxRecDepth 100000
set_option maxHeartbeats 1000000
/-! PL15: comprehensions as expressions and stored; calls of defs. -/
namespace PL
open PySem PySem.Spec PyProof.Rows L2
section
variable {X : Cx} {Wx : WX} {elt tg iter : Expr} {ifs : List Expr} {scope : Scope} {own : List (Str × Nat)} {pos spos : Pos} {fi : PL.Env → Out (List PyData)} {T : Tg} {ft : PL.Env → Out Bool} {fe : PL.Env → Out Res}
theorem se_lc (hc : X.calm = true) (hN : X.N.Nodup) (hi : SI X Wx tg iter fi) (ok : BlkOk X.N X.env.scope scope own) (hg : ∀ (s : Shared) (H : Hp) (C : Addr) (cl : List (Str × Addr)) (fp : List Addr), SG (X.blk s H scope (compEnvC scope cl C X.env) fp) tg T)
    (ht : ∀ (s : Shared) (H : Hp) (C : Addr) (cl : List (Str × Addr)) (fp : List Addr), PTs (X.blk s H scope (compEnvC scope cl C X.env) fp) ifs (tST X.K WF ft))
    (he : ∀ (s : Shared) (H : Hp) (C : Addr) (cl : List (Str × Addr)) (fp : List Addr), SE (X.blk s H scope (compEnvC scope cl C X.env) fp) WF elt fe) (hs : ∀ x, foldedSetIterable iter X.env x = pure x) (htg : tgIn (own.map (·.2)) T = true) :
    SE X Wx (.ListComp elt [⟨tg, iter, ifs, 0⟩] scope pos) (lcF fi T ft fe (own.map (·.2))) :=
  pe_mono (pe_lc (g := tSG X.K T) (tt := tST X.K WF ft) (te := tSE X.K WF fe) hc hN hi ok hg ht he hs) fun σ H Q h => lc_reads htg h
theorem asg_lc {i : Nat} {y : Str} {py : Pos} (hc : X.calm = true) (hN : X.N.Nodup) (hy : X.N[i]? = some y) (hyl : X.env.scope.names.lookup y = some .local) (hsw : swapsWith (.ListComp elt [⟨tg, iter, ifs, 0⟩] scope pos) (some (.Name y py)) spos.line X.env = pure true)
    (hi : SI X Wx tg iter fi) (ok : BlkOk X.N X.env.scope scope own) (hg : ∀ (s : Shared) (H : Hp) (C : Addr) (cl : List (Str × Addr)) (fp : List Addr), SG (X.blk s H scope (compEnvC scope cl C X.env) fp) tg T)
    (ht : ∀ (s : Shared) (H : Hp) (C : Addr) (cl : List (Str × Addr)) (fp : List Addr), PTs (X.blk s H scope (compEnvC scope cl C X.env) fp) ifs (tST X.K WF ft))
    (he : ∀ (s : Shared) (H : Hp) (C : Addr) (cl : List (Str × Addr)) (fp : List Addr), SE (X.blk s H scope (compEnvC scope cl C X.env) fp) WF elt fe) (hs : ∀ x, foldedSetIterable iter X.env x = pure x) (htg : tgIn (own.map (·.2)) T = true) :
    PS X (.Assign [.Name y py] (.ListComp elt [⟨tg, iter, ifs, 0⟩] scope pos) spos) (tAsg (tSE X.K Wx (lcF fi T ft fe (own.map (·.2)))) (gName i)) :=
  ps_mono (ps_setLc (g := tSG X.K T) (tt := tST X.K WF ft) (te := tSE X.K WF fe) hc hN hy hyl hsw hi ok hg ht he hs) fun D σ H h => lc_reads htg h
end

/-! ### arguments -/
def refs : V → List Addr
  | .ref a => [a]
  | _ => []
def ioA (ios : List Nat) : Nat → List V → List Addr
  | _, [] => []
  | j, v :: vs => if ios.contains j then refs v ++ ioA ios (j + 1) vs else ioA ios (j + 1) vs
def Args (K : PySem.W.Frag) (Y : Addr → Prop) (H : Hp) (ios : List Nat) : Nat → List V → List PyData → Prop
  | _, [], [] => True
  | j, v :: vs, d :: ds => (if ios.contains j then ∃ a, v = .ref a ∧ Y a ∧ Own K Y H a d else Rp K Y H v d) ∧ Args K Y H ios (j + 1) vs ds
  | _, _, _ => False
def OutsR (K : PySem.W.Frag) (Y : Addr → Prop) (H : Hp) (ios : List Nat) : Nat → List V → List PyData → Prop
  | _, [], os => os = []
  | j, v :: vs, os => if ios.contains j then ∃ d os' a, os = d :: os' ∧ v = .ref a ∧ Own K Y H a d ∧ OutsR K Y H ios (j + 1) vs os' else OutsR K Y H ios (j + 1) vs os
/-- what comes back is forbidden too, if it is one's own -/
def RetY (Y : Addr → Prop) (v : V) : Slot → Addr → Prop
  | .h _ _ => fun b => Y b ∨ v = .ref b
  | _ => Y
def RetOk (K : PySem.W.Frag) (Y : Addr → Prop) (H H' : Hp) (v : V) : Slot → Prop
  | .no => False
  | .c d => Rp K Y H' v d
  | .h _ d => ∃ a, v = .ref a ∧ H a = none ∧ Own K (Plus a Y) H' a d
/-- a def's promise: what the evaluator says -/
def spD (K : PySem.W.Frag) (call : Str → List PyData → CRes) (f : Str) (D : Def) : Sp := fun vs H Q _ => ∃ (Y : Addr → Prop) (ds : List PyData) (r : Slot) (outs : List PyData), Trk Y H ∧ Args K Y H D.ios 0 vs ds ∧ (ioA D.ios 0 vs).Nodup ∧ call f ds = .ok r outs ∧
  ∀ v H', Keeps (fun a => a ∈ ioA D.ios 0 vs) H H' → OutsR K (RetY Y v r) H' D.ios 0 vs outs → RetOk K Y H H' v r → Q v H'
/-- the arguments as they wait -/
def ArgH (K : PySem.W.Frag) (Z : Addr → Prop) (ρ : PL.Env) (σ : L2.St) (H : Hp) (ios : List Nat) : Nat → List V → List ArgR → Prop
  | _, [], [] => True
  | j, v :: vs, .io i :: as => ios.contains j = true ∧ σ[i]? = some (some v) ∧ ArgH K Z ρ σ H ios (j + 1) vs as
  | j, v :: vs, .val d :: as => ios.contains j = false ∧ Rp K (Fb Z ρ σ) H v d ∧ ArgH K Z ρ σ H ios (j + 1) vs as
  | _, _, _ => False
section
variable {K : PySem.W.Frag} {B Z : Addr → Prop} {ρ ρ1 ρ2 : PL.Env} {σ : L2.St} {H H1 H' : Hp} {ios : List Nat}
theorem ArgH.move (q : PostX K B Z ρ ρ1 σ H H1) : ∀ {j : Nat} {vs : List V} {as : List ArgR}, ArgH K Z ρ σ H ios j vs as → ArgH K Z ρ1 σ H1 ios j vs as
  | _, [], [], _ => True.intro
  | j, v :: vs, .io i :: as, h => ⟨h.1, h.2.1, ArgH.move q h.2.2⟩
  | j, v :: vs, .val d :: as, h => ⟨h.1, h.2.1.move (keep_fb q.keep) (fb_sub q.sub), ArgH.move q h.2.2⟩
  | _, [], _ :: _, h => h.elim
  | _, _ :: _, [], h => h.elim
theorem args_of (C : Conc K B Z ρ σ H) : ∀ {j : Nat} {vs : List V} {as : List ArgR} {ds : List PyData}, ArgH K Z ρ σ H ios j vs as → derefs ρ as = some ds → Args K (Fb Z ρ σ) H ios j vs ds
  | _, [], [], _, _, e => by cases e; exact True.intro
  | j, v :: vs, .val d :: as, ds, h, e => by
    rw [derefs] at e
    cases e1 : derefs ρ as with
    | none => rw [e1] at e; cases e
    | some es =>
      rw [e1] at e
      cases e
      refine ⟨?_, args_of C h.2.2 e1⟩
      rw [if_neg (by rw [h.1]; exact Bool.false_ne_true)]
      exact h.2.1
  | j, v :: vs, .io i :: as, ds, h, e => by
    rw [derefs] at e
    cases e2 : gets ρ i with
    | h io d =>
      cases e1 : derefs ρ as with
      | none => rw [e1, e2] at e; cases e
      | some es =>
        rw [e1, e2] at e
        cases e
        refine ⟨?_, args_of C h.2.2 e1⟩
        rw [if_pos h.1]
        have hs := gets_some e2 (by intro z; cases z)
        obtain ⟨a, e3, nz, nb, o⟩ := C.hot i io d hs
        have hv := h.2.1
        rw [hv] at e3
        cases e3
        exact ⟨a, rfl, .inr ⟨i, io, d, hs, hv⟩, o⟩
    | _ => rw [e2] at e; cases e
  | _, [], _ :: _, _, h, _ => h.elim
  | _, _ :: _, [], _, h, _ => h.elim
/-- an io argument's address is that of its slot -/
theorem ioA_mem {a : Addr} : ∀ {j : Nat} {vs : List V} {as : List ArgR}, ArgH K Z ρ σ H ios j vs as → (a ∈ ioA ios j vs ↔ ∃ i ∈ iosOf as, σ[i]? = some (some (.ref a)))
  | _, [], [], _ => by simp [ioA, iosOf]
  | j, v :: vs, .val d :: as, h => by
    rw [ioA, if_neg (by rw [h.1]; exact Bool.false_ne_true), iosOf]
    exact ioA_mem h.2.2
  | j, v :: vs, .io i :: as, h => by
    rw [ioA, if_pos h.1, iosOf]
    have ih := ioA_mem (a := a) h.2.2
    cases v with
    | ref b =>
      rw [refs, List.singleton_append, List.mem_cons, ih]
      constructor
      · rintro (rfl | ⟨k, hk, e⟩)
        · exact ⟨i, List.mem_cons_self, h.2.1⟩
        · exact ⟨k, List.mem_cons_of_mem _ hk, e⟩
      · rintro ⟨k, hk, e⟩
        rcases List.mem_cons.mp hk with rfl | hk
        · have := h.2.1
          rw [this] at e
          cases e
          exact .inl rfl
        · exact .inr ⟨k, hk, e⟩
    | _ =>
      refine Iff.trans ih ?_
      constructor
      · rintro ⟨k, hk, e⟩
        exact ⟨k, List.mem_cons_of_mem _ hk, e⟩
      · rintro ⟨k, hk, e⟩
        rcases List.mem_cons.mp hk with rfl | hk
        · have := h.2.1
          rw [this] at e
          cases e
        · exact ⟨k, hk, e⟩
  | _, [], _ :: _, h => h.elim
  | _, _ :: _, [], h => h.elim
theorem derefs_hot : ∀ {as : List ArgR} {ds : List PyData}, derefs ρ as = some ds → ∀ i ∈ iosOf as, ∃ io d, ρ[i]? = some (Slot.h io d)
  | [], _, _, i, hi => by cases hi
  | .val d :: as, ds, e, i, hi => by
    rw [derefs] at e
    cases e1 : derefs ρ as with
    | none => rw [e1] at e; cases e
    | some es => exact derefs_hot e1 i hi
  | .io k :: as, ds, e, i, hi => by
    rw [derefs] at e
    cases e2 : gets ρ k with
    | h io d =>
      cases e1 : derefs ρ as with
      | none => rw [e1, e2] at e; cases e
      | some es =>
        rcases List.mem_cons.mp hi with rfl | hi
        · exact ⟨io, d, gets_some e2 (by intro z; cases z)⟩
        · exact derefs_hot e1 i hi
    | _ => rw [e2] at e; cases e
theorem ioA_nodup (C : Conc K B Z ρ σ H) : ∀ {j : Nat} {vs : List V} {as : List ArgR} {ds : List PyData}, ArgH K Z ρ σ H ios j vs as → derefs ρ as = some ds → (iosOf as).Nodup → (ioA ios j vs).Nodup
  | _, [], [], _, _, _, _ => by simp [ioA]
  | j, v :: vs, .val d :: as, ds, h, e, n => by
    rw [derefs] at e
    cases e1 : derefs ρ as with
    | none => rw [e1] at e; cases e
    | some es =>
      rw [ioA, if_neg (by rw [h.1]; exact Bool.false_ne_true)]
      exact ioA_nodup C h.2.2 e1 n
  | j, v :: vs, .io i :: as, ds, h, e, n => by
    rw [iosOf, List.nodup_cons] at n
    have e0 := e
    rw [derefs] at e
    cases e2 : gets ρ i with
    | h io d =>
      cases e1 : derefs ρ as with
      | none => rw [e1, e2] at e; cases e
      | some es =>
        have ih := ioA_nodup C h.2.2 e1 n.2
        rw [ioA, if_pos h.1]
        cases v with
        | ref b =>
          rw [refs, List.singleton_append, List.nodup_cons]
          refine ⟨fun z => ?_, ih⟩
          obtain ⟨k, hk, e3⟩ := (ioA_mem h.2.2).mp z
          obtain ⟨io2, d2, e4⟩ := derefs_hot e1 k hk
          have := C.inj i k io io2 d d2 b (gets_some e2 (by intro z; cases z)) e4 h.2.1 e3
          rw [this] at n
          exact n.1 hk
        | _ => exact ih
    | _ => rw [e2] at e; cases e
  | _, [], _ :: _, _, h, _, _ => h.elim
  | _, _ :: _, [], _, h, _, _ => h.elim
theorem put_back {Y : Addr → Prop} : ∀ {j : Nat} {vs : List V} {as : List ArgR} {os : List PyData} {ρ ρ2 : PL.Env} {ρ0 : PL.Env}, ArgH K Z ρ0 σ H ios j vs as → OutsR K Y H' ios j vs os → (iosOf as).Nodup → putBack ρ as os = some ρ2 →
    (∀ (i : Nat) (d : PyData), ρ2[i]? = some (Slot.c d) → ρ[i]? = some (Slot.c d)) ∧ Sub ρ ρ2 ∧ ρ2.length = ρ.length ∧
    ∀ (i : Nat) (io : Bool) (d : PyData), ρ2[i]? = some (Slot.h io d) → (i ∉ iosOf as ∧ ρ[i]? = some (Slot.h io d)) ∨ (i ∈ iosOf as ∧ ∃ a, σ[i]? = some (some (.ref a)) ∧ Own K Y H' a d)
  | _, [], [], os, ρ, ρ2, _, _, ho, _, e => by
    have ho : os = [] := ho
    subst ho
    cases e
    exact ⟨fun _ _ z => z, Sub.refl, rfl, fun i io d z => .inl ⟨by simp [iosOf], z⟩⟩
  | j, v :: vs, .val d :: as, os, ρ, ρ2, _, h, ho, n, e => by
    have e' : putBack ρ as os = some ρ2 := by
      cases os <;> exact e
    unfold OutsR at ho
    rw [if_neg (by rw [h.1]; exact Bool.false_ne_true)] at ho
    have n' : (iosOf as).Nodup := n
    have q := put_back h.2.2 ho n' e'
    exact q
  | j, v :: vs, .io i :: as, os, ρ, ρ2, _, h, ho, n, e => by
    unfold OutsR at ho
    rw [if_pos h.1] at ho
    obtain ⟨d, os, a, rfl, ev, ow, ho⟩ := ho
    · subst ev
      rw [iosOf, List.nodup_cons] at n
      rw [putBack] at e
      cases e2 : gets ρ i with
      | h io d0 =>
        rw [e2] at e
        dsimp only at e
        obtain ⟨a1, a2, a3, a4⟩ := put_back h.2.2 ho n.2 e
        have hs := gets_some e2 (by intro z; cases z)
        refine ⟨fun k d' z => ?_, (set_sub hs).trans a2, a3.trans List.length_set, fun k io' d' z => ?_⟩
        · rcases set_get (a1 k d' z) with ⟨_, z⟩ | ⟨_, z⟩
          · cases z
          · exact z
        · rcases a4 k io' d' z with ⟨n1, z⟩ | ⟨m1, b, e3, o⟩
          · rcases set_get z with ⟨rfl, w⟩ | ⟨ne, w⟩
            · cases w
              exact .inr ⟨List.mem_cons_self, a, h.2.1, ow⟩
            · exact .inl ⟨fun q => (List.mem_cons.mp q).elim (fun q => ne q.symm) n1, w⟩
          · exact .inr ⟨List.mem_cons_of_mem _ m1, b, e3, o⟩
      | _ => rw [e2] at e; cases e
  | _, [], .val _ :: _, _, _, _, _, h, _, _, _ => h.elim
  | _, [], .io _ :: _, _, _, _, _, h, _, _, _ => h.elim
  | _, _ :: _, [], _, _, _, _, h, _, _, _ => h.elim
/-- behind a call -/
theorem call_post {as : List ArgR} {vs : List V} {ds os : List PyData} {v : V} {r : Slot} {res : Res} (C : Conc K B Z ρ σ H) (h : ArgH K Z ρ σ H ios 0 vs as) (n : (iosOf as).Nodup) (hd : derefs ρ as = some ds) (k : Keeps (fun a => a ∈ ioA ios 0 vs) H H')
    (ho : OutsR K (RetY (Fb Z ρ σ) v r) H' ios 0 vs os) (hr : RetOk K (Fb Z ρ σ) H H' v r) (e : putBack ρ as os = some ρ2) (er : (match r with | .c d => some (Res.val d) | .h _ d => some (Res.fresh d) | .no => none) = some res) : Post K B Z ρ ρ2 σ H H' v res := by
  obtain ⟨p1, p2, p3, p4⟩ := put_back h ho n e
  have hio : ∀ a, a ∈ ioA ios 0 vs → HotAt ρ σ a := fun a ha => by
    obtain ⟨i, hi, e1⟩ := (ioA_mem h).mp ha
    obtain ⟨io, d, e2⟩ := derefs_hot hd i hi
    exact ⟨i, io, d, e2, e1⟩
  have kh : Keeps (HotAt ρ σ) H H' := k.mono hio
  have kf : Keeps (Fb Z ρ σ) H H' := keep_fb kh
  -- over any wider ban whose news did not stand
  have conc : ∀ Z2 : Addr → Prop, (∀ a, Z2 a → Z a ∨ H a = none) → (∀ a, Z2 a → H' a ≠ none) → (∀ a, Fb Z2 ρ2 σ a → RetY (Fb Z ρ σ) v r a) → Conc K B Z2 ρ2 σ H' := fun Z2 h1 h2 h3 => by
    have hY : ∀ a, Fb Z2 ρ2 σ a → Fb Z ρ σ a ∨ H a = none := fun a z => by
      rcases z with z | z
      · exact (h1 a z).imp .inl id
      · exact .inl (.inr (p2.hot a z))
    refine ⟨fun i d q => ?_, fun i io d q => ?_, fun i j io1 io2 d1 d2 a q1 q2 s1 s2 => ?_, h2, fun a z => k.there a (C.trB a z), by rw [p3]; exact C.len⟩
    · obtain ⟨w, e1, rr⟩ := C.cold i d (p1 i d q)
      exact ⟨w, e1, rr.shift kf hY⟩
    · obtain ⟨d0, e0⟩ := p2 i io d q
      obtain ⟨a, e1, nz, nb, o⟩ := C.hot i io d0 e0
      have nz2 : ¬ Z2 a := fun z => (h1 a z).elim nz fun z => o.there z
      rcases p4 i io d q with ⟨n1, z⟩ | ⟨m1, b, e3, o2⟩
      · rw [e0] at z
        cases z
        refine ⟨a, e1, nz2, nb, o.shift kf hY fun u eu => k.old a u eu fun z => ?_⟩
        obtain ⟨i2, hi2, e4⟩ := (ioA_mem h).mp z
        obtain ⟨io2, d2, e5⟩ := derefs_hot hd i2 hi2
        exact n1 (by rw [C.inj i i2 io io2 _ d2 a e0 e5 e1 e4]; exact hi2)
      · rw [e1] at e3
        cases e3
        exact ⟨a, e1, nz2, nb, o2.move Keeps.refl h3 fun u eu => eu⟩
    · obtain ⟨d3, q3⟩ := p2 i io1 d1 q1
      obtain ⟨d4, q4⟩ := p2 j io2 d2 q2
      exact C.inj i j io1 io2 d3 d4 a q3 q4 s1 s2
  cases r with
  | no => exact hr.elim
  | c d =>
    cases er
    refine ⟨kh, p2, ⟨conc Z (fun a z => .inl z) (fun a z => k.there a (C.tr a z)) (fun a z => fb_sub p2.hot a z), hr.less (fb_sub p2.hot)⟩, fun _ _ z => nomatch z⟩
  | h io d =>
    cases er
    obtain ⟨a, rfl, hn, o⟩ := hr
    have fb : ∀ b, Fb (Plus a Z) ρ2 σ b → b = a ∨ Fb Z ρ σ b := fun b z => (fb_plus z).imp id fun z => fb_sub p2.hot b z
    refine ⟨kh, p2, ⟨a, rfl, fun z => C.tr a z hn, fun z => C.trB a z hn, conc (Plus a Z) (fun b z => ?_) (fun b z => ?_) (fun b z => ?_), o.move Keeps.refl fb fun u e => e⟩, fun _ b _ eb => ?_⟩
    · rcases z with z | z
      · exact .inr (by rw [z]; exact hn)
      · exact .inl z
    · rcases z with z | z
      · rw [z]; exact o.there
      · exact k.there b (C.tr b z)
    · rcases fb b z with z | z
      · exact .inr (by rw [z])
      · exact .inl z
    · cases eb
      exact hn
end
def tSR (K : PySem.W.Frag) (Wx : WX) (ios : List Nat) (j : Nat) (f : PL.Env → Out (List ArgR)) : TA := fun σ H Q => ∃ B Z ρ, Conc K B Z ρ σ H ∧ tOut (f ρ) (fun as ρ' => ∀ vs H', PostX K B Z ρ ρ' σ H H' → ArgH K Z ρ' σ H' ios j vs as → Q vs H') (Gx K Wx B Z ρ σ H)
def SRg (X : Cx) (Wx : WX) (ios : List Nat) (j : Nat) (es : List Expr) (f : PL.Env → Out (List ArgR)) : Prop := PA X es (tSR X.K Wx ios j f)
section
variable {X : Cx} {Wx : WX} {e : Expr} {es : List Expr} {fa : PL.Env → Out Res} {fr : PL.Env → Out (List ArgR)} {ios : List Nat} {j : Nat}
theorem sr_nil : SRg X Wx ios j [] (fun ρ => .ok [] ρ) := pa_mono pa_nil fun σ H Q ⟨B, Z, ρ, C, h⟩ => h [] H (.refl C) True.intro
theorem sr_cons (ha : SE X Wx e fa) (hr : SRg X Wx ios (j + 1) es fr) (hs : unstar e = true) : SRg X Wx ios j (e :: es) (fun ρ => bind (fa ρ) fun r ρ1 =>
    if ios.contains j then
      match r with
      | .ref i => bind (fr ρ1) fun as ρ2 => .ok (.io i :: as) ρ2
      | _ => .stuck
    else bind (PL.cold ρ1 r) fun d ρ2 => bind (fr ρ2) fun as ρ3 => .ok (.val d :: as) ρ3) := by
  refine pa_mono (pa_cons ha hr (star_cons hs)) fun σ H Q ⟨B, Z, ρ, C, h⟩ => ?_
  refine sub_run C h (fun _ _ z => z) fun r ρ1 x H1 P1 h1 => ?_
  have run : ∀ {ρ2 : PL.Env} {mk : List ArgR → List ArgR} (P2 : PostX X.K B Z ρ ρ2 σ H H1), tOut (bind (fr ρ2) fun as ρ3 => .ok (mk as) ρ3) (fun as ρ' => ∀ vs H', PostX X.K B Z ρ ρ' σ H H' → ArgH X.K Z ρ' σ H' ios j vs as → Q vs H') (Gx X.K Wx B Z ρ σ H) →
      (∀ {ρ3 : PL.Env} {vs : List V} {as : List ArgR} {H2 : Hp}, PostX X.K B Z ρ2 ρ3 σ H1 H2 → ArgH X.K Z ρ3 σ H2 ios (j + 1) vs as → ArgH X.K Z ρ3 σ H2 ios j (x :: vs) (mk as)) → tSR X.K Wx ios (j + 1) fr σ H1 fun vs H' => Q (x :: vs) H' := fun {ρ2 mk} P2 h2 hm => by
    refine ⟨B, Z, ρ2, P2.conc, ?_⟩
    cases e3 : fr ρ2 with
    | stuck => rw [e3] at h2; exact h2
    | exc c ρ3 => rw [e3] at h2; exact Gx.step h2 P2
    | ok as ρ3 =>
      rw [e3] at h2
      exact fun vs H2 P3 a => h2 (x :: vs) H2 (P2.seq P3) (hm P3 a)
  by_cases hc : ios.contains j = true
  · rw [if_pos hc] at h1
    cases r with
    | ref i => exact run (mk := fun as => .io i :: as) P1.x h1 fun P3 a => ⟨hc, P1.res.1, a⟩
    | val d => exact h1.elim
    | fresh d => exact h1.elim
  · rw [if_neg hc] at h1
    refine cold_run P1.res h1 fun d ρ2 P2 rp h2 => ?_
    exact run (mk := fun as => .val d :: as) (P1.x.seq P2) h2 fun P3 a => ⟨Bool.eq_false_iff.mpr hc, rp.move (keep_fb P3.keep) (fb_sub P3.sub), a⟩
/-- f may be called -/
structure CallOk (X : Cx) (call : Str → List PyData → CRes) (f : Str) (D : Def) : Prop where
  ex : ∃ (fa : Addr) (k : Nat) (fd : FuncData) (ps : List Str), X.mg f = some (.ref fa) ∧ PySem.W.keepIn X.K (.ref fa) = true ∧ FnOk X.prog X.w X.K X.mg X.base CX0 k fa fd ps (spD X.K call f D) ∧ Room k X.A ∧ Binds X.K fd ps []
theorem se_call {G : Ctx} {x : Str} {D : Def} {p pos : Pos} (c : CallOk X G.call x D) (hg : Gl X x) (hdb : (x == ("__debug__" : Str)) = false) (ha : SRg X Wx D.ios 0 (e :: es) fr) (hs : (e :: es).all unstar = true) :
    SE X Wx (.Call (.Name x p) (e :: es) [] pos) (fun ρ => bind (fr ρ) fun as ρ1 => callR G x as ρ1) := by
  obtain ⟨fa, k, fd, ps, hm, hk, F, hr, hb⟩ := c.ex
  rw [List.all_cons, Bool.and_eq_true] at hs
  refine pe_mono (pe_call F hr hg hm hk hb .nil pass0 (E := E0) ha hdb (star_cons hs.1) (star_any hs.2)) fun σ H Q ⟨B, Z, ρ, C, h⟩ => ?_
  refine ⟨B, Z, ρ, C, ?_⟩
  dsimp only at h
  cases e1 : fr ρ with
  | stuck => rw [e1] at h; exact h
  | exc c ρ1 => rw [e1] at h; exact h
  | ok as ρ1 =>
    rw [e1, bind_ok] at h
    intro vs H1 P1 a
    unfold callR at h
    by_cases hn : (iosOf as).Nodup
    · rw [if_pos hn] at h
      cases e2 : derefs ρ1 as with
      | none => rw [e2] at h; exact h.elim
      | some ds =>
        rw [e2] at h
        dsimp only at h
        cases e3 : G.call x ds with
        | ok r outs =>
          rw [e3] at h
          dsimp only at h
          rw [List.append_nil]
          refine ⟨Fb Z ρ1 σ, ds, r, outs, fun a z => P1.conc.fb z, args_of P1.conc a e2, ioA_nodup P1.conc a e2 hn, e3, fun v H' kp ho hr => ?_⟩
          · cases e4 : putBack ρ1 as outs with
            | none => rw [e4] at h; exact h.elim
            | some ρ2 =>
              rw [e4] at h
              cases r with
              | no => exact h.elim
              | c d => exact h v H' (P1.post (call_post P1.conc a hn e2 kp ho hr e4 rfl))
              | h io d => exact h v H' (P1.post (call_post P1.conc a hn e2 kp ho hr e4 rfl))
        | exc c outs => rw [e3] at h; exact h.elim
        | stuck => rw [e3] at h; exact h.elim
    · rw [if_neg hn] at h
      exact h.elim
end
end PL

set_option autoImplicit false
set_option linter.all false
set_option Elab.async false
set_option maxRecDepth 100000
set_option maxHeartbeats 4000000
/-! PL16: a list of hnums as a set: its size, its members in order. isinstance, lists of ranges. -/
namespace PL
open PySem PySem.Spec PyProof.Rows L2
section
variable {P : Program} {w : World} {A : Around} {E : Value → Shared → Prop} {s : Shared}
/-- an empty set's object -/
abbrev emptyS (w : World) : Obj := { cls := .type "set", dict := none, data := .set #[] 0 (.fresh 0 0 (!w.params.followText "set-order")) }
set_option maxHeartbeats 6400000 in
theorem call_set_lst {l : Addr} {items : Array Value} (ms : List Int) {Q : Value → Shared → Prop} (calm : A.handled = none) (lies : s.heap.IsList l items) (hnums : IntsAre items.toList ms) (few : ms.length + 1 < scanBound)
    (fin : ∀ (hp1 : Heap) (tk c : Nat), SetR w hp1 s.heap.objs.size (fun j => decide (j ∈ ms)) c → c ≤ ms.length → (∀ b o, s.heap.get? b = some o → hp1.get? b = some o) → Q (.ref s.heap.objs.size) { s with heap := hp1, toks := tk }) :
    wpAny (model P w) A (call (.type "set") [.ref l]) Q E s := by
  have hsz : items.size = ms.length := by
    have q := IntsAre.length hnums
    rw [Array.length_toList] at q
    exact q
  obtain ⟨c, rest1, mro⟩ := F.called_set.mro
  have made := F.called_set.made
  have isub := F.called_set.sub
  refine wpAny_call (codeAny_of_tree (show wpAny _ _ (callAny (.type "set") _) _ _ _ from ?_))
  refine wpAny_pure ⟨Code.quiet_builtin _ (by decide +kernel), codeAny_builtin F.entry_type_call ?_⟩
  rw [Around.under_plain (weight_type_call_type "set" [.ref l] []) rfl]
  have ty1 := F.called_set.notType
  have ty2 := F.called_set.canCreate
  have tcall := F.typeCall_set_1 (.ref l)
  repeat (any_goals (first | assumption | wp_step))

  refine codeAny_mono (code_set_led1 (.ref l) (E := E) (Q₁ := fun obj st1 => obj = .ref s.heap.objs.size ∧ st1 = { s with heap := s.heap.push (emptyS w) }) ⟨rfl, rfl⟩) fun r st1 ans => ?_
  cases r with
  | error e => exact ans
  | ok fl =>
    cases fl with
    | ret obj =>
      obtain ⟨rfl, rfl⟩ := ans
      have stands : (s.heap.push (emptyS w)).get? s.heap.objs.size = some (emptyS w) := Heap.get?_push_size _ rfl
      have hknd : Shared.TypeIs { s with heap := s.heap.push (emptyS w) } (.ref s.heap.objs.size) "set" := ⟨_, stands, rfl⟩
      have ini := F.called_set.init.lookup
      have bnd := F.called_set.init.bind (.ref s.heap.objs.size)
      repeat (any_goals (first | assumption | wp_step))

      refine codeAny_mono (codeAny_call_builtin (R := wants (fun r st2 => r = .none ∧ ∃ hp1 tk c, st2 = { s with heap := hp1, toks := tk } ∧ SetR w hp1 s.heap.objs.size (fun j => decide (j ∈ ms)) c ∧ c ≤ ms.length ∧
          (∀ b o, s.heap.get? b = some o → hp1.get? b = some o)) E) F.called_set.init.plain F.entry_set_init (check_set_init_1 hknd ?_)) fun res2 st2 ans2 => ?_
      · obtain ⟨obj1, at1, cl1, cap, da1⟩ := lies
        obtain ⟨w1, w2, w3, w4⟩ := obj1
        simp only at cl1 da1
        subst cl1; subst da1
        have at2 : (s.heap.push (emptyS w)).get? l = some { cls := .type "list", dict := w2, data := .seq items cap, slots := w4 } := Heap.get?_push_of_some _ at1
        have ns1 := F.sub_list_set
        have ns2 := F.sub_list_frozenset
        have ns3 : (Value.type "list" == Value.type "dict") = false := by decide
        have lies1 : (s.heap.push (emptyS w)).IsList l items := ⟨_, at2, rfl, cap, rfl⟩
        unfold Builtin.«set.__init__» noKeywords Builtin.Frozenset.updateFrom
        generalize gen1 : pyIter = PI
        wp_walk
        subst gen1

        refine wpAny_pyIter_list lies1 (wpAny_bind (wpAny_runValue ?_))
        have below : l < s.heap.objs.size := Heap.lt_size at1
        have calm3 : A.in1.in1.in1.handled = none := by simp [calm]
        have sz1 : (s.heap.push (emptyS w)).objs.size = s.heap.objs.size + 1 := Heap.size_push ..
        have apart1 : l ≠ (s.heap.push (emptyS w)).objs.size := by
          rw [Heap.size_push]; exact Nat.ne_of_lt (Nat.lt_succ_of_lt below)
        have apart2 : s.heap.objs.size ∉ [(s.heap.push (emptyS w)).objs.size, l] := by
          rw [Heap.size_push]; simp only [List.mem_cons, List.mem_singleton, List.not_mem_nil, or_false, not_or]
          exact ⟨Nat.ne_of_lt (Nat.lt_succ_self _), Nat.ne_of_gt below⟩
        have each1 : ∀ (i : Nat) (v : Value), items[i]? = some v → ∃ k t, ms[i]? = some k ∧ v = .int k t := fun i v got => by
          have lt1 : i < ms.length := by rw [← hsz]; exact (Array.getElem?_eq_some_iff.mp got).1
          obtain ⟨t, e⟩ := PyProof.Rows.IntsAre.int_at hnums i v (by rw [Array.getElem?_toList]; exact got)
          refine ⟨ms[i], t, List.getElem?_eq_getElem lt1, ?_⟩
          rw [e, List.getD_eq_getElem?_getD, List.getElem?_eq_getElem lt1] <;> rfl
        refine set_update_ints ((Walks.list calm3 _ l apart1 items).toS) s.heap.objs.size
          apart2 ms hsz few each1 (items.size - 0) 0 _ (by omega) (Nat.zero_le _)
          ⟨⟨_, Heap.get?_push_size _ rfl, rfl, rfl⟩, (lies1.push _)⟩ ?goal1 ?goal2
        case goal1 =>
          have get1 : ((s.heap.push (emptyS w)).push { cls := .type "list_iterator", data := .fields #[.ref l, .int 0 0] }).get? s.heap.objs.size
              = some (emptyS w) := Heap.get?_push_of_some _ stands
          exact ⟨0, Nat.le_refl 0, setR_new_at get1⟩
        case goal2 =>
          intro sh1 c1 moved cnt1 set1
          obtain ⟨hp1, g2, dr1, tk1, os1⟩ := sh1
          have g1 : g2 = s.gens := moved.gens
          have g2e : dr1 = s.drawn := moved.drawn
          have g3 : os1 = s.os := moved.os
          subst g1; subst g2e; subst g3
          show wpAny _ _ _ _ _ _
          refine wpAny_pure ?_
          show wpAny _ _ (ret Value.none) _ _ _
          rw [hsz] at cnt1
          refine wpAny_pure ⟨rfl, hp1, tk1, c1, rfl, set1, cnt1, fun b o e => ?_⟩
          have b0 : b < s.heap.objs.size := Heap.lt_size e
          have b1 : b ≠ s.heap.objs.size := Nat.ne_of_lt b0
          have b2 : b ≠ (s.heap.push (emptyS w)).objs.size := by
            rw [Heap.size_push]; exact Nat.ne_of_lt (Nat.lt_succ_of_lt b0)
          exact moved.heap b o (by simp only [List.mem_cons, List.mem_singleton, List.not_mem_nil, or_false, not_or]; exact ⟨b1, b2⟩) (Heap.get?_push_of_some _ (Heap.get?_push_of_some _ e))

      · cases res2 with
        | error e => exact ans2
        | ok fl₂ =>
          cases fl₂ with
          | ret r =>
            obtain ⟨rfl, hp1, tk, c1, rfl, set1, cnt1, kept1⟩ := ans2
            repeat (any_goals (first | assumption | wp_step))
            exact fin _ _ _ set1 cnt1 kept1
          | _ => exact ans2.elim
    | _ => exact ans.elim

end
end PL

set_option autoImplicit false
set_option linter.all false
set_option Elab.async false
set_option maxRecDepth 100000
set_option maxHeartbeats 1000000
/-! PL17: sets of ints: their size, their members in order; isinstance; lists of ranges. -/
namespace PL
open PySem PySem.Spec PyProof.Rows L2
/-! ### rising lists -/
theorem ins_mem {x z : Int} : ∀ {l : List Int}, z ∈ insI x l ↔ z = x ∨ z ∈ l
  | [] => by simp [insI]
  | y :: l => by
    rw [insI]
    split
    · simp
    · split
      · rename_i h; subst h; simp
      · rw [List.mem_cons, ins_mem, List.mem_cons]
        constructor
        · rintro (h | h | h)
          · exact .inr (.inl h)
          · exact .inl h
          · exact .inr (.inr h)
        · rintro (h | h | h)
          · exact .inr (.inl h)
          · exact .inl h
          · exact .inr (.inr h)
theorem ins_rise {x : Int} : ∀ {l : List Int}, l.Pairwise (· < ·) → (insI x l).Pairwise (· < ·)
  | [], _ => by simp [insI]
  | y :: l, h => by
    obtain ⟨h1, h2⟩ := List.pairwise_cons.mp h
    rw [insI]
    split
    · rename_i hx
      refine List.pairwise_cons.mpr ⟨fun z hz => ?_, h⟩
      rcases List.mem_cons.mp hz with rfl | hz
      · exact hx
      · have := h1 z hz; omega
    · split
      · exact h
      · refine List.pairwise_cons.mpr ⟨fun z hz => ?_, ins_rise h2⟩
        rcases ins_mem.mp hz with rfl | hz
        · omega
        · exact h1 z hz
theorem uset_mem {z : Int} : ∀ {l : List Int}, z ∈ usetI l ↔ z ∈ l
  | [] => Iff.rfl
  | x :: l => by rw [usetI, ins_mem, uset_mem, List.mem_cons]
theorem uset_rise : ∀ {l : List Int}, (usetI l).Pairwise (· < ·)
  | [] => List.Pairwise.nil
  | x :: l => ins_rise uset_rise
theorem rise_eq : ∀ {l m : List Int}, l.Pairwise (· < ·) → m.Pairwise (· < ·) → (∀ z, z ∈ l ↔ z ∈ m) → l = m
  | [], [], _, _, _ => rfl
  | [], y :: m, _, _, h => absurd ((h y).mpr List.mem_cons_self) (by simp)
  | x :: l, [], _, _, h => absurd ((h x).mp List.mem_cons_self) (by simp)
  | x :: l, y :: m, hl, hm, h => by
    obtain ⟨l1, l2⟩ := List.pairwise_cons.mp hl
    obtain ⟨m1, m2⟩ := List.pairwise_cons.mp hm
    have e : x = y := by
      rcases List.mem_cons.mp ((h x).mp List.mem_cons_self) with e | e
      · exact e
      · rcases List.mem_cons.mp ((h y).mpr List.mem_cons_self) with e2 | e2
        · exact e2.symm
        · have a1 := m1 x e
          have a2 := l1 y e2
          omega
    subst e
    rw [rise_eq l2 m2 fun z => ⟨fun hz => ?_, fun hz => ?_⟩]
    · rcases List.mem_cons.mp ((h z).mp (List.mem_cons_of_mem _ hz)) with e | e
      · have := l1 z hz; omega
      · exact e
    · rcases List.mem_cons.mp ((h z).mpr (List.mem_cons_of_mem _ hz)) with e | e
      · have := m1 z hz; omega
      · exact e
theorem nodup_len : ∀ {l m : List Int}, l.Nodup → m.Nodup → (∀ z, z ∈ l → z ∈ m) → l.length ≤ m.length
  | [], m, _, _, _ => Nat.zero_le _
  | x :: l, m, hl, hm, h => by
    obtain ⟨l1, l2⟩ := List.nodup_cons.mp hl
    have hx := h x List.mem_cons_self
    have := nodup_len (l := l) (m := m.erase x) l2 (hm.erase x) fun z hz => (List.Nodup.mem_erase_iff hm).mpr ⟨fun e => l1 (e ▸ hz), h z (List.mem_cons_of_mem _ hz)⟩
    rw [List.length_erase_of_mem hx] at this
    have := List.length_pos_of_mem hx
    rw [List.length_cons]
    omega
theorem ins_len {x : Int} : ∀ {l : List Int}, (insI x l).length ≤ l.length + 1
  | [] => Nat.le_refl _
  | y :: l => by
    rw [insI]
    split
    · exact Nat.le_refl _
    · split
      · exact Nat.le_succ _
      · rw [List.length_cons, List.length_cons]; exact Nat.succ_le_succ ins_len
theorem uset_len : ∀ {l : List Int}, (usetI l).length ≤ l.length
  | [] => Nat.le_refl _
  | x :: l => Nat.le_trans ins_len (Nat.succ_le_succ uset_len)
theorem rise_nodup {l : List Int} (h : l.Pairwise (· < ·)) : l.Nodup := h.imp fun {a b} h => by omega
section
variable {X : Cx} {Wx : WX} {e : Expr} {fr : PL.Env → Out (List Res)} {p p2 q pos : Pos}
theorem set_card {w : World} {h : Heap} {a : Addr} {ns : List Int} {c : Nat} (R : SetR w h a (fun j => decide (j ∈ ns)) c) : c = (usetI ns).length := by
  obtain ⟨o, es, ep, t, ho, hex, hd, g, nd, hm, hb, hf, hn, hr, hl⟩ := R
  have l1 : (es.toList.map keyOf).length = c := by rw [List.length_map, Array.length_toList]; exact hn
  have a1 := nodup_len nd (rise_nodup (uset_rise (l := ns))) fun z hz => uset_mem.mpr (by simpa using (hm z).mpr hz)
  have a2 := nodup_len (rise_nodup (uset_rise (l := ns))) nd fun z hz => (hm z).mp (by simpa using uset_mem.mp hz)
  omega
theorem onlyL_some {f : List PyData → Option Res} {d : PyData} {r : Res} (h : onlyL f d = some r) : ∃ xs, d = .list xs ∧ f xs = some r := by
  cases d with
  | list xs => exact ⟨xs, rfl, h⟩
  | _ => cases h
theorem lenset_some {xs : List PyData} {r : Res} (h : lensetL xs = some r) : ∃ ns, ints? xs = some ns ∧ ns.length < 4000 ∧ r = .val (.int (usetI ns).length) := by
  unfold lensetL at h
  cases e : ints? xs with
  | none => rw [e] at h; cases h
  | some ns =>
    rw [e] at h
    obtain ⟨h1, h2⟩ := ite_some h
    exact ⟨ns, rfl, by simpa using h1, h2.symm⟩
theorem sortedset_some {xs : List PyData} {r : Res} (h : sortedsetL xs = some r) : ∃ ns, ints? xs = some ns ∧ ns.length < 4000 ∧ (usetI ns).length < 64 ∧ r = .fresh (.list ((usetI ns).map .int)) := by
  unfold sortedsetL at h
  cases e : ints? xs with
  | none => rw [e] at h; cases h
  | some ns =>
    rw [e] at h
    obtain ⟨h1, h2⟩ := ite_some h
    rw [Bool.and_eq_true] at h1
    exact ⟨ns, rfl, of_decide_eq_true h1.1, of_decide_eq_true h1.2, h2.symm⟩
theorem rp_ints {K : PySem.W.Frag} {Y : Addr → Prop} {H : Hp} : ∀ ns : List Int, RpA K Y H (ns.map V.int) (ns.map PyData.int)
  | [] => .nil
  | n :: ns => .cons (.int n) (rp_ints ns)
/-- set(x), x a list of ints; then what is done with it -/
theorem set_run {ns : List Int} {pins : List (Addr × Obj)} {σ : L2.St} {H : Hp} {s : Shared} {Y : Addr → Prop} {v : V} {u : Value} {xs : List PyData} {R : Value → Shared → Prop} (ok : XOk X) (I : L2.Inv X pins σ H s) (r : RelV v u) (o : Op X.K Y H v (.list xs)) (hi : ints? xs = some ns) (hl : ns.length < 4000)
    (fin : ∀ (s2 : Shared) (a : Addr), SetR X.w s2.heap a (fun j => decide (j ∈ ns)) (usetI ns).length → L2.Inv X pins σ H s2 → R (.ref a) s2) : wpAny (model X.prog X.w) X.A (call (.type "set") [u]) R X.xe s := by
  obtain ⟨a, vs, rfl, h, rr⟩ := o.list
  cases r
  obtain ⟨its, rv, pl, z⟩ := I.list h
  rw [ints_vals hi rr] at rv
  refine call_set_lst ns (I.ok.hd ok.calm) pl.isList (by simpa using rv.ints) (by unfold scanBound; omega) fun h' tk c R' hc kp => ?_
  have ec := set_card R'
  subst ec
  exact fin { s with heap := h', toks := tk } _ R' (I.kept kp)
theorem se_lenset (ok : XOk X) (hg : Gl X "len") (hm : X.mg "len" = none) (hg2 : Gl X "set") (hm2 : X.mg "set" = none) (ha : SA X Wx [e] fr) (hs : unstar e = true) :
    SE X Wx (.Call (.Name "len" p) [.Call (.Name "set" p2) [e] [] q] [] pos) (fun ρ => bind (fr ρ) fun rs ρ1 => biR .lenset rs ρ1) := by
  refine ⟨fun pins s σ H Q I ⟨B, Z, ρ, C, h⟩ => ?_⟩
  refine Call_ (ld_blt I hg hm PySem.boot_len (PyProof.Rows.callWith_builtin1 (PyProof.Rows.args_cons (Call_ (ld_blt I hg2 hm2 PyProof.Rows.boot_set (PyProof.Rows.callWith_type1 (thn (ha.run q pins s σ H _ I (bi_run C h)) fun us s1 ⟨vs, H1, I1, r1, q1⟩ => ?_) (star_cons hs) rfl))) rfl) rfl rfl))
  obtain ⟨Y, ds, r, t, ho, hb, qq⟩ := q1
  obtain ⟨d, rfl, hb⟩ := one_some hb
  obtain ⟨v, rfl, o⟩ := ho.one
  obtain ⟨xs, rfl, hb⟩ := onlyL_some hb
  obtain ⟨ns, hi, hl, rfl⟩ := lenset_some hb
  obtain ⟨u, rfl, ru⟩ := L2.Vals.one r1
  refine set_run ok I1 ru o hi hl fun s2 a R I2 => PyProof.Rows.args_nil ?_
  obtain ⟨o, es, ep, t, ho, hex, hd, g, nd, hm, hb, hf, hn, hr, hl⟩ := R
  have := uset_len (l := ns)
  exact call_len_set ho hex hd hf (by omega) ⟨.int (usetI ns).length, H1, I2.tok _, ⟨_, by rw [hn]⟩, qq _ _ (new_int _)⟩
theorem se_sortedset (ok : XOk X) (hg : Gl X "sorted") (hm : X.mg "sorted" = none) (hg2 : Gl X "set") (hm2 : X.mg "set" = none) (ha : SA X Wx [e] fr) (hs : unstar e = true) :
    SE X Wx (.Call (.Name "sorted" p) [.Call (.Name "set" p2) [e] [] q] [] pos) (fun ρ => bind (fr ρ) fun rs ρ1 => biR .sortedset rs ρ1) := by
  refine ⟨fun pins s σ H Q I ⟨B, Z, ρ, C, h⟩ => ?_⟩
  refine Call_ (ld_blt I hg hm PyProof.Rows.boot_sorted (PyProof.Rows.callWith_builtin1 (PyProof.Rows.args_cons (Call_ (ld_blt I hg2 hm2 PyProof.Rows.boot_set (PyProof.Rows.callWith_type1 (thn (ha.run q pins s σ H _ I (bi_run C h)) fun us s1 ⟨vs, H1, I1, r1, q1⟩ => ?_) (star_cons hs) rfl))) rfl) rfl rfl))
  obtain ⟨Y, ds, r, t, ho, hb, qq⟩ := q1
  obtain ⟨d, rfl, hb⟩ := one_some hb
  obtain ⟨v, rfl, o⟩ := ho.one
  obtain ⟨xs, rfl, hb⟩ := onlyL_some hb
  obtain ⟨ns, hi, hl, hl2, rfl⟩ := sortedset_some hb
  obtain ⟨u, rfl, ru⟩ := L2.Vals.one r1
  refine set_run ok I1 ru o hi hl fun s2 a R I2 => PyProof.Rows.args_nil ?_
  refine sorted_set R (I2.ok.hd ok.calm) hl2 fun s3 pa out c ms k1 g1 o1 hz hc a1 a2 a3 a4 => ?_
  have em : ms = usetI ns := rise_eq a2 uset_rise fun z => by rw [a3, uset_mem]; simp
  subst em
  have fresh : H1 pa = none := I2.hok.fresh hz
  have size : ((usetI ns).map V.int).length ≤ sizeLine := by rw [List.length_map, sizeLine_eq]; omega
  have J : L2.Inv X pins σ (upd H1 pa (.lst ((usetI ns).map V.int))) { s2 with heap := s3.heap, gens := s3.gens, drawn := s3.drawn, toks := s3.toks } :=
    I2.call (ch := []) (Un.laid k1 hz fresh) (I2.hok.laid k1 hz ⟨size, out.toList, c, vals_of_ints a1, hc⟩) (by rw [g1]; exact I2.bare) (fun _ z => nomatch z)
  have e3 : s3 = { s2 with heap := s3.heap, gens := s3.gens, drawn := s3.drawn, toks := s3.toks } := by
    cases s3; cases s2; cases o1; rfl
  rw [e3]
  exact ⟨.ref pa, _, J, rfl, qq _ _ (new_lst fresh (rp_ints _))⟩
/-! ### isinstance -/
def tyN : Ty → String
  | .int => "int"
  | .bool => "bool"
  | .str => "str"
  | .tuple => "tuple"
  | .list => "list"
  | .dict => "dict"
def tyS (T : Ty) : Str := Str.ofString (tyN T)
theorem boot_ty (T : Ty) : bootBuiltins (tyS T) = some (.type (tyN T)) ∧ tyS T ≠ "__name__" ∧ (tyS T == ("__debug__" : Str)) = false := by
  cases T <;> exact ⟨by decide +kernel, by decide, by decide⟩
theorem call_isT (T : Ty) : CallR X (.builtin "isinstance") (fun vs H Q => ∃ (Y : Addr → Prop) (x : V) (d : PyData), vs = [x, .ty (tyN T)] ∧ Op X.K Y H x d ∧ Q (.bl (isInst d T)) H) := by
  rintro pins s σ H vs us Q I rv ⟨Y, x, d, rfl, o, q⟩
  obtain ⟨u, w, rfl, r1, r2⟩ := L2.Vals.two rv
  cases r2
  obtain ⟨as, rd⟩ := o.reads I r1
  cases T
  · exact W.isinstance_int_data rd fun tk _ => ⟨.bl _, H, I.tok _, rfl, q⟩
  · exact W.isinstance_bool_data rd fun tk _ => ⟨.bl _, H, I.tok _, rfl, q⟩
  · exact W.isinstance_str_data rd fun tk _ => ⟨.bl _, H, I.tok _, rfl, q⟩
  · exact W.isinstance_tuple_data rd fun tk _ => ⟨.bl _, H, I.tok _, rfl, q⟩
  · exact W.isinstance_list_data rd fun tk _ => ⟨.bl _, H, I.tok _, rfl, q⟩
  · exact W.isinstance_dict_data rd fun tk _ => ⟨.bl _, H, I.tok _, rfl, q⟩
theorem se_isinst {fa : PL.Env → Out Res} (T : Ty) (hg : Gl X "isinstance") (hm : X.mg "isinstance" = none) (hg2 : Gl X (tyS T)) (hm2 : X.mg (tyS T) = none) (ha : SE X Wx e fa) (hs : unstar e = true) :
    SE X Wx (.Call (.Name "isinstance" p) [e, .Name (tyS T) p2] [] pos) (fun ρ => bind (bind (fa ρ) fun r ρ1 => bind (.ok [] ρ1) fun rs ρ2 => .ok (r :: rs) ρ2) fun rs ρ1 => biR (.isinst T) rs ρ1) := by
  obtain ⟨b1, b2, b3⟩ := boot_ty T
  refine pe_mono (pe_callB (call_isT T) hg hm PyProof.Rows.boot_isinstance (pa_cons ha (pa_cons (pe_bltn (v := .ty (tyN T)) hg2 hm2 b1 rfl b2 b3) pa_nil) (star_cons hs)) (by decide) (by decide) (star_cons hs) rfl) fun σ H Q ⟨B, Z, ρ, C, h⟩ => ?_
  dsimp only at h
  rw [bind_bind] at h
  refine sub_run C h (fun _ _ z => z) fun r ρ1 x H1 P1 h1 => ?_
  have h1 : tOut (biR (.isinst T) [r] ρ1) _ _ := h1
  unfold biR peeks at h1
  cases e1 : peek ρ1 r with
  | none => rw [e1] at h1; exact h1.elim
  | some d =>
    rw [e1] at h1
    exact ⟨Fb Z ρ1 σ, x, d, rfl, P1.res.held.op P1.conc e1, h1 _ H1 (P1.x.post (post_val P1.conc (.bl _)))⟩
/-! ### list(range(..)) -/
theorem lrange_some {a b : Int} {xs : List PyData} (h : lrange a b = some xs) : RgOk a b ∧ xs = (List.range (b - a).toNat).map fun (k : Nat) => .int (a + (k : Int)) := by
  unfold lrange at h
  obtain ⟨h1, h2⟩ := ite_some h
  rw [Bool.and_eq_true, Bool.and_eq_true] at h1
  have l1 : (b - a).toNat ≤ 1000000 := of_decide_eq_true h1.1.1
  have l2 : a.natAbs ≤ 1000000 := of_decide_eq_true h1.1.2
  have l3 : b.natAbs ≤ 1000000 := of_decide_eq_true h1.2
  exact ⟨⟨by omega, by omega, by omega, by omega, by omega⟩, h2.symm⟩
theorem rp_range {K : PySem.W.Frag} {Y : Addr → Prop} {H : Hp} (a b : Int) : RpA K Y H (rgV a b) ((List.range (b - a).toNat).map fun (k : Nat) => PyData.int (a + (k : Int))) := by
  unfold rgV
  have key : ∀ l : List Nat, RpA K Y H (l.map fun i => V.int (a + (i : Nat))) (l.map fun (k : Nat) => PyData.int (a + (k : Int))) := fun l => by
    induction l with
    | nil => exact .nil
    | cons x l ih => exact .cons (.int _) ih
  exact key _
section
variable {a b : Expr} {fa fb : PL.Env → Out Res}
theorem bi_rng {B Z : Addr → Prop} {ρ ρ1 : PL.Env} {σ : L2.St} {H H1 : Hp} {rs : List Res} {vs : List V} {Q : VK}  (P : PostX X.K B Z ρ ρ1 σ H H1) (hh : HeldA X.K Z ρ1 σ H1 vs rs)
    (h : tOut (biR .range rs ρ1) (fun r ρ' => ∀ v H', Post X.K B Z ρ ρ' σ H H' v r → Q v H') (Gx X.K Wx B Z ρ σ H)) :
    ∃ lo hi, (vs = [.int hi] ∧ lo = 0 ∨ vs = [.int lo, .int hi]) ∧ RgOk lo hi ∧ ∀ q, H1 q = none → Q (.ref q) (upd H1 q (.lst (rgV lo hi))) := by
  unfold biR at h
  cases e1 : peeks ρ1 rs with
  | none => rw [e1] at h; exact h.elim
  | some ds =>
    rw [e1] at h
    obtain ⟨r, e2, q⟩ := h.ofO
    have oa := hh.op P.conc e1
    have e2 : (rangeL (ints? ds)).map (fun ys => Res.fresh (.list ys)) = some r := e2
    obtain ⟨xs, e3, er⟩ := Option.map_eq_some_iff.mp e2
    subst er
    cases e4 : ints? ds with
    | none => rw [e4] at e3; cases e3
    | some ns =>
      rw [e4] at e3
      have ev := ints_ops e4 oa
      match ns, ev, e3 with
      | [n], ev, e3 =>
        obtain ⟨k, ex⟩ := lrange_some (a := 0) (b := n) e3
        subst ex
        exact ⟨0, n, .inl ⟨ev, rfl⟩, k, fun z hz => q _ _ (P.post (post_new P.conc (new_lst hz (rp_range 0 n))))⟩
      | [x, y], ev, e3 =>
        obtain ⟨k, ex⟩ := lrange_some (a := x) (b := y) e3
        subst ex
        exact ⟨x, y, .inr ev, k, fun z hz => q _ _ (P.post (post_new P.conc (new_lst hz (rp_range x y))))⟩
      | [], _, e3 => cases e3
      | _ :: _ :: _ :: _, _, e3 => cases e3
theorem se_lrange1 (ok : XOk X) (hg : Gl X "list") (hm : X.mg "list" = none) (hg2 : Gl X "range") (hm2 : X.mg "range" = none) (ha : SE X Wx a fa) (hs : unstar a = true) :
    SE X Wx (.Call (.Name "list" p) [.Call (.Name "range" p2) [a] [] q] [] pos) (fun ρ => bind (bind (fa ρ) fun r ρ1 => bind (.ok [] ρ1) fun rs ρ2 => .ok (r :: rs) ρ2) fun rs ρ1 => biR .range rs ρ1) := by
  refine pe_mono (pe_listRg ok.calm hg hm (prg_1 hg2 hm2 ha (star_cons hs)) rfl) fun σ H Q ⟨B, Z, ρ, C, h⟩ => ?_
  dsimp only at h
  rw [bind_bind] at h
  refine sub_run C h (fun _ _ z => z) fun r ρ1 x H1 P1 h1 => ?_
  obtain ⟨lo, hi, hv, k, f⟩ := bi_rng P1.x (.cons P1.res.held .nil) h1
  rcases hv with ⟨ev, rfl⟩ | ev
  · cases ev
    exact ⟨hi, rfl, k, f⟩
  · cases ev
theorem se_lrange2 (ok : XOk X) (hg : Gl X "list") (hm : X.mg "list" = none) (hg2 : Gl X "range") (hm2 : X.mg "range" = none) (ha : SE X Wx a fa) (hb : SE X Wx b fb) (hs : unstar a = true) (hs2 : unstar b = true) :
    SE X Wx (.Call (.Name "list" p) [.Call (.Name "range" p2) [a, b] [] q] [] pos) (fun ρ => bind (bind (fa ρ) fun r ρ1 => bind (bind (fb ρ1) fun r ρ1 => bind (.ok [] ρ1) fun rs ρ2 => .ok (r :: rs) ρ2) fun rs ρ2 => .ok (r :: rs) ρ2) fun rs ρ1 => biR .range rs ρ1) := by
  refine pe_mono (pe_listRg ok.calm hg hm (prg_2 hg2 hm2 ha hb (star_cons hs) (star_cons hs2) (star_any (by rw [List.all_cons, hs2]; rfl))) rfl) fun σ H Q ⟨B, Z, ρ, C, h⟩ => ?_
  dsimp only at h
  rw [bind_bind] at h
  refine sub_run C h (fun _ _ z => z) fun r ρ1 x H1 P1 h1 => ?_
  rw [bind_bind, bind_bind] at h1
  refine sub_run P1.conc h1 (fun c ρ' z => z.step P1.x) fun r2 ρ2 y H2 P2 h2 => ?_
  obtain ⟨lo, hi, hv, k, f⟩ := bi_rng (P1.x.seq P2.x) (.cons (P1.res.held.move P2.x) (.cons P2.res.held .nil)) h2
  rcases hv with ⟨ev, rfl⟩ | ev
  · cases ev
  · cases ev
    exact ⟨lo, hi, rfl, rfl, k, f⟩
theorem bi_trng {B Z : Addr → Prop} {ρ ρ1 : PL.Env} {σ : L2.St} {H H1 : Hp} {rs : List Res} {vs : List V} {Q : VK}  (P : PostX X.K B Z ρ ρ1 σ H H1) (hh : HeldA X.K Z ρ1 σ H1 vs rs)
    (h : tOut (biR .ranget rs ρ1) (fun r ρ' => ∀ v H', Post X.K B Z ρ ρ' σ H H' v r → Q v H') (Gx X.K Wx B Z ρ σ H)) :
    ∃ lo hi, (vs = [.int hi] ∧ lo = 0 ∨ vs = [.int lo, .int hi]) ∧ RgOk lo hi ∧ ∀ q, H1 q = none → Q (.ref q) (upd H1 q (.tup (rgV lo hi))) := by
  unfold biR at h
  cases e1 : peeks ρ1 rs with
  | none => rw [e1] at h; exact h.elim
  | some ds =>
    rw [e1] at h
    obtain ⟨r, e2, q⟩ := h.ofO
    have oa := hh.op P.conc e1
    have e2 : (rangeL (ints? ds)).map (fun ys => Res.val (.tuple ys)) = some r := e2
    obtain ⟨xs, e3, er⟩ := Option.map_eq_some_iff.mp e2
    subst er
    cases e4 : ints? ds with
    | none => rw [e4] at e3; cases e3
    | some ns =>
      rw [e4] at e3
      have ev := ints_ops e4 oa
      match ns, ev, e3 with
      | [n], ev, e3 =>
        obtain ⟨k, ex⟩ := lrange_some (a := 0) (b := n) e3
        subst ex
        exact ⟨0, n, .inl ⟨ev, rfl⟩, k, fun z hz => q _ _ (P.post (post_new P.conc (new_tup (fun a z => P.conc.fb z) hz (rp_range 0 n))))⟩
      | [x, y], ev, e3 =>
        obtain ⟨k, ex⟩ := lrange_some (a := x) (b := y) e3
        subst ex
        exact ⟨x, y, .inr ev, k, fun z hz => q _ _ (P.post (post_new P.conc (new_tup (fun a z => P.conc.fb z) hz (rp_range x y))))⟩
      | [], _, e3 => cases e3
      | _ :: _ :: _ :: _, _, e3 => cases e3
theorem se_trange1 (ok : XOk X) (hg : Gl X "tuple") (hm : X.mg "tuple" = none) (hg2 : Gl X "range") (hm2 : X.mg "range" = none) (ha : SE X Wx a fa) (hs : unstar a = true) :
    SE X Wx (.Call (.Name "tuple" p) [.Call (.Name "range" p2) [a] [] q] [] pos) (fun ρ => bind (bind (fa ρ) fun r ρ1 => bind (.ok [] ρ1) fun rs ρ2 => .ok (r :: rs) ρ2) fun rs ρ1 => biR .ranget rs ρ1) := by
  refine pe_mono (pe_tupRg ok.calm hg hm (prg_1 hg2 hm2 ha (star_cons hs)) rfl) fun σ H Q ⟨B, Z, ρ, C, h⟩ => ?_
  dsimp only at h
  rw [bind_bind] at h
  refine sub_run C h (fun _ _ z => z) fun r ρ1 x H1 P1 h1 => ?_
  obtain ⟨lo, hi, hv, k, f⟩ := bi_trng P1.x (.cons P1.res.held .nil) h1
  rcases hv with ⟨ev, rfl⟩ | ev
  · cases ev
    exact ⟨hi, rfl, k, f⟩
  · cases ev
theorem se_trange2 (ok : XOk X) (hg : Gl X "tuple") (hm : X.mg "tuple" = none) (hg2 : Gl X "range") (hm2 : X.mg "range" = none) (ha : SE X Wx a fa) (hb : SE X Wx b fb) (hs : unstar a = true) (hs2 : unstar b = true) :
    SE X Wx (.Call (.Name "tuple" p) [.Call (.Name "range" p2) [a, b] [] q] [] pos) (fun ρ => bind (bind (fa ρ) fun r ρ1 => bind (bind (fb ρ1) fun r ρ1 => bind (.ok [] ρ1) fun rs ρ2 => .ok (r :: rs) ρ2) fun rs ρ2 => .ok (r :: rs) ρ2) fun rs ρ1 => biR .ranget rs ρ1) := by
  refine pe_mono (pe_tupRg ok.calm hg hm (prg_2 hg2 hm2 ha hb (star_cons hs) (star_cons hs2) (star_any (by rw [List.all_cons, hs2]; rfl))) rfl) fun σ H Q ⟨B, Z, ρ, C, h⟩ => ?_
  dsimp only at h
  rw [bind_bind] at h
  refine sub_run C h (fun _ _ z => z) fun r ρ1 x H1 P1 h1 => ?_
  rw [bind_bind, bind_bind] at h1
  refine sub_run P1.conc h1 (fun c ρ' z => z.step P1.x) fun r2 ρ2 y H2 P2 h2 => ?_
  obtain ⟨lo, hi, hv, k, f⟩ := bi_trng (P1.x.seq P2.x) (.cons (P1.res.held.move P2.x) (.cons P2.res.held .nil)) h2
  rcases hv with ⟨ev, rfl⟩ | ev
  · cases ev
  · cases ev
    exact ⟨lo, hi, rfl, rfl, k, f⟩
end
end
end PL

set_option autoImplicit false
set_option linter.all false
set_option Elab.async false
set_option maxRecDepth 100000
set_option maxHeartbeats 1000000
/-! PD3: displays of dicts; update. -/
namespace PL
open PySem PySem.Spec PyProof.Rows L2
section
variable {X : Cx} {pins : List (Addr × Obj)} {σ : L2.St} {H : Hp} {s : Shared} {Y Y2 : Addr → Prop} {a : Addr} {ps : List DE} {kvs : List (PyData × PyData)}
theorem room8' (ok : XOk X) : (nestedKind X.prog X.w).room X.A := by
  have := ok.un
  show X.A.units + 8 < cLine
  omega
theorem d_dset {Q : Unit → Shared → Prop} {vk v : V} {u r : Value} {kd vd : PyData} (ok : XOk X) (D : DView X Y H a ps kvs) (I : L2.Inv X pins σ H s) (o : Rp X.K Y H vk kd) (rk : RelV vk u) (ov : Rp X.K Y H v vd) (rv : RelV v r)
    (hk : keysOk (kd :: kvs.map (·.1)) = true) (hl : kvs.length < 1000000) (hY : Y a) (h : ∀ ho ps' s', L2.Inv X pins σ (upd H a ho) s' → DView X Y (upd H a ho) a ps' (store kvs kd vd) → Q () s') :
    wpAny (model X.prog X.w) X.A (dictSet a u r) Q X.xe s := by
  obtain ⟨es0, ep0, _, _, _, h2, eH⟩ := D.sizes I
  have lp := paired_len D.pk
  have fin : ∀ (k : NestedKey) (h' : Heap) (es : Array DictEntry) (ep tk : Nat), nkOf kd = some k → h'.DictRaw a es ep → Heap.SameBut a s.heap h' → ((∀ p ∈ pput ps k vk v, ∃ d, nkOf d = some p.1) → Paired Ent (pput ps k vk v) es.toList) → Q () { s with heap := h', toks := tk } := by
    intro k h' es ep tk ek raw hs pe
    have K0 : Keeps (fun b => b = a) H (upd H a (DctO a es ep)) := Keeps.put rfl
    have K1 : Keeps Y H (upd H a (DctO a es ep)) := K0.mono fun b z => by rw [z]; exact hY
    have pk := pk_store (x := vk) ek o ov D.pk
    obtain ⟨b1, b2, b3⟩ := pkv_back pk
    refine h _ (pput ps k vk v) _ (d_write I (by rw [eH]; exact True.intro) hs (let ⟨q, e, _⟩ := raw; ⟨q, e⟩) (dct_ok raw)) ⟨⟨⟨es, ep, upd_same, pe (keys_src b1)⟩, b1, pput_nodup D.at'.nd, D.at'.sys, ?_⟩, b2.move K1 fun _ z => z, b3.move K1 fun _ z => z⟩
    have := pput_len ps k vk v
    omega
  have hsl : kvs.length ≤ sizeLine := by rw [sizeLine_eq]; omega
  rcases keysOk_cases hk with hh | hh
  · obtain ⟨i, rfl, rfl, hi⟩ := (Op.rp o).intKey rk (hh _ (List.mem_cons_self ..))
    obtain ⟨xs, dv, rx⟩ := D.viewI I fun d hd => hh d (List.mem_cons_of_mem _ hd)
    refine wpAny_dictSet_pairs (hsz := by rw [← paired_len rx, lp]; exact hsl) hi dv fun h' dv' hs => ?_
    obtain ⟨ob, es, ep, e1, e2, e3, e4, e5, e6⟩ := dv'
    exact fin (.num i) h' es ep _ (by rw [nkOf]) ⟨ob, e1, e2, e3⟩ hs fun _ => ent_ri (ri_put rv rx) e5 fun e he => e4 e (Array.mem_toList_iff.mp he)
  · obtain ⟨k, b, ek, rfl, rfl, hi⟩ := (Op.rp o).tupKey I rk (hh _ (List.mem_cons_self ..))
    obtain ⟨xs, dv, rx⟩ := D.viewT I fun d hd => hh d (List.mem_cons_of_mem _ hd)
    refine wpAny_dictSet_heap (hsz := by rw [← paired_len rx, lp]; exact hsl) (room8' ok) hi dv fun h' dv' hs => ?_
    obtain ⟨ob, es, ep, e1, e2, e3, e4, e5, e6⟩ := dv'
    refine fin k h' es ep _ ek ⟨ob, e1, e2, e3⟩ hs fun src => ?_
    rw [e4]
    exact ent_rx (rx_put rv rx) src
end
theorem own_dct0 {K : PySem.W.Frag} {Y : Addr → Prop} {H : Hp} {a : Addr} {ep : Nat} (hs : (a == sysModules) = false) : Own K Y (upd H a (DctO a #[] ep)) a (.dict []) :=
  ⟨[], ⟨⟨#[], ep, upd_same, .nil⟩, rfl, List.nodup_nil, hs, Nat.zero_le _⟩, .nil, .nil⟩
section
variable {X : Cx} {Wx : WX} {k v : Expr} {fk fv : PL.Env → Out Res} {pos : Pos}
theorem new_dct {pins : List (Addr × Obj)} {σ : L2.St} {H : Hp} {s : Shared} (I : L2.Inv X pins σ H s) : L2.Inv X pins σ (upd H s.heap.objs.size (DctO s.heap.objs.size #[] 0)) { s with heap := s.heap.push { cls := .type "dict", data := .dict #[] } } :=
  I.laid (t' := s.toks) (fun _ _ q => Heap.get?_push_of_some _ q) (Nat.le_refl _) (dct_ok ⟨_, Heap.get?_push_size _ rfl, ⟨rfl, rfl, rfl⟩, rfl⟩)
theorem big_sys {pins : List (Addr × Obj)} {σ : L2.St} {H : Hp} {s : Shared} (I : L2.Inv X pins σ H s) : (s.heap.objs.size == sysModules) = false := beq_eq_false_iff_ne.mpr (Nat.ne_of_gt I.big)
theorem se_dct0 : SE X Wx (.Dict [] [] pos) (fun ρ => .ok (.fresh (.dict [])) ρ) := by
  refine ⟨fun pins s σ H Q I ⟨B, Z, ρ, C, h⟩ => wpAny_Dict_empty ?_⟩
  have hn := I.hok.fresh (Nat.le_refl _)
  exact ⟨.ref _, _, new_dct I, rfl, h _ _ (post_new C ⟨_, rfl, hn, Keeps.new hn, own_dct0 (big_sys I)⟩)⟩
theorem se_dct1 (ok : XOk X) (hk : SE X Wx k fk) (hv : SE X Wx v fv) : SE X Wx (.Dict [some k] [v] pos) (fun ρ => bind (fk ρ) fun rk ρ1 => bind (PL.cold ρ1 rk) fun kd ρ2 => bind (fv ρ2) fun rv ρ3 => bind (PL.cold ρ3 rv) fun vd ρ4 => if keysOk [kd] = true then .ok (.fresh (.dict [(kd, vd)])) ρ4 else .stuck) := by
  refine ⟨fun pins s σ H Q I ⟨B, Z, ρ, C, h⟩ => wpAny_Dict_any rfl rfl (fun z => nomatch z) (show 1 ≤ 15 by decide) ?_⟩
  have hn := I.hok.fresh (Nat.le_refl _)
  have hsys := big_sys I
  have I1 := new_dct I
  generalize hD : s.heap.objs.size = D at *
  have k0 : Keeps NoM H (upd H D (DctO D #[] 0)) := Keeps.new hn
  have C1 : Conc X.K B (Plus D Z) ρ σ (upd H D (DctO D #[] 0)) := C.bar hn (by rw [upd_same]; exact fun z => nomatch z) k0
  have low : ∀ {ρ' : PL.Env} {H' : Hp}, PostX X.K B (Plus D Z) ρ ρ' σ (upd H D (DctO D #[] 0)) H' → PostX X.K B Z ρ ρ' σ H H' := fun P => ⟨k0.any.trans P.keep, P.sl, P.conc.less fun _ z => .inr z⟩
  show wpAny _ _ (evalPairs [(eval k X.env, do let x ← eval v X.env; standAt pos; pure x)]) _ _ _
  unfold evalPairs
  refine wpAny_bind (thn (hk.run pins _ σ _ (fun x H2 => ∃ kd ρ2, PostX X.K B (Plus D Z) ρ ρ2 σ (upd H D (DctO D #[] 0)) H2 ∧ Rp X.K (Fb (Plus D Z) ρ2 σ) H2 x kd ∧
      tOut (bind (fv ρ2) fun rv ρ3 => bind (PL.cold ρ3 rv) fun vd ρ4 => if keysOk [kd] = true then .ok (.fresh (.dict [(kd, vd)])) ρ4 else .stuck) (fun r ρ' => ∀ v H', Post X.K B Z ρ ρ' σ H H' v r → Q v H') (Gx X.K Wx B Z ρ σ H)) I1 ?_) fun u1 s2 ⟨x, H2, I2, rx, kd, ρ2, P2, rp, h2⟩ => ?_)
  · refine sub_run C1 h (fun c ρ' g H' P => g H' (low P)) fun r ρ1 x H2 P1 h1 => cold_run P1.res h1 fun kd ρ2 P2 rp h2 => ⟨kd, ρ2, P1.x.seq P2, rp, h2⟩
  refine wpAny_bind (wpAny_holding (wpAny_bind (thn (hv.run pins _ σ _ (fun y H3 => ∃ vd ρ4, PostX X.K B (Plus D Z) ρ2 ρ4 σ H2 H3 ∧ Rp X.K (Fb (Plus D Z) ρ4 σ) H3 y vd ∧
      tOut (if keysOk [kd] = true then .ok (.fresh (.dict [(kd, vd)])) ρ4 else .stuck) (fun r ρ' => ∀ v H', Post X.K B Z ρ ρ' σ H H' v r → Q v H') (Gx X.K Wx B Z ρ σ H)) I2 ?_) fun u2 s3 ⟨y, H3, I3, ry, vd, ρ4, P4, rq, h4⟩ => ?_)))
  · refine sub_run P2.conc h2 (fun c ρ' g H' P => g H' (low (P2.seq P))) fun r ρ1 x H2 P1 h1 => cold_run P1.res h1 fun vd ρ4 P4 rq h4 => ⟨vd, ρ4, P1.x.seq P4, rq, h4⟩
  refine wpAny_bind (wpAny_standAt (wpAny_pure ?_))
  refine wpAny_bind (wpAny_holding ?_)
  unfold evalPairs
  refine wpAny_pure (wpAny_pure ?_)
  by_cases hz : keysOk [kd] = true
  · rw [if_pos hz] at h4
    have PX := P2.seq P4
    have hH3 : H3 D = some (DctO D #[] 0) := PX.keep.old D _ upd_same (C1.nhot (.inl rfl))
    have DV : DView X (Fb (Plus D Z) ρ4 σ) H3 D [] [] := ⟨⟨⟨#[], 0, hH3, .nil⟩, rfl, List.nodup_nil, hsys, Nat.zero_le _⟩, .nil, .nil⟩
    unfold storeAll
    show wpAny _ _ (forIn [(u1, u2)] PUnit.unit _) _ _ _
    rw [List.forIn_cons]
    refine wpAny_bind (wpAny_bind (d_dset (Y := Fb (Plus D Z) ρ4 σ) ok DV I3 (rp.move (keep_fb P4.keep) (fb_sub P4.sub)) rx rq ry hz (by decide) (.inl (.inl rfl)) fun ho ps' s' I' DV' => ?_))
    refine wpAny_pure ?_
    show wpAny _ _ (forIn [] PUnit.unit _) _ _ _
    rw [List.forIn_nil]
    refine wpAny_pure ⟨.ref D, _, I', rfl, h4 _ _ ?_⟩
    have k3 : Keeps (HotAt ρ σ) H H3 := k0.any.trans PX.keep
    have kD : Keeps (HotAt ρ σ) H (upd H3 D ho) := ⟨fun b o e n => by
      rw [upd_ne (fun z => by rw [z, hn] at e; cases e)]; exact k3.old b o e n, fun b z => by
      by_cases q : b = D
      · rw [q, upd_same]; exact fun z => nomatch z
      · rw [upd_ne q]; exact k3.there b z⟩
    have Cf := PX.conc.put (o := ho) (.inl rfl : Plus D Z D)
    exact ⟨kD, PX.sl, ⟨D, rfl, fun z => C.tr D z hn, fun z => C.trB D z hn, Cf, ⟨ps', DV'.at', DV'.ra, DV'.rb⟩⟩, fun _ b _ e => by cases e; exact hn⟩
  · rw [if_neg hz] at h4
    exact h4.elim
end
theorem dct_ev {G : Ctx} (k v : Ex) (ρ : PL.Env) : bind (bind (ev G k ρ) fun r ρ1 => bind (PL.cold ρ1 r) fun d ρ2 => bind (.ok [] ρ2) fun ds ρ3 => .ok (d :: ds) ρ3) (fun ds ρ1 => bind (bind (ev G v ρ1) fun r ρ1 => bind (PL.cold ρ1 r) fun d ρ2 => bind (.ok [] ρ2) fun ds ρ3 => .ok (d :: ds) ρ3) fun es ρ2 => dctR ds es ρ2) =
    bind (ev G k ρ) fun rk ρ1 => bind (PL.cold ρ1 rk) fun kd ρ2 => bind (ev G v ρ2) fun rv ρ3 => bind (PL.cold ρ3 rv) fun vd ρ4 => if keysOk [kd] = true then .ok (.fresh (.dict [(kd, vd)])) ρ4 else .stuck := by
  cases ev G k ρ with
  | ok r ρ1 =>
    dsimp only [PL.bind]
    cases PL.cold ρ1 r with
    | ok d ρ2 =>
      dsimp only [PL.bind]
      cases ev G v ρ2 with
      | ok r ρ1 =>
        dsimp only [PL.bind]
        cases PL.cold ρ1 r with
        | ok d ρ2 => rfl
        | exc c ρ2 => rfl
        | stuck => rfl
      | exc c ρ1 => rfl
      | stuck => rfl
    | exc c ρ2 => rfl
    | stuck => rfl
  | exc c ρ1 => rfl
  | stuck => rfl
/-! ### d.update(e) -/
def pputs (ps qs : List DE) : List DE := qs.foldl (fun acc q => pput acc q.1 q.2.1 q.2.2) ps
theorem rx_puts : ∀ {qs : List DE} {ys : List (NestedKey × Addr × Value)}, Paired RX qs ys → ∀ {ps : List DE} {xs : List (NestedKey × Addr × Value)}, Paired RX ps xs → Paired RX (pputs ps qs) (storedAllH xs ys)
  | _, _, .nil, _, _, h => h
  | q :: qs, y :: ys, .cons r t, ps, xs, h => by
    have := rx_puts t (rx_put (k := q.1) (b := y.2.1) r.2.2 h)
    unfold pputs at this ⊢
    rw [List.foldl_cons]
    rw [← r.2.1, r.1] at this
    rw [r.1]
    exact this
theorem pk_puts {K : PySem.W.Frag} {Y : Addr → Prop} {H : Hp} : ∀ {qs : List DE} {more : List (PyData × PyData)}, Paired (PKV K Y H) qs more → ∀ {ps : List DE} {kvs : List (PyData × PyData)}, Paired (PKV K Y H) ps kvs → Paired (PKV K Y H) (pputs ps qs) (stores kvs more)
  | _, _, .nil, _, _, h => h
  | q :: qs, m :: ms, .cons r t, ps, kvs, h => pk_puts t (pk_store r.1 r.2.1 r.2.2 h)
theorem pputs_nodup : ∀ {qs ps : List DE}, (ps.map (·.1)).Nodup → ((pputs ps qs).map (·.1)).Nodup
  | [], _, h => h
  | q :: qs, ps, h => pputs_nodup (qs := qs) (ps := pput ps q.1 q.2.1 q.2.2) (pput_nodup h)
theorem pputs_len : ∀ (qs ps : List DE), (pputs ps qs).length ≤ ps.length + qs.length
  | [], ps => Nat.le_refl _
  | q :: qs, ps => by
    have h1 := pputs_len qs (pput ps q.1 q.2.1 q.2.2)
    have h2 := pput_len ps q.1 q.2.1 q.2.2
    show (pputs (pput ps q.1 q.2.1 q.2.2) qs).length ≤ ps.length + (qs.length + 1)
    omega
def rUp (X : Cx) : V → List V → Hp → VK → Prop := fun x vs H Q => ∃ (Y : Addr → Prop) (a b : Addr) (ps qs : List DE) (kvs more : List (PyData × PyData)), x = .ref a ∧ vs = [.ref b] ∧ Y a ∧ ¬ Y b ∧ DView X Y H a ps kvs ∧ DView X Y H b qs more ∧
  (∀ d ∈ kvs.map (·.1), keyTup d = true) ∧ (∀ d ∈ more.map (·.1), keyTup d = true) ∧ kvs ≠ [] ∧ kvs.length + more.length ≤ 1000000 ∧ ∀ ho ps', DView X Y (upd H a ho) a ps' (stores kvs more) → Q .non (upd H a ho)
theorem mt_update {X : Cx} (ok : XOk X) : MtR X "dict.update" (rUp X) := by
  rintro pins s σ H x vs v us Q I rx rv ⟨Y, a, b, ps, qs, kvs, more, rfl, rfl, hY, nY, D, D2, t1, t2, ne, hl, q⟩
  cases rx
  obtain ⟨u, rfl, ru⟩ := L2.Vals.one rv
  cases ru
  obtain ⟨xs, dv, r1⟩ := D.viewT I t1
  obtain ⟨ys, dw, r2⟩ := D2.viewT I t2
  obtain ⟨es0, ep0, _, _, _, _, eH⟩ := D.sizes I
  have l1 := paired_len r1
  have l2 := paired_len r2
  have l3 := paired_len D.pk
  have l4 := paired_len D2.pk
  have hz : (1000000 : Nat) ≤ sizeLine := by rw [sizeLine_eq]; decide
  refine call_update_dictH (room8 ok) (fun z => nY (by rw [← z]; exact hY)) D2.at'.sys dv dw (.inl fun z => ne ?_) (by omega) fun h' dv' _ hs => ?_
  · rw [z] at l1
    exact List.length_eq_zero_iff.mp (by rw [← l3, l1]; rfl)
  · obtain ⟨ob, es, ep, e1, e2, e3, e4, e5, e6⟩ := dv'
    have raw : h'.DictRaw a es ep := ⟨ob, e1, e2, e3⟩
    have K1 : Keeps Y H (upd H a (DctO a es ep)) := Keeps.put hY
    have pk := pk_puts D2.pk D.pk
    obtain ⟨b1, b2, b3⟩ := pkv_back pk
    have pe : Paired Ent (pputs ps qs) es.toList := by
      rw [e4]
      exact ent_rx (rx_puts r2 r1) (keys_src b1)
    have := pputs_len qs ps
    refine ⟨.non, _, d_write (t' := s.toks) I (by rw [eH]; exact True.intro) hs ⟨ob, e1⟩ (dct_ok raw), rfl, q _ (pputs ps qs) ⟨⟨⟨es, ep, upd_same, pe⟩, b1, pputs_nodup D.at'.nd, D.at'.sys, by omega⟩, b2.move K1 fun _ z => z, b3.move K1 fun _ z => z⟩⟩
section
variable {X : Cx} {Wx : WX} {o e : Expr} {es : List Expr} {name : Str} {apos cpos : Pos} {fo : PL.Env → Out Res} {fc : PL.Env → Out (List PyData)} {id : String}
def tBMD (X : Cx) (r : V → List V → Hp → VK → Prop) (to : TE) (t : TA) : TE := fun σ H Q => to σ H fun x H1 => (∃ Y a ps kvs, x = .ref a ∧ DView X Y H1 a ps kvs) ∧ t σ H1 fun xs H2 => r x xs H2 Q
theorem pe_bmD {r : V → List V → Hp → VK → Prop} {to : TE} {t : TA} (slot : PySem.Slot "dict" name id) (hty : typeOf (.builtin id) = pure (.type "method_descriptor")) (hm : MtR X id r) (ho : PE X o to) (ha : PA X (e :: es) t)
    (hbase : attributeBase o name X.env (eval o X.env) = eval o X.env)
    (hfew : ((backTo cpos (starEach (e :: es) X.env)).all (fun x => !x.1) && (backToKw cpos (keywordEach [] X.env)).all (fun x => x.1.isSome)
      && decide ((e :: es).length + ([] : List Keyword).length + (if ([] : List Keyword).isEmpty then 0 else 1) < 30)) = true)
    (hline : (apos.endLine == cpos.line) = true) (hs : starEach (e :: es) X.env = (false, eval e X.env) :: starEach es X.env) (hplain : (backTo cpos (starEach es X.env)).any (·.1) = false) :
    PE X (.Call (.Attribute o name apos) (e :: es) [] cpos) (tBMD X r to t) := by
  refine ⟨fun pins s σ H Q I h => ?_⟩
  refine wpAny_Call_method_late hbase hfew hline rfl (thn (ho.run pins s σ H _ I h) fun v s1 ⟨x, H1, I1, r1, ty, q1⟩ => ?_)
  obtain ⟨Y, a, ps, kvs, rfl, D⟩ := ty
  cases r1
  obtain ⟨es1, ep1, hr, _⟩ := D.sizes I1
  have hT := hr.typeIs
  obtain ⟨ob, e1, e2, e3⟩ := hr
  refine ⟨"dict", id, PySem.F.plainAttrs_dict, slot, hty, hT, fun b z => by cases z; exact ⟨ob, e1, e2.2.1⟩, ?_⟩
  have hA := ha.run cpos pins s1 σ H1 _ I1 q1
  rw [hs] at hA ⊢
  refine Calls.callWith_builtin (by show (false || (backTo cpos (starEach es X.env)).any (·.1)) = false; rw [hplain] <;> rfl) (Calls.evalArgs_plain ?_)
  exact thn hA fun us s2 ⟨vs, H2, I2, r2, q2⟩ => hm pins s2 σ H2 (.ref a) vs _ us Q I2 rfl r2 q2
theorem few_of {es : List Expr} {cpos : Pos} : es.all unstar = true → (backTo cpos (starEach es X.env)).all (fun x => !x.1) = true := by
  induction es with
  | nil => intro _; rfl
  | cons a r ih =>
    intro h
    rw [List.all_cons, Bool.and_eq_true] at h
    rw [star_cons h.1]
    exact ih h.2
theorem recv_dct {m : Me} {ro : Res} {ρ : PL.Env} (hm : isMut m = true) (hu : isUpd m = true) (h : recvOk m ro ρ = true) : ∃ i io ds, ro = .ref i ∧ gets ρ i = .h io (.dict ds) := by
  unfold recvOk at h
  rw [if_pos hm] at h
  cases ro with
  | ref i =>
    dsimp only at h
    cases e : gets ρ i with
    | h io d =>
      rw [e] at h
      dsimp only at h
      cases d with
      | dict ds => exact ⟨i, io, ds, rfl, e⟩
      | list ds => rw [recvD, hu] at h; cases h
      | _ => cases h
    | _ => rw [e] at h; cases h
  | _ => cases h
theorem se_upd (ok : XOk X) (ho : SE X Wx o fo) (ha : SC X Wx (e :: es) fc)
    (hb : plainBase o = true) (hs : (e :: es).all unstar = true) (hn : decide ((e :: es).length < 30) = true) (hline : (apos.endLine == cpos.line) = true) :
    SE X Wx (.Call (.Attribute o "update" apos) (e :: es) [] cpos) (fun ρ => bind (fo ρ) fun ro ρ1 => if recvOk .update ro ρ1 then bind (fc ρ1) fun ds ρ2 => metR .update ro ds ρ2 else .stuck) := by
  have hs' := hs
  rw [List.all_cons, Bool.and_eq_true] at hs'
  refine pe_mono (pe_bmD PySem.F.slot_dict_update PySem.F.type_dict_update (mt_update ok) ho ha (plain_base hb) ?_ hline (star_cons hs'.1) (star_any hs'.2)) fun σ H Q ⟨B, Z, ρ, C, h⟩ => ?_
  · rw [few_of hs]
    show (true && true && decide ((e :: es).length + 0 + 0 < 30)) = true
    simpa using hn
  · refine sub_run C h (fun _ _ z => z) fun ro ρ1 x H1 P1 h1 => ?_
    by_cases hk : recvOk .update ro ρ1 = true
    · rw [if_pos hk] at h1
      obtain ⟨i, io, kvs0, rfl, e0⟩ := recv_dct rfl rfl hk
      obtain ⟨a, ea, n, nb, ps0, D01, D02, D03⟩ := P1.conc.hot i io _ (gets_some e0 (by intro z; cases z))
      have hv : σ[i]? = some (some x) := P1.res.1
      rw [hv] at ea
      cases ea
      refine ⟨⟨_, a, ps0, kvs0, rfl, D01, D02, D03⟩, sc_run P1.conc h1 (fun c ρ' z => z.step P1.x) fun ds ρ2 vs H2 P2 rp h2 => ?_⟩
      unfold metR at h2
      rw [if_pos (by rfl)] at h2
      dsimp only at h2
      cases e : gets ρ2 i with
      | h io d =>
        rw [e] at h2
        dsimp only at h2
        cases e2 : metM .update d ds with
        | none => rw [e2] at h2; exact h2.elim
        | some p =>
          obtain ⟨y, d'⟩ := p
          rw [e2] at h2
          have hs := gets_some e (by intro z; cases z)
          obtain ⟨a', e3, n, nb, ow⟩ := P2.conc.hot i io d hs
          rw [hv] at e3
          cases e3
          cases d with
          | dict kvs =>
            obtain ⟨ps, D1, D2, D3⟩ := ow
            match ds, rp, e2 with
            | [.dict more], rp, e2 =>
              have e2 : updD kvs more = some (y, d') := e2
              unfold updD at e2
              split at e2
              · rename_i hc
                cases e2
                simp only [Bool.and_eq_true, decide_eq_true_eq, Bool.not_eq_true', List.isEmpty_eq_false_iff, List.all_eq_true] at hc
                obtain ⟨v, rfl, r⟩ := rp.one'
                cases r with
                | @dct b qs _ nb2 rd ra rb =>
                  refine ⟨Fb Z ρ2 σ, a, b, ps, qs, kvs, more, rfl, rfl, .inr ⟨i, io, _, hs, hv⟩, nb2, ⟨D1, D2, D3⟩, ⟨rd, ra, rb⟩, hc.1.1.1, hc.1.1.2, hc.1.2, hc.2, fun ho ps' D' => ?_⟩
                  have ow2 : Own X.K (Fb Z ρ2 σ) (upd H2 a ho) a (.dict (stores kvs more)) := ⟨ps', D'.at', D'.ra, D'.rb⟩
                  have W := P2.conc.write hs hv ow2
                  exact h2 .non _ ((P1.x.seq (P2.seq W)).post (post_val W.conc .non))
              · cases e2
          | list xs => exact absurd e2 (by simp [metM])
          | _ => exact ow.elim
      | _ => rw [e] at h2; exact h2.elim
    · rw [if_neg hk] at h1
      exact h1.elim
end
end PL

set_option autoImplicit false
set_option linter.all false
set_option Elab.async false
set_option maxRecDepth 100000
set_option maxHeartbeats 1000000
/-! PD4: l.index(x). -/
namespace PL
open PySem PySem.Spec PyProof.Rows L2
def rIdx (X : Cx) : V → List V → Hp → VK → Prop := fun x vs H Q => ∃ (Y : Addr → Prop) (v : V) (d : PyData) (ds : List PyData) (j : Nat), vs = [v] ∧ Op X.K Y H x (.list ds) ∧ Op X.K Y H v d ∧ deepOk d = true ∧ deepOks ds = true ∧
  (ds.findIdx? fun y => PyData.eqv y d) = some j ∧ Q (.int (j : Int)) H
theorem mt_indexL {X : Cx} (ok : XOk X) : MtR X "list.index" (rIdx X) := by
  rintro pins s σ H x vs u us Q I rx rv ⟨Y, v, d, ds, j, rfl, ox, ov, h1, h2, hj, q⟩
  obtain ⟨w, rfl, rw'⟩ := L2.Vals.one rv
  obtain ⟨a, xs, rfl, hq, rr⟩ := ox.list
  cases rx
  obtain ⟨its, ri, ⟨⟨cls, dd, data, sls⟩, n, ho, hc, hdn, hdt⟩, hlen⟩ := I.list hq
  simp only at hc hdt
  subst hc hdt
  obtain ⟨as, h4⟩ := rr.readsAll I ri
  obtain ⟨bs, r1⟩ := ov.reads I rw'
  have p1 := deep_ok h1
  have p2 := deeps_ok h2
  have hun := ok.un
  have hmap : its.map (SeqAt.readOf s.heap) = ds := SeqAt.readsAll_map_plain ds its as p2.1 h4
  have hn : its.length = ds.length := by rw [← hmap, List.length_map]
  have hx : xs.length = its.length := ri.length
  obtain ⟨jl, jt, jn⟩ := List.findIdx?_eq_some_iff_getElem.mp hj
  have hsl := sizeLine_eq
  have at_ : ∀ (m : Nat) (hm : m < its.toArray.size) (hd : m < ds.length), SeqAt.readOf s.heap its.toArray[m] = ds[m] := fun m hm hd => by
    have hml : m < its.length := by simpa using hm
    have e : (its.map (SeqAt.readOf s.heap))[m]? = ds[m]? := by rw [hmap]
    rw [List.getElem?_map, List.getElem?_eq_getElem hml, List.getElem?_eq_getElem hd] at e
    have e := Option.some.inj e
    simpa using e
  have hj' : j < its.toArray.size := by rw [List.size_toArray]; omega
  refine call_meets PySem.F.slot_list_index ⟨_, ho, rfl⟩ PySem.F.entry_list_index (PySem.F.args_list_index_2 _ _)
    (SeqAt.list_indexAt a its.toArray n dd sls w (fun u => PyData.eqv (SeqAt.readOf s.heap u) d) j hj' (by omega) ?_ ?_) ⟨ho, SeqAt.items_plain (vs := its.toArray) (show ReadsAll s.heap its.toArray.toList ds as from h4) r1 p2.1 p1.1 ?_, ?_⟩
  · show PyData.eqv (SeqAt.readOf s.heap its.toArray[j]) d = true
    rw [at_ j hj' jl]
    exact jt
  · intro m hm hmj
    show PyData.eqv (SeqAt.readOf s.heap its.toArray[m]) d = false
    rw [at_ m hm (by omega)]
    simpa using jn m hmj
  · have := Nat.min_le_left (PyData.depthAll ds) d.depth
    omega
  · exact ⟨.int (j : Int), H, I.tok _, ⟨_, rfl⟩, q⟩
section
variable {X : Cx} {Wx : WX} {o e : Expr} {es : List Expr} {apos cpos : Pos} {fo : PL.Env → Out Res} {fc : PL.Env → Out (List PyData)}
theorem se_index (ok : XOk X) (ho : SE X Wx o fo) (ha : SC X Wx (e :: es) fc)
    (hb : plainBase o = true) (hs : (e :: es).all unstar = true) (hn : decide ((e :: es).length < 30) = true) (hline : (apos.endLine == cpos.line) = true) :
    SE X Wx (.Call (.Attribute o "index" apos) (e :: es) [] cpos) (fun ρ => bind (fo ρ) fun ro ρ1 => if recvOk .index ro ρ1 then bind (fc ρ1) fun ds ρ2 => metR .index ro ds ρ2 else .stuck) := by
  have hs' := hs
  rw [List.all_cons, Bool.and_eq_true] at hs'
  refine pe_mono (pe_bm PySem.F.plainAttrs_list PySem.F.slot_list_index PySem.F.type_list_index (mt_indexL ok) ho ha (plain_base hb) ?_ hline (star_cons hs'.1) (star_any hs'.2)) fun σ H Q ⟨B, Z, ρ, C, h⟩ => ?_
  · rw [few_of hs]
    show (true && true && decide ((e :: es).length + 0 + 0 < 30)) = true
    simpa using hn
  · refine sub_run C h (fun _ _ z => z) fun ro ρ1 x H1 P1 h1 => ?_
    by_cases hk : recvOk .index ro ρ1 = true
    · rw [if_pos hk] at h1
      have hl : ∃ ds, peek ρ1 ro = some (.list ds) := by
        unfold recvOk at hk
        rw [if_neg (by decide)] at hk
        cases ep : peek ρ1 ro with
        | none => rw [ep] at hk; cases hk
        | some d =>
          rw [ep] at hk
          cases d with
          | list ds => exact ⟨ds, rfl⟩
          | _ => cases hk
      obtain ⟨ds1, ep⟩ := hl
      obtain ⟨a, xs, rfl, sq, _⟩ := (peek_op P1.res (.refl P1.conc) ep).list
      refine ⟨.inl ⟨rfl, xs, sq⟩, sc_run P1.conc h1 (fun c ρ' z => z.step P1.x) fun ds ρ2 vs H2 P2 rp h2 => ?_⟩
      unfold metR at h2
      rw [if_neg (by decide)] at h2
      cases ep2 : peek ρ2 ro with
      | none => rw [ep2] at h2; exact h2.elim
      | some d =>
        rw [ep2] at h2
        obtain ⟨r, er, qr⟩ := h2.ofO
        have op := peek_op P1.res P2 ep2
        match d, ds, rp, er, op with
        | .list dl, [x], rp, er, op =>
          have er : indexD dl x = some r := er
          unfold indexD at er
          split at er
          · rename_i hc
            rw [Bool.and_eq_true, Bool.and_eq_true] at hc
            obtain ⟨j, ej, rfl⟩ := Option.map_eq_some_iff.mp er
            obtain ⟨v, rfl, rv⟩ := rp.one'
            exact ⟨_, v, x, dl, j, rfl, op, .rp rv, hc.1.1, hc.1.2, ej, qr _ _ ((P1.x.seq P2).post (post_val P2.conc (.int _)))⟩
          · cases er
        | .list dl, [], rp, er, op => cases er
        | .list dl, _ :: _ :: _, rp, er, op => exact absurd er (by simp [metD])
        | .tuple _, _, rp, er, op => exact absurd er (by simp [metD])
        | .none, _, rp, er, op => exact absurd er (by simp [metD])
        | .bool _, _, rp, er, op => exact absurd er (by simp [metD])
        | .int _, _, rp, er, op => exact absurd er (by simp [metD])
        | .str _, _, rp, er, op => exact absurd er (by simp [metD])
        | .dict _, _, rp, er, op => exact absurd er (by simp [metD])
    · rw [if_neg hk] at h1
      exact h1.elim
end
end PL

set_option autoImplicit false
set_option linter.all false
set_option Elab.async false
set_option maxRecDepth 100000
set_option maxHeartbeats 1000000
/-! PL18: the check that an expression is a written expression, and its soundness. -/
namespace PL
open PySem PySem.Spec PyProof.Rows L2
mutual
def sameD : PyData → PyData → Bool
  | .none, .none => true
  | .bool a, .bool b => a == b
  | .int a, .int b => a == b
  | .str a, .str b => a == b
  | .tuple xs, .tuple ys => sameDs xs ys
  | _, _ => false
def sameDs : List PyData → List PyData → Bool
  | [], [] => true
  | x :: xs, y :: ys => sameD x y && sameDs xs ys
  | _, _ => false
end
mutual
theorem sameD_eq : ∀ {a b : PyData}, sameD a b = true → a = b
  | .none, b, h => by cases b <;> first | rfl | (simp [sameD] at h)
  | .bool _, b, h => by cases b <;> first | (simp [sameD] at h; rw [h]) | (simp [sameD] at h)
  | .int _, b, h => by cases b <;> first | (simp [sameD] at h; rw [h]) | (simp [sameD] at h)
  | .str _, b, h => by cases b <;> first | (simp [sameD] at h; rw [h]) | (simp [sameD] at h)
  | .tuple xs, b, h => by
    cases b with
    | tuple ys =>
      rw [sameD] at h
      rw [sameDs_eq h]
    | _ => simp [sameD] at h
  | .list _, b, h => by cases b <;> simp [sameD] at h
  | .dict _, b, h => by cases b <;> simp [sameD] at h
theorem sameDs_eq : ∀ {a b : List PyData}, sameDs a b = true → a = b
  | [], [], _ => rfl
  | [], _ :: _, h => by simp [sameDs] at h
  | _ :: _, [], h => by simp [sameDs] at h
  | x :: xs, y :: ys, h => by
    rw [sameDs, Bool.and_eq_true] at h
    rw [sameD_eq h.1, sameDs_eq h.2]
end
/-- what the check knows: the slots' names, the scope, where names are stored, the built-ins that stand, the constants -/
structure Tab where
  N : List Str
  sc : Scope
  st : Scope
  bi : List Str
  gl : List (Str × PyData)
def Tab.blk (T : Tab) (scope : Scope) : Tab := { T with sc := relS scope T.sc, st := scope }
def vis (sc : Scope) (x : Str) : Bool := match sc.names.lookup x with
  | some .local => true
  | some .cell => true
  | some .free => true
  | _ => false
def stor (sc : Scope) (x : Str) : Bool := match sc.names.lookup x with
  | some .local => true
  | some .cell => true
  | _ => false
def glo (sc : Scope) (x : Str) : Bool := sc.names.lookup x == some .globalImplicit
def okN (x : Str) : Bool := !(x == ("__debug__" : Str)) && !(x == ("__classdict__" : Str)) && !(x == ("__name__" : Str))
def bltn (T : Tab) (x : Str) : Bool := glo T.sc x && T.bi.contains x
structure Good (X : Cx) (Wx : WX) (T : Tab) (G : Ctx) : Prop where
  ok : XOk X
  hN : X.N = T.N
  nd : T.N.Nodup
  hs : X.env.scope = T.sc
  kind : T.sc.kind = .function
  st : ∀ x, stor T.st x = true → Loc X.env.scope x ∧ (X.fn x = true ∨ X.env.scope.names.lookup x = some .local)
  bi : ∀ x ∈ T.bi, X.mg x = none
  gl : ∀ x d, (x, d) ∈ T.gl → ∃ u v, X.mg x = some u ∧ RelV v u ∧ ∀ Y H, Rp X.K Y H v d
  fn : ∀ x D, G.defs x = some D → CallOk X G.call x D
/-! ### the check -/
def okC : PyData → Const → Bool
  | .int i, .int j => i == j
  | .bool i, .bool j => i == j
  | .str i, .str j => i == j
  | .none, .none => true
  | _, _ => false
mutual
def okT (T : Tab) : Tg → Expr → Bool
  | .nm i, x => match x with
    | .Name y _ => T.N[i]? == some y && stor T.st y
    | _ => false
  | .tp ts, x => match x with
    | .Tuple xs _ _ => okTs T ts xs && xs.all unstar
    | _ => false
def okTs (T : Tab) : List Tg → List Expr → Bool
  | [], [] => true
  | t :: ts, x :: xs => okT T t x && okTs T ts xs
  | _, _ => false
end
def notSet : Expr → Bool
  | .Set .. => false
  | _ => true
def isTup : Expr → Bool
  | .Tuple .. => true
  | _ => false
def iterArgs : IK → Expr → List Expr
  | .plain, x => [x]
  | _, x => match x with
    | .Call (.Name _ _) xs [] _ => xs
    | _ => []
def callOf (T : Tab) (f : Str) (n : Nat) : Expr → Bool
  | .Call (.Name x _) xs [] _ => x == f && bltn T f && xs.all unstar && xs.length == n
  | _ => false
def iterOk (T : Tab) (k : IK) (t x : Expr) : Bool := match k with
  | .plain => notSet x && unstar x
  | .r1 => callOf T "range" 1 x
  | .r2 => callOf T "range" 2 x
  | .r3 => callOf T "range" 3 x
  | .enum => callOf T "enumerate" 1 x && isTup t
  | .zip => callOf T "zip" 2 x && isTup t
  | _ => false
def ownP (N : List Str) (own : List Nat) : List (Str × Nat) := own.map fun i => ((N[i]?).getD "", i)
def blkB (T : Tab) (scope : Scope) (own : List Nat) : Bool :=
  scope.kind == .function && scope.names.all (fun y => scope.names.lookup y.1 == some y.2) && own.all (fun i => decide (i < T.N.length)) &&
  scope.names.all (fun y => if y.2 == .free then (T.sc.names.lookup y.1 == some .cell || T.sc.names.lookup y.1 == some .free) else true) &&
  scope.names.all (fun y => if y.2 == .local || y.2 == .cell then (((ownP T.N own).map (·.1)).contains y.1 || !T.N.contains y.1) else true)
def biFn : Bi → Option Str
  | .len => some "len"
  | .abs => some "abs"
  | .sum => some "sum"
  | .min => some "min"
  | .max => some "max"
  | .all => some "all"
  | .any => some "any"
  | .sorted => some "sorted"
  | .int => some "int"
  | .list => some "list"
  | .tuple => some "tuple"
  | _ => none
/-- the operands of a built-in's call -/
def biArgs : Bi → List Expr → List Expr
  | .isinst _, x :: _ => [x]
  | .lenset, [.Call (.Name _ _) xs [] _] => xs
  | .sortedset, [.Call (.Name _ _) xs [] _] => xs
  | .range, [.Call (.Name _ _) xs [] _] => xs
  | .ranget, [.Call (.Name _ _) xs [] _] => xs
  | _, xs => xs
def biOk (T : Tab) (b : Bi) (f : Str) (xs : List Expr) : Bool := match b with
  | .isinst t => match xs with
    | [x, .Name y _] => f == "isinstance" && bltn T "isinstance" && y == tyS t && bltn T (tyS t) && unstar x
    | _ => false
  | .lenset => match xs with
    | [x] => f == "len" && bltn T "len" && callOf T "set" 1 x
    | _ => false
  | .sortedset => match xs with
    | [x] => f == "sorted" && bltn T "sorted" && callOf T "set" 1 x
    | _ => false
  | .range => match xs with
    | [x] => f == "list" && bltn T "list" && (callOf T "range" 1 x || callOf T "range" 2 x)
    | _ => false
  | .ranget => match xs with
    | [x] => f == "tuple" && bltn T "tuple" && (callOf T "range" 1 x || callOf T "range" 2 x)
    | _ => false
  | b => match biFn b with
    | some g => f == g && bltn T g && !xs.isEmpty && xs.all unstar
    | none => false
def meName : Me → Option Str
  | .append => some "append"
  | .extend => some "extend"
  | .pop => some "pop"
  | _ => none
def isIdx : Me → Bool
  | .index => true
  | _ => false
def meOk (m : Me) (name : Str) (xs : List Expr) : Bool := if isUpd m then name == "update" && !xs.isEmpty else if isIdx m then name == "index" && !xs.isEmpty else isMut m && meName m == some name
mutual
def okE (T : Tab) : Ex → Expr → Bool
  | .var i, x => match x with
    | .Name y _ => T.N[i]? == some y && vis T.sc y && okN y
    | _ => false
  | .con d, x => match x with
    | .Constant c _ _ => okC d c
    | _ => false
  | .gl z d, x => match x with
    | .Name y _ => y == z && glo T.sc y && okN y && T.gl.any (fun p => p.1 == z && sameD p.2 d)
    | _ => false
  | .bin op a b, x => match x with
    | .BinOp y o z _ => o == op && okE T a y && okE T b z
    | _ => false
  | .neg a, x => match x with
    | .UnaryOp o y _ => o == .USub && okE T a y
    | _ => false
  | .not a, x => match x with
    | .UnaryOp o y _ => o == .Not && okE T a y
    | _ => false
  | .band es, x => match x with
    | .BoolOp o xs _ => o == .And && okEs T es xs && !xs.isEmpty
    | _ => false
  | .bor es, x => match x with
    | .BoolOp o xs _ => o == .Or && okEs T es xs && !xs.isEmpty
    | _ => false
  | .cmp a ops es, x => match x with
    | .Compare y os xs _ => os == ops && okE T a y && okEs T es xs && !lastMarks os xs && ops.length == xs.length && !xs.isEmpty
    | _ => false
  | .ife c a b, x => match x with
    | .IfExp y z w _ => okE T c y && okE T a z && okE T b w
    | _ => false
  | .tup es, x => match x with
    | .Tuple xs _ _ => okEs T es xs && xs.all unstar
    | _ => false
  | .lst es, x => match x with
    | .List xs _ => okEs T es xs && xs.all unstar
    | _ => false
  | .dct ks vs, x => match x with
    | .Dict xs ys _ => xs.all (·.isSome) && decide (xs.length ≤ 1) && xs.length == ys.length && okEs T ks (xs.filterMap id) && okEs T vs ys
    | _ => false
  | .call f es, x => match x with
    | .Call (.Name y _) xs [] _ => y == f && glo T.sc y && okN y && okEs T es xs && xs.all unstar && !xs.isEmpty
    | _ => false
  | .bi b es, x => match x with
    | .Call (.Name y _) xs [] _ => biOk T b y xs && okEs T es (biArgs b xs)
    | _ => false
  | .met m o es, x => match x with
    | .Call (.Attribute y name ap) xs [] cp => meOk m name xs && okE T o y && okEs T es xs && plainBase y && xs.all unstar && decide (xs.length < 30) && ap.endLine == cp.line
    | _ => false
  | .idx a i, x => match x with
    | .Subscript y z _ => okE T a y && okE T i z && plainIx z
    | _ => false
  | .sli a lo hi, x => match x with
    | .Subscript y (.Slice l h none _) _ => okE T a y && okEs T lo l.toList && okEs T hi h.toList
    | _ => false
  | .slist _ _ _, _ => false
  | .lc elt tg k es cond own, x => match x with
    | .ListComp y gens sc _ => match gens with
      | [g] => match g with
        | ⟨t, it, ifs, n⟩ => n == 0 && blkB T sc own && iterOk T k t it && okEs T es (iterArgs k it) && okT (T.blk sc) tg t && okEs (T.blk sc) cond ifs && decide (ifs.length ≤ 1) && okE (T.blk sc) elt y && tgIn own tg && notSet it
      | _ => false
    | _ => false
def okEs (T : Tab) : List Ex → List Expr → Bool
  | [], xs => xs.isEmpty
  | e :: es, xs => match xs with
    | x :: ys => okE T e x && okEs T es ys
    | [] => false
end
/-! ### soundness -/
def Snd (X : Cx) (Wx : WX) (G : Ctx) (e : Ex) (x : Expr) : Prop := SE X Wx x (ev G e) ∧ ST X Wx x (fun ρ => bind (ev G e ρ) truthR) ∧
  (isComp x = true → ∀ (i : Nat) (y : Str) (py spos : Pos), X.N[i]? = some y → X.env.scope.names.lookup y = some .local → swapsWith x (some (.Name y py)) spos.line X.env = pure true →
    PS X (.Assign [.Name y py] x spos) (tAsg (tSE X.K Wx (ev G e)) (gName i)))
inductive Each (X : Cx) (Wx : WX) (G : Ctx) : List Ex → List Expr → Prop
  | nil : Each X Wx G [] []
  | cons {e : Ex} {x : Expr} {es : List Ex} {xs : List Expr} : Snd X Wx G e x → Each X Wx G es xs → Each X Wx G (e :: es) (x :: xs)
section
variable {X : Cx} {Wx : WX} {T : Tab} {G : Ctx}
theorem se_eq {x : Expr} {f g : PL.Env → Out Res} (h : SE X Wx x f) (e : ∀ ρ, g ρ = f ρ) : SE X Wx x g := by
  rw [show g = f from funext e]; exact h
theorem st_eq {x : Expr} {f g : PL.Env → Out Bool} (h : ST X Wx x f) (e : ∀ ρ, g ρ = f ρ) : ST X Wx x g := by
  rw [show g = f from funext e]; exact h
theorem sa_eq {x : List Expr} {f g : PL.Env → Out (List Res)} (h : SA X Wx x f) (e : ∀ ρ, g ρ = f ρ) : SA X Wx x g := by
  rw [show g = f from funext e]; exact h
theorem sc_eq {x : List Expr} {f g : PL.Env → Out (List PyData)} (h : SC X Wx x f) (e : ∀ ρ, g ρ = f ρ) : SC X Wx x g := by
  rw [show g = f from funext e]; exact h
theorem sr_eq {x : List Expr} {ios : List Nat} {j : Nat} {f g : PL.Env → Out (List ArgR)} (h : SRg X Wx ios j x f) (e : ∀ ρ, g ρ = f ρ) : SRg X Wx ios j x g := by
  rw [show g = f from funext e]; exact h
theorem sp_eq {x : List Expr} {f g : PL.Env → Out (List Slot)} (h : SPr X Wx x f) (e : ∀ ρ, g ρ = f ρ) : SPr X Wx x g := by
  rw [show g = f from funext e]; exact h
theorem unstars {x : Expr} {xs : List Expr} (h : (x :: xs).all unstar = true) : unstar x = true ∧ xs.all unstar = true := by
  rw [List.all_cons, Bool.and_eq_true] at h; exact h
theorem each_sa : ∀ {es : List Ex} {xs : List Expr}, Each X Wx G es xs → xs.all unstar = true → SA X Wx xs (evR G es)
  | _, _, .nil, _ => sa_eq sa_nil fun ρ => by rw [evR] <;> rfl
  | _, _, .cons s r, h => sa_eq (sa_cons s.1 (each_sa r (unstars h).2) (star_cons (unstars h).1)) fun ρ => by rw [evR] <;> rfl
theorem each_sc : ∀ {es : List Ex} {xs : List Expr}, Each X Wx G es xs → xs.all unstar = true → SC X Wx xs (evC G es)
  | _, _, .nil, _ => sc_eq sc_nil fun ρ => by rw [evC] <;> rfl
  | _, _, .cons s r, h => sc_eq (sc_cons s.1 (each_sc r (unstars h).2) (star_cons (unstars h).1)) fun ρ => by rw [evC] <;> rfl
theorem each_sr {ios : List Nat} : ∀ {j : Nat} {es : List Ex} {xs : List Expr}, Each X Wx G es xs → xs.all unstar = true → SRg X Wx ios j xs (evA G ios j es)
  | _, _, _, .nil, _ => sr_eq sr_nil fun ρ => by rw [evA] <;> rfl
  | _, _, _, .cons s r, h => sr_eq (sr_cons s.1 (each_sr r (unstars h).2) (unstars h).1) fun ρ => by rw [evA] <;> rfl
theorem each_sp : ∀ {hs : List Bool} {es : List Ex} {xs : List Expr}, Each X Wx G es xs → xs.all unstar = true → hs.length = es.length → SPr X Wx xs (evP G hs es)
  | [], _, _, .nil, _, _ => sp_eq sp_nil fun ρ => by rw [evP] <;> rfl
  | h :: hs, _, _, .cons s r, hu, hl => sp_eq (sp_cons (hot := h) s.1 (each_sp r (unstars hu).2 (by simpa using hl)) (unstars hu).1) fun ρ => by rw [evP] <;> rfl
  | [], _, _, .cons s r, _, hl => by simp at hl
  | _ :: _, _, _, .nil, _, hl => by simp at hl
theorem each_and {pos : Pos} : ∀ {e : Ex} {es : List Ex} {x : Expr} {xs : List Expr}, Each X Wx G (e :: es) (x :: xs) → SE X Wx (.BoolOp .And (x :: xs) pos) (evAnd G (e :: es)) ∧ SW X Wx (.BoolOp .And (x :: xs) pos) (fun ρ => bind (evAnd G (e :: es) ρ) truthR)
  | e, _, x, _, .cons s .nil => by
    have q : evAnd G [e] = fun ρ => bind (ev G e ρ) fun r ρ1 => .ok r ρ1 := by funext ρ; rw [evAnd] <;> rfl
    rw [q]
    exact ⟨se_one s.1, sw_one s.2.1⟩
  | e, e2 :: es, x, x2 :: xs, .cons s (.cons s2 r) => by
    have ih := each_and (pos := pos) (.cons s2 r)
    have q : evAnd G (e :: e2 :: es) = fun ρ => bind (ev G e ρ) fun r ρ1 => match peek ρ1 r with | some (.bool true) => evAnd G (e2 :: es) ρ1 | some (.bool false) => .ok (.val (.bool false)) ρ1 | _ => .stuck := by funext ρ; rw [evAnd] <;> rfl
    rw [q]
    exact ⟨se_and s.1 ih.1, sw_and s.2.1 ih.2⟩
theorem each_or {pos : Pos} : ∀ {e : Ex} {es : List Ex} {x : Expr} {xs : List Expr}, Each X Wx G (e :: es) (x :: xs) → SE X Wx (.BoolOp .Or (x :: xs) pos) (evOr G (e :: es)) ∧ SW X Wx (.BoolOp .Or (x :: xs) pos) (fun ρ => bind (evOr G (e :: es) ρ) truthR)
  | e, _, x, _, .cons s .nil => by
    have q : evOr G [e] = fun ρ => bind (ev G e ρ) fun r ρ1 => .ok r ρ1 := by funext ρ; rw [evOr] <;> rfl
    rw [q]
    exact ⟨se_one s.1, sw_one s.2.1⟩
  | e, e2 :: es, x, x2 :: xs, .cons s (.cons s2 r) => by
    have ih := each_or (pos := pos) (.cons s2 r)
    have q : evOr G (e :: e2 :: es) = fun ρ => bind (ev G e ρ) fun r ρ1 => match peek ρ1 r with | some (.bool false) => evOr G (e2 :: es) ρ1 | some (.bool true) => .ok (.val (.bool true)) ρ1 | _ => .stuck := by funext ρ; rw [evOr] <;> rfl
    rw [q]
    exact ⟨se_or s.1 ih.1, sw_or s.2.1 ih.2⟩
theorem each_ch (ok : XOk X) : ∀ {ops : List CmpOp} {es : List Ex} {xs : List Expr}, Each X Wx G es xs → ops.length = xs.length → xs ≠ [] → SCh X Wx ops xs (fun ra ρ => evCh G ra ops es ρ)
  | _, _, _, .nil, _, h => absurd rfl h
  | [], _, _, .cons s r, h, _ => by simp at h
  | op :: ops, _, _, .cons (e := e) s .nil, h, _ => by
    have : ops = [] := by
      cases ops with
      | nil => rfl
      | cons a b => simp at h
    subst this
    have q : (fun ra ρ => evCh G ra [op] [e] ρ) = fun ra ρ => bind (ev G e ρ) fun rb ρ1 => bind (cmpR op ra rb ρ1) fun b ρ2 => .ok b ρ2 := by funext ra ρ; rw [evCh] <;> rfl
    rw [q]
    exact sch_last (op_cmp ok op) s.1
  | op :: ops, _, _, .cons (e := e) s (.cons (e := e2) (es := es) s2 r), h, _ => by
    cases ops with
    | nil => simp at h
    | cons op2 ops =>
      have ih := each_ch ok (ops := op2 :: ops) (.cons s2 r) (by simpa using h) (by simp)
      have q : (fun ra ρ => evCh G ra (op :: op2 :: ops) (e :: e2 :: es) ρ) = fun ra ρ => bind (ev G e ρ) fun rb ρ1 => bind (cmpR op ra rb ρ1) fun b ρ2 => if b then evCh G rb (op2 :: ops) (e2 :: es) ρ2 else .ok false ρ2 := by
        funext ra ρ; rw [evCh] <;> rfl
      rw [q]
      exact sch_link (op_cmp ok op) s.1 ih
end
end PL

set_option autoImplicit false
set_option linter.all false
set_option Elab.async false
set_option maxRecDepth 100000
set_option maxHeartbeats 2000000
/-! PL19: the check of expressions is sound. -/
namespace PL
open PySem PySem.Spec PyProof.Rows L2
theorem vis_ok {sc : Scope} {x : Str} (h : vis sc x = true) : Vis sc x := by
  unfold vis at h
  split at h
  · rename_i e; exact .inl e
  · rename_i e; exact .inr (.inl e)
  · rename_i e; exact .inr (.inr e)
  · cases h
theorem stor_ok {sc : Scope} {x : Str} (h : stor sc x = true) : sc.names.lookup x = some .local ∨ sc.names.lookup x = some .cell := by
  unfold stor at h
  split at h
  · rename_i e; exact .inl e
  · rename_i e; exact .inr e
  · cases h
theorem okN_ok {x : Str} (h : okN x = true) : (x == ("__debug__" : Str)) = false ∧ (x == ("__classdict__" : Str)) = false ∧ x ≠ "__name__" := by
  unfold okN at h
  rw [Bool.and_eq_true, Bool.and_eq_true, Bool.not_eq_true', Bool.not_eq_true', Bool.not_eq_true'] at h
  exact ⟨h.1.1, h.1.2, fun z => by have := h.2; rw [z] at this; exact absurd this (by decide)⟩
section
variable {X : Cx} {Wx : WX} {T : Tab} {G : Ctx}
theorem Good.glob (g : Good X Wx T G) {x : Str} (h : glo T.sc x = true) : Gl X x := by
  unfold glo at h
  show X.env.scope.names.lookup x = _
  rw [g.hs]
  exact eq_of_beq h
theorem Good.blt (g : Good X Wx T G) {x : Str} (h : bltn T x = true) : Gl X x ∧ X.mg x = none := by
  unfold bltn at h
  rw [Bool.and_eq_true] at h
  exact ⟨g.glob h.1, g.bi x (by simpa using h.2)⟩
theorem ownP_snd {N : List Str} {own : List Nat} : (ownP N own).map (·.2) = own := by
  unfold ownP
  rw [List.map_map]
  exact List.map_id own
theorem blk_ok (g : Good X Wx T G) {scope : Scope} {own : List Nat} (h : blkB T scope own = true) : BlkOk X.N X.env.scope scope (ownP T.N own) := by
  unfold blkB at h
  simp only [Bool.and_eq_true] at h
  obtain ⟨⟨⟨⟨h1, h2⟩, h3⟩, h4⟩, h5⟩ := h
  rw [g.hN, g.hs]
  refine ⟨eq_of_beq h1, fun y hy => eq_of_beq (List.all_eq_true.mp h2 y hy), fun p hp => ?_, fun y hy e => ?_, fun y hy e => ?_⟩
  · obtain ⟨i, hi, rfl⟩ := List.mem_map.mp hp
    have l : i < T.N.length := by simpa using List.all_eq_true.mp h3 i hi
    show T.N[i]? = some ((T.N[i]?).getD "")
    rw [List.getElem?_eq_getElem l]; rfl
  · have z := List.all_eq_true.mp h4 y hy
    rw [if_pos (by rw [e]; rfl), Bool.or_eq_true] at z
    exact z.imp eq_of_beq eq_of_beq
  · have z := List.all_eq_true.mp h5 y hy
    rw [if_pos (by rcases e with e | e <;> rw [e] <;> rfl), Bool.or_eq_true] at z
    exact z.imp (fun z => by simpa using z) (fun z => by simpa using z)
theorem Good.inblk (g : Good X Wx T G) {scope : Scope} {own : List Nat} (h : blkB T scope own = true) (s : Shared) (H : Hp) (C : Addr) (cl : List (Str × Addr)) (fp : List Addr) : Good (X.blk s H scope (compEnvC scope cl C X.env) fp) WF (T.blk scope) G := by
  have b := blk_ok g h
  have e : relS scope X.env.scope = relS scope T.sc := by rw [g.hs]
  refine ⟨⟨g.ok.calm, g.ok.un⟩, g.hN, g.nd, e, b.kind, fun x hx => ?_, g.bi, g.gl, fun x D hD => ⟨(g.fn x D hD).ex⟩⟩
  have hx := stor_ok (show stor scope x = true from hx)
  rcases hx with hx | hx
  · have q : (relS scope X.env.scope).names.lookup x = some .local := lookup_relS_keep (by decide) hx
    exact ⟨.inl q, .inr q⟩
  · have q : (relS scope X.env.scope).names.lookup x = some .cell := lookup_relS_keep (by decide) hx
    exact ⟨.inr q, .inl (by show (scope.names.lookup x == some .cell) = true; rw [hx]; rfl)⟩
mutual
theorem snd_T (g : Good X Wx T G) : ∀ {t : Tg} {x : Expr}, okT T t x = true → SG X x t
  | .nm i, x, h => by
    cases x <;> first | (simp [okT] at h; done) | skip
    rw [okT, Bool.and_eq_true] at h
    obtain ⟨s1, s2⟩ := g.st _ h.2
    exact sg_nm (by rw [g.hN]; exact g.nd) (by rw [g.hN]; exact eq_of_beq h.1) s1 s2
  | .tp ts, x, h => by
    cases x <;> first | (simp [okT] at h; done) | skip
    rw [okT, Bool.and_eq_true] at h
    obtain ⟨a, l⟩ := snd_Ts g h.1 h.2
    exact sg_tp g.ok.calm a h.2 l
theorem snd_Ts (g : Good X Wx T G) : ∀ {t : List Tg} {x : List Expr}, okTs T t x = true → x.all unstar = true → SGs X x t ∧ x.length = t.length
  | [], [], _, _ => ⟨sgs_nil, rfl⟩
  | [], _ :: _, h, _ => by simp [okTs] at h
  | _ :: _, [], h, _ => by simp [okTs] at h
  | t :: ts, x :: xs, h, hu => by
    rw [okTs, Bool.and_eq_true] at h
    obtain ⟨a, l⟩ := snd_Ts g h.2 (unstars hu).2
    exact ⟨sgs_cons (snd_T g h.1) a (unstars hu).1, by rw [List.length_cons, List.length_cons, l]⟩
end
theorem fold_ok {x : Expr} {env : PySem.Env} (h : notSet x = true) : ∀ u, foldedSetIterable x env u = pure u := by
  intro u
  cases x <;> first | rfl | cases h
theorem call_of {f : Str} {n : Nat} {x : Expr} (g : Good X Wx T G) (h : callOf T f n x = true) : ∃ p xs pos, x = .Call (.Name f p) xs [] pos ∧ Gl X f ∧ X.mg f = none ∧ xs.all unstar = true ∧ xs.length = n := by
  unfold callOf at h
  split at h
  · simp only [Bool.and_eq_true] at h
    obtain ⟨⟨⟨h1, h2⟩, h3⟩, h4⟩ := h
    have e := eq_of_beq h1
    subst e
    obtain ⟨a, b⟩ := g.blt h2
    exact ⟨_, _, _, rfl, a, b, h3, eq_of_beq h4⟩
  · cases h
theorem is_tup {t : Expr} (h : isTup t = true) : ∃ es k p, t = .Tuple es k p := by
  cases t <;> first | exact ⟨_, _, _, rfl⟩ | cases h
theorem si_of (g : Good X Wx T G) {k : IK} {t x : Expr} {es : List Ex} (h : iterOk T k t x = true) (r : Each X Wx G es (iterArgs k x)) : SI X Wx t x (walkF k (evC G es)) := by
  unfold iterOk at h
  cases k with
  | plain =>
    rw [Bool.and_eq_true] at h
    have r : Each X Wx G es [x] := r
    cases r with
    | cons s r =>
      cases r
      rename_i e
      have q : evC G [e] = fun ρ => bind (ev G e ρ) fun r ρ1 => bind (PL.cold ρ1 r) fun d ρ2 => bind (.ok [] ρ2) fun ds ρ3 => .ok (d :: ds) ρ3 := by
        funext ρ
        rw [evC]
        have q2 : evC G [] = fun ρ => .ok [] ρ := by funext ρ; rw [evC]
        rw [q2]
      rw [q]
      exact si_plain s.1
  | r1 =>
    obtain ⟨p, xs, pos, rfl, hg, hm, hu, hl⟩ := call_of g h
    match xs, hl, hu, r with
    | [a], _, hu, r => exact si_range1 hg hm (each_sc r hu) (unstars hu).1
  | r2 =>
    obtain ⟨p, xs, pos, rfl, hg, hm, hu, hl⟩ := call_of g h
    match xs, hl, hu, r with
    | [a, b], _, hu, r => exact si_range2 hg hm (each_sc r hu) (unstars hu).1 (unstars (unstars hu).2).1
  | r3 =>
    obtain ⟨p, xs, pos, rfl, hg, hm, hu, hl⟩ := call_of g h
    match xs, hl, hu, r with
    | [a, b, c], _, hu, r => exact si_range3 hg hm (each_sc r hu) hu
  | enum =>
    rw [Bool.and_eq_true] at h
    obtain ⟨p, xs, pos, rfl, hg, hm, hu, hl⟩ := call_of g h.1
    obtain ⟨_, _, _, rfl⟩ := is_tup h.2
    match xs, hl, hu, r with
    | [a], _, hu, r => exact si_enum hg hm (each_sc r hu) (unstars hu).1
  | zip =>
    rw [Bool.and_eq_true] at h
    obtain ⟨p, xs, pos, rfl, hg, hm, hu, hl⟩ := call_of g h.1
    obtain ⟨_, _, _, rfl⟩ := is_tup h.2
    match xs, hl, hu, r with
    | [a, b], _, hu, r => exact si_zip hg hm (each_sc r hu) (unstars hu).1 (unstars (unstars hu).2).1
  | zip3 => cases h
  | items => cases h
theorem tests_of {ok : XOk X} {cond : List Ex} {ifs : List Expr} (r : Each X Wx G cond ifs) (hl : ifs.length ≤ 1) : PTs X ifs (tST X.K Wx (evIf G cond)) := by
  cases r with
  | nil =>
    have q : evIf G [] = fun ρ => .ok true ρ := by funext ρ; rw [evIf]
    rw [q]
    exact ⟨fun pins s σ H Q I ⟨B, Z, ρ, C, h⟩ => pts_nil.run pins s σ H Q I (h H (.refl C))⟩
  | cons s r =>
    cases r with
    | cons s2 r => simp at hl
    | nil =>
      rename_i e x
      have q : evIf G [e] = fun ρ => bind (ev G e ρ) truthR := by
        funext ρ
        rw [evIf]
        congr 1
        funext r ρ1
        cases h : truthR r ρ1 with
        | ok b ρ2 =>
          rw [bind_ok]
          cases b
          · rfl
          · rw [if_pos rfl, evIf]
        | exc c ρ2 => rfl
        | stuck => rfl
      rw [q]
      exact ⟨fun pins s' σ H Q I h => (pts_one s.2.1).run pins s' σ H Q I h⟩
theorem bi_fn (ok : XOk X) {b : Bi} {f : Str} (h : biFn b = some f) : (∃ id, CallR X (.builtin id) (rCl X.K (biD b)) ∧ bootBuiltins f = some (.builtin id)) ∨ (∃ t, CallR X (.type t) (rCl X.K (biD b)) ∧ bootBuiltins f = some (.type t)) := by
  cases b <;> first | (cases h; done) | skip
  · cases h; exact .inl ⟨_, bi_len ok, PySem.boot_len⟩
  · cases h; exact .inl ⟨_, bi_abs ok, PyProof.Rows.boot_abs⟩
  · cases h; exact .inr ⟨_, bi_int ok, by decide +kernel⟩
  · cases h; exact .inl ⟨_, bi_sum ok, PyProof.Rows.boot_sum⟩
  · cases h; exact .inl ⟨_, bi_min ok, PyProof.Rows.boot_min⟩
  · cases h; exact .inl ⟨_, bi_max ok, PyProof.Rows.boot_max⟩
  · cases h; exact .inl ⟨_, bi_all ok, PyProof.Rows.boot_all⟩
  · cases h; exact .inl ⟨_, bi_any ok, PyProof.Rows.boot_any⟩
  · cases h; exact .inl ⟨_, bi_sorted ok, PyProof.Rows.boot_sorted⟩
  · cases h; exact .inr ⟨_, bi_list ok, by decide +kernel⟩
  · cases h; exact .inr ⟨_, bi_tuple ok, by decide +kernel⟩
theorem bi_nm {b : Bi} {f : Str} (h : biFn b = some f) : f ≠ "__name__" ∧ (f == ("__debug__" : Str)) = false := by
  cases b <;> first | (cases h; done) | skip
  all_goals (cases h; exact ⟨by decide, by decide⟩)
/-- no compared, negated, .. test -/
def plainTest : Expr → Bool
  | .UnaryOp .Not _ _ => false
  | .BoolOp .. => false
  | .IfExp .. => false
  | .Compare .. => false
  | _ => true
theorem test_ok {x : Expr} {env : PySem.Env} (h : plainTest x = true) : ∀ whole, isTrue x env whole = (do let v ← whole; standAt x.pos; holding [v] (truthy v)) := by
  intro whole
  cases x <;> first | rfl | (cases h; done) | skip
  rename_i o y p
  cases o <;> first | rfl | cases h
theorem mkSnd (ok : XOk X) {e : Ex} {x : Expr} (h : SE X Wx x (ev G e)) (ht : plainTest x = true) (hc : isComp x = false) : Snd X Wx G e x :=
  ⟨h, st_val ok h (test_ok ht), fun z => by rw [hc] at z; cases z⟩
theorem op_len {os ops : List CmpOp} (h : (os == ops) = true) : os = ops := eq_of_beq h
end
end PL

set_option autoImplicit false
set_option linter.all false
set_option Elab.async false
set_option maxRecDepth 100000
set_option maxHeartbeats 4000000
/-! PL20: the check of expressions is sound: the induction. -/
namespace PL
open PySem PySem.Spec PyProof.Rows L2
section
variable {X : Cx} {Wx : WX} {T : Tab} {G : Ctx}
theorem bi_of (g : Good X Wx T G) {b : Bi} {f : Str} {xs : List Expr} {es : List Ex} {p pos : Pos} (h : biOk T b f xs = true) (r : Each X Wx G es (biArgs b xs)) : SE X Wx (.Call (.Name f p) xs [] pos) (fun ρ => bind (evR G es ρ) fun rs ρ1 => biR b rs ρ1) := by
  have plain : ∀ {b : Bi}, biArgs b xs = xs → (match biFn b with | some g => f == g && bltn T g && !xs.isEmpty && xs.all unstar | none => false) = true → Each X Wx G es (biArgs b xs) → SE X Wx (.Call (.Name f p) xs [] pos) (fun ρ => bind (evR G es ρ) fun rs ρ1 => biR b rs ρ1) := fun {b} ea h r => by
    rw [ea] at r
    cases e : biFn b with
    | none => rw [e] at h; cases h
    | some k =>
      rw [e] at h
      simp only [Bool.and_eq_true] at h
      obtain ⟨⟨⟨h1, h2⟩, h3⟩, h4⟩ := h
      have e1 := eq_of_beq h1
      subst e1
      obtain ⟨q1, q2⟩ := g.blt h2
      obtain ⟨n1, n2⟩ := bi_nm e
      cases xs with
      | nil => simp at h3
      | cons x xs =>
        rcases bi_fn g.ok e with ⟨id, c, bt⟩ | ⟨t, c, bt⟩
        · exact se_callB c q1 q2 bt (each_sa r h4) n1 n2 h4
        · exact se_callTy c q1 q2 bt (each_sa r h4) n1 n2 h4
  unfold biOk at h
  cases b with
  | isinst t =>
    try dsimp only at h
    split at h
    · rename_i x y py
      simp only [Bool.and_eq_true] at h
      obtain ⟨⟨⟨⟨h1, h2⟩, h3⟩, h4⟩, h5⟩ := h
      have e1 := eq_of_beq h1
      have e2 := eq_of_beq h3
      subst e1 e2
      obtain ⟨q1, q2⟩ := g.blt h2
      obtain ⟨q3, q4⟩ := g.blt h4
      have r : Each X Wx G es [x] := r
      cases r with
      | cons s r =>
        cases r
        rename_i e
        refine se_eq (se_isinst t q1 q2 q3 q4 s.1 h5) fun ρ => ?_
        rw [evR]
        have q : evR G [] = fun ρ => .ok [] ρ := by funext ρ; rw [evR]
        rw [q]
    · cases h
  | lenset =>
    try dsimp only at h
    split at h
    · simp only [Bool.and_eq_true] at h
      obtain ⟨⟨h1, h2⟩, h3⟩ := h
      have e1 := eq_of_beq h1
      subst e1
      obtain ⟨q1, q2⟩ := g.blt h2
      obtain ⟨p2, ys, pos2, rfl, hg, hm, hu, hl⟩ := call_of g h3
      match ys, hl, hu, r with
      | [a], _, hu, r => exact se_lenset g.ok q1 q2 hg hm (each_sa (show Each X Wx G es [a] from r) hu) (unstars hu).1
    · cases h
  | sortedset =>
    try dsimp only at h
    split at h
    · simp only [Bool.and_eq_true] at h
      obtain ⟨⟨h1, h2⟩, h3⟩ := h
      have e1 := eq_of_beq h1
      subst e1
      obtain ⟨q1, q2⟩ := g.blt h2
      obtain ⟨p2, ys, pos2, rfl, hg, hm, hu, hl⟩ := call_of g h3
      match ys, hl, hu, r with
      | [a], _, hu, r => exact se_sortedset g.ok q1 q2 hg hm (each_sa (show Each X Wx G es [a] from r) hu) (unstars hu).1
    · cases h
  | range =>
    try dsimp only at h
    split at h
    · simp only [Bool.and_eq_true, Bool.or_eq_true] at h
      obtain ⟨⟨h1, h2⟩, h3⟩ := h
      have e1 := eq_of_beq h1
      subst e1
      obtain ⟨q1, q2⟩ := g.blt h2
      have q : evR G [] = fun ρ => .ok [] ρ := by funext ρ; rw [evR]
      rcases h3 with h3 | h3
      · obtain ⟨p2, ys, pos2, rfl, hg, hm, hu, hl⟩ := call_of g h3
        match ys, hl, hu, r with
        | [a], _, hu, r =>
          have r : Each X Wx G es [a] := r
          cases r with
          | cons s r =>
            cases r
            refine se_eq (se_lrange1 g.ok q1 q2 hg hm s.1 (unstars hu).1) fun ρ => ?_
            rw [evR, q]
      · obtain ⟨p2, ys, pos2, rfl, hg, hm, hu, hl⟩ := call_of g h3
        match ys, hl, hu, r with
        | [a, c], _, hu, r =>
          have r : Each X Wx G es [a, c] := r
          cases r with
          | @cons e1 _ es1 _ s r =>
            cases r with
            | @cons e2 _ es2 _ s2 r =>
              cases r
              refine se_eq (se_lrange2 g.ok q1 q2 hg hm s.1 s2.1 (unstars hu).1 (unstars (unstars hu).2).1) fun ρ => ?_
              have q3 : evR G [e2] = fun ρ => bind (ev G e2 ρ) fun r ρ1 => bind (.ok [] ρ1) fun rs ρ2 => .ok (r :: rs) ρ2 := by funext ρ; rw [evR, q]
              rw [evR, q3]
    · cases h
  | ranget =>
    try dsimp only at h
    split at h
    · simp only [Bool.and_eq_true, Bool.or_eq_true] at h
      obtain ⟨⟨h1, h2⟩, h3⟩ := h
      have e1 := eq_of_beq h1
      subst e1
      obtain ⟨q1, q2⟩ := g.blt h2
      have q : evR G [] = fun ρ => .ok [] ρ := by funext ρ; rw [evR]
      rcases h3 with h3 | h3
      · obtain ⟨p2, ys, pos2, rfl, hg, hm, hu, hl⟩ := call_of g h3
        match ys, hl, hu, r with
        | [a], _, hu, r =>
          have r : Each X Wx G es [a] := r
          cases r with
          | cons s r =>
            cases r
            refine se_eq (se_trange1 g.ok q1 q2 hg hm s.1 (unstars hu).1) fun ρ => ?_
            rw [evR, q]
      · obtain ⟨p2, ys, pos2, rfl, hg, hm, hu, hl⟩ := call_of g h3
        match ys, hl, hu, r with
        | [a, c], _, hu, r =>
          have r : Each X Wx G es [a, c] := r
          cases r with
          | @cons e1 _ es1 _ s r =>
            cases r with
            | @cons e2 _ es2 _ s2 r =>
              cases r
              refine se_eq (se_trange2 g.ok q1 q2 hg hm s.1 s2.1 (unstars hu).1 (unstars (unstars hu).2).1) fun ρ => ?_
              have q3 : evR G [e2] = fun ρ => bind (ev G e2 ρ) fun r ρ1 => bind (.ok [] ρ1) fun rs ρ2 => .ok (r :: rs) ρ2 := by funext ρ; rw [evR, q]
              rw [evR, q3]
    · cases h
  | len => exact plain rfl h r
  | abs => exact plain rfl h r
  | int => exact plain rfl h r
  | sum => exact plain rfl h r
  | min => exact plain rfl h r
  | max => exact plain rfl h r
  | all => exact plain rfl h r
  | any => exact plain rfl h r
  | sorted => exact plain rfl h r
  | list => exact plain rfl h r
  | tuple => exact plain rfl h r
  | listzip => cases h
  | repr => cases h
theorem st_ife {c a b : Expr} {fa fb fc : PL.Env → Out Res} {pos : Pos} (hc : ST X Wx c (fun ρ => bind (fc ρ) truthR)) (ha : ST X Wx a (fun ρ => bind (fa ρ) truthR)) (hb : ST X Wx b (fun ρ => bind (fb ρ) truthR)) :
    ST X Wx (.IfExp c a b pos) (fun ρ => bind (bind (fc ρ) fun r ρ1 => bind (truthR r ρ1) fun t ρ2 => if t then fa ρ2 else fb ρ2) truthR) := by
  refine ⟨fun pins s σ H Q I ⟨B, Z, ρ, C, h⟩ => ?_⟩
  show wpAny _ _ (isTrue c X.env (eval c X.env) >>= fun t => if t = true then isTrue a X.env (eval a X.env) else isTrue b X.env (eval b X.env)) _ _ _
  have h : tOut (bind (bind (fc ρ) truthR) fun t ρ2 => if t then bind (fa ρ2) truthR else bind (fb ρ2) truthR) (fun b ρ' => ∀ H', PostX X.K B Z ρ ρ' σ H H' → Q b H') (Gx X.K Wx B Z ρ σ H) := by
    dsimp only at h
    rw [bind_bind] at h ⊢
    cases e : fc ρ with
    | ok r ρ1 =>
      rw [e] at h
      dsimp only [PL.bind] at h ⊢
      cases e2 : truthR r ρ1 with
      | ok t ρ2 =>
        rw [e2] at h
        cases t <;> exact h
      | exc c ρ2 => rw [e2] at h; exact h
      | stuck => rw [e2] at h; exact h
    | exc c ρ1 => rw [e] at h; exact h
    | stuck => rw [e] at h; exact h
  refine wpAny_bind (thn (hc.run pins s σ H (fun t H1 => tST X.K Wx (fun ρ2 => if t then bind (fa ρ2) truthR else bind (fb ρ2) truthR) σ H1 Q) I ?_) fun t s1 ⟨H1, I1, q1⟩ => ?_)
  · exact st_run (ft := fun ρ => bind (fc ρ) truthR) C h (fun _ _ z => z) fun t ρ1 H1 P1 h1 => ⟨B, Z, ρ1, P1.conc, tOut.mono h1 (fun b ρ' q H' p => q H' (P1.seq p)) fun c ρ' z => z.step P1⟩
  · cases t with
    | true => rw [if_pos rfl]; exact ha.run pins s1 σ H1 Q I1 q1
    | false => rw [if_neg Bool.false_ne_true]; exact hb.run pins s1 σ H1 Q I1 q1
theorem met_of (g : Good X Wx T G) {m : Me} {name : Str} (h : meName m = some name) : ∃ id, PySem.Slot "list" name id ∧ typeOf (.builtin id) = pure (.type "method_descriptor") ∧ MtR X id (rMt X.K m) := by
  cases m <;> first | (cases h; done) | skip
  · cases h; exact ⟨_, PySem.F.slot_list_append, PySem.F.type_list_append, mtm_append⟩
  · cases h; exact ⟨_, PySem.F.slot_list_extend, PySem.F.type_list_extend, mtm_extend⟩
  · cases h; exact ⟨_, PySem.F.slot_list_pop, PySem.F.type_list_pop, mtm_pop⟩
theorem so_of {lo : List Ex} {l : Option Expr} (r : Each X Wx G lo l.toList) : SO X Wx l (evO G lo) := by
  cases l with
  | none =>
    have r : Each X Wx G lo [] := r
    cases r
    have q : evO G [] = fun ρ => .ok none ρ := by funext ρ; rw [evO]
    rw [q]
    exact so_none
  | some x =>
    have r : Each X Wx G lo [x] := r
    cases r with
    | cons s r =>
      cases r
      rename_i e
      have q : evO G [e] = fun ρ => bind (ev G e ρ) intR := by funext ρ; rw [evO]
      rw [q]
      exact so_some s.1
end
mutual
theorem snd_E {G : Ctx} : ∀ (e : Ex) {T : Tab} {x : Expr}, okE T e x = true → ∀ {X : Cx} {Wx : WX}, Good X Wx T G → Snd X Wx G e x
  | .var i, T, x, h, X, Wx, g => by
    cases x <;> first | (simp [okE] at h; done) | skip
    rw [okE] at h
    simp only [Bool.and_eq_true] at h
    obtain ⟨⟨h1, h2⟩, h3⟩ := h
    obtain ⟨n1, n2, _⟩ := okN_ok h3
    refine mkSnd g.ok (se_eq (se_var (by rw [g.hN]; exact eq_of_beq h1) (by rw [g.hs]; exact vis_ok h2) n1 n2) fun ρ => ?_) rfl rfl
    rw [ev] <;> rfl
  | .con d, T, x, h, X, Wx, g => by
    cases x <;> first | (simp [okE] at h; done) | skip
    rename_i c j p
    rw [okE] at h
    refine mkSnd g.ok (se_eq (f := fun ρ => .ok (.val d) ρ) ?_ fun ρ => by rw [ev]) rfl rfl
    cases d <;> cases c <;> first | (simp [okC] at h; done) | skip
    · exact se_val pe_non fun _ _ => .non
    · have e := eq_of_beq (show (_ == _) = true from h); subst e; exact se_val pe_bl fun _ _ => .bl _
    · have e := eq_of_beq (show (_ == _) = true from h); subst e; exact se_val pe_int fun _ _ => .int _
    · have e := eq_of_beq (show (_ == _) = true from h); subst e; exact se_val pe_str fun _ _ => .str _
  | .gl z d, T, x, h, X, Wx, g => by
    cases x <;> first | (simp [okE] at h; done) | skip
    rename_i y p
    rw [okE] at h
    simp only [Bool.and_eq_true] at h
    obtain ⟨⟨⟨h1, h2⟩, h3⟩, h4⟩ := h
    have e1 := eq_of_beq h1
    subst e1
    obtain ⟨q, hq, h5⟩ := List.any_eq_true.mp h4
    rw [Bool.and_eq_true] at h5
    have e2 := eq_of_beq h5.1
    have e3 := sameD_eq h5.2
    obtain ⟨u, v, m1, m2, m3⟩ := g.gl y d (by rw [← e2, ← e3]; exact hq)
    exact mkSnd g.ok (se_eq (se_val (pe_glob (g.glob h2) m1 m2 (okN_ok h3).1) m3) fun ρ => by rw [ev]) rfl rfl
  | .bin op a b, T, x, h, X, Wx, g => by
    cases x <;> first | (simp [okE] at h; done) | skip
    rw [okE] at h
    simp only [Bool.and_eq_true] at h
    obtain ⟨⟨h1, h2⟩, h3⟩ := h
    have e1 := eq_of_beq h1
    subst e1
    exact mkSnd g.ok (se_eq (se_bin (op_bin g.ok _) (snd_E a h2 g).1 (snd_E b h3 g).1) fun ρ => by rw [ev]) rfl rfl
  | .neg a, T, x, h, X, Wx, g => by
    cases x <;> first | (simp [okE] at h; done) | skip
    rw [okE] at h
    simp only [Bool.and_eq_true] at h
    have e1 := eq_of_beq h.1
    subst e1
    exact mkSnd g.ok (se_eq (se_neg (snd_E a h.2 g).1) fun ρ => by rw [ev]) rfl rfl
  | .not a, T, x, h, X, Wx, g => by
    cases x <;> first | (simp [okE] at h; done) | skip
    rw [okE] at h
    simp only [Bool.and_eq_true] at h
    have e1 := eq_of_beq h.1
    subst e1
    have s := snd_E a h.2 g
    have q : ev G (.not a) = fun ρ => bind (ev G a ρ) fun r ρ1 => bind (truthR r ρ1) fun b ρ2 => .ok (.val (.bool (!b))) ρ2 := by funext ρ; rw [ev]
    refine ⟨?_, ?_, fun z => by cases z⟩
    · rw [q]; exact se_not g.ok s.1
    · rw [q]; exact st_not s.2.1
  | .band es, T, x, h, X, Wx, g => by
    cases x <;> first | (simp [okE] at h; done) | skip
    rename_i o xs p
    rw [okE] at h
    simp only [Bool.and_eq_true] at h
    obtain ⟨⟨h1, h2⟩, h3⟩ := h
    have e1 := eq_of_beq h1
    subst e1
    have r := snd_Es es h2 g
    have q : ev G (.band es) = evAnd G es := by funext ρ; rw [ev]
    cases r with
    | nil => simp at h3
    | cons s r =>
      obtain ⟨a1, a2⟩ := each_and (pos := p) (.cons s r)
      refine ⟨?_, ?_, fun z => by cases z⟩
      · rw [q]; exact a1
      · rw [q]; exact a2.st
  | .bor es, T, x, h, X, Wx, g => by
    cases x <;> first | (simp [okE] at h; done) | skip
    rename_i o xs p
    rw [okE] at h
    simp only [Bool.and_eq_true] at h
    obtain ⟨⟨h1, h2⟩, h3⟩ := h
    have e1 := eq_of_beq h1
    subst e1
    have r := snd_Es es h2 g
    have q : ev G (.bor es) = evOr G es := by funext ρ; rw [ev]
    cases r with
    | nil => simp at h3
    | cons s r =>
      obtain ⟨a1, a2⟩ := each_or (pos := p) (.cons s r)
      refine ⟨?_, ?_, fun z => by cases z⟩
      · rw [q]; exact a1
      · rw [q]; exact a2.st
  | .cmp a ops es, T, x, h, X, Wx, g => by
    cases x <;> first | (simp [okE] at h; done) | skip
    rename_i y os xs p
    rw [okE] at h
    simp only [Bool.and_eq_true] at h
    obtain ⟨⟨⟨⟨⟨h1, h2⟩, h3⟩, h4⟩, h5⟩, h6⟩ := h
    have e1 : os = ops := eq_of_beq h1
    subst e1
    have s := snd_E a h2 g
    have r := snd_Es es h3 g
    have c := each_ch g.ok r (eq_of_beq h5) (fun z => by rw [z] at h6; simp at h6)
    have hm : lastMarks os xs = false := by simpa using h4
    have q : ev G (.cmp a os es) = fun ρ => bind (ev G a ρ) fun ra ρ1 => bind (evCh G ra os es ρ1) fun b ρ2 => .ok (.val (.bool b)) ρ2 := by funext ρ; rw [ev]
    refine ⟨?_, ?_, fun z => by cases z⟩
    · rw [q]; exact se_cmp s.1 c hm
    · rw [q]; exact st_cmp s.1 c hm
  | .ife c a b, T, x, h, X, Wx, g => by
    cases x <;> first | (simp [okE] at h; done) | skip
    rw [okE] at h
    simp only [Bool.and_eq_true] at h
    obtain ⟨⟨h1, h2⟩, h3⟩ := h
    have sc := snd_E c h1 g
    have sa := snd_E a h2 g
    have sb := snd_E b h3 g
    have q : ev G (.ife c a b) = fun ρ => bind (ev G c ρ) fun r ρ1 => bind (truthR r ρ1) fun t ρ2 => if t then ev G a ρ2 else ev G b ρ2 := by funext ρ; rw [ev]
    refine ⟨?_, ?_, fun z => by cases z⟩
    · rw [q]; exact se_ife sc.2.1 sa.1 sb.1
    · rw [q]; exact st_ife sc.2.1 sa.2.1 sb.2.1
  | .tup es, T, x, h, X, Wx, g => by
    cases x <;> first | (simp [okE] at h; done) | skip
    rw [okE] at h
    simp only [Bool.and_eq_true] at h
    exact mkSnd g.ok (se_eq (se_tup (each_sc (snd_Es es h.1 g) h.2)) fun ρ => by rw [ev]) rfl rfl
  | .lst es, T, x, h, X, Wx, g => by
    cases x <;> first | (simp [okE] at h; done) | skip
    rw [okE] at h
    simp only [Bool.and_eq_true] at h
    exact mkSnd g.ok (se_eq (se_lst (each_sc (snd_Es es h.1 g) h.2)) fun ρ => by rw [ev]) rfl rfl
  | .dct ks vs, T, x, h, X, Wx, g => by
    cases x <;> first | (simp [okE] at h; done) | skip
    rename_i xs ys p
    rw [okE] at h
    simp only [Bool.and_eq_true] at h
    obtain ⟨⟨⟨⟨h1, h2⟩, h3⟩, h4⟩, h5⟩ := h
    have rk := snd_Es ks h4 g
    have rv := snd_Es vs h5 g
    have h2 := of_decide_eq_true h2
    have h3 := eq_of_beq h3
    match xs, ys, h1, h2, h3, rk, rv with
    | [], [], _, _, _, rk, rv =>
      cases rk
      cases rv
      refine mkSnd g.ok (se_eq se_dct0 fun ρ => ?_) rfl rfl
      rw [ev, evC]; rfl
    | [some k], [v], _, _, _, rk, rv =>
      cases rk with
      | cons sk tk =>
        cases tk
        cases rv with
        | cons sv tv =>
          cases tv
          refine mkSnd g.ok (se_eq (se_dct1 g.ok sk.1 sv.1) fun ρ => ?_) rfl rfl
          have one : ∀ a : Ex, evC G [a] = fun ρ => bind (ev G a ρ) fun r ρ1 => bind (PL.cold ρ1 r) fun d ρ2 => bind (.ok [] ρ2) fun ds ρ3 => .ok (d :: ds) ρ3 := fun a => by
            have z : evC G [] = fun ρ => .ok [] ρ := by funext ρ; rw [evC]
            funext ρ
            rw [evC, z]
          rw [ev, one, one]
          exact dct_ev _ _ ρ
    | [none], _, h1, _, _, _, _ => cases h1
    | _ :: _ :: _, _, _, h2, _, _, _ => simp at h2
    | [], _ :: _, _, _, h3, _, _ => cases h3
    | [some _], [], _, _, h3, _, _ => cases h3
    | [some _], _ :: _ :: _, _, _, h3, _, _ => simp at h3
  | .call f es, T, x, h, X, Wx, g => by
    cases x <;> first | (simp [okE] at h; done) | skip
    rename_i fn xs kw p
    cases fn <;> first | (simp [okE] at h; done) | skip
    cases kw <;> first | (simp [okE] at h; done) | skip
    rename_i y py
    rw [okE] at h
    · simp only [Bool.and_eq_true] at h
      obtain ⟨⟨⟨⟨⟨h1, h2⟩, h3⟩, h4⟩, h5⟩, h6⟩ := h
      have e1 := eq_of_beq h1
      subst e1
      have r := snd_Es es h4 g
      refine mkSnd g.ok ?_ rfl rfl
      cases hD : G.defs y with
      | none =>
        refine ⟨fun pins s σ H Q I ⟨B, Z, ρ, C, hh⟩ => ?_⟩
        rw [ev, hD] at hh
        exact hh.elim
      | some D =>
        cases xs with
        | nil => simp at h6
        | cons x xs =>
          refine se_eq (se_call (g.fn y D hD) (g.glob h2) (okN_ok h3).1 (each_sr r h5) h5) fun ρ => ?_
          rw [ev, hD]
  | .bi b es, T, x, h, X, Wx, g => by
    cases x <;> first | (simp [okE] at h; done) | skip
    rename_i fn xs kw p
    cases fn <;> first | (simp [okE] at h; done) | skip
    cases kw <;> first | (simp [okE] at h; done) | skip
    rename_i y py
    rw [okE] at h
    simp only [Bool.and_eq_true] at h
    exact mkSnd g.ok (se_eq (bi_of g h.1 (snd_Es es h.2 g)) fun ρ => by rw [ev]) rfl rfl
  | .met m o es, T, x, h, X, Wx, g => by
    cases x <;> first | (simp [okE] at h; done) | skip
    rename_i fn xs kw cp
    cases fn <;> first | (simp [okE] at h; done) | skip
    cases kw <;> first | (simp [okE] at h; done) | skip
    rename_i y name ap
    rw [okE] at h
    · simp only [Bool.and_eq_true] at h
      obtain ⟨⟨⟨⟨⟨⟨h2, h3⟩, h4⟩, h5⟩, h6⟩, h7⟩, h8⟩ := h
      have so := snd_E o h3 g
      have r := snd_Es es h4 g
      refine mkSnd g.ok ?_ rfl rfl
      unfold meOk at h2
      by_cases hu : isUpd m = true
      · rw [if_pos hu, Bool.and_eq_true] at h2
        have hn := eq_of_beq h2.1
        subst hn
        cases m <;> first | (cases hu; done) | skip
        cases r with
        | nil => exact absurd h2.2 (by decide)
        | cons s r => exact se_eq (se_upd g.ok so.1 (each_sc (.cons s r) h6) h5 h6 h7 h8) fun ρ => by rw [ev]
      have hu : isUpd m = false := by simpa using hu
      rw [hu, if_neg Bool.false_ne_true] at h2
      by_cases hx : isIdx m = true
      · rw [if_pos hx, Bool.and_eq_true] at h2
        have hn := eq_of_beq h2.1
        subst hn
        cases m <;> first | (cases hx; done) | skip
        cases r with
        | nil => exact absurd h2.2 (by decide)
        | cons s r => exact se_eq (se_index g.ok so.1 (each_sc (.cons s r) h6) h5 h6 h7 h8) fun ρ => by rw [ev]
      rw [if_neg hx, Bool.and_eq_true] at h2
      obtain ⟨h1, h2⟩ := h2
      obtain ⟨id, sl, ty, mt⟩ := met_of g (eq_of_beq h2)
      cases r with
      | nil =>
        refine se_eq (se_metM0 h1 hu sl ty mt so.1 h5 h8) fun ρ => ?_
        rw [ev]
        have q : evC G [] = fun ρ => .ok [] ρ := by funext ρ; rw [evC]
        rw [q]
      | cons s r => exact se_eq (se_metM h1 hu sl ty mt so.1 (each_sc (.cons s r) h6) h5 h6 h7 h8) fun ρ => by rw [ev]
  | .idx a i, T, x, h, X, Wx, g => by
    cases x <;> first | (simp [okE] at h; done) | skip
    rw [okE] at h
    simp only [Bool.and_eq_true] at h
    exact mkSnd g.ok (se_eq (se_idx g.ok (snd_E a h.1.1 g).1 (snd_E i h.1.2 g).1 h.2) fun ρ => by rw [ev]) rfl rfl
  | .sli a lo hi, T, x, h, X, Wx, g => by
    cases x <;> first | (simp [okE] at h; done) | skip
    rename_i y z p
    cases z <;> first | (simp [okE] at h; done) | skip
    rename_i l hh st p2
    cases st <;> first | (simp [okE] at h; done) | skip
    rw [okE] at h
    · simp only [Bool.and_eq_true] at h
      obtain ⟨⟨h1, h2⟩, h3⟩ := h
      exact mkSnd g.ok (se_eq (se_sli g.ok (snd_E a h1 g).1 (so_of (snd_Es lo h2 g)) (so_of (snd_Es hi h3 g))) fun ρ => by rw [ev]) rfl rfl
  | .slist _ _ _, T, x, h, X, Wx, g => by simp [okE] at h
  | .lc elt tg k es cond own, T, x, h, X, Wx, g => by
    cases x <;> first | (simp [okE] at h; done) | skip
    rename_i y gens sc p
    cases gens with
    | nil => simp [okE] at h
    | cons gg gs =>
      cases gs <;> first | (simp [okE] at h; done) | skip
      obtain ⟨t, it, ifs, n⟩ := gg
      rw [okE] at h
      simp only [Bool.and_eq_true] at h
      obtain ⟨⟨⟨⟨⟨⟨⟨⟨⟨h1, h2⟩, h3⟩, h4⟩, h5⟩, h6⟩, h7⟩, h8⟩, h9⟩, h10⟩ := h
      have e1 := eq_of_beq h1
      subst e1
      have ri := snd_Es es h4 g
      have si := si_of g h3 ri
      have hb : ∀ (s : Shared) (H : Hp) (C : Addr) (cl : List (Str × Addr)) (fp : List Addr), Good (X.blk s H sc (compEnvC sc cl C X.env) fp) WF (T.blk sc) G := fun s H C cl fp => g.inblk h2 s H C cl fp
      have hg : ∀ (s : Shared) (H : Hp) (C : Addr) (cl : List (Str × Addr)) (fp : List Addr), SG (X.blk s H sc (compEnvC sc cl C X.env) fp) t tg := fun s H C cl fp => snd_T (hb s H C cl fp) h5
      have ht : ∀ (s : Shared) (H : Hp) (C : Addr) (cl : List (Str × Addr)) (fp : List Addr), PTs (X.blk s H sc (compEnvC sc cl C X.env) fp) ifs (tST X.K WF (evIf G cond)) := fun s H C cl fp => tests_of (ok := (hb s H C cl fp).ok) (snd_Es cond h6 (hb s H C cl fp)) (by simpa using h7)
      have he : ∀ (s : Shared) (H : Hp) (C : Addr) (cl : List (Str × Addr)) (fp : List Addr), SE (X.blk s H sc (compEnvC sc cl C X.env) fp) WF y (ev G elt) := fun s H C cl fp => (snd_E elt h8 (hb s H C cl fp)).1
      have bo := blk_ok g h2
      have hc := g.ok.calm
      have hN : X.N.Nodup := by rw [g.hN]; exact g.nd
      have hs := fold_ok (env := X.env) h10
      have htg : tgIn ((ownP T.N own).map (·.2)) tg = true := by rw [ownP_snd]; exact h9
      have q : ev G (.lc elt tg k es cond own) = lcF (walkF k (evC G es)) tg (evIf G cond) (ev G elt) ((ownP T.N own).map (·.2)) := by
        funext ρ
        rw [ev, ownP_snd]
        unfold lcF walkF
        rw [bind_bind]
        congr 1
        funext ds ρ1
        cases itemsD k ds with
        | none => rfl
        | some items => rfl
      refine ⟨?_, ?_, fun _ i v py spos hi hl hsw => ?_⟩
      · rw [q]; exact se_lc hc hN si bo hg ht he hs htg
      · rw [q]; exact st_val g.ok (se_lc hc hN si bo hg ht he hs htg) (test_ok rfl)
      · rw [q]; exact asg_lc hc hN hi hl hsw si bo hg ht he hs htg
theorem snd_Es {G : Ctx} : ∀ (es : List Ex) {T : Tab} {xs : List Expr}, okEs T es xs = true → ∀ {X : Cx} {Wx : WX}, Good X Wx T G → Each X Wx G es xs
  | [], T, xs, h, X, Wx, g => by
    cases xs with
    | nil => exact .nil
    | cons x xs => simp [okEs] at h
  | e :: es, T, xs, h, X, Wx, g => by
    cases xs with
    | nil => simp [okEs] at h
    | cons x xs =>
      rw [okEs] at h
      simp only [Bool.and_eq_true] at h
      exact .cons (snd_E e h.1 g) (snd_Es es h.2 g)
end
end PL

set_option autoImplicit false
set_option linter.all false
set_option Elab.async false
set_option maxRecDepth 100000
set_option maxHeartbeats 4000000
/-! PL21: the check of statements, and its soundness. -/
namespace PL
open PySem PySem.Spec PyProof.Rows L2
def swapC (sc : Scope) (x : Str) (px : Pos) : Expr → Bool
  | .ListComp _ _ s p => sc.names.lookup x == some .local && px.line == p.line && !(s.names.any fun (n, k) => n == x && (k == .local || k == .cell))
  | _ => false
def isLC : Expr → Bool
  | .ListComp .. => true
  | _ => false
theorem swap_eq {sc : Scope} {x : Str} {px : Pos} {y : Expr} {l : Nat} {env : PySem.Env} (hs : env.scope = sc) (hk : sc.kind = .function) (hy : isLC y = true) : swapsWith y (some (.Name x px)) l env = pure (swapC sc x px y) := by
  subst hs
  cases y <;> first | (cases hy; done) | skip
  have hb : env.blockKind = .function := by unfold Env.blockKind; rw [hk]; rfl
  unfold swapsWith swapC
  simp only [hb, Expr.pos]
  rfl
theorem swap_sole {t y : Expr} {l : Nat} {env : PySem.Env} (h : (match t with | .Name .. => false | _ => true) = true) : swapsWithSole [t] y l env = pure false := by
  cases y <;> first | rfl | (cases t <;> first | rfl | (cases h; done))
def names2 (T : Tab) (is : List Nat) : List Expr → Bool
  | [.Name x px, .Name y py] => is == [(T.N.findIdx (· == x)), (T.N.findIdx (· == y))] && T.N[(T.N.findIdx (· == x))]? == some x && T.N[(T.N.findIdx (· == y))]? == some y && T.sc.names.lookup x == some .local && T.sc.names.lookup y == some .local && py.line == px.line && !(x == y)
  | [.Name x px, .Name y py, .Name z pz] => is == [(T.N.findIdx (· == x)), (T.N.findIdx (· == y)), (T.N.findIdx (· == z))] && T.N[(T.N.findIdx (· == x))]? == some x && T.N[(T.N.findIdx (· == y))]? == some y && T.N[(T.N.findIdx (· == z))]? == some z &&
      T.sc.names.lookup x == some .local && T.sc.names.lookup y == some .local && T.sc.names.lookup z == some .local && py.line == px.line && pz.line == px.line && !(x == y) && !(x == z) && !(y == z)
  | _ => false
def asgOk (T : Tab) (i : Nat) (e : Ex) (t y : Expr) : Bool := match t with
  | .Name x _ => T.N[i]? == some x && stor T.st x && okE T e y && (!isComp y || isLC y)
  | _ => false
def parOk (T : Tab) (is : List Nat) (hots : List Bool) (es : List Ex) (t y : Expr) : Bool := match t with
  | .Tuple ts _ _ => match y with
    | .Tuple xs _ _ => names2 T is ts && okEs T es xs && hots.length == es.length && ts.length == xs.length && xs.all unstar && !foldAll xs && !(xs.all (constantsAlone 8))
    | _ => false
  | _ => false
def unpOk (T : Tab) (tg : Tg) (e : Ex) (t y : Expr) : Bool := isTup t && okT T tg t && okE T e y && swapNone T.sc t y
def subOk (T : Tab) (i : Nat) (ix e : Ex) (t y : Expr) : Bool := match t with
  | .Subscript o z _ => match o with
    | .Name x _ => T.N[i]? == some x && vis T.sc x && okN x && okE T ix z && okE T e y && plainIx z
    | _ => false
  | _ => false
mutual
def okS (T : Tab) : St → Stmt → Bool
  | .asg i _ e, s => match s with
    | .Assign ts y _ => match ts with
      | [t] => asgOk T i e t y
      | _ => false
    | _ => false
  | .par is hots es, s => match s with
    | .Assign ts y _ => match ts with
      | [t] => parOk T is hots es t y
      | _ => false
    | _ => false
  | .unp tg e, s => match s with
    | .Assign ts y _ => match ts with
      | [t] => unpOk T tg e t y
      | _ => false
    | _ => false
  | .sub i ix e, s => match s with
    | .Assign ts y _ => match ts with
      | [t] => subOk T i ix e t y
      | _ => false
    | _ => false
  | .ex e, s => match s with
    | .Expr y _ => okE T e y && !isComp y
    | _ => false
  | .ret e, s => match s with
    | .Return (some y) _ => okE T e y
    | _ => false
  | .retN, s => match s with
    | .Return none _ => true
    | _ => false
  | .ite c a b, s => match s with
    | .If x ys zs _ => okE T c x && okSs T a ys && okSs T b zs
    | _ => false
  | .wh c b, s => match s with
    | .While x ys zs _ => okE T c x && okSs T b ys && zs.isEmpty
    | _ => false
  | .fr tg k es b, s => match s with
    | .For t it ys zs _ => iterOk T k t it && okEs T es (iterArgs k it) && okT T tg t && okSs T b ys && zs.isEmpty && notSet it
    | _ => false
  | .raise _, _ => true
  | .pass, s => match s with
    | .Pass _ => true
    | _ => false
def okSs (T : Tab) : List St → List Stmt → Bool
  | [], ss => ss.isEmpty
  | s :: r, ss => match ss with
    | x :: xs => okS T s x && okSs T r xs
    | [] => false
end
structure GoodS (X : Cx) (Wx : WX) (T : Tab) (G : Ctx) : Prop where
  g : Good X Wx T G
  pass : PassesOwn (model X.prog X.w) X.A X.env X.xe
section
variable {X : Cx} {Wx : WX} {T : Tab} {G : Ctx}
theorem ss_eq {st : Stmt} {f g : PL.Env → SOut} (h : SS X Wx st f) (e : ∀ ρ, g ρ = f ρ) : SS X Wx st g := by
  rw [show g = f from funext e]; exact h
theorem snd_asg (g : Good X Wx T G) {i : Nat} {hot : Bool} {e : Ex} {t y : Expr} {pos : Pos} (h : asgOk T i e t y = true) : SS X Wx (.Assign [t] y pos) (fun ρ => sb (ev G e ρ) fun r ρ1 => sb (slotOf hot r ρ1) fun s ρ2 => .nx (ρ2.set i s)) := by
  unfold asgOk at h
  cases t <;> first | (cases h; done) | skip
  rename_i x px
  simp only [Bool.and_eq_true] at h
  obtain ⟨⟨⟨h1, h2⟩, h3⟩, h4⟩ := h
  have s := snd_E e h3 g
  obtain ⟨s1, s2⟩ := g.st _ h2
  have hi : X.N[i]? = some x := by rw [g.hN]; exact eq_of_beq h1
  have hN : X.N.Nodup := by rw [g.hN]; exact g.nd
  refine ss_asgT ?_
  rw [Bool.or_eq_true, Bool.not_eq_true'] at h4
  by_cases hc : isComp y = false
  · exact asg_set hN hi s1 s2 s.1 (no_swap hc)
  · have hl : isLC y = true := h4.resolve_left hc
    have sw := swap_eq (x := x) (px := px) (l := pos.line) g.hs g.kind hl
    cases e2 : swapC T.sc x px y with
    | false => rw [e2] at sw; exact asg_set hN hi s1 s2 s.1 sw
    | true =>
      rw [e2] at sw
      have loc : X.env.scope.names.lookup x = some .local := by
        rw [g.hs]
        unfold swapC at e2
        split at e2
        · simp only [Bool.and_eq_true] at e2
          exact eq_of_beq e2.1.1
        · cases e2
      exact s.2.2 (by simpa using hc) i x px pos hi loc sw
theorem snd_par (g : Good X Wx T G) {is : List Nat} {hots : List Bool} {es : List Ex} {t y : Expr} {pos : Pos} (h : parOk T is hots es t y = true) : SS X Wx (.Assign [t] y pos) (fun ρ => sb (evP G hots es ρ) fun ss ρ1 => match setAll ρ1 is ss with | some ρ2 => .nx ρ2 | none => .stuck) := by
  unfold parOk at h
  cases t <;> first | (cases h; done) | skip
  cases y <;> first | (cases h; done) | skip
  rename_i ts kt pt xs k2 pt2
  simp only [Bool.and_eq_true] at h
  obtain ⟨⟨⟨⟨⟨⟨h1, h2⟩, h3⟩, h4⟩, h5⟩, h6⟩, h7⟩ := h
  have sp := each_sp (hs := hots) (snd_Es es h2 g) h5 (eq_of_beq h3)
  have hN : X.N.Nodup := by rw [g.hN]; exact g.nd
  have hk : X.env.scope.kind = .function := by rw [g.hs]; exact g.kind
  have hf : foldAll xs = false := by simpa using h6
  have hca : xs.all (constantsAlone 8) = false := by simpa using h7
  have hl : ts.length = xs.length := eq_of_beq h4
  unfold names2 at h1
  split at h1
  · simp only [Bool.and_eq_true] at h1
    obtain ⟨⟨⟨⟨⟨⟨a1, a2⟩, a3⟩, a4⟩, a5⟩, a6⟩, a7⟩ := h1
    have e := eq_of_beq a1
    subst e
    match xs, hl, h5, hf, hca, sp with
    | [a, b], _, h5, hf, hca, sp =>
      exact ss_par2 g.ok.calm hk hN (by rw [g.hN]; exact eq_of_beq a2) (by rw [g.hN]; exact eq_of_beq a3) (by rw [g.hs]; exact eq_of_beq a4) (by rw [g.hs]; exact eq_of_beq a5) a6 (by simpa using a7) h5 hf hca sp
  · simp only [Bool.and_eq_true] at h1
    obtain ⟨⟨⟨⟨⟨⟨⟨⟨⟨⟨⟨a1, a2⟩, a3⟩, a4⟩, a5⟩, a6⟩, a7⟩, a8⟩, a9⟩, b1⟩, b2⟩, b3⟩ := h1
    have e := eq_of_beq a1
    subst e
    match xs, hl, h5, hf, hca, sp with
    | [a, b, c], _, h5, hf, hca, sp =>
      exact ss_par3 g.ok.calm hk hN (by rw [g.hN]; exact eq_of_beq a2) (by rw [g.hN]; exact eq_of_beq a3) (by rw [g.hN]; exact eq_of_beq a4) (by rw [g.hs]; exact eq_of_beq a5) (by rw [g.hs]; exact eq_of_beq a6) (by rw [g.hs]; exact eq_of_beq a7) a8 a9
        (by simpa using b1) (by simpa using b2) (by simpa using b3) h5 hf hca sp
  · cases h1
theorem snd_unp (g : Good X Wx T G) {tg : Tg} {e : Ex} {t y : Expr} {pos : Pos} (h : unpOk T tg e t y = true) : SS X Wx (.Assign [t] y pos) (fun ρ => sb (ev G e ρ) fun r ρ1 => sb (PL.cold ρ1 r) fun d ρ2 => match asgT tg d ρ2 with | some ρ3 => .nx ρ3 | none => .stuck) := by
  unfold unpOk at h
  simp only [Bool.and_eq_true] at h
  obtain ⟨⟨⟨h1, h2⟩, h3⟩, h4⟩ := h
  have hk : X.env.scope.kind = .function := by rw [g.hs]; exact g.kind
  obtain ⟨_, _, _, rfl⟩ := is_tup h1
  exact ss_unp (snd_E e h3 g).1 (snd_T g h2) (swap_sole rfl) (swap_none hk (by rw [g.hs]; exact h4)) rfl
theorem snd_sub (g : Good X Wx T G) {i : Nat} {ix e : Ex} {t y : Expr} {pos : Pos} (h : subOk T i ix e t y = true) : SS X Wx (.Assign [t] y pos) (fun ρ => sb (ev G e ρ) fun r ρ1 => sb (PL.cold ρ1 r) fun v ρ2 => if isHot ρ2 i then sb (ev G ix ρ2) fun rk ρ3 => sb (PL.cold ρ3 rk) fun k ρ4 => match subAt i k v ρ4 with
      | some ρ5 => .nx ρ5
      | none => .stuck
    else .stuck) := by
  unfold subOk at h
  cases t <;> first | (cases h; done) | skip
  rename_i o z p
  cases o <;> first | (cases h; done) | skip
  simp only [Bool.and_eq_true] at h
  obtain ⟨⟨⟨⟨⟨h1, h2⟩, h3⟩, h4⟩, h5⟩, h6⟩ := h
  obtain ⟨n1, n2, _⟩ := okN_ok h3
  exact ss_sub g.ok (by rw [g.hN]; exact eq_of_beq h1) (by rw [g.hs]; exact vis_ok h2) n1 n2 (snd_E e h5 g).1 (snd_E ix h4 g).1 (swap_sole rfl) h6
theorem ss_stuck {st : Stmt} : SS X Wx st (fun _ => .stuck) := ⟨fun _ _ _ _ _ _ ⟨_, _, _, _, h⟩ => h.elim⟩
theorem snd_for (g : GoodS X Wx T G) {N : Nat} {tg : Tg} {k : IK} {es : List Ex} {b : List St} {t it : Expr} {ys : List Stmt} {pos : Pos} (h1 : iterOk T k t it = true) (h2 : okEs T es (iterArgs k it) = true) (h3 : okT T tg t = true) (hb : SSs X Wx ys (execs G N b)) (h5 : notSet it = true) :
    SS X Wx (.For t it ys [] pos) (exec G N (.fr tg k es b)) := by
  refine ss_eq (ss_for g.pass g.g.ok.calm (si_of g.g h1 (snd_Es es h2 g.g)) (snd_T g.g h3) hb (fold_ok h5)) fun ρ => ?_
  rw [exec]
  unfold walkF
  cases evC G es ρ with
  | ok ds ρ1 =>
    show (match itemsD k ds with | some items => forL tg (execs G N b) items ρ1 | none => .stuck) = sb (match itemsD k ds with | some items => .ok items ρ1 | none => .stuck) fun items ρ1 => forL tg (execs G N b) items ρ1
    cases itemsD k ds <;> rfl
  | exc c ρ1 => rfl
  | stuck => rfl
mutual
theorem snd_S (N : Nat) (g : GoodS X Wx T G) : ∀ (s : St) {st : Stmt}, okS T s st = true → SS X Wx st (exec G N s)
  | .asg i hot e, st, h => by
    cases st <;> first | (simp [okS] at h; done) | skip
    rename_i ts y pos
    rcases ts with _ | ⟨t, _ | _⟩ <;> first | (simp [okS] at h; done) | skip
    rw [okS] at h
    exact ss_eq (snd_asg g.g h) fun ρ => by rw [exec] <;> rfl
  | .par is hots es, st, h => by
    cases st <;> first | (simp [okS] at h; done) | skip
    rename_i ts y pos
    rcases ts with _ | ⟨t, _ | _⟩ <;> first | (simp [okS] at h; done) | skip
    rw [okS] at h
    exact ss_eq (snd_par g.g h) fun ρ => by rw [exec] <;> rfl
  | .unp tg e, st, h => by
    cases st <;> first | (simp [okS] at h; done) | skip
    rename_i ts y pos
    rcases ts with _ | ⟨t, _ | _⟩ <;> first | (simp [okS] at h; done) | skip
    rw [okS] at h
    exact ss_eq (snd_unp g.g h) fun ρ => by rw [exec] <;> rfl
  | .sub i ix e, st, h => by
    cases st <;> first | (simp [okS] at h; done) | skip
    rename_i ts y pos
    rcases ts with _ | ⟨t, _ | _⟩ <;> first | (simp [okS] at h; done) | skip
    rw [okS] at h
    exact ss_eq (snd_sub g.g h) fun ρ => by rw [exec] <;> rfl
  | .ex e, st, h => by
    cases st <;> first | (simp [okS] at h; done) | skip
    rw [okS] at h
    simp only [Bool.and_eq_true] at h
    exact ss_eq (ss_expr (snd_E e h.1 g.g).1 (by simpa using h.2)) fun ρ => by rw [exec] <;> rfl
  | .ret e, st, h => by
    cases st <;> first | (simp [okS] at h; done) | skip
    rename_i v pos
    cases v <;> first | (simp [okS] at h; done) | skip
    rw [okS] at h
    exact ss_eq (ss_ret (snd_E e h g.g).1) fun ρ => by rw [exec] <;> rfl
  | .retN, st, h => by
    cases st <;> first | (simp [okS] at h; done) | skip
    rename_i v pos
    cases v <;> first | (simp [okS] at h; done) | skip
    exact ss_eq ss_retN fun ρ => by rw [exec] <;> rfl
  | .ite c a b, st, h => by
    cases st <;> first | (simp [okS] at h; done) | skip
    rw [okS] at h
    simp only [Bool.and_eq_true] at h
    exact ss_eq (ss_if (snd_E c h.1.1 g.g).2.1 (snd_Ss N g a h.1.2) (snd_Ss N g b h.2)) fun ρ => by rw [exec] <;> rfl
  | .wh c b, st, h => by
    cases st <;> first | (simp [okS] at h; done) | skip
    rename_i x ys zs pos
    cases zs <;> first | (simp [okS] at h; done) | skip
    rw [okS] at h
    simp only [Bool.and_eq_true] at h
    exact ss_eq (ss_while g.pass (snd_E c h.1.1 g.g).2.1 (snd_Ss N g b h.1.2)) fun ρ => by rw [exec] <;> rfl
  | .fr tg k es b, st, h => by
    cases st <;> first | (simp [okS] at h; done) | skip
    rename_i t it ys zs pos
    cases zs <;> first | (simp [okS] at h; done) | skip
    rw [okS] at h
    simp only [Bool.and_eq_true] at h
    exact snd_for g h.1.1.1.1.1 h.1.1.1.1.2 h.1.1.1.2 (snd_Ss N g b h.1.1.2) h.2
  | .raise c, st, h => ss_eq ss_stuck fun ρ => by rw [exec]
  | .pass, st, h => by
    cases st <;> first | (simp [okS] at h; done) | skip
    exact ss_eq ss_pass fun ρ => by rw [exec] <;> rfl
theorem snd_Ss (N : Nat) (g : GoodS X Wx T G) : ∀ (s : List St) {st : List Stmt}, okSs T s st = true → SSs X Wx st (execs G N s)
  | [], st, h => by
    cases st with
    | nil =>
      have q : execs G N [] = fun ρ => .nx ρ := by funext ρ; rw [execs]
      rw [q]
      exact sss_nil
    | cons x xs => simp [okSs] at h
  | s :: ss, st, h => by
    cases st with
    | nil => simp [okSs] at h
    | cons x xs =>
      rw [okSs] at h
      simp only [Bool.and_eq_true] at h
      have q : execs G N (s :: ss) = fun ρ => match exec G N s ρ with | .nx ρ1 => execs G N ss ρ1 | r => r := by funext ρ; rw [execs] <;> rfl
      rw [q]
      exact sss_cons (snd_S N g s h.1) (snd_Ss N g ss h.2)
end
end
end PL

set_option autoImplicit false
set_option linter.all false
set_option Elab.async false
set_option maxRecDepth 100000
set_option maxHeartbeats 2000000
/-! PL22: defs keep the evaluator's promise, by the fuel. -/
namespace PL
open PySem PySem.Spec PyProof.Rows L2
section
variable {K : PySem.W.Frag} {Y : Addr → Prop} {H : Hp} {ios : List Nat}
theorem args_len : ∀ {j : Nat} {vs : List V} {ds : List PyData}, Args K Y H ios j vs ds → vs.length = ds.length
  | _, [], [], _ => rfl
  | j, v :: vs, d :: ds, h => by rw [List.length_cons, List.length_cons, args_len h.2]
  | _, [], _ :: _, h => h.elim
  | _, _ :: _, [], h => h.elim
theorem args_at : ∀ {j i : Nat} {vs : List V} {ds : List PyData} {d : PyData}, Args K Y H ios j vs ds → ds[i]? = some d → ∃ v, vs[i]? = some v ∧ (if ios.contains (j + i) then ∃ a, v = .ref a ∧ Y a ∧ Own K Y H a d else Rp K Y H v d)
  | j, 0, v :: vs, d :: ds, _, h, e => by
    cases e
    exact ⟨v, rfl, h.1⟩
  | j, i + 1, v :: vs, d :: ds, d', h, e => by
    obtain ⟨w, e1, r⟩ := args_at (i := i) h.2 (by simpa using e)
    exact ⟨w, by simpa using e1, by rw [show j + (i + 1) = j + 1 + i by omega]; exact r⟩
  | _, _, [], [], _, _, e => by simp at e
  | _, _, [], _ :: _, _, h, _ => h.elim
  | _, _, _ :: _, [], _, h, _ => h.elim
theorem ioA_at {a : Addr} : ∀ {j i : Nat} {vs : List V}, vs[i]? = some (.ref a) → ios.contains (j + i) = true → a ∈ ioA ios j vs
  | j, 0, v :: vs, e, h => by
    cases e
    rw [ioA, if_pos (show ios.contains j = true from h)]
    exact List.mem_append_left _ (by simp [refs])
  | j, i + 1, v :: vs, e, h => by
    have ih := ioA_at (j := j + 1) (i := i) (vs := vs) (by simpa using e) (by rw [show j + 1 + i = j + (i + 1) by omega]; exact h)
    rw [ioA]
    split
    · exact List.mem_append_right _ ih
    · exact ih
  | _, _, [], e, _ => by simp at e
theorem ioA_inj {a : Addr} : ∀ {j i k : Nat} {vs : List V}, (ioA ios j vs).Nodup → vs[i]? = some (.ref a) → vs[k]? = some (.ref a) → ios.contains (j + i) = true → ios.contains (j + k) = true → i = k
  | _, _, _, [], _, e, _, _, _ => by simp at e
  | j, 0, 0, v :: vs, n, e1, e2, h1, h2 => rfl
  | j, 0, k + 1, v :: vs, n, e1, e2, h1, h2 => by
    cases e1
    rw [ioA, if_pos (show ios.contains j = true from h1), refs, List.singleton_append, List.nodup_cons] at n
    exact absurd (ioA_at (j := j + 1) (i := k) (by simpa using e2) (by rw [show j + 1 + k = j + (k + 1) by omega]; exact h2)) n.1
  | j, i + 1, 0, v :: vs, n, e1, e2, h1, h2 => by
    cases e2
    rw [ioA, if_pos (show ios.contains j = true from h2), refs, List.singleton_append, List.nodup_cons] at n
    exact absurd (ioA_at (j := j + 1) (i := i) (by simpa using e1) (by rw [show j + 1 + i = j + (i + 1) by omega]; exact h1)) n.1
  | j, i + 1, k + 1, v :: vs, n, e1, e2, h1, h2 => by
    have n2 : (ioA ios (j + 1) vs).Nodup := by
      rw [ioA] at n
      split at n
      · exact (List.nodup_append.mp n).2.1
      · exact n
    have q := ioA_inj (j := j + 1) (i := i) (k := k) n2 (by simpa using e1) (by simpa using e2) (by rw [show j + 1 + i = j + (i + 1) by omega]; exact h1) (by rw [show j + 1 + k = j + (k + 1) by omega]; exact h2)
    rw [q]
theorem start_at {names : List Str} {vs : List V} {i : Nat} {v : V} (h : vs[i]? = some v) : (L2.start names vs)[i]? = some (some v) := by
  unfold L2.start
  rw [List.getElem?_append_left (by rw [List.length_map]; exact get_len h), List.getElem?_map, h]
  rfl
theorem entry_get {D : Def} {ds : List PyData} {i : Nat} {s : Slot} (h : (entry D ds)[i]? = some s) : s = (match ds[i]? with | some d => if D.ios.contains i then .h true d else .c d | none => .no) := by
  unfold entry at h
  rw [List.getElem?_map] at h
  obtain ⟨k, hk, e⟩ := Option.map_eq_some_iff.mp h
  obtain ⟨_, rfl⟩ := List.getElem?_eq_some_iff.mp hk
  rw [List.getElem_range] at e
  exact e.symm
theorem entry_c {D : Def} {ds : List PyData} {i : Nat} {d : PyData} (h : (entry D ds)[i]? = some (.c d)) : ds[i]? = some d ∧ D.ios.contains i = false := by
  have e := entry_get h
  cases q : ds[i]? with
  | none => rw [q] at e; cases e
  | some x =>
    rw [q] at e
    dsimp only at e
    split at e
    · cases e
    · cases e; exact ⟨rfl, Bool.eq_false_iff.mpr ‹_›⟩
theorem entry_h {D : Def} {ds : List PyData} {i : Nat} {io : Bool} {d : PyData} (h : (entry D ds)[i]? = some (.h io d)) : ds[i]? = some d ∧ D.ios.contains i = true ∧ io = true := by
  have e := entry_get h
  cases q : ds[i]? with
  | none => rw [q] at e; cases e
  | some x =>
    rw [q] at e
    dsimp only at e
    split at e
    · cases e; exact ⟨rfl, ‹_›, rfl⟩
    · cases e
theorem entry_conc {D : Def} {names : List Str} {vs : List V} {ds : List PyData} (t : Trk Y H) (ha : Args K Y H D.ios 0 vs ds) (n : (ioA D.ios 0 vs).Nodup) (hl : names.length = D.ns) :
    Conc K (fun a => H a ≠ none) (fun a => Y a ∧ a ∉ ioA D.ios 0 vs) (entry D ds) (L2.start names vs) H ∧ ∀ a, HotAt (entry D ds) (L2.start names vs) a → a ∈ ioA D.ios 0 vs ∧ Y a := by
  have at_ : ∀ {i : Nat} {d : PyData}, ds[i]? = some d → ∃ v, vs[i]? = some v ∧ (if D.ios.contains i then ∃ a, v = .ref a ∧ Y a ∧ Own K Y H a d else Rp K Y H v d) := fun {i d} e => by
    obtain ⟨v, e1, r⟩ := args_at ha e
    rw [Nat.zero_add] at r
    exact ⟨v, e1, r⟩
  have hot : ∀ a, HotAt (entry D ds) (L2.start names vs) a → a ∈ ioA D.ios 0 vs ∧ Y a := fun a ⟨i, io, d, e1, e2⟩ => by
    obtain ⟨h1, h2, _⟩ := entry_h e1
    obtain ⟨v, e3, r⟩ := at_ h1
    rw [if_pos h2] at r
    obtain ⟨b, rfl, hY, _⟩ := r
    rw [start_at e3] at e2
    cases e2
    exact ⟨ioA_at (j := 0) e3 (by rw [Nat.zero_add]; exact h2), hY⟩
  have fb : ∀ a, Fb (fun a => Y a ∧ a ∉ ioA D.ios 0 vs) (entry D ds) (L2.start names vs) a → Y a := fun a z => z.elim (fun z => z.1) fun z => (hot a z).2
  refine ⟨⟨fun i d e => ?_, fun i io d e => ?_, fun i j io1 io2 d1 d2 a h1 h2 s1 s2 => ?_, fun a z => t a z.1, fun a z => z, ?_⟩, hot⟩
  · obtain ⟨h1, h2⟩ := entry_c e
    obtain ⟨v, e3, r⟩ := at_ h1
    rw [if_neg (by rw [h2]; exact Bool.false_ne_true)] at r
    exact ⟨v, start_at e3, r.less fb⟩
  · obtain ⟨h1, h2, h3⟩ := entry_h e
    obtain ⟨v, e3, r⟩ := at_ h1
    rw [if_pos h2] at r
    obtain ⟨b, rfl, hY, o⟩ := r
    exact ⟨b, start_at e3, fun z => z.2 (ioA_at (j := 0) e3 (by rw [Nat.zero_add]; exact h2)), (fun z => by rw [h3] at z; cases z), o.move Keeps.refl fb fun u e => e⟩
  · obtain ⟨a1, a2, _⟩ := entry_h h1
    obtain ⟨b1, b2, _⟩ := entry_h h2
    obtain ⟨v, e3, r⟩ := at_ a1
    obtain ⟨w, e4, r2⟩ := at_ b1
    rw [start_at e3] at s1
    rw [start_at e4] at s2
    cases s1
    cases s2
    exact ioA_inj (j := 0) n e3 e4 (by rw [Nat.zero_add]; exact a2) (by rw [Nat.zero_add]; exact b2)
  · unfold entry L2.start
    rw [List.length_map, List.length_range, List.length_append, List.length_map, List.length_replicate]
    omega
theorem outs_hot {ρ : PL.Env} : ∀ {is : List Nat} {os : List PyData}, outsOf ρ is = some os → ∀ i ∈ is, ∃ d, ρ[i]? = some (Slot.h true d)
  | [], _, _, i, h => by cases h
  | k :: ks, os, e, i, h => by
    rw [outsOf] at e
    cases e1 : gets ρ k with
    | h io d =>
      cases io with
      | false => rw [e1] at e; simp at e
      | true =>
        cases e2 : outsOf ρ ks with
        | none => rw [e1, e2] at e; cases e
        | some r =>
          rcases List.mem_cons.mp h with rfl | h
          · exact ⟨d, gets_some e1 (by intro z; cases z)⟩
          · exact outs_hot e2 i h
    | _ => rw [e1] at e; simp at e
theorem outs_r {ρ : PL.Env} {Y' : Addr → Prop} {H' : Hp} : ∀ {vs : List V} {j : Nat} {os : List PyData}, outsOf ρ ((List.range' j vs.length).filter ios.contains) = some os →
    (∀ (i : Nat) (d : PyData), ios.contains (j + i) = true → ρ[j + i]? = some (Slot.h true d) → ∃ a, vs[i]? = some (.ref a) ∧ Own K Y' H' a d) → OutsR K Y' H' ios j vs os
  | [], j, os, e, _ => by
    simp [outsOf] at e
    unfold OutsR
    exact e
  | v :: vs, j, os, e, f => by
    rw [List.length_cons, List.range'_succ, List.filter_cons] at e
    have f' : ∀ (i : Nat) (d : PyData), ios.contains (j + 1 + i) = true → ρ[j + 1 + i]? = some (Slot.h true d) → ∃ a, vs[i]? = some (.ref a) ∧ Own K Y' H' a d := fun i d h1 h2 => by
      obtain ⟨a, e1, o⟩ := f (i + 1) d (by rw [show j + (i + 1) = j + 1 + i by omega]; exact h1) (by rw [show j + (i + 1) = j + 1 + i by omega]; exact h2)
      exact ⟨a, by simpa using e1, o⟩
    unfold OutsR
    by_cases hc : ios.contains j = true
    · rw [if_pos hc] at e ⊢
      rw [outsOf] at e
      cases e1 : gets ρ j with
      | h io d =>
        cases io with
        | false => rw [e1] at e; simp at e
        | true =>
          cases e2 : outsOf ρ ((List.range' (j + 1) vs.length).filter ios.contains) with
          | none => rw [e1, e2] at e; cases e
          | some r =>
            rw [e1, e2] at e
            cases e
            obtain ⟨a, ea, o⟩ := f 0 d hc (gets_some e1 (by intro z; cases z))
            cases ea
            exact ⟨d, r, a, rfl, rfl, o, outs_r e2 f'⟩
      | _ => rw [e1] at e; simp at e
    · rw [if_neg hc] at e ⊢
      exact outs_r e f'
end
/-- what must be known of the module, and of each def -/
structure Code (K : PySem.W.Frag) (mg : Str → Option Value) (bi : List Str) (gl : List (Str × PyData)) (defs : Str → Option Def) : Prop where
  nbi : ∀ x ∈ bi, mg x = none
  ngl : ∀ x d, (x, d) ∈ gl → ∃ u v, mg x = some u ∧ RelV v u ∧ ∀ Y H, Rp K Y H v d
  fn : ∀ f D, defs f = some D → ∃ (names ps : List Str) (params : Arguments) (body : List Stmt) (scope : Scope) (fa : Addr) (fd : FuncData), FunD K f f params body scope [] [] fa fd ∧ FnScope names ps scope ∧ okSs ⟨names, scope, scope, bi, gl⟩ D.body body = true ∧
    ps.length = D.np ∧ names.length = D.ns ∧ D.ios = (List.range' 0 D.np).filter D.ios.contains ∧ mg f = some (.ref fa) ∧ Binds K fd ps []
section
variable {P : Program} {w : World} {K : PySem.W.Frag} {mg : Str → Option Value} {base : Heap} {bi : List Str} {gl : List (Str × PyData)} {defs : Str → Option Def}
theorem callD_ok {N n : Nat} {f : Str} {ds : List PyData} {r : Slot} {outs : List PyData} (h : callD defs N n f ds = .ok r outs) : ∃ m D, n = m + 1 ∧ defs f = some D ∧ ds.length = D.np ∧
    ((∃ ρ, execs ⟨defs, callD defs N m⟩ N D.body (entry D ds) = .nx ρ ∧ outsOf ρ D.ios = some outs ∧ r = .c .none) ∨ ∃ ρ, execs ⟨defs, callD defs N m⟩ N D.body (entry D ds) = .rt r ρ ∧ outsOf ρ D.ios = some outs) := by
  cases n with
  | zero => cases h
  | succ m =>
    rw [callD] at h
    cases e1 : defs f with
    | none => rw [e1] at h; cases h
    | some D =>
      rw [e1] at h
      dsimp only at h
      split at h
      · rename_i hl
        refine ⟨m, D, rfl, rfl, hl, ?_⟩
        cases e2 : execs ⟨defs, callD defs N m⟩ N D.body (entry D ds) with
        | nx ρ =>
          rw [e2] at h
          dsimp only at h
          cases e3 : outsOf ρ D.ios with
          | none => rw [e3] at h; cases h
          | some os => rw [e3] at h; cases h; exact .inl ⟨ρ, rfl, e3, rfl⟩
        | rt s ρ =>
          rw [e2] at h
          dsimp only at h
          cases e3 : outsOf ρ D.ios with
          | none => rw [e3] at h; cases h
          | some os => rw [e3] at h; cases h; exact .inr ⟨ρ, rfl, e3⟩
        | exc c ρ =>
          rw [e2] at h
          dsimp only at h
          cases e3 : outsOf ρ D.ios with
          | none => rw [e3] at h; cases h
          | some os => rw [e3] at h; cases h
        | stuck => rw [e2] at h; cases h
      · cases h
/-- the evaluator's word at a def's body -/
theorem body_reads {K : PySem.W.Frag} {D : Def} {names : List Str} {vs : List V} {H : Hp} {Q : VK} {E : XK} {N m : Nat} {f : Str} (hl : names.length = D.ns) (hio : D.ios = (List.range' 0 D.np).filter D.ios.contains) (hD : defs f = some D)
    (h : spD K (callD defs N (m + 1)) f D vs H Q E) : tSS K WF (execs ⟨defs, callD defs N m⟩ N D.body) { nx := fun _ H' => Q .non H', rt := Q } (L2.start names vs) H := by
  obtain ⟨Y, ds, r, outs, t, ha, n, hc, q⟩ := h
  obtain ⟨m', D', em, eD, hn, hx⟩ := callD_ok hc
  cases em
  rw [hD] at eD
  cases eD
  obtain ⟨C, hot⟩ := entry_conc (names := names) t ha n hl
  refine ⟨_, _, entry D ds, C, ?_⟩
  have hv : vs.length = D.np := by rw [args_len ha, hn]
  -- the ends
  have fin : ∀ {ρ' : PL.Env} {σ' : L2.St} {H' : Hp} {v : V}, PostS K (fun a => H a ≠ none) (fun a => Y a ∧ a ∉ ioA D.ios 0 vs) (entry D ds) ρ' (L2.start names vs) σ' H H' → outsOf ρ' D.ios = some outs →
      (r = .no → False) → RetV K (fun a => H a ≠ none) (fun a => Y a ∧ a ∉ ioA D.ios 0 vs) ρ' σ' H' v r → Q v H' := fun {ρ' σ' H' v} p ho hr rv => by
    have slot : ∀ {i : Nat} {d : PyData}, D.ios.contains i = true → ρ'[i]? = some (.h true d) → ∃ a, vs[i]? = some (.ref a) ∧ σ'[i]? = some (some (.ref a)) := fun {i d} hi e => by
      obtain ⟨⟨d0, e0⟩, es⟩ := p.io i d e
      obtain ⟨a1, _, _⟩ := entry_h e0
      obtain ⟨v0, e3, rr⟩ := args_at ha a1
      rw [Nat.zero_add, if_pos hi] at rr
      obtain ⟨a, rfl, _, _⟩ := rr
      exact ⟨a, e3, by rw [es]; exact start_at e3⟩
    have yfb : ∀ a, Y a → Fb (fun a => Y a ∧ a ∉ ioA D.ios 0 vs) ρ' σ' a := fun a hY => by
      by_cases hm : a ∈ ioA D.ios 0 vs
      · -- an io slot, still hot
        have key : ∀ {j : Nat} {ws : List V}, a ∈ ioA D.ios j ws → ∃ i, D.ios.contains (j + i) = true ∧ ws[i]? = some (.ref a) := by
          intro j ws
          induction ws generalizing j with
          | nil => intro h; simp [ioA] at h
          | cons v0 ws ih =>
            intro h
            rw [ioA] at h
            split at h
            · rename_i hcj
              rcases List.mem_append.mp h with h | h
              · cases v0 with
                | ref b =>
                  have : a = b := by simpa [refs] using h
                  subst this
                  exact ⟨0, hcj, rfl⟩
                | _ => simp [refs] at h
              · obtain ⟨i, h1, h2⟩ := ih h
                exact ⟨i + 1, by rw [show j + (i + 1) = j + 1 + i by omega]; exact h1, by simpa using h2⟩
            · obtain ⟨i, h1, h2⟩ := ih h
              exact ⟨i + 1, by rw [show j + (i + 1) = j + 1 + i by omega]; exact h1, by simpa using h2⟩
        obtain ⟨i, h1, h2⟩ := key hm
        rw [Nat.zero_add] at h1
        obtain ⟨d, e⟩ := outs_hot ho i (by simpa using h1)
        obtain ⟨b, e1, e2⟩ := slot h1 e
        rw [h2] at e1
        cases e1
        exact .inr ⟨i, true, d, e, e2⟩
      · exact .inl ⟨hY, hm⟩
    have ho' : outsOf ρ' ((List.range' 0 vs.length).filter D.ios.contains) = some outs := by rw [hv, ← hio]; exact ho
    refine q v H' (p.keep.mono fun a z => (hot a z).1) (outs_r ho' fun i d hi e => ?_) ?_
    · rw [Nat.zero_add] at hi e
      obtain ⟨a, e1, e2⟩ := slot hi e
      refine ⟨a, e1, ?_⟩
      cases r with
      | no => exact (hr rfl).elim
      | c d0 =>
        obtain ⟨b, e3, _, _, o⟩ := p.conc.hot i true d e
        rw [e2] at e3
        cases e3
        exact o.move Keeps.refl (fun x z => yfb x z) fun u e => e
      | h io0 d0 =>
        obtain ⟨b0, ev, _, _, _, ob⟩ := rv
        obtain ⟨b, e3, o⟩ := ob i true d e
        rw [e2] at e3
        cases e3
        refine o.move Keeps.refl (fun x z => ?_) fun u e => e
        rcases z with z | z
        · exact .inr (yfb x z)
        · rw [ev] at z
          cases z
          exact .inl rfl
    · cases r with
      | no => exact (hr rfl).elim
      | c d => exact Rp.less yfb rv
      | h io d =>
        obtain ⟨b, ev, nb, _, o, _⟩ := rv
        refine ⟨b, ev, Classical.byContradiction nb, o.move Keeps.refl (fun x z => z.imp id (yfb x)) fun u e => e⟩
  rcases hx with ⟨ρ', e, ho, rfl⟩ | ⟨ρ', e, ho⟩
  · rw [e]
    exact fun σ' H' p => fin p ho (fun z => by cases z) .non
  · rw [e]
    exact fun v σ' H' p rv => fin p ho (fun z => by rw [z] at rv; exact rv) rv
/-- every def, at every fuel -/
theorem fn_all (c : Code K mg bi gl defs) (N : Nat) : ∀ (n : Nat) (f : Str) (D : Def), defs f = some D → ∃ (fa : Addr) (fd : FuncData) (ps : List Str), mg f = some (.ref fa) ∧ PySem.W.keepIn K (.ref fa) = true ∧ FnOk P w K mg base CX0 n fa fd ps (spD K (callD defs N n) f D) ∧ Binds K fd ps []
  | 0, f, D, hD => by
    obtain ⟨names, ps, params, body, scope, fa, fd, F, S, ok, l1, l2, hio, hm, hb⟩ := c.fn f D hD
    have no : ∀ {vs H Q E}, spD K (callD defs N 0) f D vs H Q E → False := fun {vs H Q E} ⟨_, _, _, _, _, _, _, h, _⟩ => by cases h
    exact ⟨fa, fd, ps, hm, F.kp, ⟨fun vs H Q E h => (no h).elim, fun A outer s H args us vs Q E _ _ _ _ h => (no h).elim⟩, hb⟩
  | n + 1, f, D, hD => by
    obtain ⟨names, ps, params, body, scope, fa, fd, F, S, ok, l1, l2, hio, hm, hb⟩ := c.fn f D hD
    refine ⟨fa, fd, ps, hm, F.kp, F.ok S (fun vs H Q E h => ?_) fun cdv A outer s H vs Q E hr h => ⟨_, PSs.nox ?_, body_reads (names := names) l2 hio hD h⟩, hb⟩
    · obtain ⟨Y, ds, r, outs, t, ha, _, hc, _⟩ := h
      obtain ⟨_, D', _, eD, hn, _⟩ := callD_ok hc
      rw [hD] at eD
      cases eD
      rw [args_len ha, hn, l1]
    · refine snd_Ss (T := ⟨names, scope, scope, bi, gl⟩) (G := ⟨defs, callD defs N n⟩) N ⟨⟨⟨rfl, ?_⟩, rfl, S.nd, rfl, S.kind, fun x hx => ⟨stor_ok hx, .inl rfl⟩, c.nbi, c.ngl, fun x D' hx => ?_⟩, PassesOwn.never⟩ D.body ok
      · have := hr.un
        show (A.deeper (envOfC f scope s.heap.objs.size fa cdv)).units + 200 < cLine
        omega
      · obtain ⟨fa', fd', ps', m', k', F', b'⟩ := fn_all c N n x D' hx
        exact ⟨fa', n, fd', ps', m', k', F', hr, b'⟩
end
end PL

set_option autoImplicit false
set_option linter.all false
set_option Elab.async false
set_option maxRecDepth 100000
set_option maxHeartbeats 2000000
/-! PL23: the hand, and the law's def. -/
namespace PL
open PySem PySem.Spec PyProof.Rows L2
def cellsOf (ns : List Int) : List PyData := (ns.take 63).map fun i => .int (if i < 0 then -i else i)
def handD (m : Nat → Int) (ns : List Int) : PyData := .list [.list (cellsOf ns), .int 0, .int 0, .int (m (cellsOf ns).length), .int 0]
def spHand (K : PySem.W.Frag) (m : Nat → Int) : Sp := fun vs H Q _ => ∃ (a : Addr) (ns : List Int), vs = [.ref a] ∧ SqL K H a (ns.map V.int) ∧ ns.length ≤ 63 ∧ ∀ p H', H p = none → Keeps NoM H H' → Own K (fun b => b = p) H' p (handD m ns) → Q (.ref p) H'
def eltH : Ex := .bi .abs [.bi .int [.var 2]]
def handB (T : Tab) (body : List Stmt) (rest : List St) : Bool := match body with
  | s :: r => okSs T rest r && (match s with
    | .Assign ts y pos => match ts with
      | [t] => match t with
        | .Name x px => match y with
          | .ListComp elt gens sc _ => match gens with
            | [g] => match g with
              | ⟨tg, it, ifs, n⟩ => match it with
                | .Subscript o z _ => match o with
                  | .Name w _ => match z with
                    | .Slice l h st _ => match h with
                      | some c => match c with
                        | .Constant k _ _ => T.N[1]? == some x && stor T.st x && T.N[0]? == some w && vis T.sc w && okN w && l.isNone && st.isNone && k == .int 63 && n == 0 && ifs.isEmpty && blkB T sc [2] && okT (T.blk sc) (.nm 2) tg && okE (T.blk sc) eltH elt && swapC T.sc x px y
                        | _ => false
                      | none => false
                    | _ => false
                  | _ => false
                | _ => false
            | _ => false
          | _ => false
        | _ => false
      | _ => false
    | _ => false)
  | [] => false
theorem step_hand (G : Ctx) (i : Int) : stepF (.nm 2) (evIf G []) (ev G eltH) [2] (.int i) [.no, .no, .no] = .ok (some (.int (if i < 0 then -i else i))) [.no, .no, .no] := by
  have e1 : evIf G [] = fun ρ => .ok true ρ := by funext ρ; rw [evIf]
  have e2 : ev G eltH [.no, .no, .c (.int i)] = .ok (.val (.int (if i < 0 then -i else i))) [.no, .no, .c (.int i)] := by
    unfold eltH
    simp [ev, evR, gets, bind, biR, peeks, peek, biD, one, intD, absD, ofO]
  unfold stepF
  simp [asgT, wipeE, e1, e2, bind, PL.cold]
theorem loop_hand (G : Ctx) : ∀ (ns : List Int) (acc : List PyData), acc.length + ns.length ≤ 1000 → lcL (stepF (.nm 2) (evIf G []) (ev G eltH) [2]) (ns.map .int) acc [.no, .no, .no] = .ok (acc ++ ns.map fun i => .int (if i < 0 then -i else i)) [.no, .no, .no]
  | [], acc, _ => by rw [List.map_nil, lcL, List.map_nil, List.append_nil]
  | n :: ns, acc, h => by
    rw [List.length_cons] at h
    rw [List.map_cons, lcL, step_hand]
    dsimp only
    rw [if_pos (by unfold szOk; exact decide_eq_true (by omega)), loop_hand G ns _ (by rw [List.length_append, List.length_singleton]; omega), List.map_cons, List.append_assoc]
    rfl
theorem lc_hand (G : Ctx) (ns : List Int) : lcF (fun ρ => .ok ((ns.take 63).map .int) ρ) (.nm 2) (evIf G []) (ev G eltH) [2] [.no, .no, .no] = .ok (.fresh (.list (cellsOf ns))) [.no, .no, .no] := by
  unfold lcF
  rw [bind_ok, if_pos (by rfl)]
  have e : wipeE [Slot.no, .no, .no] [2] = [.no, .no, .no] := rfl
  rw [e, loop_hand G (ns.take 63) [] (by rw [List.length_take, List.length_nil]; omega), bind_ok]
  rfl
theorem cut63 (xs : List V) : cutV xs none (some 63) = xs.take 63 := by
  unfold cutV
  rw [show HT.sIx xs.length 0 none = 0 from rfl, show HT.sIx xs.length xs.length (some 63) = min 63 xs.length from HT.sIx_nat xs.length _ 63, List.drop_zero, Nat.sub_zero, ← List.take_eq_take_min]
section
variable {P : Program} {w : World} {K : PySem.W.Frag} {mg : Str → Option Value} {base : Heap} {bi : List Str} {gl : List (Str × PyData)}
theorem conc_no {H : Hp} {σ : L2.St} (h : 3 ≤ σ.length) : Conc K (fun a => H a ≠ none) (fun _ => False) [.no, .no, .no] σ H := by
  have no : ∀ {i : Nat} {s : Slot}, ([Slot.no, .no, .no] : PL.Env)[i]? = some s → s = .no := fun {i s} e => by
    have := List.mem_of_getElem? e
    simpa using this
  exact ⟨fun i d e => (by cases no e), fun i io d e => (by cases no e), fun i j io1 io2 d1 d2 a e => (by cases no e), fun _ z => z.elim, fun _ z => z, h⟩
theorem ok_hand {f qual : Str} {params : Arguments} {body : List Stmt} {scope : Scope} {fa : Addr} {fd : FuncData} {names : List Str} {rest : List St} {m : Nat → Int} (F : FunD K f qual params body scope [] [] fa fd) (S : FnScope names ["script"] scope) (hb : handB ⟨names, scope, scope, bi, gl⟩ body rest = true)
    (hl : names.length = 3) (nbi : ∀ x ∈ bi, mg x = none) (ngl : ∀ x d, (x, d) ∈ gl → ∃ u v, mg x = some u ∧ RelV v u ∧ ∀ Y H, Rp K Y H v d)
    (hr : ∀ cells : List PyData, cells.length ≤ 63 → execs ⟨fun _ => none, fun _ _ => .stuck⟩ 0 rest [.no, .c (.list cells), .no] = .rt (.h false (.list [.list cells, .int 0, .int 0, .int (m cells.length), .int 0])) [.no, .c (.list cells), .no]) :
    FnOk P w K mg base CX0 1 fa fd ["script"] (spHand K m) := by
  refine F.ok S (fun vs H Q E h => ?_) fun cdv A outer s H vs Q E hroom h => ?_
  · obtain ⟨a, ns, rfl, _⟩ := h; rfl
  · have g : GoodS (cxOf CX0 P w K mg base names qual scope fa cdv A outer s H E).nox WF ⟨names, scope, scope, bi, gl⟩ ⟨fun _ => none, fun _ _ => .stuck⟩ := by
      refine ⟨⟨⟨rfl, ?_⟩, rfl, S.nd, rfl, S.kind, fun x hx => ⟨stor_ok hx, .inl rfl⟩, nbi, ngl, fun x D' hx => by cases hx⟩, PassesOwn.never⟩
      have := hroom.un
      show (A.deeper (envOfC qual scope s.heap.objs.size fa cdv)).units + 200 < cLine
      omega
    unfold handB at hb
    cases body with
    | nil => cases hb
    | cons s1 r =>
      simp only [Bool.and_eq_true] at hb
      obtain ⟨hrest, hb⟩ := hb
      cases s1 <;> first | (cases hb; done) | skip
      rename_i ts y pos
      rcases ts with _ | ⟨t, _ | _⟩ <;> first | (cases hb; done) | skip
      cases t <;> first | (cases hb; done) | skip
      rename_i x px
      cases y <;> first | (cases hb; done) | skip
      rename_i elt gens sc lp
      rcases gens with _ | ⟨gg, _ | _⟩ <;> first | (cases hb; done) | skip
      obtain ⟨tg, it, ifs, n⟩ := gg
      cases it <;> first | (cases hb; done) | skip
      rename_i o z ip
      cases o <;> first | (cases hb; done) | skip
      rename_i ww wp
      cases z <;> first | (cases hb; done) | skip
      rename_i l hh st sp
      cases hh <;> first | (cases hb; done) | skip
      rename_i c
      cases c <;> first | (cases hb; done) | skip
      rename_i k kj kp
      simp only [Bool.and_eq_true] at hb
      obtain ⟨⟨⟨⟨⟨⟨⟨⟨⟨⟨⟨⟨⟨b1, b2⟩, b3⟩, b4⟩, b5⟩, b6⟩, b7⟩, b8⟩, b9⟩, b10⟩, b11⟩, b12⟩, b13⟩, b14⟩ := hb
      have e8 := eq_of_beq b8
      have e9 := eq_of_beq b9
      subst e8 e9
      cases l <;> first | (cases b6; done) | skip
      cases st <;> first | (cases b7; done) | skip
      cases ifs <;> first | (cases b10; done) | skip
      generalize hX : (cxOf CX0 P w K mg base names qual scope fa cdv A outer s H E).nox = X at g
      have eK : X.K = K := by rw [← hX]; rfl
      obtain ⟨n1, n2, _⟩ := okN_ok b5
      obtain ⟨s1', s2'⟩ := g.g.st _ b2
      have hN : X.N.Nodup := by rw [g.g.hN]; exact g.g.nd
      have hi1 : X.N[1]? = some x := by rw [g.g.hN]; exact eq_of_beq b1
      have hi0 : X.N[0]? = some ww := by rw [g.g.hN]; exact eq_of_beq b3
      -- what is walked
      have pit : PI X tg (.Subscript (.Name ww wp) (.Slice none (some (.Constant (.int 63) kj kp)) none sp) ip) (fun σ H R => ∃ (a : Addr) (ns : List Int), σ[0]? = some (some (.ref a)) ∧ SqL X.K H a (ns.map V.int) ∧ tSI X.K WF (fun ρ => .ok ((ns.take 63).map .int) ρ) σ H R) := by
        refine pi_mono (pi_list (pe_slice sl_list (pe_var hi0 (by rw [g.g.hs]; exact vis_ok b4) n1 n2) po_none (po_some pe_int))) fun σ H R ⟨a, ns, e0, hq, B, Z, ρ, C, h⟩ => ?_
        refine ⟨.ref a, e0, 63, rfl, a, ns.map V.int, rfl, hq, fun q hqn => ?_⟩
        rw [cut63, ← List.map_take]
        have k0 : Keeps NoM H (upd H q (.lst ((ns.take 63).map V.int))) := Keeps.new hqn
        refine ⟨q, rfl, ⟨_, SqL.of upd_same⟩, h (Itl X.K q) _ ⟨k0.any, Sub.refl, C.grow k0⟩ (walkD_list (C.nfb hqn) (.inl upd_same) (rp_ints _))⟩
      have hbk : ∀ (s : Shared) (H : Hp) (C : Addr) (cl : List (Str × Addr)) (fp : List Addr), Good (X.blk s H sc (compEnvC sc cl C X.env) fp) WF (Tab.blk ⟨names, scope, scope, bi, gl⟩ sc) ⟨fun _ => none, fun _ _ => .stuck⟩ := fun s H C cl fp => g.g.inblk b11 s H C cl fp
      have bo := blk_ok g.g b11
      have sw := swap_eq (x := x) (px := px) (l := pos.line) g.g.hs g.g.kind (y := .ListComp elt [⟨tg, .Subscript (.Name ww wp) (.Slice none (some (.Constant (.int 63) kj kp)) none sp) ip, [], 0⟩] sc lp) rfl
      rw [b14] at sw
      have loc : X.env.scope.names.lookup x = some .local := by
        rw [g.g.hs]
        unfold swapC at b14
        simp only [Bool.and_eq_true] at b14
        exact eq_of_beq b14.1.1
      have own2 : ((ownP names [2]).map (·.2)) = [2] := rfl
      have A1 := ps_setLc (g := tSG X.K (.nm 2)) (tt := tST X.K WF (evIf ⟨fun _ => none, fun _ _ => .stuck⟩ [])) (te := tSE X.K WF (ev ⟨fun _ => none, fun _ _ => .stuck⟩ eltH)) (spos := pos) (pos := lp) (elt := elt) (ifs := []) g.g.ok.calm hN hi1 loc sw pit bo
        (fun s H C cl fp => snd_T (hbk s H C cl fp) b12) (fun s H C cl fp => tests_of (ok := (hbk s H C cl fp).ok) .nil (by simp)) (fun s H C cl fp => (snd_E eltH b13 (hbk s H C cl fp)).1) (fold_ok rfl)
      have A2 := snd_Ss 0 g rest hrest
      refine ⟨_, PSs.nox (by rw [hX]; exact pss_cons A1 A2), ?_⟩
      obtain ⟨a, ns, rfl, hq, hn, q⟩ := h
      have len : 3 ≤ (L2.start names [V.ref a]).length := by
        unfold L2.start
        rw [List.length_append, List.length_map, List.length_replicate, hl]
        exact Nat.le_refl 3
      have C0 : Conc X.K (fun x => H x ≠ none) (fun _ => False) [.no, .no, .no] (L2.start names [V.ref a]) H := by rw [eK]; exact conc_no len
      have L : tSE X.K WF (lcF (fun ρ => .ok ((ns.take 63).map .int) ρ) (.nm 2) (evIf ⟨fun _ => none, fun _ _ => .stuck⟩ []) (ev ⟨fun _ => none, fun _ _ => .stuck⟩ eltH) [2]) (L2.start names [V.ref a]) H
          (fun x H1 => tSS X.K WF (execs ⟨fun _ => none, fun _ _ => .stuck⟩ 0 rest) { nx := fun _ H' => Q .non H', rt := Q } ((L2.start names [V.ref a]).set 1 (some x)) H1) → _ := fun L => (⟨a, ns, start_at rfl, by rw [eK]; exact hq, lc_reads (own := [2]) rfl L⟩ :
        tSeq (tAsg (tLc (fun σ H R => ∃ (a : Addr) (ns : List Int), σ[0]? = some (some (.ref a)) ∧ SqL X.K H a (ns.map V.int) ∧ tSI X.K WF (fun ρ => .ok ((ns.take 63).map .int) ρ) σ H R) (tSG X.K (.nm 2)) (tST X.K WF (evIf ⟨fun _ => none, fun _ _ => .stuck⟩ [])) (tSE X.K WF (ev ⟨fun _ => none, fun _ _ => .stuck⟩ eltH)) [2]) (gName 1)) (tSS X.K WF (execs ⟨fun _ => none, fun _ _ => .stuck⟩ 0 rest)) { nx := fun _ H' => Q .non H', rt := Q } (L2.start names [V.ref a]) H)
      refine L ⟨_, _, _, C0, ?_⟩
      rw [lc_hand]
      intro v H1 P1
      have P2 := asg_post (hot := false) P1 (s := .c (.list (cellsOf ns))) (ρ2 := [.no, .no, .no]) rfl 1
      refine ⟨_, _, _, P2.conc, ?_⟩
      have hlc : (cellsOf ns).length ≤ 63 := by unfold cellsOf; rw [List.length_map, List.length_take]; omega
      have ee : ([Slot.no, .no, .no] : PL.Env).set 1 (.c (.list (cellsOf ns))) = [.no, .c (.list (cellsOf ns)), .no] := rfl
      rw [ee, hr _ hlc]
      intro v2 σ2 H2 P3 ⟨b, ev, nb, _, o, _⟩
      have P4 := P2.seq P3
      subst ev
      rw [eK] at o
      refine q b H2 (Classical.byContradiction nb) (P4.keep.mono fun x ⟨i, io, d, e1, _⟩ => ?_) (o.move Keeps.refl (fun x z => .inl z) fun u e => e)
      have := List.mem_of_getElem? e1
      simp at this
end
end PL

set_option autoImplicit false
set_option linter.all false
set_option Elab.async false
set_option maxRecDepth 100000
set_option maxHeartbeats 2000000
/-! PL24: the law's def. -/
namespace PL
open PySem PySem.Spec PyProof.Rows L2
def spLaw (K : PySem.W.Frag) : Sp := fun vs H Q _ => ∃ (a : Addr) (ns : List Int), vs = [.ref a] ∧ SqL K H a (ns.map V.int) ∧ ns.length ≤ 63 ∧ ∀ H', Q (.bl true) H'
def lawB (T : Tab) (body : List Stmt) (rest : List St) : Bool := match body with
  | s :: r => okSs T rest r && (match s with
    | .Assign ts y pos => match ts with
      | [t] => match t with
        | .Name x px => match y with
          | .Call f xs kw _ => match f with
            | .Name z _ => match xs with
              | [a] => match a with
                | .Name w _ => kw.isEmpty && T.N[1]? == some x && stor T.st x && T.N[0]? == some w && vis T.sc w && okN w && z == "_law_hand" && glo T.sc z
                | _ => false
              | _ => false
            | _ => false
          | _ => false
        | _ => false
      | _ => false
    | _ => false)
  | [] => false
section
variable {P : Program} {w : World} {K : PySem.W.Frag} {mg : Str → Option Value} {base : Heap} {bi : List Str} {gl : List (Str × PyData)} {defs : Str → Option Def}
theorem ok_law {f qual : Str} {params : Arguments} {body : List Stmt} {scope : Scope} {fa fh : Addr} {fd fdh : FuncData} {names : List Str} {rest : List St} {m : Nat → Int} {N n : Nat} (c : Code K mg bi gl defs) (F : FunD K f qual params body scope [] [] fa fd) (S : FnScope names ["script"] scope)
    (hb : lawB ⟨names, scope, scope, bi, gl⟩ body rest = true) (hl : 2 ≤ names.length) (FH : FnOk P w K mg base CX0 1 fh fdh ["script"] (spHand K m)) (hm : mg "_law_hand" = some (.ref fh)) (hk : PySem.W.keepIn K (.ref fh) = true) (hbind : Binds K fdh ["script"] []) (hn : 1 ≤ n)
    (pure : ∀ ns : List Int, ns.length ≤ 63 → ∃ ρ', execs ⟨defs, callD defs N n⟩ N rest ((List.replicate names.length Slot.no).set 1 (.h false (handD m ns))) = .rt (.c (.bool true)) ρ') : FnOk P w K mg base CX0 (n + 1) fa fd ["script"] (spLaw K) := by
  refine F.ok S (fun vs H Q E h => ?_) fun cdv A outer s H vs Q E hroom h => ?_
  · obtain ⟨a, ns, rfl, _⟩ := h; rfl
  · have g : GoodS (cxOf CX0 P w K mg base names qual scope fa cdv A outer s H E).nox WF ⟨names, scope, scope, bi, gl⟩ ⟨defs, callD defs N n⟩ := by
      refine ⟨⟨⟨rfl, ?_⟩, rfl, S.nd, rfl, S.kind, fun x hx => ⟨stor_ok hx, .inl rfl⟩, c.nbi, c.ngl, fun x D' hx => ?_⟩, PassesOwn.never⟩
      · have := hroom.un
        show (A.deeper (envOfC qual scope s.heap.objs.size fa cdv)).units + 200 < cLine
        omega
      · obtain ⟨fa', fd', ps', m', k', F', b'⟩ := fn_all c N n x D' hx
        exact ⟨fa', n, fd', ps', m', k', F', hroom, b'⟩
    have hroomX : Room n (cxOf CX0 P w K mg base names qual scope fa cdv A outer s H E).nox.A := hroom
    unfold lawB at hb
    cases body with
    | nil => cases hb
    | cons s1 r =>
      simp only [Bool.and_eq_true] at hb
      obtain ⟨hrest, hb⟩ := hb
      cases s1 <;> first | (cases hb; done) | skip
      rename_i ts y pos
      rcases ts with _ | ⟨t, _ | _⟩ <;> first | (cases hb; done) | skip
      cases t <;> first | (cases hb; done) | skip
      rename_i x px
      cases y <;> first | (cases hb; done) | skip
      rename_i ff xs kw cp
      cases ff <;> first | (cases hb; done) | skip
      rename_i z zp
      rcases xs with _ | ⟨a0, _ | _⟩ <;> first | (cases hb; done) | skip
      cases a0 <;> first | (cases hb; done) | skip
      rename_i ww wp
      simp only [Bool.and_eq_true] at hb
      obtain ⟨⟨⟨⟨⟨⟨⟨b0, b1⟩, b2⟩, b3⟩, b4⟩, b5⟩, b6⟩, b7⟩ := hb
      cases kw <;> first | (cases b0; done) | skip
      have e6 := eq_of_beq b6
      subst e6
      obtain ⟨n1, n2, _⟩ := okN_ok b5
      obtain ⟨s1', s2'⟩ := g.g.st _ b2
      have hN : (cxOf CX0 P w K mg base names qual scope fa cdv A outer s H E).nox.N.Nodup := S.nd
      have A1 := ps_set (pos := pos) (pos' := px) hN (show names[1]? = some x from eq_of_beq b1) s1' (pe_call (p := zp) (pos := cp) (E := E0) (FH.mono hn) hroomX (g.g.glob b7) hm hk hbind .nil pass0 (pa_cons (pe_var (pos := wp) (show names[0]? = some ww from eq_of_beq b3) (vis_ok b4) n1 n2) pa_nil) (by decide)) rfl s2'
      have A2 := snd_Ss N g rest hrest
      refine ⟨_, PSs.nox (pss_cons A1 A2), ?_⟩
      obtain ⟨a, ns, rfl, hq, hn63, q⟩ := h
      refine ⟨.ref a, start_at rfl, a, ns, rfl, hq, hn63, fun p H1 hp kp ow => ?_⟩
      obtain ⟨ρ', e⟩ := pure ns hn63
      have len : names.length ≤ ((L2.start names [V.ref a]).set 1 (some (.ref p))).length := by
        rw [List.length_set]
        unfold L2.start
        rw [List.length_append, List.length_map, List.length_replicate, List.length_singleton]
        omega
      have no : ∀ {i : Nat} {sl : Slot}, ((List.replicate names.length Slot.no).set 1 (.h false (handD m ns)))[i]? = some sl → (i = 1 ∧ sl = .h false (handD m ns)) ∨ sl = .no := fun {i sl} e => by
        rcases set_get e with ⟨h1, h2⟩ | ⟨_, h2⟩
        · exact .inl ⟨h1.symm, h2.symm⟩
        · have := List.mem_of_getElem? h2
          exact .inr (List.eq_of_mem_replicate this)
      have l2 : 1 < (L2.start names [V.ref a]).length := by
        unfold L2.start
        rw [List.length_append, List.length_map, List.length_replicate, List.length_singleton]
        omega
      have at1 : ((L2.start names [V.ref a]).set 1 (some (.ref p)))[1]? = some (some (.ref p)) := by rw [List.getElem?_set_self l2]
      have fb : ∀ x, Fb (fun _ => False) ((List.replicate names.length Slot.no).set 1 (.h false (handD m ns))) ((L2.start names [V.ref a]).set 1 (some (.ref p))) x → x = p := fun x z => by
        rcases z with z | ⟨i, io, d, e1, e2⟩
        · exact z.elim
        · rcases no e1 with ⟨h1, _⟩ | h1
          · rw [h1, at1] at e2
            cases e2; rfl
          · cases h1
      have C : Conc K (fun x => H x ≠ none) (fun _ => False) ((List.replicate names.length Slot.no).set 1 (.h false (handD m ns))) ((L2.start names [V.ref a]).set 1 (some (.ref p))) H1 := by
        refine ⟨fun i d e => ?_, fun i io d e => ?_, fun i j io1 io2 d1 d2 b h1 h2 _ _ => ?_, fun _ z => z.elim, fun x z => kp.there x z, by rw [List.length_set, List.length_replicate]; exact len⟩
        · rcases no e with ⟨_, z⟩ | z <;> cases z
        · rcases no e with ⟨h1, z⟩ | z
          · cases z
            rw [h1]
            exact ⟨p, at1, fun z => z, fun _ z => z hp, ow.move Keeps.refl fb fun u e => e⟩
          · cases z
        · rcases no h1 with ⟨a1, _⟩ | z
          · rcases no h2 with ⟨a2, _⟩ | z
            · rw [a1, a2]
            · cases z
          · cases z
      refine ⟨_, _, _, C, ?_⟩
      rw [e]
      intro v σ' H' _ rv
      cases rv
      exact q H'
end
end PL

set_option autoImplicit false
set_option linter.all false
set_option Elab.async false
set_option maxRecDepth 100000
set_option maxHeartbeats 1000000
/-! PX0: symbolic runs of the evaluator, for all laws. -/
namespace PL
open PySem PL
theorem sz0 : szOk 0 = true := by decide
theorem sz1 : szOk 1 = true := by decide
theorem sz2 : szOk 2 = true := by decide
theorem sz3 : szOk 3 = true := by decide
theorem sz4 : szOk 4 = true := by decide
theorem sz5 : szOk 5 = true := by decide
theorem sz6 : szOk 6 = true := by decide
theorem sz7 : szOk 7 = true := by decide
theorem sz8 : szOk 8 = true := by decide
theorem sz9 : szOk 9 = true := by decide
theorem sz10 : szOk 10 = true := by decide
theorem sz11 : szOk 11 = true := by decide
theorem sz12 : szOk 12 = true := by decide
/-! from Q0 -/
theorem callD_ret {defs : Str → Option Def} {N n : Nat} {f : Str} {D : Def} {ds os : List PyData} {r : Slot} {ρ : PL.Env} (hD : defs f = some D) (hl : ds.length = D.np) (h : execs ⟨defs, callD defs N n⟩ N D.body (entry D ds) = .rt r ρ) (ho : outsOf ρ D.ios = some os) :
    callD defs N (n + 1) f ds = .ok r os := by
  rw [callD, hD]
  dsimp only
  rw [if_pos hl, h]
  dsimp only
  rw [ho]
theorem callD_nx {defs : Str → Option Def} {N n : Nat} {f : Str} {D : Def} {ds os : List PyData} {ρ : PL.Env} (hD : defs f = some D) (hl : ds.length = D.np) (h : execs ⟨defs, callD defs N n⟩ N D.body (entry D ds) = .nx ρ) (ho : outsOf ρ D.ios = some os) :
    callD defs N (n + 1) f ds = .ok (.c .none) os := by
  rw [callD, hD]
  dsimp only
  rw [if_pos hl, h]
  dsimp only
  rw [ho]
theorem it_lst (xs : List PyData) : itemsD .plain [.list xs] = some xs := rfl
theorem it_tpl (xs : List PyData) : itemsD .plain [.tuple xs] = some xs := rfl
theorem it_r1 (xs : List PyData) : itemsD .r1 xs = rg1 (ints? xs) := rfl
theorem it_r2 (xs : List PyData) : itemsD .r2 xs = rg2 (ints? xs) := rfl
theorem it_r3 (xs : List PyData) : itemsD .r3 xs = rg3 (ints? xs) := rfl
theorem it_enum (xs : List PyData) : itemsD .enum [.list xs] = some (enumFrom 0 xs) := rfl
theorem it_zip (xs ys : List PyData) : itemsD .zip [.list xs, .list ys] = some (zip2 xs ys) := rfl
theorem ev_lc (G : PL.Ctx) (elt : Ex) (tg : Tg) (k : IK) (es cond : List Ex) (own : List Nat) (ρ : PL.Env) : ev G (.lc elt tg k es cond own) ρ = bind (evC G es ρ) fun ds ρ1 => match itemsD k ds with
    | some items => if own.all (notHot ρ1) then bind (lcL (stepF tg (evIf G cond) (ev G elt) own) items [] (wipeE ρ1 own)) fun acc ρ9 => .ok (.fresh (.list acc)) (backE ρ1 ρ9 own) else .stuck
    | none => .stuck := by rw [ev.eq_20]; rfl
/-- a comprehension whose turns change nothing -/
theorem lcL_map {α : Type} {step : PyData → PL.Env → Out (Option PyData)} {g : α → PyData} {p : α → Bool} {f : α → PyData} {ρ : PL.Env} : ∀ {l : List α} {acc : List PyData}, (∀ x ∈ l, step (g x) ρ = .ok (if p x then some (f x) else none) ρ) → acc.length + l.length ≤ 1000000 →
    lcL step (l.map g) acc ρ = .ok (acc ++ (l.filter p).map f) ρ
  | [], acc, _, _ => by rw [List.map_nil, lcL, List.filter_nil, List.map_nil, List.append_nil]
  | x :: l, acc, h, hl => by
    rw [List.length_cons] at hl
    rw [List.map_cons, lcL, h x List.mem_cons_self]
    by_cases hp : p x = true
    · rw [if_pos hp]
      dsimp only
      rw [if_pos (by unfold szOk; exact decide_eq_true (by omega)), lcL_map (fun y hy => h y (List.mem_cons_of_mem _ hy)) (by rw [List.length_append, List.length_singleton]; omega), List.filter_cons_of_pos hp, List.map_cons, List.append_assoc]
      rfl
    · rw [if_neg hp]
      dsimp only
      rw [lcL_map (fun y hy => h y (List.mem_cons_of_mem _ hy)) (by omega), List.filter_cons_of_neg hp]
theorem lcL_all {α : Type} {step : PyData → PL.Env → Out (Option PyData)} {g : α → PyData} {f : α → PyData} {ρ : PL.Env} {l : List α} (h : ∀ x ∈ l, step (g x) ρ = .ok (some (f x)) ρ) (hl : l.length ≤ 1000000) : lcL step (l.map g) [] ρ = .ok (l.map f) ρ := by
  have q := lcL_map (step := step) (g := g) (p := fun _ => true) (f := f) (ρ := ρ) (l := l) (acc := []) (fun x hx => by rw [h x hx, if_pos rfl]) (by simpa using hl)
  rw [q, List.nil_append, List.filter_eq_self.mpr fun _ _ => rfl]
/-! ints compared -/
theorem deep_int (i : Int) : deepOk (.int i) = true := by simp [deepOk, PyData.plain, PyData.depth]
theorem ord_int (i j : Int) : ordOk (.int i) (.int j) = true := by simp [ordOk, W.alike, deep_int, notNone]
theorem cmp_le (i j : Int) : cmpD .LtE (.int i) (.int j) = some (decide (i ≤ j)) := by
  rw [cmpD, if_pos (ord_int i j), W.dataLt_int]
  by_cases h : j < i
  · simp [h]
  · simp [h, Int.not_lt.mp h]
theorem cmp_lt (i j : Int) : cmpD .Lt (.int i) (.int j) = some (decide (i < j)) := by
  rw [cmpD, if_pos (ord_int i j), W.dataLt_int]
theorem cmp_gt (i j : Int) : cmpD .Gt (.int i) (.int j) = some (decide (i > j)) := by
  rw [cmpD, if_pos (ord_int i j), W.dataLt_int]
theorem cmp_ge (i j : Int) : cmpD .GtE (.int i) (.int j) = some (decide (i ≥ j)) := by
  rw [cmpD, if_pos (ord_int i j), W.dataLt_int]
  by_cases h : i < j
  · simp [h]
  · simp [h, Int.not_lt.mp h]
theorem cmp_eq (i j : Int) : cmpD .Eq (.int i) (.int j) = some (decide (i = j)) := by
  rw [cmpD, if_pos (by rw [deep_int, deep_int]; rfl)]
  rfl
theorem cmp_ne (i j : Int) : cmpD .NotEq (.int i) (.int j) = some (decide (i ≠ j)) := by
  rw [cmpD, if_pos (by rw [deep_int, deep_int]; rfl)]
  show some (!decide (i = j)) = _
  by_cases h : i = j <;> simp [h]
/-! from Q1 -/
theorem ints_map {α : Type} {h : α → Int} : ∀ {l : List α}, ints? (l.map fun x => PyData.int (h x)) = some (l.map h)
  | [] => rfl
  | x :: l => by rw [List.map_cons, ints?, ints_map]; rfl
theorem sum_map {α : Type} {h : α → Int} {l : List α} : sumL (l.map fun x => PyData.int (h x)) = some (.val (.int (l.map h).sum)) := by
  unfold sumL
  rw [ints_map]; rfl
theorem small_of {i : Int} (h1 : -1000000000000 ≤ i) (h2 : i ≤ 1000000000000) : small i = true := by
  unfold small
  exact decide_eq_true (by omega)
theorem mul_l {i j : Int} (h : small i = true) : mulOk i j = true := by unfold mulOk; rw [h]; rfl
theorem mul_r {i j : Int} (h : small j = true) : mulOk i j = true := by unfold mulOk; rw [h]; cases small i <;> rfl
/-! from Q2 -/
theorem forL_rel {α S : Type} {T : Tg} {b : PL.Env → SOut} {g : α → PyData} (R : S → PL.Env → Prop) (u : S → α → S) : ∀ {l : List α}, (∀ x ∈ l, ∀ s ρ, R s ρ → ∃ ρ1 ρ2, asgT T (g x) ρ = some ρ1 ∧ b ρ1 = .nx ρ2 ∧ R (u s x) ρ2) →
    ∀ {s : S} {ρ : PL.Env}, R s ρ → ∃ ρ', forL T b (l.map g) ρ = .nx ρ' ∧ R (l.foldl u s) ρ'
  | [], _, s, ρ, r => ⟨ρ, by rw [List.map_nil, forL], r⟩
  | x :: l, h, s, ρ, r => by
    obtain ⟨ρ1, ρ2, e1, e2, r2⟩ := h x List.mem_cons_self s ρ r
    obtain ⟨ρ', e3, r3⟩ := forL_rel R u (l := l) (fun y hy => h y (List.mem_cons_of_mem _ hy)) r2
    refine ⟨ρ', ?_, r3⟩
    rw [List.map_cons, forL, e1]
    dsimp only
    rw [e2]
    exact e3
theorem execs_seq {G : PL.Ctx} {N : Nat} {s : St} {ss : List St} {ρ ρ1 : PL.Env} {r : SOut} (h : exec G N s ρ = .nx ρ1) (h2 : execs G N ss ρ1 = r) : execs G N (s :: ss) ρ = r := by
  rw [execs, h]; exact h2
theorem exec_fr {G : PL.Ctx} {N : Nat} {tg : Tg} {k : IK} {es : List Ex} {b : List St} {ds items : List PyData} {ρ ρ1 ρ2 : PL.Env} (h1 : evC G es ρ = .ok ds ρ1) (h2 : itemsD k ds = some items) (h3 : forL tg (execs G N b) items ρ1 = .nx ρ2) : exec G N (.fr tg k es b) ρ = .nx ρ2 := by
  rw [exec, h1]
  show (match itemsD k ds with | some items => forL tg (execs G N b) items ρ1 | none => SOut.stuck) = _
  rw [h2]; exact h3
theorem forL_seq {T : Tg} {b : PL.Env → SOut} {d : PyData} {ds : List PyData} {ρ ρ1 ρ2 : PL.Env} {r : SOut} (h1 : asgT T d ρ = some ρ1) (h2 : b ρ1 = .nx ρ2) (h3 : forL T b ds ρ2 = r) : forL T b (d :: ds) ρ = r := by
  rw [forL, h1]
  dsimp only
  rw [h2]; exact h3
theorem forL_end {T : Tg} {b : PL.Env → SOut} {ρ : PL.Env} : forL T b [] ρ = .nx ρ := by rw [forL]
/-! from Q4 -/
theorem forL_relN {α S : Type} {T : Tg} {b : PL.Env → SOut} {g : α → PyData} (K : Nat) (R : Nat → S → PL.Env → Prop) (u : S → α → S) : ∀ {l : List α}, (∀ x ∈ l, ∀ k s ρ, k < K → R k s ρ → ∃ ρ1 ρ2, asgT T (g x) ρ = some ρ1 ∧ b ρ1 = .nx ρ2 ∧ R (k + 1) (u s x) ρ2) →
    ∀ {k : Nat} {s : S} {ρ : PL.Env}, k + l.length ≤ K → R k s ρ → ∃ ρ', forL T b (l.map g) ρ = .nx ρ' ∧ R (k + l.length) (l.foldl u s) ρ'
  | [], _, k, s, ρ, _, r => ⟨ρ, by rw [List.map_nil, forL], r⟩
  | x :: l, h, k, s, ρ, hk, r => by
    rw [List.length_cons] at hk
    obtain ⟨ρ1, ρ2, e1, e2, r2⟩ := h x List.mem_cons_self k s ρ (by omega) r
    obtain ⟨ρ', e3, r3⟩ := forL_relN K R u (l := l) (fun y hy => h y (List.mem_cons_of_mem _ hy)) (by omega) r2
    refine ⟨ρ', ?_, by rw [List.length_cons, show k + (l.length + 1) = k + 1 + l.length by omega]; exact r3⟩
    rw [List.map_cons, forL, e1]
    dsimp only
    rw [e2]
    exact e3
theorem idx_first {l : List Int} {a : Int} (h : l.head? = some a) : idxD (.list (l.map .int)) (.int 0) = some (.int a) := by
  cases l with
  | nil => cases h
  | cons x l =>
    cases h
    unfold idxD ixD
    dsimp only
    rw [if_pos (by omega), if_pos (by rw [List.length_map, List.length_cons]; omega)]
    rfl
theorem idx_last {l : List Int} {a : Int} (h : l.getLast? = some a) : idxD (.list (l.map .int)) (.int (-1)) = some (.int a) := by
  have n : l ≠ [] := fun z => by subst z; cases h
  have hl : 0 < l.length := List.length_pos_iff.mpr n
  unfold idxD ixD
  dsimp only
  rw [if_neg (by omega), if_pos (by rw [List.length_map]; omega), Option.bind_some, List.length_map, show (-1 + (l.length : Int)).toNat = l.length - 1 by omega, List.getElem?_map]
  rw [List.getLast?_eq_getElem?] at h
  rw [h]; rfl
theorem sum_perm {l m : List Int} (h : l.Perm m) : l.sum = m.sum := by
  induction h with
  | nil => rfl
  | cons x _ ih => rw [List.sum_cons, List.sum_cons, ih]
  | swap x y l => rw [List.sum_cons, List.sum_cons, List.sum_cons, List.sum_cons]; omega
  | trans _ _ a b => exact a.trans b
/-! from Q5 -/
theorem deep_ints (l : List Int) : PyData.plainAll (l.map .int) = true ∧ PyData.depthAll (l.map .int) ≤ 5 := by
  induction l with
  | nil => exact ⟨rfl, by simp [PyData.depthAll]⟩
  | cons r R ih =>
    refine ⟨?_, ?_⟩
    · simp [PyData.plainAll, PyData.plain]; exact ih.1
    · have := ih.2
      simp only [List.map_cons, PyData.depthAll, PyData.depth]
      omega
theorem ord_ints (l : List Int) : ordAll (l.map .int) = true := by
  unfold ordAll
  rw [Bool.and_eq_true, Bool.and_eq_true]
  refine ⟨⟨?_, ?_⟩, ?_⟩
  · unfold selfAlike
    refine List.all_eq_true.mpr fun x hx => List.all_eq_true.mpr fun y hy => ?_
    obtain ⟨a, _, rfl⟩ := List.mem_map.mp hx
    obtain ⟨b, _, rfl⟩ := List.mem_map.mp hy
    simp [W.alike]
  · unfold deepOks
    rw [(deep_ints l).1]
    have := (deep_ints l).2
    exact decide_eq_true (by omega)
  · refine List.all_eq_true.mpr fun x hx => ?_
    obtain ⟨a, _, rfl⟩ := List.mem_map.mp hx
    rfl
theorem fold_min : ∀ (l : List Int) (y : Int), l.foldl min y ∈ y :: l ∧ ∀ x ∈ y :: l, l.foldl min y ≤ x
  | [], y => ⟨by simp, by simp⟩
  | x :: l, y => by
    rw [List.foldl_cons]
    obtain ⟨h1, h2⟩ := fold_min l (min y x)
    have h3 := h2 (min y x) List.mem_cons_self
    refine ⟨?_, fun z hz => ?_⟩
    · rcases List.mem_cons.mp h1 with e | e
      · rcases Int.le_total y x with q | q
        · rw [e, Int.min_eq_left q]; exact List.mem_cons_self
        · rw [e, Int.min_eq_right q]; exact List.mem_cons_of_mem _ List.mem_cons_self
      · exact List.mem_cons_of_mem _ (List.mem_cons_of_mem _ e)
    · rcases List.mem_cons.mp hz with rfl | hz
      · omega
      · rcases List.mem_cons.mp hz with rfl | hz
        · omega
        · exact h2 z (List.mem_cons_of_mem _ hz)
theorem minD_ints (y : Int) (l : List Int) : ∃ m, W.minD (.int y) (l.map .int) = .int m ∧ m ∈ y :: l ∧ ∀ x ∈ y :: l, m ≤ x :=
  ⟨_, W.minD_ints y l, fold_min l y⟩
theorem min_ints {l : List Int} (h : l ≠ []) : ∃ m, minL (l.map .int) = some (.val (.int m)) ∧ m ∈ l ∧ ∀ x ∈ l, m ≤ x := by
  cases l with
  | nil => exact absurd rfl h
  | cons y l =>
    obtain ⟨m, e, h1, h2⟩ := minD_ints y l
    refine ⟨m, ?_, h1, h2⟩
    have o := ord_ints (y :: l)
    rw [List.map_cons] at o ⊢
    rw [minL, if_pos o, e]
theorem zip_map {α : Type} {f g : α → PyData} : ∀ {l : List α}, zip2 (l.map f) (l.map g) = l.map fun x => .tuple [f x, g x]
  | [] => rfl
  | x :: l => by rw [List.map_cons, List.map_cons, zip2, zip_map]; rfl
theorem rise_ends {G : List Int} {lo hi : Int} (p : G.Pairwise (· < ·)) (h1 : lo ∈ G) (h2 : hi ∈ G) (h : ∀ t ∈ G, lo ≤ t ∧ t ≤ hi) : G.head? = some lo ∧ G.getLast? = some hi := by
  constructor
  · cases G with
    | nil => cases h1
    | cons x G =>
      have a := h x List.mem_cons_self
      rcases List.mem_cons.mp h1 with e | e
      · rw [e]; rfl
      · have := (List.pairwise_cons.mp p).1 lo e
        omega
  · have n : G ≠ [] := fun z => by subst z; cases h1
    have e := List.getLast?_eq_getLast n
    rw [e]
    congr 1
    have hm := List.getLast_mem n
    have a := h _ hm
    have key : ∀ (l : List Int) (n : l ≠ []) (z : Int), l.Pairwise (· < ·) → z ∈ l → z ≤ l.getLast n := by
      intro l
      induction l with
      | nil => intro n; exact absurd rfl n
      | cons x l ih =>
        intro n z p hz
        by_cases c : l = []
        · subst c
          have : z = x := by simpa using hz
          rw [this]; simp
        · rw [List.getLast_cons c]
          rcases List.mem_cons.mp hz with rfl | hz
          · have := (List.pairwise_cons.mp p).1 _ (List.getLast_mem c)
            omega
          · exact ih c z (List.pairwise_cons.mp p).2 hz
    have := key G n hi p h2
    omega
/-! from Q8 -/
theorem forL_st {α S : Type} {T : Tg} {b : Nat → PL.Env → SOut} {g : α → PyData} (K : Nat) (E : S → PL.Env) (I : Nat → S → Prop) : ∀ {l : List α}, (∀ x ∈ l, ∀ k s, k < K → I k s → ∃ s', I (k + 1) s' ∧ ∀ n, ∃ ρ1, asgT T (g x) (E s) = some ρ1 ∧ b n ρ1 = .nx (E s')) →
    ∀ {k : Nat} {s : S}, k + l.length ≤ K → I k s → ∃ s', I (k + l.length) s' ∧ ∀ n, forL T (b n) (l.map g) (E s) = .nx (E s')
  | [], _, k, s, _, i => ⟨s, i, fun n => by rw [List.map_nil, forL]⟩
  | x :: l, h, k, s, kk, i => by
    rw [List.length_cons] at kk
    obtain ⟨s1, i1, e1⟩ := h x List.mem_cons_self k s (by omega) i
    obtain ⟨s2, i2, e2⟩ := forL_st K E I (l := l) (fun y hy => h y (List.mem_cons_of_mem _ hy)) (k := k + 1) (by omega) i1
    refine ⟨s2, by rw [List.length_cons, show k + (l.length + 1) = k + 1 + l.length by omega]; exact i2, fun n => ?_⟩
    obtain ⟨ρ1, a, c⟩ := e1 n
    rw [List.map_cons, forL, a]
    dsimp only
    rw [c]
    exact e2 n
/-! from QA -/
theorem ne_self {d : PyData} (h : deepOk d = true) : cmpD .NotEq d d = some false := by
  rw [cmpD, if_pos (by rw [h]; rfl), SeqAt.eqv_refl_plain d (by unfold deepOk at h; rw [Bool.and_eq_true] at h; exact h.1)]
  rfl
theorem ne_bool (p q : Bool) : cmpD .NotEq (.bool p) (.bool q) = some (!(p == q)) := by
  rw [cmpD, if_pos (by simp [deepOk, PyData.plain, PyData.depth])]
  cases p <;> cases q <;> rfl
theorem all_bools {α : Type} {l : List α} {q : α → Bool} : allL (l.map fun x => PyData.bool (q x)) = some (.val (.bool (l.all q))) := by
  have e : (l.map fun x => PyData.bool (q x)).all plainTruth = true := List.all_eq_true.mpr fun y hy => by
    obtain ⟨x, hx, rfl⟩ := List.mem_map.mp hy
    rfl
  unfold allL
  rw [if_pos e, List.all_map]
  rfl
/-! the ends of a def's body, without the slots -/
def retIs (o : SOut) (r : Slot) : Prop := ∃ ρ, o = .rt r ρ
def nxIs (o : SOut) : Prop := ∃ ρ, o = .nx ρ
def retH (o : SOut) (r : Slot) (d : PyData) : Prop := ∃ ρ, o = .rt r (.h true d :: ρ)
def nxH (o : SOut) (d : PyData) : Prop := ∃ ρ, o = .nx (.h true d :: ρ)
theorem retIs_rt (r r' : Slot) (ρ : PL.Env) : retIs (.rt r ρ) r' ↔ r = r' := ⟨fun ⟨_, e⟩ => by cases e; rfl, fun e => ⟨ρ, by rw [e]⟩⟩
theorem nxIs_nx (ρ : PL.Env) : nxIs (.nx ρ) ↔ True := ⟨fun _ => trivial, fun _ => ⟨ρ, rfl⟩⟩
theorem retH_rt (r r' s : Slot) (d : PyData) (ρ : PL.Env) : retH (.rt r (s :: ρ)) r' d ↔ r = r' ∧ s = .h true d := ⟨fun ⟨_, e⟩ => by cases e; exact ⟨rfl, rfl⟩, fun e => ⟨ρ, by rw [e.1, e.2]⟩⟩
theorem nxH_nx (s : Slot) (d : PyData) (ρ : PL.Env) : nxH (.nx (s :: ρ)) d ↔ s = .h true d := ⟨fun ⟨_, e⟩ => by cases e; rfl, fun e => ⟨ρ, by rw [e]⟩⟩
theorem callD_ret0 {defs : Str → Option Def} {N n : Nat} {f : Str} {D : Def} {ds : List PyData} {r : Slot} (hD : defs f = some D) (hl : ds.length = D.np) (hi : D.ios = []) (h : retIs (execs ⟨defs, callD defs N n⟩ N D.body (entry D ds)) r) : callD defs N (n + 1) f ds = .ok r [] := by
  obtain ⟨ρ, e⟩ := h
  exact callD_ret hD hl e (by rw [hi]; rfl)
theorem callD_nx0 {defs : Str → Option Def} {N n : Nat} {f : Str} {D : Def} {ds : List PyData} (hD : defs f = some D) (hl : ds.length = D.np) (hi : D.ios = []) (h : nxIs (execs ⟨defs, callD defs N n⟩ N D.body (entry D ds))) : callD defs N (n + 1) f ds = .ok (.c .none) [] := by
  obtain ⟨ρ, e⟩ := h
  exact callD_nx hD hl e (by rw [hi]; rfl)
theorem callD_retH {defs : Str → Option Def} {N n : Nat} {f : Str} {D : Def} {ds : List PyData} {r : Slot} {d : PyData} (hD : defs f = some D) (hl : ds.length = D.np) (hi : D.ios = [0]) (h : retH (execs ⟨defs, callD defs N n⟩ N D.body (entry D ds)) r d) : callD defs N (n + 1) f ds = .ok r [d] := by
  obtain ⟨ρ, e⟩ := h
  exact callD_ret hD hl e (by rw [hi]; rfl)
theorem callD_nxH {defs : Str → Option Def} {N n : Nat} {f : Str} {D : Def} {ds : List PyData} {d : PyData} (hD : defs f = some D) (hl : ds.length = D.np) (hi : D.ios = [0]) (h : nxH (execs ⟨defs, callD defs N n⟩ N D.body (entry D ds)) d) : callD defs N (n + 1) f ds = .ok (.c .none) [d] := by
  obtain ⟨ρ, e⟩ := h
  exact callD_nx hD hl e (by rw [hi]; rfl)
theorem forL_nil {T : Tg} {b : PL.Env → SOut} {ρ : PL.Env} : forL T b [] ρ = .nx ρ := by rw [forL]
theorem execs_eq {G : PL.Ctx} {N : Nat} {s : St} {ss : List St} {ρ ρ1 : PL.Env} (h : exec G N s ρ = .nx ρ1) : execs G N (s :: ss) ρ = execs G N ss ρ1 := by
  rw [execs, h]
theorem rI_seq {G : PL.Ctx} {N : Nat} {s : St} {ss : List St} {ρ ρ1 : PL.Env} {r : Slot} (h : exec G N s ρ = .nx ρ1) (h2 : retIs (execs G N ss ρ1) r) : retIs (execs G N (s :: ss) ρ) r := by
  rw [execs_eq h]; exact h2
theorem rH_seq {G : PL.Ctx} {N : Nat} {s : St} {ss : List St} {ρ ρ1 : PL.Env} {r : Slot} {d : PyData} (h : exec G N s ρ = .nx ρ1) (h2 : retH (execs G N ss ρ1) r d) : retH (execs G N (s :: ss) ρ) r d := by
  rw [execs_eq h]; exact h2
theorem nI_seq {G : PL.Ctx} {N : Nat} {s : St} {ss : List St} {ρ ρ1 : PL.Env} (h : exec G N s ρ = .nx ρ1) (h2 : nxIs (execs G N ss ρ1)) : nxIs (execs G N (s :: ss) ρ) := by
  rw [execs_eq h]; exact h2
end PL

set_option autoImplicit false
set_option linter.all false
set_option Elab.async false
set_option maxRecDepth 100000
set_option maxHeartbeats 4000000
/-! PX1: the draws, for all laws. -/
namespace PL
open PySem PL
def hd (cells : List Int) (a v h k : Int) : PyData := .list [.list (cells.map .int), .int a, .int v, .int h, .int k]
def HandOk (d : PyData) : Prop := ∃ (cells : List Int) (a v h k : Int), d = hd cells a v h k ∧ cells.length ≤ 63 ∧ 0 ≤ a
theorem idx_at {cells : List Int} {a : Int} (h0 : 0 ≤ a) (h : a < cells.length) : ∃ c, idxD (.list (cells.map .int)) (.int a) = some (.int c) := by
  have l : a.toNat < cells.length := by omega
  refine ⟨cells[a.toNat], ?_⟩
  unfold idxD ixD
  dsimp only
  rw [if_pos h0, if_pos (by rw [List.length_map]; exact h), Option.bind_some, List.getElem?_map, List.getElem?_eq_getElem l]
  rfl
theorem hand0 {m : Nat → Int} (ns : List Int) : HandOk (handD m ns) := by
  refine ⟨(ns.take 63).map fun i => if i < 0 then -i else i, 0, 0, m (cellsOf ns).length, 0, ?_, by rw [List.length_map, List.length_take]; omega, by omega⟩
  unfold handD hd
  rw [List.map_map]
  rfl
def drawFA  : St := .ite (.band [(.cmp (.idx (.var 0) (.con (.int 2))) [.Eq] [(.con (.int 0))]), (.cmp (.idx (.var 0) (.con (.int 1))) [.Lt] [(.bi .len [(.idx (.var 0) (.con (.int 0)))])])]) [.asg 2 false (.idx (.idx (.var 0) (.con (.int 0))) (.idx (.var 0) (.con (.int 1)))),
    .sub 0 (.con (.int 1)) (.bin .Add (.idx (.var 0) (.con (.int 1))) (.con (.int 1))),
    .sub 0 (.con (.int 3)) (.bin .Mod (.bi .int [(.bin .Add (.bin .Add (.bin .Mult (.idx (.var 0) (.con (.int 3))) (.con (.int 48271))) (.bin .Mult (.var 2) (.con (.int 5)))) (.con (.int 29)))]) (.con (.int 2147483587))),
    .sub 0 (.con (.int 2)) (.ife (.cmp (.var 2) [.GtE] [(.bin .Pow (.con (.int 10)) (.con (.int 18)))]) (.var 2) (.con (.int 0)))] []
def drawBA  : List St := [drawFA,
    .ite (.cmp (.idx (.var 0) (.con (.int 2))) [.Gt] [(.con (.int 0))]) [.asg 3 false (.bin .Mod (.bi .int [(.idx (.var 0) (.con (.int 2)))]) (.var 1)),
    .sub 0 (.con (.int 2)) (.bin .FloorDiv (.idx (.var 0) (.con (.int 2))) (.var 1)),
    .ret (.var 3)] [],
    .sub 0 (.con (.int 4)) (.bin .Add (.idx (.var 0) (.con (.int 4))) (.con (.int 1))),
    .asg 4 false (.bin .Mod (.bi .int [(.bin .Mult (.bi .int [(.bin .Add (.idx (.var 0) (.con (.int 3))) (.bin .Mult (.con (.int 7877)) (.idx (.var 0) (.con (.int 4)))))]) (.con (.int 69621)))]) (.con (.int 2147483647))),
    .asg 4 false (.bin .Mod (.bi .int [(.bin .Mult (.var 4) (.bin .Add (.bin .FloorDiv (.var 4) (.con (.int 1103))) (.con (.int 40692))))]) (.con (.int 2147483399))),
    .asg 4 false (.bin .Mod (.bi .int [(.bin .Mult (.var 4) (.bin .Add (.bin .FloorDiv (.var 4) (.con (.int 2311))) (.con (.int 48271))))]) (.con (.int 2147483629))),
    .ret (.bin .Mod (.bi .int [(.bin .FloorDiv (.var 4) (.con (.int 16)))]) (.var 1))]
def dDrawA  : Def := ⟨2, 5, [0], drawBA⟩
section
variable {N : Nat} {defs : Str → Option Def}
theorem draw1A  (cells : List Int) (a v h k many : Int) (hl : cells.length ≤ 63) (ha : 0 ≤ a) : ∃ a' v' h' x, 0 ≤ a' ∧ ∀ G : PL.Ctx, exec G N (drawFA)
    [.h true (hd cells a v h k), .c (.int many), .no, .no, .no] = .nx [.h true (hd cells a' v' h' k), .c (.int many), x, .no, .no] := by
  have z : szOk cells.length = true := decide_eq_true (by omega)
  have i0 : ∀ x y u v w : PyData, idxD (.list [x, y, u, v, w]) (.int 0) = some x := fun _ _ _ _ _ => rfl
  have i1 : ∀ x y u v w : PyData, idxD (.list [x, y, u, v, w]) (.int 1) = some y := fun _ _ _ _ _ => rfl
  have i2 : ∀ x y u v w : PyData, idxD (.list [x, y, u, v, w]) (.int 2) = some u := fun _ _ _ _ _ => rfl
  have i3 : ∀ x y u v w : PyData, idxD (.list [x, y, u, v, w]) (.int 3) = some v := fun _ _ _ _ _ => rfl
  by_cases c1 : v = 0
  · by_cases c2 : a < cells.length
    · obtain ⟨c, ec⟩ := idx_at ha c2
      have m1 : ∀ j, mulOk j 48271 = true := fun j => mul_r (by decide)
      have m2 : ∀ j, mulOk j 5 = true := fun j => mul_r (by decide)
      have s10 : small 10 = true := by decide
      have pw : (10 : Int) ^ 18 = 1000000000000000000 := by decide
      by_cases c3 : c ≥ 1000000000000000000
      · refine ⟨a + 1, c, (h * 48271 + c * 5 + 29) % 2147483587, .c (.int c), by omega, fun G => ?_⟩
        have c3' : (1000000000000000000 : Int) ≤ c := c3
        simp [execs, exec, ev.eq_1, ev.eq_2, ev.eq_3, ev.eq_4, ev.eq_5, ev.eq_6, ev.eq_7, ev.eq_8, ev.eq_9, ev.eq_10, ev.eq_11, ev.eq_12, ev.eq_13, ev.eq_14, ev.eq_15, ev.eq_16, ev.eq_17, ev.eq_18, ev.eq_19, ev_lc, evAnd, evOr, evCh, evR, evC, evA, evP, evIf, evT, evO, PL.bind, sb, biR, negR, binR, idxR, sliR, metR, cmpR, truthR, callR, iosOf, derefs, putBack, PL.cold, peeks, peek, gets, ofO, retOf, slotOf, setAll, isHot, subAt, recvOk, isMut, isUpd, recvD, dctR, biD, one, ovS, seq?, isInst, PyData.isInt, PyData.isBool, PyData.isTuple, truthD, PyData.truthy, entry, asgT, asgTs, wipeE, notHot, backE, it_lst, it_tpl, it_r1, it_r2, it_r3, it_enum, it_zip, rg1, rg2, ints?, intR, setD, retIs_rt, nxIs_nx, retH_rt, nxH_nx, PyData.isList, PyData.isDict, PyData.isStr, List.range, List.range.loop, sz0, sz1, sz2, sz3, sz4, sz5, sz6, sz7, sz8, sz9, sz10, sz11, sz12, drawFA, hd, i0, i1, i2, i3, cmp_eq, cmp_lt, cmp_ge, lenD, z, c1, c2, ec, ixD, binD, m1, m2, intD, s10, c3']
      · refine ⟨a + 1, 0, (h * 48271 + c * 5 + 29) % 2147483587, .c (.int c), by omega, fun G => ?_⟩
        have c3' : ¬ (1000000000000000000 : Int) ≤ c := c3
        simp [execs, exec, ev.eq_1, ev.eq_2, ev.eq_3, ev.eq_4, ev.eq_5, ev.eq_6, ev.eq_7, ev.eq_8, ev.eq_9, ev.eq_10, ev.eq_11, ev.eq_12, ev.eq_13, ev.eq_14, ev.eq_15, ev.eq_16, ev.eq_17, ev.eq_18, ev.eq_19, ev_lc, evAnd, evOr, evCh, evR, evC, evA, evP, evIf, evT, evO, PL.bind, sb, biR, negR, binR, idxR, sliR, metR, cmpR, truthR, callR, iosOf, derefs, putBack, PL.cold, peeks, peek, gets, ofO, retOf, slotOf, setAll, isHot, subAt, recvOk, isMut, isUpd, recvD, dctR, biD, one, ovS, seq?, isInst, PyData.isInt, PyData.isBool, PyData.isTuple, truthD, PyData.truthy, entry, asgT, asgTs, wipeE, notHot, backE, it_lst, it_tpl, it_r1, it_r2, it_r3, it_enum, it_zip, rg1, rg2, ints?, intR, setD, retIs_rt, nxIs_nx, retH_rt, nxH_nx, PyData.isList, PyData.isDict, PyData.isStr, List.range, List.range.loop, sz0, sz1, sz2, sz3, sz4, sz5, sz6, sz7, sz8, sz9, sz10, sz11, sz12, drawFA, hd, i0, i1, i2, i3, cmp_eq, cmp_lt, cmp_ge, lenD, z, c1, c2, ec, ixD, binD, m1, m2, intD, s10, c3']
    · refine ⟨a, v, h, .no, ha, fun G => ?_⟩
      simp [execs, exec, ev.eq_1, ev.eq_2, ev.eq_3, ev.eq_4, ev.eq_5, ev.eq_6, ev.eq_7, ev.eq_8, ev.eq_9, ev.eq_10, ev.eq_11, ev.eq_12, ev.eq_13, ev.eq_14, ev.eq_15, ev.eq_16, ev.eq_17, ev.eq_18, ev.eq_19, ev_lc, evAnd, evOr, evCh, evR, evC, evA, evP, evIf, evT, evO, PL.bind, sb, biR, negR, binR, idxR, sliR, metR, cmpR, truthR, callR, iosOf, derefs, putBack, PL.cold, peeks, peek, gets, ofO, retOf, slotOf, setAll, isHot, subAt, recvOk, isMut, isUpd, recvD, dctR, biD, one, ovS, seq?, isInst, PyData.isInt, PyData.isBool, PyData.isTuple, truthD, PyData.truthy, entry, asgT, asgTs, wipeE, notHot, backE, it_lst, it_tpl, it_r1, it_r2, it_r3, it_enum, it_zip, rg1, rg2, ints?, intR, setD, retIs_rt, nxIs_nx, retH_rt, nxH_nx, PyData.isList, PyData.isDict, PyData.isStr, List.range, List.range.loop, sz0, sz1, sz2, sz3, sz4, sz5, sz6, sz7, sz8, sz9, sz10, sz11, sz12, drawFA, hd, i0, i1, i2, cmp_eq, cmp_lt, lenD, z, c1, c2]
  · refine ⟨a, v, h, .no, ha, fun G => ?_⟩
    simp [execs, exec, ev.eq_1, ev.eq_2, ev.eq_3, ev.eq_4, ev.eq_5, ev.eq_6, ev.eq_7, ev.eq_8, ev.eq_9, ev.eq_10, ev.eq_11, ev.eq_12, ev.eq_13, ev.eq_14, ev.eq_15, ev.eq_16, ev.eq_17, ev.eq_18, ev.eq_19, ev_lc, evAnd, evOr, evCh, evR, evC, evA, evP, evIf, evT, evO, PL.bind, sb, biR, negR, binR, idxR, sliR, metR, cmpR, truthR, callR, iosOf, derefs, putBack, PL.cold, peeks, peek, gets, ofO, retOf, slotOf, setAll, isHot, subAt, recvOk, isMut, isUpd, recvD, dctR, biD, one, ovS, seq?, isInst, PyData.isInt, PyData.isBool, PyData.isTuple, truthD, PyData.truthy, entry, asgT, asgTs, wipeE, notHot, backE, it_lst, it_tpl, it_r1, it_r2, it_r3, it_enum, it_zip, rg1, rg2, ints?, intR, setD, retIs_rt, nxIs_nx, retH_rt, nxH_nx, PyData.isList, PyData.isDict, PyData.isStr, List.range, List.range.loop, sz0, sz1, sz2, sz3, sz4, sz5, sz6, sz7, sz8, sz9, sz10, sz11, sz12, drawFA, hd, i0, i1, i2, cmp_eq, cmp_lt, lenD, z, c1]
theorem c_drawA  (hD : defs "_law_draw" = some (dDrawA)) {d : PyData} (hd0 : HandOk d) (many : Int) (h1 : 1 ≤ many) (h2 : many ≤ 1000) : ∃ r d', 0 ≤ r ∧ r < many ∧ HandOk d' ∧ ∀ n, callD defs N (n + 1) "_law_draw" [d, .int many] = .ok (.c (.int r)) [d'] := by
  obtain ⟨cells, a, v, h, k, rfl, hl, ha⟩ := hd0
  have i2 : ∀ x y u v w : PyData, idxD (.list [x, y, u, v, w]) (.int 2) = some u := fun _ _ _ _ _ => rfl
  have i3 : ∀ x y u v w : PyData, idxD (.list [x, y, u, v, w]) (.int 3) = some v := fun _ _ _ _ _ => rfl
  have i4 : ∀ x y u v w : PyData, idxD (.list [x, y, u, v, w]) (.int 4) = some w := fun _ _ _ _ _ => rfl
  obtain ⟨a', v', h', x, ha', st⟩ := draw1A (N := N) cells a v h k many hl ha
  have pm : 0 < many := by omega
  have mid' : mid many = true := decide_eq_true (by
    have : (1000 : Nat) < 2 ^ 4096 := by decide +kernel
    omega)
  have dv : divOk many = true := by unfold divOk; rw [mid']; simp [pm]
  have m1 : ∀ j, mulOk 7877 j = true := fun j => mul_l (by decide)
  have m2 : ∀ j, mulOk j 69621 = true := fun j => mul_r (by decide)
  have d1 : divOk 1103 = true := by decide +kernel
  have d2 : divOk 2311 = true := by decide +kernel
  have d3 : divOk 16 = true := by decide +kernel
  by_cases c : v' > 0
  · refine ⟨v' % many, hd cells a' (v' / many) h' k, Int.emod_nonneg _ (by omega), Int.emod_lt_of_pos _ pm, ⟨cells, a', v' / many, h', k, rfl, hl, ha'⟩, fun n => ?_⟩
    refine callD_ret (D := dDrawA) hD rfl (ρ := [.h true (hd cells a' (v' / many) h' k), .c (.int many), x, .c (.int (v' % many)), .no]) ?_ rfl
    refine execs_seq (st _) ?_
    have c' : 0 < v' := c
    simp [execs, exec, ev.eq_1, ev.eq_2, ev.eq_3, ev.eq_4, ev.eq_5, ev.eq_6, ev.eq_7, ev.eq_8, ev.eq_9, ev.eq_10, ev.eq_11, ev.eq_12, ev.eq_13, ev.eq_14, ev.eq_15, ev.eq_16, ev.eq_17, ev.eq_18, ev.eq_19, ev_lc, evAnd, evOr, evCh, evR, evC, evA, evP, evIf, evT, evO, PL.bind, sb, biR, negR, binR, idxR, sliR, metR, cmpR, truthR, callR, iosOf, derefs, putBack, PL.cold, peeks, peek, gets, ofO, retOf, slotOf, setAll, isHot, subAt, recvOk, isMut, isUpd, recvD, dctR, biD, one, ovS, seq?, isInst, PyData.isInt, PyData.isBool, PyData.isTuple, truthD, PyData.truthy, entry, asgT, asgTs, wipeE, notHot, backE, it_lst, it_tpl, it_r1, it_r2, it_r3, it_enum, it_zip, rg1, rg2, ints?, intR, setD, retIs_rt, nxIs_nx, retH_rt, nxH_nx, PyData.isList, PyData.isDict, PyData.isStr, List.range, List.range.loop, sz0, sz1, sz2, sz3, sz4, sz5, sz6, sz7, sz8, sz9, sz10, sz11, sz12, hd, i2, i3, i4, cmp_gt, c', intD, binD, pm, dv, ixD]
  · have k1 := fun y : Int => And.intro (Int.emod_nonneg y (show (2147483647 : Int) ≠ 0 by decide)) (Int.emod_lt_of_pos y (show (0 : Int) < 2147483647 by decide))
    have k2 := fun y : Int => And.intro (Int.emod_nonneg y (show (2147483399 : Int) ≠ 0 by decide)) (Int.emod_lt_of_pos y (show (0 : Int) < 2147483399 by decide))
    generalize e1 : (h' + 7877 * (k + 1)) * 69621 % 2147483647 = n1
    have b1 := k1 ((h' + 7877 * (k + 1)) * 69621)
    rw [e1] at b1
    generalize e2 : n1 * (n1 / 1103 + 40692) % 2147483399 = n2
    have b2 := k2 (n1 * (n1 / 1103 + 40692))
    rw [e2] at b2
    generalize e3 : n2 * (n2 / 2311 + 48271) % 2147483629 = n3
    have s1 : ∀ j, mulOk n1 j = true := fun j => mul_l (small_of (by omega) (by omega))
    have s2 : ∀ j, mulOk n2 j = true := fun j => mul_l (small_of (by omega) (by omega))
    refine ⟨n3 / 16 % many, hd cells a' v' h' (k + 1), Int.emod_nonneg _ (by omega), Int.emod_lt_of_pos _ pm, ⟨cells, a', v', h', k + 1, rfl, hl, ha'⟩, fun n => ?_⟩
    refine callD_ret (D := dDrawA) hD rfl (ρ := [.h true (hd cells a' v' h' (k + 1)), .c (.int many), x, .no, .c (.int n3)]) ?_ rfl
    refine execs_seq (st _) ?_
    have c' : ¬ 0 < v' := c
    refine execs_seq (ρ1 := [.h true (hd cells a' v' h' k), .c (.int many), x, .no, .no]) (by simp [execs, exec, ev.eq_1, ev.eq_2, ev.eq_3, ev.eq_4, ev.eq_5, ev.eq_6, ev.eq_7, ev.eq_8, ev.eq_9, ev.eq_10, ev.eq_11, ev.eq_12, ev.eq_13, ev.eq_14, ev.eq_15, ev.eq_16, ev.eq_17, ev.eq_18, ev.eq_19, ev_lc, evAnd, evOr, evCh, evR, evC, evA, evP, evIf, evT, evO, PL.bind, sb, biR, negR, binR, idxR, sliR, metR, cmpR, truthR, callR, iosOf, derefs, putBack, PL.cold, peeks, peek, gets, ofO, retOf, slotOf, setAll, isHot, subAt, recvOk, isMut, isUpd, recvD, dctR, biD, one, ovS, seq?, isInst, PyData.isInt, PyData.isBool, PyData.isTuple, truthD, PyData.truthy, entry, asgT, asgTs, wipeE, notHot, backE, it_lst, it_tpl, it_r1, it_r2, it_r3, it_enum, it_zip, rg1, rg2, ints?, intR, setD, retIs_rt, nxIs_nx, retH_rt, nxH_nx, PyData.isList, PyData.isDict, PyData.isStr, List.range, List.range.loop, sz0, sz1, sz2, sz3, sz4, sz5, sz6, sz7, sz8, sz9, sz10, sz11, sz12, hd, i2, cmp_gt, c']) ?_
    refine execs_seq (ρ1 := [.h true (hd cells a' v' h' (k + 1)), .c (.int many), x, .no, .no]) (by simp [execs, exec, ev.eq_1, ev.eq_2, ev.eq_3, ev.eq_4, ev.eq_5, ev.eq_6, ev.eq_7, ev.eq_8, ev.eq_9, ev.eq_10, ev.eq_11, ev.eq_12, ev.eq_13, ev.eq_14, ev.eq_15, ev.eq_16, ev.eq_17, ev.eq_18, ev.eq_19, ev_lc, evAnd, evOr, evCh, evR, evC, evA, evP, evIf, evT, evO, PL.bind, sb, biR, negR, binR, idxR, sliR, metR, cmpR, truthR, callR, iosOf, derefs, putBack, PL.cold, peeks, peek, gets, ofO, retOf, slotOf, setAll, isHot, subAt, recvOk, isMut, isUpd, recvD, dctR, biD, one, ovS, seq?, isInst, PyData.isInt, PyData.isBool, PyData.isTuple, truthD, PyData.truthy, entry, asgT, asgTs, wipeE, notHot, backE, it_lst, it_tpl, it_r1, it_r2, it_r3, it_enum, it_zip, rg1, rg2, ints?, intR, setD, retIs_rt, nxIs_nx, retH_rt, nxH_nx, PyData.isList, PyData.isDict, PyData.isStr, List.range, List.range.loop, sz0, sz1, sz2, sz3, sz4, sz5, sz6, sz7, sz8, sz9, sz10, sz11, sz12, hd, i4, binD, ixD]) ?_
    refine execs_seq (ρ1 := [.h true (hd cells a' v' h' (k + 1)), .c (.int many), x, .no, .c (.int n1)]) (by simp [execs, exec, ev.eq_1, ev.eq_2, ev.eq_3, ev.eq_4, ev.eq_5, ev.eq_6, ev.eq_7, ev.eq_8, ev.eq_9, ev.eq_10, ev.eq_11, ev.eq_12, ev.eq_13, ev.eq_14, ev.eq_15, ev.eq_16, ev.eq_17, ev.eq_18, ev.eq_19, ev_lc, evAnd, evOr, evCh, evR, evC, evA, evP, evIf, evT, evO, PL.bind, sb, biR, negR, binR, idxR, sliR, metR, cmpR, truthR, callR, iosOf, derefs, putBack, PL.cold, peeks, peek, gets, ofO, retOf, slotOf, setAll, isHot, subAt, recvOk, isMut, isUpd, recvD, dctR, biD, one, ovS, seq?, isInst, PyData.isInt, PyData.isBool, PyData.isTuple, truthD, PyData.truthy, entry, asgT, asgTs, wipeE, notHot, backE, it_lst, it_tpl, it_r1, it_r2, it_r3, it_enum, it_zip, rg1, rg2, ints?, intR, setD, retIs_rt, nxIs_nx, retH_rt, nxH_nx, PyData.isList, PyData.isDict, PyData.isStr, List.range, List.range.loop, sz0, sz1, sz2, sz3, sz4, sz5, sz6, sz7, sz8, sz9, sz10, sz11, sz12, hd, i3, i4, binD, ixD, m1, m2, intD, e1]) ?_
    refine execs_seq (ρ1 := [.h true (hd cells a' v' h' (k + 1)), .c (.int many), x, .no, .c (.int n2)]) (by simp [execs, exec, ev.eq_1, ev.eq_2, ev.eq_3, ev.eq_4, ev.eq_5, ev.eq_6, ev.eq_7, ev.eq_8, ev.eq_9, ev.eq_10, ev.eq_11, ev.eq_12, ev.eq_13, ev.eq_14, ev.eq_15, ev.eq_16, ev.eq_17, ev.eq_18, ev.eq_19, ev_lc, evAnd, evOr, evCh, evR, evC, evA, evP, evIf, evT, evO, PL.bind, sb, biR, negR, binR, idxR, sliR, metR, cmpR, truthR, callR, iosOf, derefs, putBack, PL.cold, peeks, peek, gets, ofO, retOf, slotOf, setAll, isHot, subAt, recvOk, isMut, isUpd, recvD, dctR, biD, one, ovS, seq?, isInst, PyData.isInt, PyData.isBool, PyData.isTuple, truthD, PyData.truthy, entry, asgT, asgTs, wipeE, notHot, backE, it_lst, it_tpl, it_r1, it_r2, it_r3, it_enum, it_zip, rg1, rg2, ints?, intR, setD, retIs_rt, nxIs_nx, retH_rt, nxH_nx, PyData.isList, PyData.isDict, PyData.isStr, List.range, List.range.loop, sz0, sz1, sz2, sz3, sz4, sz5, sz6, sz7, sz8, sz9, sz10, sz11, sz12, binD, d1, s1, intD, e2]) ?_
    refine execs_seq (ρ1 := [.h true (hd cells a' v' h' (k + 1)), .c (.int many), x, .no, .c (.int n3)]) (by simp [execs, exec, ev.eq_1, ev.eq_2, ev.eq_3, ev.eq_4, ev.eq_5, ev.eq_6, ev.eq_7, ev.eq_8, ev.eq_9, ev.eq_10, ev.eq_11, ev.eq_12, ev.eq_13, ev.eq_14, ev.eq_15, ev.eq_16, ev.eq_17, ev.eq_18, ev.eq_19, ev_lc, evAnd, evOr, evCh, evR, evC, evA, evP, evIf, evT, evO, PL.bind, sb, biR, negR, binR, idxR, sliR, metR, cmpR, truthR, callR, iosOf, derefs, putBack, PL.cold, peeks, peek, gets, ofO, retOf, slotOf, setAll, isHot, subAt, recvOk, isMut, isUpd, recvD, dctR, biD, one, ovS, seq?, isInst, PyData.isInt, PyData.isBool, PyData.isTuple, truthD, PyData.truthy, entry, asgT, asgTs, wipeE, notHot, backE, it_lst, it_tpl, it_r1, it_r2, it_r3, it_enum, it_zip, rg1, rg2, ints?, intR, setD, retIs_rt, nxIs_nx, retH_rt, nxH_nx, PyData.isList, PyData.isDict, PyData.isStr, List.range, List.range.loop, sz0, sz1, sz2, sz3, sz4, sz5, sz6, sz7, sz8, sz9, sz10, sz11, sz12, binD, d2, s2, intD, e3]) ?_
    simp [execs, exec, ev.eq_1, ev.eq_2, ev.eq_3, ev.eq_4, ev.eq_5, ev.eq_6, ev.eq_7, ev.eq_8, ev.eq_9, ev.eq_10, ev.eq_11, ev.eq_12, ev.eq_13, ev.eq_14, ev.eq_15, ev.eq_16, ev.eq_17, ev.eq_18, ev.eq_19, ev_lc, evAnd, evOr, evCh, evR, evC, evA, evP, evIf, evT, evO, PL.bind, sb, biR, negR, binR, idxR, sliR, metR, cmpR, truthR, callR, iosOf, derefs, putBack, PL.cold, peeks, peek, gets, ofO, retOf, slotOf, setAll, isHot, subAt, recvOk, isMut, isUpd, recvD, dctR, biD, one, ovS, seq?, isInst, PyData.isInt, PyData.isBool, PyData.isTuple, truthD, PyData.truthy, entry, asgT, asgTs, wipeE, notHot, backE, it_lst, it_tpl, it_r1, it_r2, it_r3, it_enum, it_zip, rg1, rg2, ints?, intR, setD, retIs_rt, nxIs_nx, retH_rt, nxH_nx, PyData.isList, PyData.isDict, PyData.isStr, List.range, List.range.loop, sz0, sz1, sz2, sz3, sz4, sz5, sz6, sz7, sz8, sz9, sz10, sz11, sz12, binD, d3, intD, pm]
end
def drawFB (cc : Int) : St := .ite (.band [(.cmp (.idx (.var 0) (.con (.int 2))) [.Eq] [(.con (.int 0))]), (.cmp (.idx (.var 0) (.con (.int 1))) [.Lt] [(.bi .len [(.idx (.var 0) (.con (.int 0)))])])]) [.asg 2 false (.idx (.idx (.var 0) (.con (.int 0))) (.idx (.var 0) (.con (.int 1)))),
    .sub 0 (.con (.int 1)) (.bin .Add (.idx (.var 0) (.con (.int 1))) (.con (.int 1))),
    .sub 0 (.con (.int 3)) (.bin .Mod (.bi .int [(.bin .Add (.bin .Add (.bin .Mult (.idx (.var 0) (.con (.int 3))) (.con (.int 69621))) (.var 2)) (.con (.int cc)))]) (.con (.int 2147483629))),
    .ite (.cmp (.var 2) [.GtE] [(.bin .Pow (.con (.int 10)) (.con (.int 18)))]) [.sub 0 (.con (.int 2)) (.var 2)] []] []
def drawBB (cc : Int) : List St := [drawFB cc,
    .ite (.cmp (.idx (.var 0) (.con (.int 2))) [.Gt] [(.con (.int 0))]) [.asg 3 false (.bin .Mod (.bi .int [(.idx (.var 0) (.con (.int 2)))]) (.var 1)),
    .sub 0 (.con (.int 2)) (.bin .FloorDiv (.idx (.var 0) (.con (.int 2))) (.var 1)),
    .ret (.var 3)] [],
    .sub 0 (.con (.int 4)) (.bin .Add (.idx (.var 0) (.con (.int 4))) (.con (.int 1))),
    .asg 4 false (.bin .Mod (.bi .int [(.bin .Mult (.bi .int [(.bin .Add (.idx (.var 0) (.con (.int 3))) (.bin .Mult (.con (.int 7919)) (.idx (.var 0) (.con (.int 4)))))]) (.con (.int 48271)))]) (.con (.int 2147483647))),
    .asg 4 false (.bin .Mod (.bi .int [(.bin .Mult (.var 4) (.bin .Add (.bin .FloorDiv (.var 4) (.con (.int 1009))) (.con (.int 69621))))]) (.con (.int 2147483647))),
    .asg 4 false (.bin .Mod (.bi .int [(.bin .Mult (.var 4) (.bin .Add (.bin .FloorDiv (.var 4) (.con (.int 2003))) (.con (.int 40692))))]) (.con (.int 2147483399))),
    .ret (.bin .Mod (.bi .int [(.bin .FloorDiv (.var 4) (.con (.int 16)))]) (.var 1))]
def dDrawB (cc : Int) : Def := ⟨2, 5, [0], drawBB cc⟩
section
variable {N : Nat} {defs : Str → Option Def}
theorem draw1B (cc : Int) (cells : List Int) (a v h k many : Int) (hl : cells.length ≤ 63) (ha : 0 ≤ a) : ∃ a' v' h' x, 0 ≤ a' ∧ ∀ G : PL.Ctx, exec G N (drawFB cc)
    [.h true (hd cells a v h k), .c (.int many), .no, .no, .no] = .nx [.h true (hd cells a' v' h' k), .c (.int many), x, .no, .no] := by
  have z : szOk cells.length = true := decide_eq_true (by omega)
  have i0 : ∀ x y u v w : PyData, idxD (.list [x, y, u, v, w]) (.int 0) = some x := fun _ _ _ _ _ => rfl
  have i1 : ∀ x y u v w : PyData, idxD (.list [x, y, u, v, w]) (.int 1) = some y := fun _ _ _ _ _ => rfl
  have i2 : ∀ x y u v w : PyData, idxD (.list [x, y, u, v, w]) (.int 2) = some u := fun _ _ _ _ _ => rfl
  have i3 : ∀ x y u v w : PyData, idxD (.list [x, y, u, v, w]) (.int 3) = some v := fun _ _ _ _ _ => rfl
  by_cases c1 : v = 0
  · by_cases c2 : a < cells.length
    · obtain ⟨c, ec⟩ := idx_at ha c2
      have m1 : ∀ j, mulOk j 69621 = true := fun j => mul_r (by decide)
      have m2 : ∀ j, mulOk j 5 = true := fun j => mul_r (by decide)
      have s10 : small 10 = true := by decide
      have pw : (10 : Int) ^ 18 = 1000000000000000000 := by decide
      by_cases c3 : c ≥ 1000000000000000000
      · refine ⟨a + 1, c, (h * 69621 + c + cc) % 2147483629, .c (.int c), by omega, fun G => ?_⟩
        have c3' : (1000000000000000000 : Int) ≤ c := c3
        simp [execs, exec, ev.eq_1, ev.eq_2, ev.eq_3, ev.eq_4, ev.eq_5, ev.eq_6, ev.eq_7, ev.eq_8, ev.eq_9, ev.eq_10, ev.eq_11, ev.eq_12, ev.eq_13, ev.eq_14, ev.eq_15, ev.eq_16, ev.eq_17, ev.eq_18, ev.eq_19, ev_lc, evAnd, evOr, evCh, evR, evC, evA, evP, evIf, evT, evO, PL.bind, sb, biR, negR, binR, idxR, sliR, metR, cmpR, truthR, callR, iosOf, derefs, putBack, PL.cold, peeks, peek, gets, ofO, retOf, slotOf, setAll, isHot, subAt, recvOk, isMut, isUpd, recvD, dctR, biD, one, ovS, seq?, isInst, PyData.isInt, PyData.isBool, PyData.isTuple, truthD, PyData.truthy, entry, asgT, asgTs, wipeE, notHot, backE, it_lst, it_tpl, it_r1, it_r2, it_r3, it_enum, it_zip, rg1, rg2, ints?, intR, setD, retIs_rt, nxIs_nx, retH_rt, nxH_nx, PyData.isList, PyData.isDict, PyData.isStr, List.range, List.range.loop, sz0, sz1, sz2, sz3, sz4, sz5, sz6, sz7, sz8, sz9, sz10, sz11, sz12, drawFB, hd, i0, i1, i2, i3, cmp_eq, cmp_lt, cmp_ge, lenD, z, c1, c2, ec, ixD, binD, m1, m2, intD, s10, c3']
      · refine ⟨a + 1, 0, (h * 69621 + c + cc) % 2147483629, .c (.int c), by omega, fun G => ?_⟩
        have c3' : ¬ (1000000000000000000 : Int) ≤ c := c3
        simp [execs, exec, ev.eq_1, ev.eq_2, ev.eq_3, ev.eq_4, ev.eq_5, ev.eq_6, ev.eq_7, ev.eq_8, ev.eq_9, ev.eq_10, ev.eq_11, ev.eq_12, ev.eq_13, ev.eq_14, ev.eq_15, ev.eq_16, ev.eq_17, ev.eq_18, ev.eq_19, ev_lc, evAnd, evOr, evCh, evR, evC, evA, evP, evIf, evT, evO, PL.bind, sb, biR, negR, binR, idxR, sliR, metR, cmpR, truthR, callR, iosOf, derefs, putBack, PL.cold, peeks, peek, gets, ofO, retOf, slotOf, setAll, isHot, subAt, recvOk, isMut, isUpd, recvD, dctR, biD, one, ovS, seq?, isInst, PyData.isInt, PyData.isBool, PyData.isTuple, truthD, PyData.truthy, entry, asgT, asgTs, wipeE, notHot, backE, it_lst, it_tpl, it_r1, it_r2, it_r3, it_enum, it_zip, rg1, rg2, ints?, intR, setD, retIs_rt, nxIs_nx, retH_rt, nxH_nx, PyData.isList, PyData.isDict, PyData.isStr, List.range, List.range.loop, sz0, sz1, sz2, sz3, sz4, sz5, sz6, sz7, sz8, sz9, sz10, sz11, sz12, drawFB, hd, i0, i1, i2, i3, cmp_eq, cmp_lt, cmp_ge, lenD, z, c1, c2, ec, ixD, binD, m1, m2, intD, s10, c3']
    · refine ⟨a, v, h, .no, ha, fun G => ?_⟩
      simp [execs, exec, ev.eq_1, ev.eq_2, ev.eq_3, ev.eq_4, ev.eq_5, ev.eq_6, ev.eq_7, ev.eq_8, ev.eq_9, ev.eq_10, ev.eq_11, ev.eq_12, ev.eq_13, ev.eq_14, ev.eq_15, ev.eq_16, ev.eq_17, ev.eq_18, ev.eq_19, ev_lc, evAnd, evOr, evCh, evR, evC, evA, evP, evIf, evT, evO, PL.bind, sb, biR, negR, binR, idxR, sliR, metR, cmpR, truthR, callR, iosOf, derefs, putBack, PL.cold, peeks, peek, gets, ofO, retOf, slotOf, setAll, isHot, subAt, recvOk, isMut, isUpd, recvD, dctR, biD, one, ovS, seq?, isInst, PyData.isInt, PyData.isBool, PyData.isTuple, truthD, PyData.truthy, entry, asgT, asgTs, wipeE, notHot, backE, it_lst, it_tpl, it_r1, it_r2, it_r3, it_enum, it_zip, rg1, rg2, ints?, intR, setD, retIs_rt, nxIs_nx, retH_rt, nxH_nx, PyData.isList, PyData.isDict, PyData.isStr, List.range, List.range.loop, sz0, sz1, sz2, sz3, sz4, sz5, sz6, sz7, sz8, sz9, sz10, sz11, sz12, drawFB, hd, i0, i1, i2, cmp_eq, cmp_lt, lenD, z, c1, c2]
  · refine ⟨a, v, h, .no, ha, fun G => ?_⟩
    simp [execs, exec, ev.eq_1, ev.eq_2, ev.eq_3, ev.eq_4, ev.eq_5, ev.eq_6, ev.eq_7, ev.eq_8, ev.eq_9, ev.eq_10, ev.eq_11, ev.eq_12, ev.eq_13, ev.eq_14, ev.eq_15, ev.eq_16, ev.eq_17, ev.eq_18, ev.eq_19, ev_lc, evAnd, evOr, evCh, evR, evC, evA, evP, evIf, evT, evO, PL.bind, sb, biR, negR, binR, idxR, sliR, metR, cmpR, truthR, callR, iosOf, derefs, putBack, PL.cold, peeks, peek, gets, ofO, retOf, slotOf, setAll, isHot, subAt, recvOk, isMut, isUpd, recvD, dctR, biD, one, ovS, seq?, isInst, PyData.isInt, PyData.isBool, PyData.isTuple, truthD, PyData.truthy, entry, asgT, asgTs, wipeE, notHot, backE, it_lst, it_tpl, it_r1, it_r2, it_r3, it_enum, it_zip, rg1, rg2, ints?, intR, setD, retIs_rt, nxIs_nx, retH_rt, nxH_nx, PyData.isList, PyData.isDict, PyData.isStr, List.range, List.range.loop, sz0, sz1, sz2, sz3, sz4, sz5, sz6, sz7, sz8, sz9, sz10, sz11, sz12, drawFB, hd, i0, i1, i2, cmp_eq, cmp_lt, lenD, z, c1]
theorem c_drawB {cc : Int} (hD : defs "_law_draw" = some (dDrawB cc)) {d : PyData} (hd0 : HandOk d) (many : Int) (h1 : 1 ≤ many) (h2 : many ≤ 1000) : ∃ r d', 0 ≤ r ∧ r < many ∧ HandOk d' ∧ ∀ n, callD defs N (n + 1) "_law_draw" [d, .int many] = .ok (.c (.int r)) [d'] := by
  obtain ⟨cells, a, v, h, k, rfl, hl, ha⟩ := hd0
  have i2 : ∀ x y u v w : PyData, idxD (.list [x, y, u, v, w]) (.int 2) = some u := fun _ _ _ _ _ => rfl
  have i3 : ∀ x y u v w : PyData, idxD (.list [x, y, u, v, w]) (.int 3) = some v := fun _ _ _ _ _ => rfl
  have i4 : ∀ x y u v w : PyData, idxD (.list [x, y, u, v, w]) (.int 4) = some w := fun _ _ _ _ _ => rfl
  obtain ⟨a', v', h', x, ha', st⟩ := draw1B (N := N) cc cells a v h k many hl ha
  have pm : 0 < many := by omega
  have mid' : mid many = true := decide_eq_true (by
    have : (1000 : Nat) < 2 ^ 4096 := by decide +kernel
    omega)
  have dv : divOk many = true := by unfold divOk; rw [mid']; simp [pm]
  have m1 : ∀ j, mulOk 7919 j = true := fun j => mul_l (by decide)
  have m2 : ∀ j, mulOk j 48271 = true := fun j => mul_r (by decide)
  have d1 : divOk 1009 = true := by decide +kernel
  have d2 : divOk 2003 = true := by decide +kernel
  have d3 : divOk 16 = true := by decide +kernel
  by_cases c : v' > 0
  · refine ⟨v' % many, hd cells a' (v' / many) h' k, Int.emod_nonneg _ (by omega), Int.emod_lt_of_pos _ pm, ⟨cells, a', v' / many, h', k, rfl, hl, ha'⟩, fun n => ?_⟩
    refine callD_ret (D := dDrawB cc) hD rfl (ρ := [.h true (hd cells a' (v' / many) h' k), .c (.int many), x, .c (.int (v' % many)), .no]) ?_ rfl
    refine execs_seq (st _) ?_
    have c' : 0 < v' := c
    simp [execs, exec, ev.eq_1, ev.eq_2, ev.eq_3, ev.eq_4, ev.eq_5, ev.eq_6, ev.eq_7, ev.eq_8, ev.eq_9, ev.eq_10, ev.eq_11, ev.eq_12, ev.eq_13, ev.eq_14, ev.eq_15, ev.eq_16, ev.eq_17, ev.eq_18, ev.eq_19, ev_lc, evAnd, evOr, evCh, evR, evC, evA, evP, evIf, evT, evO, PL.bind, sb, biR, negR, binR, idxR, sliR, metR, cmpR, truthR, callR, iosOf, derefs, putBack, PL.cold, peeks, peek, gets, ofO, retOf, slotOf, setAll, isHot, subAt, recvOk, isMut, isUpd, recvD, dctR, biD, one, ovS, seq?, isInst, PyData.isInt, PyData.isBool, PyData.isTuple, truthD, PyData.truthy, entry, asgT, asgTs, wipeE, notHot, backE, it_lst, it_tpl, it_r1, it_r2, it_r3, it_enum, it_zip, rg1, rg2, ints?, intR, setD, retIs_rt, nxIs_nx, retH_rt, nxH_nx, PyData.isList, PyData.isDict, PyData.isStr, List.range, List.range.loop, sz0, sz1, sz2, sz3, sz4, sz5, sz6, sz7, sz8, sz9, sz10, sz11, sz12, hd, i2, i3, i4, cmp_gt, c', intD, binD, pm, dv, ixD]
  · have k1 := fun y : Int => And.intro (Int.emod_nonneg y (show (2147483647 : Int) ≠ 0 by decide)) (Int.emod_lt_of_pos y (show (0 : Int) < 2147483647 by decide))
    have k2 := fun y : Int => And.intro (Int.emod_nonneg y (show (2147483647 : Int) ≠ 0 by decide)) (Int.emod_lt_of_pos y (show (0 : Int) < 2147483647 by decide))
    generalize e1 : (h' + 7919 * (k + 1)) * 48271 % 2147483647 = n1
    have b1 := k1 ((h' + 7919 * (k + 1)) * 48271)
    rw [e1] at b1
    generalize e2 : n1 * (n1 / 1009 + 69621) % 2147483647 = n2
    have b2 := k2 (n1 * (n1 / 1009 + 69621))
    rw [e2] at b2
    generalize e3 : n2 * (n2 / 2003 + 40692) % 2147483399 = n3
    have s1 : ∀ j, mulOk n1 j = true := fun j => mul_l (small_of (by omega) (by omega))
    have s2 : ∀ j, mulOk n2 j = true := fun j => mul_l (small_of (by omega) (by omega))
    refine ⟨n3 / 16 % many, hd cells a' v' h' (k + 1), Int.emod_nonneg _ (by omega), Int.emod_lt_of_pos _ pm, ⟨cells, a', v', h', k + 1, rfl, hl, ha'⟩, fun n => ?_⟩
    refine callD_ret (D := dDrawB cc) hD rfl (ρ := [.h true (hd cells a' v' h' (k + 1)), .c (.int many), x, .no, .c (.int n3)]) ?_ rfl
    refine execs_seq (st _) ?_
    have c' : ¬ 0 < v' := c
    refine execs_seq (ρ1 := [.h true (hd cells a' v' h' k), .c (.int many), x, .no, .no]) (by simp [execs, exec, ev.eq_1, ev.eq_2, ev.eq_3, ev.eq_4, ev.eq_5, ev.eq_6, ev.eq_7, ev.eq_8, ev.eq_9, ev.eq_10, ev.eq_11, ev.eq_12, ev.eq_13, ev.eq_14, ev.eq_15, ev.eq_16, ev.eq_17, ev.eq_18, ev.eq_19, ev_lc, evAnd, evOr, evCh, evR, evC, evA, evP, evIf, evT, evO, PL.bind, sb, biR, negR, binR, idxR, sliR, metR, cmpR, truthR, callR, iosOf, derefs, putBack, PL.cold, peeks, peek, gets, ofO, retOf, slotOf, setAll, isHot, subAt, recvOk, isMut, isUpd, recvD, dctR, biD, one, ovS, seq?, isInst, PyData.isInt, PyData.isBool, PyData.isTuple, truthD, PyData.truthy, entry, asgT, asgTs, wipeE, notHot, backE, it_lst, it_tpl, it_r1, it_r2, it_r3, it_enum, it_zip, rg1, rg2, ints?, intR, setD, retIs_rt, nxIs_nx, retH_rt, nxH_nx, PyData.isList, PyData.isDict, PyData.isStr, List.range, List.range.loop, sz0, sz1, sz2, sz3, sz4, sz5, sz6, sz7, sz8, sz9, sz10, sz11, sz12, hd, i2, cmp_gt, c']) ?_
    refine execs_seq (ρ1 := [.h true (hd cells a' v' h' (k + 1)), .c (.int many), x, .no, .no]) (by simp [execs, exec, ev.eq_1, ev.eq_2, ev.eq_3, ev.eq_4, ev.eq_5, ev.eq_6, ev.eq_7, ev.eq_8, ev.eq_9, ev.eq_10, ev.eq_11, ev.eq_12, ev.eq_13, ev.eq_14, ev.eq_15, ev.eq_16, ev.eq_17, ev.eq_18, ev.eq_19, ev_lc, evAnd, evOr, evCh, evR, evC, evA, evP, evIf, evT, evO, PL.bind, sb, biR, negR, binR, idxR, sliR, metR, cmpR, truthR, callR, iosOf, derefs, putBack, PL.cold, peeks, peek, gets, ofO, retOf, slotOf, setAll, isHot, subAt, recvOk, isMut, isUpd, recvD, dctR, biD, one, ovS, seq?, isInst, PyData.isInt, PyData.isBool, PyData.isTuple, truthD, PyData.truthy, entry, asgT, asgTs, wipeE, notHot, backE, it_lst, it_tpl, it_r1, it_r2, it_r3, it_enum, it_zip, rg1, rg2, ints?, intR, setD, retIs_rt, nxIs_nx, retH_rt, nxH_nx, PyData.isList, PyData.isDict, PyData.isStr, List.range, List.range.loop, sz0, sz1, sz2, sz3, sz4, sz5, sz6, sz7, sz8, sz9, sz10, sz11, sz12, hd, i4, binD, ixD]) ?_
    refine execs_seq (ρ1 := [.h true (hd cells a' v' h' (k + 1)), .c (.int many), x, .no, .c (.int n1)]) (by simp [execs, exec, ev.eq_1, ev.eq_2, ev.eq_3, ev.eq_4, ev.eq_5, ev.eq_6, ev.eq_7, ev.eq_8, ev.eq_9, ev.eq_10, ev.eq_11, ev.eq_12, ev.eq_13, ev.eq_14, ev.eq_15, ev.eq_16, ev.eq_17, ev.eq_18, ev.eq_19, ev_lc, evAnd, evOr, evCh, evR, evC, evA, evP, evIf, evT, evO, PL.bind, sb, biR, negR, binR, idxR, sliR, metR, cmpR, truthR, callR, iosOf, derefs, putBack, PL.cold, peeks, peek, gets, ofO, retOf, slotOf, setAll, isHot, subAt, recvOk, isMut, isUpd, recvD, dctR, biD, one, ovS, seq?, isInst, PyData.isInt, PyData.isBool, PyData.isTuple, truthD, PyData.truthy, entry, asgT, asgTs, wipeE, notHot, backE, it_lst, it_tpl, it_r1, it_r2, it_r3, it_enum, it_zip, rg1, rg2, ints?, intR, setD, retIs_rt, nxIs_nx, retH_rt, nxH_nx, PyData.isList, PyData.isDict, PyData.isStr, List.range, List.range.loop, sz0, sz1, sz2, sz3, sz4, sz5, sz6, sz7, sz8, sz9, sz10, sz11, sz12, hd, i3, i4, binD, ixD, m1, m2, intD, e1]) ?_
    refine execs_seq (ρ1 := [.h true (hd cells a' v' h' (k + 1)), .c (.int many), x, .no, .c (.int n2)]) (by simp [execs, exec, ev.eq_1, ev.eq_2, ev.eq_3, ev.eq_4, ev.eq_5, ev.eq_6, ev.eq_7, ev.eq_8, ev.eq_9, ev.eq_10, ev.eq_11, ev.eq_12, ev.eq_13, ev.eq_14, ev.eq_15, ev.eq_16, ev.eq_17, ev.eq_18, ev.eq_19, ev_lc, evAnd, evOr, evCh, evR, evC, evA, evP, evIf, evT, evO, PL.bind, sb, biR, negR, binR, idxR, sliR, metR, cmpR, truthR, callR, iosOf, derefs, putBack, PL.cold, peeks, peek, gets, ofO, retOf, slotOf, setAll, isHot, subAt, recvOk, isMut, isUpd, recvD, dctR, biD, one, ovS, seq?, isInst, PyData.isInt, PyData.isBool, PyData.isTuple, truthD, PyData.truthy, entry, asgT, asgTs, wipeE, notHot, backE, it_lst, it_tpl, it_r1, it_r2, it_r3, it_enum, it_zip, rg1, rg2, ints?, intR, setD, retIs_rt, nxIs_nx, retH_rt, nxH_nx, PyData.isList, PyData.isDict, PyData.isStr, List.range, List.range.loop, sz0, sz1, sz2, sz3, sz4, sz5, sz6, sz7, sz8, sz9, sz10, sz11, sz12, binD, d1, s1, intD, e2]) ?_
    refine execs_seq (ρ1 := [.h true (hd cells a' v' h' (k + 1)), .c (.int many), x, .no, .c (.int n3)]) (by simp [execs, exec, ev.eq_1, ev.eq_2, ev.eq_3, ev.eq_4, ev.eq_5, ev.eq_6, ev.eq_7, ev.eq_8, ev.eq_9, ev.eq_10, ev.eq_11, ev.eq_12, ev.eq_13, ev.eq_14, ev.eq_15, ev.eq_16, ev.eq_17, ev.eq_18, ev.eq_19, ev_lc, evAnd, evOr, evCh, evR, evC, evA, evP, evIf, evT, evO, PL.bind, sb, biR, negR, binR, idxR, sliR, metR, cmpR, truthR, callR, iosOf, derefs, putBack, PL.cold, peeks, peek, gets, ofO, retOf, slotOf, setAll, isHot, subAt, recvOk, isMut, isUpd, recvD, dctR, biD, one, ovS, seq?, isInst, PyData.isInt, PyData.isBool, PyData.isTuple, truthD, PyData.truthy, entry, asgT, asgTs, wipeE, notHot, backE, it_lst, it_tpl, it_r1, it_r2, it_r3, it_enum, it_zip, rg1, rg2, ints?, intR, setD, retIs_rt, nxIs_nx, retH_rt, nxH_nx, PyData.isList, PyData.isDict, PyData.isStr, List.range, List.range.loop, sz0, sz1, sz2, sz3, sz4, sz5, sz6, sz7, sz8, sz9, sz10, sz11, sz12, binD, d2, s2, intD, e3]) ?_
    simp [execs, exec, ev.eq_1, ev.eq_2, ev.eq_3, ev.eq_4, ev.eq_5, ev.eq_6, ev.eq_7, ev.eq_8, ev.eq_9, ev.eq_10, ev.eq_11, ev.eq_12, ev.eq_13, ev.eq_14, ev.eq_15, ev.eq_16, ev.eq_17, ev.eq_18, ev.eq_19, ev_lc, evAnd, evOr, evCh, evR, evC, evA, evP, evIf, evT, evO, PL.bind, sb, biR, negR, binR, idxR, sliR, metR, cmpR, truthR, callR, iosOf, derefs, putBack, PL.cold, peeks, peek, gets, ofO, retOf, slotOf, setAll, isHot, subAt, recvOk, isMut, isUpd, recvD, dctR, biD, one, ovS, seq?, isInst, PyData.isInt, PyData.isBool, PyData.isTuple, truthD, PyData.truthy, entry, asgT, asgTs, wipeE, notHot, backE, it_lst, it_tpl, it_r1, it_r2, it_r3, it_enum, it_zip, rg1, rg2, ints?, intR, setD, retIs_rt, nxIs_nx, retH_rt, nxH_nx, PyData.isList, PyData.isDict, PyData.isStr, List.range, List.range.loop, sz0, sz1, sz2, sz3, sz4, sz5, sz6, sz7, sz8, sz9, sz10, sz11, sz12, binD, d3, intD, pm]
end
def dSome : Def := ⟨2, 2, [0], [.ret (.idx (.var 1) (.call "_law_draw" [(.var 0), (.bi .len [(.var 1)])]))]⟩
/-- what a draw does -/
def Draws (defs : Str → Option Def) (N : Nat) : Prop := (∃ D, defs "_law_draw" = some D ∧ D.ios = [0]) ∧ ∀ {d : PyData}, HandOk d → ∀ (many : Int), 1 ≤ many → many ≤ 1000 → ∃ r d', 0 ≤ r ∧ r < many ∧ HandOk d' ∧ ∀ n, callD defs N (n + 1) "_law_draw" [d, .int many] = .ok (.c (.int r)) [d']
theorem draws_A {N : Nat} {defs : Str → Option Def} (hD : defs "_law_draw" = some dDrawA) : Draws defs N := ⟨⟨_, hD, rfl⟩, fun h m h1 h2 => c_drawA hD h m h1 h2⟩
theorem draws_B {N : Nat} {defs : Str → Option Def} {cc : Int} (hD : defs "_law_draw" = some (dDrawB cc)) : Draws defs N := ⟨⟨_, hD, rfl⟩, fun h m h1 h2 => c_drawB hD h m h1 h2⟩
theorem c_someG {N : Nat} {defs : Str → Option Def} {f : Str} (D : Draws defs N) (hS : defs f = some dSome) {d : PyData} (hd0 : HandOk d) (xs : List PyData) (h1 : 1 ≤ xs.length) (h2 : xs.length ≤ 1000) (t : PyData) (ht : t = .list xs ∨ t = .tuple xs) : ∃ x d', x ∈ xs ∧ HandOk d' ∧ ∀ n, callD defs N (n + 2) f [d, t] = .ok (.c x) [d'] := by
  obtain ⟨⟨DD, e0, io⟩, dr⟩ := D
  obtain ⟨r, d', r0, r1, hk, e⟩ := dr hd0 (xs.length : Int) (by omega) (by omega)
  have l : r.toNat < xs.length := by omega
  refine ⟨xs[r.toNat], d', List.getElem_mem l, hk, fun n => ?_⟩
  have z : szOk xs.length = true := decide_eq_true (by omega)
  have q := e n
  have ix : (ixD xs.length r).bind (fun j => xs[j]?) = some xs[r.toNat] := by
    unfold ixD
    rw [if_pos r0, if_pos (by omega), Option.bind_some, List.getElem?_eq_getElem l]
  rcases ht with rfl | rfl
  · refine callD_ret (D := dSome) hS rfl (ρ := [.h true d', .c (.list xs)]) ?_ rfl
    simp [execs, exec, ev.eq_1, ev.eq_2, ev.eq_3, ev.eq_4, ev.eq_5, ev.eq_6, ev.eq_7, ev.eq_8, ev.eq_9, ev.eq_10, ev.eq_11, ev.eq_12, ev.eq_13, ev.eq_14, ev.eq_15, ev.eq_16, ev.eq_17, ev.eq_18, ev.eq_19, ev_lc, evAnd, evOr, evCh, evR, evC, evA, evP, evIf, evT, evO, PL.bind, sb, biR, negR, binR, idxR, sliR, metR, cmpR, truthR, callR, iosOf, derefs, putBack, PL.cold, peeks, peek, gets, ofO, retOf, slotOf, setAll, isHot, subAt, recvOk, isMut, isUpd, recvD, dctR, biD, one, ovS, seq?, isInst, PyData.isInt, PyData.isBool, PyData.isTuple, truthD, PyData.truthy, entry, asgT, asgTs, wipeE, notHot, backE, it_lst, it_tpl, it_r1, it_r2, it_r3, it_enum, it_zip, rg1, rg2, ints?, intR, setD, retIs_rt, nxIs_nx, retH_rt, nxH_nx, PyData.isList, PyData.isDict, PyData.isStr, List.range, List.range.loop, sz0, sz1, sz2, sz3, sz4, sz5, sz6, sz7, sz8, sz9, sz10, sz11, sz12, dSome, lenD, z, e0, io, q, idxD, ix]
  · refine callD_ret (D := dSome) hS rfl (ρ := [.h true d', .c (.tuple xs)]) ?_ rfl
    simp [execs, exec, ev.eq_1, ev.eq_2, ev.eq_3, ev.eq_4, ev.eq_5, ev.eq_6, ev.eq_7, ev.eq_8, ev.eq_9, ev.eq_10, ev.eq_11, ev.eq_12, ev.eq_13, ev.eq_14, ev.eq_15, ev.eq_16, ev.eq_17, ev.eq_18, ev.eq_19, ev_lc, evAnd, evOr, evCh, evR, evC, evA, evP, evIf, evT, evO, PL.bind, sb, biR, negR, binR, idxR, sliR, metR, cmpR, truthR, callR, iosOf, derefs, putBack, PL.cold, peeks, peek, gets, ofO, retOf, slotOf, setAll, isHot, subAt, recvOk, isMut, isUpd, recvD, dctR, biD, one, ovS, seq?, isInst, PyData.isInt, PyData.isBool, PyData.isTuple, truthD, PyData.truthy, entry, asgT, asgTs, wipeE, notHot, backE, it_lst, it_tpl, it_r1, it_r2, it_r3, it_enum, it_zip, rg1, rg2, ints?, intR, setD, retIs_rt, nxIs_nx, retH_rt, nxH_nx, PyData.isList, PyData.isDict, PyData.isStr, List.range, List.range.loop, sz0, sz1, sz2, sz3, sz4, sz5, sz6, sz7, sz8, sz9, sz10, sz11, sz12, dSome, lenD, z, e0, io, q, idxD, ix]
/-- a comprehension whose turns draw -/
theorem lcL_draw {α : Type} {step : PyData → PL.Env → Out (Option PyData)} {g : α → PyData} (E : PyData → PL.Env) (P : PyData → Prop) : ∀ {l : List α}, (∀ x ∈ l, ∀ d, HandOk d → ∃ y d', P y ∧ HandOk d' ∧ step (g x) (E d) = .ok (some y) (E d')) →
    ∀ {d : PyData} {acc : List PyData}, HandOk d → acc.length + l.length ≤ 1000000 → ∃ (ys : List PyData) (d' : PyData), ys.length = l.length ∧ (∀ y ∈ ys, P y) ∧ HandOk d' ∧ lcL step (l.map g) acc (E d) = .ok (acc ++ ys) (E d')
  | [], _, d, acc, hd, _ => ⟨[], d, rfl, (fun y hy => nomatch hy), hd, by rw [List.map_nil, lcL, List.append_nil]⟩
  | x :: l, h, d, acc, hd, hl => by
    rw [List.length_cons] at hl
    obtain ⟨y, d1, py, h1, e1⟩ := h x List.mem_cons_self d hd
    obtain ⟨ys, d2, ly, hy, h2, e2⟩ := lcL_draw E P (l := l) (fun z hz => h z (List.mem_cons_of_mem _ hz)) (acc := acc ++ [y]) h1 (by rw [List.length_append, List.length_singleton]; omega)
    refine ⟨y :: ys, d2, by rw [List.length_cons, List.length_cons, ly], fun z hz => ?_, h2, ?_⟩
    · rcases List.mem_cons.mp hz with rfl | hz
      · exact py
      · exact hy z hz
    · rw [List.map_cons, lcL, e1]
      dsimp only
      rw [if_pos (by unfold szOk; exact decide_eq_true (by omega)), e2, List.append_assoc]
      rfl
/-- the same with a test -/
theorem lcL_drawF {α : Type} {step : PyData → PL.Env → Out (Option PyData)} {g : α → PyData} (E : PyData → PL.Env) (f : α → PyData) (Q : α → Prop) : ∀ {l : List α}, (∀ x ∈ l, ∀ d, HandOk d → ∃ b d', (b = true → Q x) ∧ HandOk d' ∧ step (g x) (E d) = .ok (if b = true then some (f x) else none) (E d')) →
    ∀ {d : PyData} {acc : List PyData}, HandOk d → acc.length + l.length ≤ 1000000 → ∃ (ys : List α) (d' : PyData), ys.Sublist l ∧ (∀ y ∈ ys, Q y) ∧ HandOk d' ∧ lcL step (l.map g) acc (E d) = .ok (acc ++ ys.map f) (E d')
  | [], _, d, acc, hd, _ => ⟨[], d, .slnil, (fun _ h => nomatch h), hd, by rw [List.map_nil, lcL, List.map_nil, List.append_nil]⟩
  | x :: l, h, d, acc, hd, hl => by
    rw [List.length_cons] at hl
    obtain ⟨b, d1, hq, h1, e1⟩ := h x List.mem_cons_self d hd
    cases b with
    | true =>
      obtain ⟨ys, d2, sl, hy, h2, e2⟩ := lcL_drawF E f Q (l := l) (fun z hz => h z (List.mem_cons_of_mem _ hz)) (acc := acc ++ [f x]) h1 (by rw [List.length_append, List.length_singleton]; omega)
      refine ⟨x :: ys, d2, sl.cons_cons x, fun z hz => ?_, h2, ?_⟩
      · rcases List.mem_cons.mp hz with rfl | hz
        · exact hq rfl
        · exact hy z hz
      · rw [List.map_cons, lcL, e1, if_pos rfl]
        dsimp only
        rw [if_pos (by unfold szOk; exact decide_eq_true (by omega)), e2, List.append_assoc]
        rfl
    | false =>
      obtain ⟨ys, d2, sl, hy, h2, e2⟩ := lcL_drawF E f Q (l := l) (fun z hz => h z (List.mem_cons_of_mem _ hz)) (acc := acc) h1 (by omega)
      refine ⟨ys, d2, sl.cons x, hy, h2, ?_⟩
      rw [List.map_cons, lcL, e1, if_neg Bool.false_ne_true]
      exact e2
theorem forL_inv {α : Type} {T : Tg} {b : PL.Env → SOut} {g : α → PyData} (I : PL.Env → Prop) : ∀ {l : List α}, (∀ x ∈ l, ∀ ρ, I ρ → ∃ ρ1 ρ2, asgT T (g x) ρ = some ρ1 ∧ b ρ1 = .nx ρ2 ∧ I ρ2) → ∀ {ρ : PL.Env}, I ρ → ∃ ρ', forL T b (l.map g) ρ = .nx ρ' ∧ I ρ'
  | [], _, ρ, i => ⟨ρ, by rw [List.map_nil, forL], i⟩
  | x :: l, h, ρ, i => by
    obtain ⟨ρ1, ρ2, e1, e2, i2⟩ := h x List.mem_cons_self ρ i
    obtain ⟨ρ', e3, i3⟩ := forL_inv I (l := l) (fun y hy => h y (List.mem_cons_of_mem _ hy)) i2
    exact ⟨ρ', forL_seq e1 e2 e3, i3⟩
end PL


set_option autoImplicit false
set_option linter.all false
set_option Elab.async false
set_option maxRecDepth 100000
set_option maxHeartbeats 1000000
/-! LIB1: the checks that all laws share. -/
namespace PL
open PySem PL
def isOkD (r : CRes) (d : PyData) : Bool := match r with
  | .ok (.c e) [] => sameD e d
  | _ => false
theorem isOk_eq {r : CRes} {d : PyData} (h : isOkD r d = true) : r = .ok (.c d) [] := by
  cases r with
  | ok s outs =>
    cases s with
    | c e =>
      cases outs with
      | nil =>
        have := sameD_eq (show sameD e d = true from h)
        rw [this]
      | cons a b => cases h
    | no => cases h
    | h io e => cases h
  | exc c o => cases h
  | stuck => cases h
def dIsInteger : Def := ⟨1, 1, [], [.ret (.band [(.bi (.isinst .int) [(.var 0)]), (.not (.bi (.isinst .bool) [(.var 0)]))])]⟩
def dIsWithin : Def := ⟨3, 3, [], [.ret (.band [(.call "is_integer" [(.var 0)]), (.cmp (.var 1) [.LtE, .LtE] [(.var 0), (.var 2)])])]⟩
def dIsTuple : Def := ⟨3, 3, [], [.ret (.band [(.bi (.isinst .tuple) [(.var 0)]), (.cmp (.var 1) [.LtE, .LtE] [(.bi .len [(.var 0)]), (.var 2)])])]⟩
def dIsLot : Def := ⟨2, 4, [], [.ite (.bor [(.not (.bi (.isinst .tuple) [(.var 0)])), (.not (.bi .all [(.lc (.call "is_within" [(.var 2), (.con (.int 0)), (.bin .Sub (.var 1) (.con (.int 1)))]) (.nm 2) .plain [(.var 0)] [] [2])]))]) [.ret (.con (.bool false))] [],
    .ret (.bi .all [(.lc (.cmp (.var 2) [.Lt] [(.var 3)]) (.tp [(.nm 2), (.nm 3)]) .zip [(.var 0), (.sli (.var 0) [(.con (.int 1))] [])] [] [2, 3])])]⟩
def intB : PyData → Bool
  | .int _ => true
  | _ => false
def inW (lo hi : Int) : PyData → Bool
  | .int i => decide (lo ≤ i ∧ i ≤ hi)
  | _ => false
def tupB (a b : Int) : PyData → Bool
  | .tuple xs => decide (a ≤ xs.length ∧ (xs.length : Int) ≤ b)
  | _ => false
section
variable {N n : Nat} {defs : Str → Option Def}
theorem l_is_integer (h1 : defs "is_integer" = some dIsInteger) (d : PyData) : callD defs N (n + 1) "is_integer" [d] = .ok (.c (.bool (intB d))) [] := by
  refine callD_ret (D := dIsInteger) h1 rfl (ρ := [.c d]) ?_ rfl
  cases d <;> simp [execs, exec, ev.eq_1, ev.eq_2, ev.eq_3, ev.eq_4, ev.eq_5, ev.eq_6, ev.eq_7, ev.eq_8, ev.eq_9, ev.eq_10, ev.eq_11, ev.eq_12, ev.eq_13, ev.eq_14, ev.eq_15, ev.eq_16, ev.eq_17, ev.eq_18, ev.eq_19, ev_lc, evAnd, evOr, evCh, evR, evC, evA, evP, evIf, evT, evO, PL.bind, sb, biR, negR, binR, idxR, sliR, metR, cmpR, truthR, callR, iosOf, derefs, putBack, PL.cold, peeks, peek, gets, ofO, retOf, slotOf, setAll, isHot, subAt, recvOk, isMut, isUpd, recvD, dctR, biD, one, ovS, seq?, isInst, PyData.isInt, PyData.isBool, PyData.isTuple, truthD, PyData.truthy, entry, asgT, asgTs, wipeE, notHot, backE, it_lst, it_tpl, it_r1, it_r2, it_r3, it_enum, it_zip, rg1, rg2, ints?, intR, setD, retIs_rt, nxIs_nx, retH_rt, nxH_nx, PyData.isList, PyData.isDict, PyData.isStr, List.range, List.range.loop, sz0, sz1, sz2, sz3, sz4, sz5, sz6, sz7, sz8, sz9, sz10, sz11, sz12, dIsInteger, intB]
theorem l_is_within (h1 : defs "is_integer" = some dIsInteger) (h2 : defs "is_within" = some dIsWithin) (d : PyData) (lo hi : Int) : callD defs N (n + 2) "is_within" [d, .int lo, .int hi] = .ok (.c (.bool (inW lo hi d))) [] := by
  refine callD_ret (D := dIsWithin) h2 rfl (ρ := [.c d, .c (.int lo), .c (.int hi)]) ?_ rfl
  have q := l_is_integer (N := N) (n := n) h1 d
  have i0 : dIsInteger.ios = [] := rfl
  cases d with
  | int t =>
    simp [execs, exec, ev.eq_1, ev.eq_2, ev.eq_3, ev.eq_4, ev.eq_5, ev.eq_6, ev.eq_7, ev.eq_8, ev.eq_9, ev.eq_10, ev.eq_11, ev.eq_12, ev.eq_13, ev.eq_14, ev.eq_15, ev.eq_16, ev.eq_17, ev.eq_18, ev.eq_19, ev_lc, evAnd, evOr, evCh, evR, evC, evA, evP, evIf, evT, evO, PL.bind, sb, biR, negR, binR, idxR, sliR, metR, cmpR, truthR, callR, iosOf, derefs, putBack, PL.cold, peeks, peek, gets, ofO, retOf, slotOf, setAll, isHot, subAt, recvOk, isMut, isUpd, recvD, dctR, biD, one, ovS, seq?, isInst, PyData.isInt, PyData.isBool, PyData.isTuple, truthD, PyData.truthy, entry, asgT, asgTs, wipeE, notHot, backE, it_lst, it_tpl, it_r1, it_r2, it_r3, it_enum, it_zip, rg1, rg2, ints?, intR, setD, retIs_rt, nxIs_nx, retH_rt, nxH_nx, PyData.isList, PyData.isDict, PyData.isStr, List.range, List.range.loop, sz0, sz1, sz2, sz3, sz4, sz5, sz6, sz7, sz8, sz9, sz10, sz11, sz12, dIsWithin, q, h1, i0, cmp_le, intB, inW]
    by_cases h : lo ≤ t <;> simp [execs, exec, ev.eq_1, ev.eq_2, ev.eq_3, ev.eq_4, ev.eq_5, ev.eq_6, ev.eq_7, ev.eq_8, ev.eq_9, ev.eq_10, ev.eq_11, ev.eq_12, ev.eq_13, ev.eq_14, ev.eq_15, ev.eq_16, ev.eq_17, ev.eq_18, ev.eq_19, ev_lc, evAnd, evOr, evCh, evR, evC, evA, evP, evIf, evT, evO, PL.bind, sb, biR, negR, binR, idxR, sliR, metR, cmpR, truthR, callR, iosOf, derefs, putBack, PL.cold, peeks, peek, gets, ofO, retOf, slotOf, setAll, isHot, subAt, recvOk, isMut, isUpd, recvD, dctR, biD, one, ovS, seq?, isInst, PyData.isInt, PyData.isBool, PyData.isTuple, truthD, PyData.truthy, entry, asgT, asgTs, wipeE, notHot, backE, it_lst, it_tpl, it_r1, it_r2, it_r3, it_enum, it_zip, rg1, rg2, ints?, intR, setD, retIs_rt, nxIs_nx, retH_rt, nxH_nx, PyData.isList, PyData.isDict, PyData.isStr, List.range, List.range.loop, sz0, sz1, sz2, sz3, sz4, sz5, sz6, sz7, sz8, sz9, sz10, sz11, sz12, h]
  | _ => simp [execs, exec, ev.eq_1, ev.eq_2, ev.eq_3, ev.eq_4, ev.eq_5, ev.eq_6, ev.eq_7, ev.eq_8, ev.eq_9, ev.eq_10, ev.eq_11, ev.eq_12, ev.eq_13, ev.eq_14, ev.eq_15, ev.eq_16, ev.eq_17, ev.eq_18, ev.eq_19, ev_lc, evAnd, evOr, evCh, evR, evC, evA, evP, evIf, evT, evO, PL.bind, sb, biR, negR, binR, idxR, sliR, metR, cmpR, truthR, callR, iosOf, derefs, putBack, PL.cold, peeks, peek, gets, ofO, retOf, slotOf, setAll, isHot, subAt, recvOk, isMut, isUpd, recvD, dctR, biD, one, ovS, seq?, isInst, PyData.isInt, PyData.isBool, PyData.isTuple, truthD, PyData.truthy, entry, asgT, asgTs, wipeE, notHot, backE, it_lst, it_tpl, it_r1, it_r2, it_r3, it_enum, it_zip, rg1, rg2, ints?, intR, setD, retIs_rt, nxIs_nx, retH_rt, nxH_nx, PyData.isList, PyData.isDict, PyData.isStr, List.range, List.range.loop, sz0, sz1, sz2, sz3, sz4, sz5, sz6, sz7, sz8, sz9, sz10, sz11, sz12, dIsWithin, q, h1, i0, intB, inW]
theorem l_is_tuple (h3 : defs "is_tuple" = some dIsTuple) (xs : List PyData) (a b : Int) (h : xs.length ≤ 1000000) : callD defs N (n + 1) "is_tuple" [.tuple xs, .int a, .int b] = .ok (.c (.bool (decide (a ≤ xs.length ∧ (xs.length : Int) ≤ b)))) [] := by
  refine callD_ret (D := dIsTuple) h3 rfl (ρ := [.c (.tuple xs), .c (.int a), .c (.int b)]) ?_ rfl
  have z : szOk xs.length = true := decide_eq_true h
  simp [execs, exec, ev.eq_1, ev.eq_2, ev.eq_3, ev.eq_4, ev.eq_5, ev.eq_6, ev.eq_7, ev.eq_8, ev.eq_9, ev.eq_10, ev.eq_11, ev.eq_12, ev.eq_13, ev.eq_14, ev.eq_15, ev.eq_16, ev.eq_17, ev.eq_18, ev.eq_19, ev_lc, evAnd, evOr, evCh, evR, evC, evA, evP, evIf, evT, evO, PL.bind, sb, biR, negR, binR, idxR, sliR, metR, cmpR, truthR, callR, iosOf, derefs, putBack, PL.cold, peeks, peek, gets, ofO, retOf, slotOf, setAll, isHot, subAt, recvOk, isMut, isUpd, recvD, dctR, biD, one, ovS, seq?, isInst, PyData.isInt, PyData.isBool, PyData.isTuple, truthD, PyData.truthy, entry, asgT, asgTs, wipeE, notHot, backE, it_lst, it_tpl, it_r1, it_r2, it_r3, it_enum, it_zip, rg1, rg2, ints?, intR, setD, retIs_rt, nxIs_nx, retH_rt, nxH_nx, PyData.isList, PyData.isDict, PyData.isStr, List.range, List.range.loop, sz0, sz1, sz2, sz3, sz4, sz5, sz6, sz7, sz8, sz9, sz10, sz11, sz12, dIsTuple, lenD, z, cmp_le]
  by_cases h : a ≤ xs.length <;> simp [execs, exec, ev.eq_1, ev.eq_2, ev.eq_3, ev.eq_4, ev.eq_5, ev.eq_6, ev.eq_7, ev.eq_8, ev.eq_9, ev.eq_10, ev.eq_11, ev.eq_12, ev.eq_13, ev.eq_14, ev.eq_15, ev.eq_16, ev.eq_17, ev.eq_18, ev.eq_19, ev_lc, evAnd, evOr, evCh, evR, evC, evA, evP, evIf, evT, evO, PL.bind, sb, biR, negR, binR, idxR, sliR, metR, cmpR, truthR, callR, iosOf, derefs, putBack, PL.cold, peeks, peek, gets, ofO, retOf, slotOf, setAll, isHot, subAt, recvOk, isMut, isUpd, recvD, dctR, biD, one, ovS, seq?, isInst, PyData.isInt, PyData.isBool, PyData.isTuple, truthD, PyData.truthy, entry, asgT, asgTs, wipeE, notHot, backE, it_lst, it_tpl, it_r1, it_r2, it_r3, it_enum, it_zip, rg1, rg2, ints?, intR, setD, retIs_rt, nxIs_nx, retH_rt, nxH_nx, PyData.isList, PyData.isDict, PyData.isStr, List.range, List.range.loop, sz0, sz1, sz2, sz3, sz4, sz5, sz6, sz7, sz8, sz9, sz10, sz11, sz12, h]
/-- of a thing of any kind -/
theorem l_is_tupleG (h3 : defs "is_tuple" = some dIsTuple) (d : PyData) (a b : Int) (h : ∀ xs, d = .tuple xs → xs.length ≤ 1000000) : callD defs N (n + 1) "is_tuple" [d, .int a, .int b] = .ok (.c (.bool (tupB a b d))) [] := by
  by_cases c : ∃ xs, d = .tuple xs
  · obtain ⟨xs, rfl⟩ := c
    exact l_is_tuple h3 xs a b (h xs rfl)
  · refine callD_ret (D := dIsTuple) h3 rfl (ρ := [.c d, .c (.int a), .c (.int b)]) ?_ rfl
    cases d <;> first | exact absurd ⟨_, rfl⟩ c | simp [execs, exec, ev.eq_1, ev.eq_2, ev.eq_3, ev.eq_4, ev.eq_5, ev.eq_6, ev.eq_7, ev.eq_8, ev.eq_9, ev.eq_10, ev.eq_11, ev.eq_12, ev.eq_13, ev.eq_14, ev.eq_15, ev.eq_16, ev.eq_17, ev.eq_18, ev.eq_19, ev_lc, evAnd, evOr, evCh, evR, evC, evA, evP, evIf, evT, evO, PL.bind, sb, biR, negR, binR, idxR, sliR, metR, cmpR, truthR, callR, iosOf, derefs, putBack, PL.cold, peeks, peek, gets, ofO, retOf, slotOf, setAll, isHot, subAt, recvOk, isMut, isUpd, recvD, dctR, biD, one, ovS, seq?, isInst, PyData.isInt, PyData.isBool, PyData.isTuple, truthD, PyData.truthy, entry, asgT, asgTs, wipeE, notHot, backE, it_lst, it_tpl, it_r1, it_r2, it_r3, it_enum, it_zip, rg1, rg2, ints?, intR, setD, retIs_rt, nxIs_nx, retH_rt, nxH_nx, PyData.isList, PyData.isDict, PyData.isStr, List.range, List.range.loop, sz0, sz1, sz2, sz3, sz4, sz5, sz6, sz7, sz8, sz9, sz10, sz11, sz12, dIsTuple, tupB, PyData.isTuple]
theorem allL_true {α : Type} {l : List α} {f : α → PyData} (h : ∀ x ∈ l, f x = .bool true) : allL (l.map f) = some (.val (.bool true)) := by
  have e : (l.map f).all plainTruth = true := List.all_eq_true.mpr fun y hy => by
    obtain ⟨x, hx, rfl⟩ := List.mem_map.mp hy
    rw [h x hx]; rfl
  have e2 : (l.map f).all PyData.truthy = true := List.all_eq_true.mpr fun y hy => by
    obtain ⟨x, hx, rfl⟩ := List.mem_map.mp hy
    rw [h x hx]; rfl
  unfold allL
  rw [if_pos e, e2]
theorem any_bools {α : Type} {l : List α} {q : α → Bool} : anyL (l.map fun x => PyData.bool (q x)) = some (.val (.bool (l.any q))) := by
  have e : (l.map fun x => PyData.bool (q x)).all plainTruth = true := List.all_eq_true.mpr fun y hy => by
    obtain ⟨x, hx, rfl⟩ := List.mem_map.mp hy
    rfl
  unfold anyL
  rw [if_pos e, List.any_map]
  rfl
/-! lots -/
/-- rising -/
def riseB : List PyData → Bool
  | .int i :: .int j :: r => decide (i < j) && riseB (.int j :: r)
  | _ => true
def lotB (many : Int) : PyData → Bool
  | .tuple xs => xs.all (inW 0 (many - 1)) && riseB xs
  | _ => false
theorem lcL_map' {step : PyData → PL.Env → Out (Option PyData)} {f : PyData → PyData} {ρ : PL.Env} {l : List PyData} (h : ∀ x ∈ l, step x ρ = .ok (some (f x)) ρ) (hl : l.length ≤ 1000000) : lcL step l [] ρ = .ok (l.map f) ρ := by
  have q := lcL_all (step := step) (g := fun x => x) (f := f) (ρ := ρ) (l := l) h hl
  rw [List.map_id'] at q
  exact q
theorem zip_next : ∀ {xs : List PyData} {lo hi : Int}, xs.all (inW lo hi) = true → ∃ ps : List (Int × Int), zip2 xs (xs.tail) = ps.map (fun p => .tuple [.int p.1, .int p.2]) ∧ ps.all (fun p => decide (p.1 < p.2)) = riseB xs ∧ ps.length ≤ xs.length
  | [], _, _, _ => ⟨[], rfl, rfl, Nat.le_refl _⟩
  | [x], _, _, h => ⟨[], by cases x <;> rfl, by cases x <;> rfl, by simp⟩
  | x :: y :: r, lo, hi, h => by
    rw [List.all_cons, Bool.and_eq_true] at h
    obtain ⟨ps, e1, e2, e3⟩ := zip_next h.2
    have h2 := h.2
    rw [List.all_cons, Bool.and_eq_true] at h2
    cases x with
    | int i =>
      cases y with
      | int j =>
        refine ⟨(i, j) :: ps, ?_, ?_, by rw [List.length_cons, List.length_cons]; omega⟩
        · rw [List.map_cons, ← e1]; rfl
        · rw [List.all_cons, e2]; rfl
      | _ => simp [inW] at h2
    | _ => simp [inW] at h
theorem l_is_lot (h1 : defs "is_integer" = some dIsInteger) (h2 : defs "is_within" = some dIsWithin) (h4 : defs "is_lot" = some dIsLot) (d : PyData) (many : Int) (h : ∀ xs, d = .tuple xs → xs.length ≤ 1000000) : callD defs N (n + 3) "is_lot" [d, .int many] = .ok (.c (.bool (lotB many d))) [] := by
  by_cases ct : ∃ xs, d = .tuple xs
  · obtain ⟨xs, rfl⟩ := ct
    have hl := h xs rfl
    refine callD_ret (D := dIsLot) h4 rfl (ρ := [.c (.tuple xs), .c (.int many), .no, .no]) ?_ rfl
    have iw : dIsWithin.ios = [] := rfl
    have a1 := all_bools (l := xs) (q := inW 0 (many - 1))
    have st : ∀ x, callD defs N (n + 2) "is_within" [x, .int 0, .int (many - 1)] = .ok (.c (.bool (inW 0 (many - 1) x))) [] := fun x => l_is_within (N := N) (n := n) h1 h2 x 0 (many - 1)
    have dr : cut xs (some 1) none = xs.tail := by
      unfold cut bnd
      cases xs with
      | nil => rfl
      | cons x xs => simp
    have zz : itemsD .zip [.tuple xs, .tuple (xs.tail)] = some (zip2 xs (xs.tail)) := rfl
    by_cases c : xs.all (inW 0 (many - 1)) = true
    · obtain ⟨ps, e1, e2, e3⟩ := zip_next c
      have a2 := all_bools (l := ps) (q := fun p => decide (p.1 < p.2))
      simp [execs, exec, ev.eq_1, ev.eq_2, ev.eq_3, ev.eq_4, ev.eq_5, ev.eq_6, ev.eq_7, ev.eq_8, ev.eq_9, ev.eq_10, ev.eq_11, ev.eq_12, ev.eq_13, ev.eq_14, ev.eq_15, ev.eq_16, ev.eq_17, ev.eq_18, ev.eq_19, ev_lc, evAnd, evOr, evCh, evR, evC, evA, evP, evIf, evT, evO, PL.bind, sb, biR, negR, binR, idxR, sliR, metR, cmpR, truthR, callR, iosOf, derefs, putBack, PL.cold, peeks, peek, gets, ofO, retOf, slotOf, setAll, isHot, subAt, recvOk, isMut, isUpd, recvD, dctR, biD, one, ovS, seq?, isInst, PyData.isInt, PyData.isBool, PyData.isTuple, truthD, PyData.truthy, entry, asgT, asgTs, wipeE, notHot, backE, it_lst, it_tpl, it_r1, it_r2, it_r3, it_enum, it_zip, rg1, rg2, ints?, intR, setD, retIs_rt, nxIs_nx, retH_rt, nxH_nx, PyData.isList, PyData.isDict, PyData.isStr, List.range, List.range.loop, sz0, sz1, sz2, sz3, sz4, sz5, sz6, sz7, sz8, sz9, sz10, sz11, sz12, dIsLot]
      rw [lcL_map' (f := fun x => .bool (inW 0 (many - 1) x)) (fun x _ => by simp [execs, exec, ev.eq_1, ev.eq_2, ev.eq_3, ev.eq_4, ev.eq_5, ev.eq_6, ev.eq_7, ev.eq_8, ev.eq_9, ev.eq_10, ev.eq_11, ev.eq_12, ev.eq_13, ev.eq_14, ev.eq_15, ev.eq_16, ev.eq_17, ev.eq_18, ev.eq_19, ev_lc, evAnd, evOr, evCh, evR, evC, evA, evP, evIf, evT, evO, PL.bind, sb, biR, negR, binR, idxR, sliR, metR, cmpR, truthR, callR, iosOf, derefs, putBack, PL.cold, peeks, peek, gets, ofO, retOf, slotOf, setAll, isHot, subAt, recvOk, isMut, isUpd, recvD, dctR, biD, one, ovS, seq?, isInst, PyData.isInt, PyData.isBool, PyData.isTuple, truthD, PyData.truthy, entry, asgT, asgTs, wipeE, notHot, backE, it_lst, it_tpl, it_r1, it_r2, it_r3, it_enum, it_zip, rg1, rg2, ints?, intR, setD, retIs_rt, nxIs_nx, retH_rt, nxH_nx, PyData.isList, PyData.isDict, PyData.isStr, List.range, List.range.loop, sz0, sz1, sz2, sz3, sz4, sz5, sz6, sz7, sz8, sz9, sz10, sz11, sz12, stepF, st, h2, iw, binD]) hl]
      simp [execs, exec, ev.eq_1, ev.eq_2, ev.eq_3, ev.eq_4, ev.eq_5, ev.eq_6, ev.eq_7, ev.eq_8, ev.eq_9, ev.eq_10, ev.eq_11, ev.eq_12, ev.eq_13, ev.eq_14, ev.eq_15, ev.eq_16, ev.eq_17, ev.eq_18, ev.eq_19, ev_lc, evAnd, evOr, evCh, evR, evC, evA, evP, evIf, evT, evO, PL.bind, sb, biR, negR, binR, idxR, sliR, metR, cmpR, truthR, callR, iosOf, derefs, putBack, PL.cold, peeks, peek, gets, ofO, retOf, slotOf, setAll, isHot, subAt, recvOk, isMut, isUpd, recvD, dctR, biD, one, ovS, seq?, isInst, PyData.isInt, PyData.isBool, PyData.isTuple, truthD, PyData.truthy, entry, asgT, asgTs, wipeE, notHot, backE, it_lst, it_tpl, it_r1, it_r2, it_r3, it_enum, it_zip, rg1, rg2, ints?, intR, setD, retIs_rt, nxIs_nx, retH_rt, nxH_nx, PyData.isList, PyData.isDict, PyData.isStr, List.range, List.range.loop, sz0, sz1, sz2, sz3, sz4, sz5, sz6, sz7, sz8, sz9, sz10, sz11, sz12, a1, c, lotB, sliD, dr, zz, e1]
      rw [lcL_all (l := ps) (g := fun p : Int × Int => .tuple [.int p.1, .int p.2]) (f := fun p => .bool (decide (p.1 < p.2))) (fun p _ => by simp [execs, exec, ev.eq_1, ev.eq_2, ev.eq_3, ev.eq_4, ev.eq_5, ev.eq_6, ev.eq_7, ev.eq_8, ev.eq_9, ev.eq_10, ev.eq_11, ev.eq_12, ev.eq_13, ev.eq_14, ev.eq_15, ev.eq_16, ev.eq_17, ev.eq_18, ev.eq_19, ev_lc, evAnd, evOr, evCh, evR, evC, evA, evP, evIf, evT, evO, PL.bind, sb, biR, negR, binR, idxR, sliR, metR, cmpR, truthR, callR, iosOf, derefs, putBack, PL.cold, peeks, peek, gets, ofO, retOf, slotOf, setAll, isHot, subAt, recvOk, isMut, isUpd, recvD, dctR, biD, one, ovS, seq?, isInst, PyData.isInt, PyData.isBool, PyData.isTuple, truthD, PyData.truthy, entry, asgT, asgTs, wipeE, notHot, backE, it_lst, it_tpl, it_r1, it_r2, it_r3, it_enum, it_zip, rg1, rg2, ints?, intR, setD, retIs_rt, nxIs_nx, retH_rt, nxH_nx, PyData.isList, PyData.isDict, PyData.isStr, List.range, List.range.loop, sz0, sz1, sz2, sz3, sz4, sz5, sz6, sz7, sz8, sz9, sz10, sz11, sz12, stepF, cmp_lt]) (by omega)]
      simp [execs, exec, ev.eq_1, ev.eq_2, ev.eq_3, ev.eq_4, ev.eq_5, ev.eq_6, ev.eq_7, ev.eq_8, ev.eq_9, ev.eq_10, ev.eq_11, ev.eq_12, ev.eq_13, ev.eq_14, ev.eq_15, ev.eq_16, ev.eq_17, ev.eq_18, ev.eq_19, ev_lc, evAnd, evOr, evCh, evR, evC, evA, evP, evIf, evT, evO, PL.bind, sb, biR, negR, binR, idxR, sliR, metR, cmpR, truthR, callR, iosOf, derefs, putBack, PL.cold, peeks, peek, gets, ofO, retOf, slotOf, setAll, isHot, subAt, recvOk, isMut, isUpd, recvD, dctR, biD, one, ovS, seq?, isInst, PyData.isInt, PyData.isBool, PyData.isTuple, truthD, PyData.truthy, entry, asgT, asgTs, wipeE, notHot, backE, it_lst, it_tpl, it_r1, it_r2, it_r3, it_enum, it_zip, rg1, rg2, ints?, intR, setD, retIs_rt, nxIs_nx, retH_rt, nxH_nx, PyData.isList, PyData.isDict, PyData.isStr, List.range, List.range.loop, sz0, sz1, sz2, sz3, sz4, sz5, sz6, sz7, sz8, sz9, sz10, sz11, sz12, a2, e2]
    · have c' : xs.all (inW 0 (many - 1)) = false := by simpa using c
      simp [execs, exec, ev.eq_1, ev.eq_2, ev.eq_3, ev.eq_4, ev.eq_5, ev.eq_6, ev.eq_7, ev.eq_8, ev.eq_9, ev.eq_10, ev.eq_11, ev.eq_12, ev.eq_13, ev.eq_14, ev.eq_15, ev.eq_16, ev.eq_17, ev.eq_18, ev.eq_19, ev_lc, evAnd, evOr, evCh, evR, evC, evA, evP, evIf, evT, evO, PL.bind, sb, biR, negR, binR, idxR, sliR, metR, cmpR, truthR, callR, iosOf, derefs, putBack, PL.cold, peeks, peek, gets, ofO, retOf, slotOf, setAll, isHot, subAt, recvOk, isMut, isUpd, recvD, dctR, biD, one, ovS, seq?, isInst, PyData.isInt, PyData.isBool, PyData.isTuple, truthD, PyData.truthy, entry, asgT, asgTs, wipeE, notHot, backE, it_lst, it_tpl, it_r1, it_r2, it_r3, it_enum, it_zip, rg1, rg2, ints?, intR, setD, retIs_rt, nxIs_nx, retH_rt, nxH_nx, PyData.isList, PyData.isDict, PyData.isStr, List.range, List.range.loop, sz0, sz1, sz2, sz3, sz4, sz5, sz6, sz7, sz8, sz9, sz10, sz11, sz12, dIsLot]
      rw [lcL_map' (f := fun x => .bool (inW 0 (many - 1) x)) (fun x _ => by simp [execs, exec, ev.eq_1, ev.eq_2, ev.eq_3, ev.eq_4, ev.eq_5, ev.eq_6, ev.eq_7, ev.eq_8, ev.eq_9, ev.eq_10, ev.eq_11, ev.eq_12, ev.eq_13, ev.eq_14, ev.eq_15, ev.eq_16, ev.eq_17, ev.eq_18, ev.eq_19, ev_lc, evAnd, evOr, evCh, evR, evC, evA, evP, evIf, evT, evO, PL.bind, sb, biR, negR, binR, idxR, sliR, metR, cmpR, truthR, callR, iosOf, derefs, putBack, PL.cold, peeks, peek, gets, ofO, retOf, slotOf, setAll, isHot, subAt, recvOk, isMut, isUpd, recvD, dctR, biD, one, ovS, seq?, isInst, PyData.isInt, PyData.isBool, PyData.isTuple, truthD, PyData.truthy, entry, asgT, asgTs, wipeE, notHot, backE, it_lst, it_tpl, it_r1, it_r2, it_r3, it_enum, it_zip, rg1, rg2, ints?, intR, setD, retIs_rt, nxIs_nx, retH_rt, nxH_nx, PyData.isList, PyData.isDict, PyData.isStr, List.range, List.range.loop, sz0, sz1, sz2, sz3, sz4, sz5, sz6, sz7, sz8, sz9, sz10, sz11, sz12, stepF, st, h2, iw, binD]) hl]
      simp [execs, exec, ev.eq_1, ev.eq_2, ev.eq_3, ev.eq_4, ev.eq_5, ev.eq_6, ev.eq_7, ev.eq_8, ev.eq_9, ev.eq_10, ev.eq_11, ev.eq_12, ev.eq_13, ev.eq_14, ev.eq_15, ev.eq_16, ev.eq_17, ev.eq_18, ev.eq_19, ev_lc, evAnd, evOr, evCh, evR, evC, evA, evP, evIf, evT, evO, PL.bind, sb, biR, negR, binR, idxR, sliR, metR, cmpR, truthR, callR, iosOf, derefs, putBack, PL.cold, peeks, peek, gets, ofO, retOf, slotOf, setAll, isHot, subAt, recvOk, isMut, isUpd, recvD, dctR, biD, one, ovS, seq?, isInst, PyData.isInt, PyData.isBool, PyData.isTuple, truthD, PyData.truthy, entry, asgT, asgTs, wipeE, notHot, backE, it_lst, it_tpl, it_r1, it_r2, it_r3, it_enum, it_zip, rg1, rg2, ints?, intR, setD, retIs_rt, nxIs_nx, retH_rt, nxH_nx, PyData.isList, PyData.isDict, PyData.isStr, List.range, List.range.loop, sz0, sz1, sz2, sz3, sz4, sz5, sz6, sz7, sz8, sz9, sz10, sz11, sz12, a1, c', lotB]
  · refine callD_ret (D := dIsLot) h4 rfl (ρ := [.c d, .c (.int many), .no, .no]) ?_ rfl
    cases d <;> first | exact absurd ⟨_, rfl⟩ ct | simp [execs, exec, ev.eq_1, ev.eq_2, ev.eq_3, ev.eq_4, ev.eq_5, ev.eq_6, ev.eq_7, ev.eq_8, ev.eq_9, ev.eq_10, ev.eq_11, ev.eq_12, ev.eq_13, ev.eq_14, ev.eq_15, ev.eq_16, ev.eq_17, ev.eq_18, ev.eq_19, ev_lc, evAnd, evOr, evCh, evR, evC, evA, evP, evIf, evT, evO, PL.bind, sb, biR, negR, binR, idxR, sliR, metR, cmpR, truthR, callR, iosOf, derefs, putBack, PL.cold, peeks, peek, gets, ofO, retOf, slotOf, setAll, isHot, subAt, recvOk, isMut, isUpd, recvD, dctR, biD, one, ovS, seq?, isInst, PyData.isInt, PyData.isBool, PyData.isTuple, truthD, PyData.truthy, entry, asgT, asgTs, wipeE, notHot, backE, it_lst, it_tpl, it_r1, it_r2, it_r3, it_enum, it_zip, rg1, rg2, ints?, intR, setD, retIs_rt, nxIs_nx, retH_rt, nxH_nx, PyData.isList, PyData.isDict, PyData.isStr, List.range, List.range.loop, sz0, sz1, sz2, sz3, sz4, sz5, sz6, sz7, sz8, sz9, sz10, sz11, sz12, dIsLot, lotB, PyData.isTuple]
end
end PL

set_option autoImplicit false
set_option linter.all false
set_option Elab.async false
set_option maxRecDepth 100000
set_option maxHeartbeats 1000000
/-! LIB2: loops by their index; membership; equality. -/
namespace PL
open PySem PL
theorem forL_ix {T : Tg} {b : PL.Env → SOut} (R : Nat → PL.Env → Prop) : ∀ {items : List PyData} {j : Nat}, (∀ k d, items[k]? = some d → ∀ ρ, R (j + k) ρ → ∃ ρ1 ρ2, asgT T d ρ = some ρ1 ∧ b ρ1 = .nx ρ2 ∧ R (j + k + 1) ρ2) → ∀ {ρ : PL.Env}, R j ρ → ∃ ρ', forL T b items ρ = .nx ρ' ∧ R (j + items.length) ρ'
  | [], j, _, ρ, r => ⟨ρ, by rw [forL], r⟩
  | x :: l, j, h, ρ, r => by
    obtain ⟨ρ1, ρ2, e1, e2, r2⟩ := h 0 x rfl ρ r
    obtain ⟨ρ', e3, r3⟩ := forL_ix R (items := l) (j := j + 1) (fun k d hk ρ hr => by
      have := h (k + 1) d (by simpa using hk) ρ (by rw [show j + (k + 1) = j + 1 + k by omega]; exact hr)
      rw [show j + (k + 1) = j + 1 + k by omega] at this
      exact this) (ρ := ρ2) r2
    exact ⟨ρ', forL_seq e1 e2 e3, by rw [List.length_cons, show j + (l.length + 1) = j + 1 + l.length by omega]; exact r3⟩
theorem forL_ix0 {T : Tg} {b : PL.Env → SOut} {items : List PyData} (R : Nat → PL.Env → Prop) (h : ∀ k d, items[k]? = some d → ∀ ρ, R k ρ → ∃ ρ1 ρ2, asgT T d ρ = some ρ1 ∧ b ρ1 = .nx ρ2 ∧ R (k + 1) ρ2) {ρ : PL.Env} (r : R 0 ρ) : ∃ ρ', forL T b items ρ = .nx ρ' ∧ R items.length ρ' := by
  obtain ⟨ρ', e, q⟩ := forL_ix R (j := 0) (items := items) (fun k d hk ρ hr => by
    rw [Nat.zero_add] at hr ⊢
    exact h k d hk ρ hr) r
  exact ⟨ρ', e, by rw [Nat.zero_add] at q; exact q⟩
/-- a loop that may return -/
theorem forL_find {T : Tg} {b : PL.Env → SOut} (R : Nat → PL.Env → Prop) (P : Nat → Option Slot) : ∀ {items : List PyData} {j : Nat}, (∀ k d, items[k]? = some d → ∀ ρ, R (j + k) ρ → ∃ ρ1 ρ2, asgT T d ρ = some ρ1 ∧ (P (j + k) = none → b ρ1 = .nx ρ2 ∧ R (j + k + 1) ρ2) ∧ (∀ r, P (j + k) = some r → b ρ1 = .rt r ρ2)) →
    ∀ {ρ : PL.Env}, R j ρ → ∃ ρ', ((List.range items.length).findSome? (fun k => P (j + k)) = none → forL T b items ρ = .nx ρ' ∧ R (j + items.length) ρ') ∧ ∀ r, (List.range items.length).findSome? (fun k => P (j + k)) = some r → forL T b items ρ = .rt r ρ'
  | [], j, _, ρ, r => ⟨ρ, fun _ => ⟨by rw [forL], r⟩, fun r h => by simp at h⟩
  | x :: l, j, h, ρ, r => by
    obtain ⟨ρ1, ρ2, e1, e2, e3⟩ := h 0 x rfl ρ r
    rw [Nat.add_zero] at e2 e3
    have er : ∀ f : Nat → Option Slot, (List.range (l.length + 1)).findSome? f = (f 0).or ((List.range l.length).findSome? fun k => f (k + 1)) := fun f => by
      rw [List.range_succ_eq_map, List.findSome?_cons, List.findSome?_map]
      cases f 0 <;> rfl
    cases c : P j with
    | some r0 =>
      refine ⟨ρ2, fun z => ?_, fun r' z => ?_⟩
      · rw [List.length_cons, er, Nat.add_zero, c] at z; cases z
      · rw [List.length_cons, er, Nat.add_zero, c] at z
        cases z
        rw [forL, e1]
        dsimp only
        rw [e3 r0 c]
    | none =>
      obtain ⟨e4, r2⟩ := e2 c
      obtain ⟨ρ', f1, f2⟩ := forL_find R P (items := l) (j := j + 1) (fun k d hk ρ hr => by
        have := h (k + 1) d (by simpa using hk) ρ (by rw [show j + (k + 1) = j + 1 + k by omega]; exact hr)
        rw [show j + (k + 1) = j + 1 + k by omega] at this
        exact this) (ρ := ρ2) r2
      have ef : (fun k => P (j + (k + 1))) = fun k => P (j + 1 + k) := funext fun k => by rw [show j + (k + 1) = j + 1 + k by omega]
      refine ⟨ρ', fun z => ?_, fun r' z => ?_⟩
      · rw [List.length_cons, er, Nat.add_zero, c, ef] at z
        obtain ⟨g1, g2⟩ := f1 z
        exact ⟨forL_seq e1 e4 g1, by rw [List.length_cons, show j + (l.length + 1) = j + 1 + l.length by omega]; exact g2⟩
      · rw [List.length_cons, er, Nat.add_zero, c, ef] at z
        exact forL_seq e1 e4 (f2 r' z)
theorem forL_find0 {T : Tg} {b : PL.Env → SOut} {items : List PyData} (R : Nat → PL.Env → Prop) (P : Nat → Option Slot) (h : ∀ k d, items[k]? = some d → ∀ ρ, R k ρ → ∃ ρ1 ρ2, asgT T d ρ = some ρ1 ∧ (P k = none → b ρ1 = .nx ρ2 ∧ R (k + 1) ρ2) ∧ (∀ r, P k = some r → b ρ1 = .rt r ρ2)) {ρ : PL.Env} (r : R 0 ρ) :
    ∃ ρ', ((List.range items.length).findSome? P = none → forL T b items ρ = .nx ρ' ∧ R items.length ρ') ∧ ∀ r, (List.range items.length).findSome? P = some r → forL T b items ρ = .rt r ρ' := by
  obtain ⟨ρ', f1, f2⟩ := forL_find R P (j := 0) (items := items) (fun k d hk ρ hr => by
    rw [Nat.zero_add] at hr ⊢
    exact h k d hk ρ hr) r
  have ef : (fun k => P (0 + k)) = P := funext fun k => by rw [Nat.zero_add]
  rw [ef, Nat.zero_add] at f1
  rw [ef] at f2
  exact ⟨ρ', f1, f2⟩
theorem range_find {α β : Type} (p : α → Bool) (f : α → β) : ∀ (l : List α), (List.range l.length).findSome? (fun k => (l[k]?).bind fun x => if p x = true then some (f x) else none) = (l.find? p).map f
  | [] => rfl
  | x :: l => by
    rw [List.length_cons, List.range_succ_eq_map, List.findSome?_cons, List.findSome?_map]
    have := range_find p f l
    by_cases c : p x = true
    · simp [c]
    · simp only [List.getElem?_cons_zero, Option.bind_some, c, List.find?_cons]
      simpa [Function.comp_def] using this
theorem eqv_int (a b : Int) : PyData.eqv (.int a) (.int b) = decide (a = b) := rfl
theorem eqvAll_ints : ∀ a b : List Int, PyData.eqvAll (a.map .int) (b.map .int) = decide (a = b)
  | [], [] => by simp [PyData.eqvAll]
  | [], _ :: _ => by simp [PyData.eqvAll]
  | _ :: _, [] => by simp [PyData.eqvAll]
  | x :: a, y :: b => by
    rw [List.map_cons, List.map_cons, W.eqv_all_cons, eqvAll_ints a b, eqv_int]
    by_cases h : x = y <;> by_cases k : a = b <;> simp [h, k]
theorem deep_listI (l : List Int) : deepOk (.list (l.map .int)) = true := by
  have := deep_ints l
  unfold deepOk
  rw [PyData.plain, PyData.depth, this.1]
  exact decide_eq_true (by have := this.2; omega)
theorem deep_tupI (l : List Int) : deepOk (.tuple (l.map .int)) = true := by
  have := deep_ints l
  unfold deepOk
  rw [PyData.plain, PyData.depth, this.1]
  exact decide_eq_true (by have := this.2; omega)
theorem deeps_ints (l : List Int) : deepOks (l.map .int) = true := by
  have := deep_ints l
  unfold deepOks
  rw [this.1]
  exact decide_eq_true (by have := this.2; omega)
theorem eq_listI (a b : List Int) : cmpD .Eq (.list (a.map .int)) (.list (b.map .int)) = some (decide (a = b)) := by
  rw [cmpD, if_pos (by rw [deep_listI, deep_listI]; rfl), show PyData.eqv (.list (a.map .int)) (.list (b.map .int)) = PyData.eqvAll (a.map .int) (b.map .int) by simp [PyData.eqv], eqvAll_ints]
theorem eq_tupI (a b : List Int) : cmpD .Eq (.tuple (a.map .int)) (.tuple (b.map .int)) = some (decide (a = b)) := by
  rw [cmpD, if_pos (by rw [deep_tupI, deep_tupI]; rfl), show PyData.eqv (.tuple (a.map .int)) (.tuple (b.map .int)) = PyData.eqvAll (a.map .int) (b.map .int) by simp [PyData.eqv], eqvAll_ints]
theorem any_ints (l : List Int) (c : Int) : ((l.map PyData.int).any fun y => PyData.eqv y (.int c)) = decide (c ∈ l) := by
  induction l with
  | nil => simp
  | cons x l ih =>
    rw [List.map_cons, List.any_cons, ih, eqv_int]
    by_cases h : x = c <;> by_cases k : c ∈ l <;> simp [h, k] <;> omega
theorem in_listI (l : List Int) (c : Int) : cmpD .In (.int c) (.list (l.map .int)) = some (decide (c ∈ l)) := by
  rw [cmpD]
  unfold inD
  dsimp only
  rw [deep_int, deeps_ints, any_ints]
  rfl
theorem in_tupI (l : List Int) (c : Int) : cmpD .In (.int c) (.tuple (l.map .int)) = some (decide (c ∈ l)) := by
  rw [cmpD]
  unfold inD
  dsimp only
  rw [deep_int, deeps_ints, any_ints]
  rfl
theorem nin_listI (l : List Int) (c : Int) : cmpD .NotIn (.int c) (.list (l.map .int)) = some (decide (c ∉ l)) := by
  have := in_listI l c
  rw [cmpD] at this
  rw [cmpD, this]
  by_cases k : c ∈ l <;> simp [k]
theorem nin_tupI (l : List Int) (c : Int) : cmpD .NotIn (.int c) (.tuple (l.map .int)) = some (decide (c ∉ l)) := by
  have := in_tupI l c
  rw [cmpD] at this
  rw [cmpD, this]
  by_cases k : c ∈ l <;> simp [k]
theorem is_none_none : cmpD .Is .none .none = some true := rfl
theorem zw (n : Nat) (h : n ≤ 1000000) : szOk n = true := decide_eq_true h
/-- 0, 1, … below n -/
def upto (n : Nat) : List Nat := List.range n
theorem upto_len (n : Nat) : (upto n).length = n := List.length_range
theorem mem_upto {n k : Nat} : k ∈ upto n ↔ k < n := List.mem_range
theorem rg1_nat {k : Nat} (h : k ≤ 1000000) : range1 0 k 1 = some ((upto k).map fun (c : Nat) => PyData.int (c : Int)) := by
  unfold range1
  rw [if_pos (by simp only [Bool.and_eq_true, decide_eq_true_eq]; omega), if_pos rfl, show (((k : Nat) : Int) - 0).toNat = k by omega]
  simp only [Int.zero_add]
  rfl
theorem rg1_int {i : Int} (h0 : 0 ≤ i) (h : i ≤ 1000000) : range1 0 i 1 = some ((upto i.toNat).map fun (c : Nat) => PyData.int (c : Int)) := by
  rw [← rg1_nat (by omega), Int.toNat_of_nonneg h0]
theorem it_r1n {k : Nat} (h : k ≤ 1000000) : itemsD .r1 [.int k] = some ((upto k).map fun (c : Nat) => PyData.int (c : Int)) := rg1_nat h
theorem it_r1i {i : Int} (h0 : 0 ≤ i) (h : i ≤ 1000000) : itemsD .r1 [.int i] = some ((upto i.toNat).map fun (c : Nat) => PyData.int (c : Int)) := rg1_int h0 h
theorem it_r2i {a b : Int} (ha : -1000000 ≤ a) (hb : b ≤ 1000000) (ha' : a ≤ 1000000) (hb' : -1000000 ≤ b) : range1 a b 1 = some ((upto (b - a).toNat).map fun (c : Nat) => PyData.int (a + (c : Int))) := by
  unfold range1
  rw [if_pos (by simp only [Bool.and_eq_true, decide_eq_true_eq]; omega), if_pos rfl]
  rfl
theorem it_r2d {a b : Int} (ha : -1000000 ≤ a) (hb : b ≤ 1000000) (ha' : a ≤ 1000000) (hb' : -1000000 ≤ b) : itemsD .r2 [.int a, .int b] = some ((upto (b - a).toNat).map fun (c : Nat) => PyData.int (a + (c : Int))) := it_r2i ha hb ha' hb'
theorem upto_at {n k c : Nat} (h : (upto n)[k]? = some c) : c = k ∧ k < n := by
  have lj := (List.getElem?_eq_some_iff.mp h).1
  have := (List.getElem?_eq_some_iff.mp h).2
  rw [upto_len] at lj
  unfold upto at this
  rw [List.getElem_range] at this
  exact ⟨this.symm, lj⟩
theorem at_map {α : Type} {f : α → PyData} {l : List α} {k : Nat} {d : PyData} (h : (l.map f)[k]? = some d) : ∃ x, l[k]? = some x ∧ d = f x := by
  rw [List.getElem?_map] at h
  obtain ⟨x, h1, h2⟩ := Option.map_eq_some_iff.mp h
  exact ⟨x, h1, h2.symm⟩
end PL

set_option autoImplicit false
set_option linter.all false
set_option Elab.async false
set_option maxRecDepth 100000
set_option maxHeartbeats 1000000
/-! LIB3: slots as a function. -/
namespace PL
open PySem PL
def sU (f : Nat → Slot) (i : Nat) (s : Slot) : Nat → Slot := fun j => if j = i then s else f j
def E (m : Nat) (f : Nat → Slot) : PL.Env := (List.range m).map f
theorem sU_eq (f : Nat → Slot) (i : Nat) (s : Slot) : sU f i s i = s := if_pos rfl
theorem sU_self (f : Nat → Slot) (i : Nat) : sU f i (f i) = f := by
  funext j
  unfold sU
  by_cases h : j = i <;> simp [h]
theorem sU_ne {f : Nat → Slot} {i j : Nat} {s : Slot} (h : j ≠ i) : sU f i s j = f j := if_neg h
theorem sU_sU (f : Nat → Slot) (i : Nat) (s t : Slot) : sU (sU f i s) i t = sU f i t := by
  funext j
  unfold sU
  by_cases h : j = i <;> simp [h]
theorem sU_comm {f : Nat → Slot} {i j : Nat} {s t : Slot} (h : i ≠ j) : sU (sU f j t) i s = sU (sU f i s) j t := by
  funext k
  unfold sU
  by_cases a : k = i
  · by_cases b : k = j
    · exact absurd (a.symm.trans b) h
    · simp [a, h]
  · by_cases b : k = j <;> simp [b]
    intro c; exact absurd c.symm h
theorem E_get {m : Nat} {f : Nat → Slot} {i : Nat} (h : i < m) : (E m f)[i]?.getD Slot.no = f i := by
  unfold E
  rw [List.getElem?_map, List.getElem?_range h]
  rfl
theorem E_len (m : Nat) (f : Nat → Slot) : (E m f).length = m := by unfold E; rw [List.length_map, List.length_range]
theorem E_set {m : Nat} {f : Nat → Slot} {i : Nat} {s : Slot} : (E m f).set i s = E m (sU f i s) := by
  unfold E
  apply List.ext_getElem?
  intro j
  by_cases h : i = j
  · subst h
    by_cases l : i < m
    · rw [List.getElem?_set_self (by rw [List.length_map, List.length_range]; exact l), List.getElem?_map, List.getElem?_range l]
      simp [sU]
    · rw [List.getElem?_eq_none (by simp; omega), List.getElem?_eq_none (by simp; omega)]
  · rw [List.getElem?_set_ne h, List.getElem?_map, List.getElem?_map]
    by_cases l : j < m
    · rw [List.getElem?_range l]
      simp [sU, Ne.symm h]
    · rw [List.getElem?_eq_none (by simp; omega)]
      rfl
theorem exec_frE {G : PL.Ctx} {N : Nat} {tg : Tg} {k : IK} {es : List Ex} {b : List St} {ds items : List PyData} {ρ ρ1 : PL.Env} (h1 : evC G es ρ = .ok ds ρ1) (h2 : itemsD k ds = some items) : exec G N (.fr tg k es b) ρ = forL tg (execs G N b) items ρ1 := by
  rw [exec, h1]
  show (match itemsD k ds with | some items => forL tg (execs G N b) items ρ1 | none => SOut.stuck) = _
  rw [h2]
theorem execs_one {G : PL.Ctx} {N : Nat} {s : St} {ρ : PL.Env} : execs G N [s] ρ = exec G N s ρ := by
  rw [execs]
  cases exec G N s ρ with
  | nx ρ1 => dsimp only; rw [execs]
  | _ => rfl
theorem execs_rt {G : PL.Ctx} {N : Nat} {s : St} {ss : List St} {ρ ρ1 : PL.Env} {r : Slot} (h : exec G N s ρ = .rt r ρ1) : execs G N (s :: ss) ρ = .rt r ρ1 := by
  rw [execs, h]
theorem idx_map {α : Type} {f : α → PyData} {l : List α} {k : Nat} {x : α} (h : l[k]? = some x) : idxD (.list (l.map f)) (.int (k : Int)) = some (f x) := by
  have hl := (List.getElem?_eq_some_iff.mp h).1
  unfold idxD ixD
  dsimp only
  rw [if_pos (by omega), if_pos (by rw [List.length_map]; omega), Option.bind_some, Int.toNat_natCast, List.getElem?_map, h]
  rfl
theorem idx_mapT {α : Type} {f : α → PyData} {l : List α} {k : Nat} {x : α} (h : l[k]? = some x) : idxD (.tuple (l.map f)) (.int (k : Int)) = some (f x) := by
  have hl := (List.getElem?_eq_some_iff.mp h).1
  unfold idxD ixD
  dsimp only
  rw [if_pos (by omega), if_pos (by rw [List.length_map]; omega), Option.bind_some, Int.toNat_natCast, List.getElem?_map, h]
  rfl
theorem rise_ints : ∀ {l : List Int}, l.Pairwise (· < ·) → riseB (l.map .int) = true
  | [], _ => rfl
  | [_], _ => rfl
  | x :: y :: l, h => by
    obtain ⟨h1, h2⟩ := List.pairwise_cons.mp h
    show (decide (x < y) && riseB ((y :: l).map .int)) = true
    rw [rise_ints h2, decide_eq_true (h1 y List.mem_cons_self)]
    rfl
theorem lot_ok {l : List Int} {m : Int} (h : l.Pairwise (· < ·)) (hb : ∀ x ∈ l, 0 ≤ x ∧ x < m) : lotB m (.tuple (l.map .int)) = true := by
  show ((l.map PyData.int).all (inW 0 (m - 1)) && riseB (l.map .int)) = true
  rw [rise_ints h, Bool.and_true, List.all_map]
  exact List.all_eq_true.mpr fun x hx => decide_eq_true (by have := hb x hx; omega)
theorem cut_drop {α : Type} {l : List α} {k : Nat} (h : k ≤ l.length) : cut l (some ((k : Nat) : Int)) none = l.drop k := by
  unfold cut bnd
  dsimp only
  rw [if_neg (by omega), Int.toNat_natCast, Nat.min_eq_left h, List.take_of_length_le (by rw [List.length_drop]; omega)]
theorem cut_take {α : Type} {l : List α} {k : Nat} (h : k ≤ l.length) : cut l none (some ((k : Nat) : Int)) = l.take k := by
  unfold cut bnd
  dsimp only
  rw [if_neg (by omega), Int.toNat_natCast, Nat.min_eq_left h]
  simp
/-- not one's own -/
def cl : Slot → Bool
  | .h _ _ => false
  | _ => true
theorem cl_no : cl .no = true := rfl
theorem cl_c (d : PyData) : cl (.c d) = true := rfl
theorem notHot_E {m : Nat} {f : Nat → Slot} {i : Nat} (h : i < m) : notHot (E m f) i = cl (f i) := by
  unfold notHot gets
  rw [E_get h]
  cases f i <;> rfl
def Cl (o : List Nat) (f : Nat → Slot) : Prop := ∀ i ∈ o, cl (f i) = true
theorem Cl.set {o : List Nat} {f : Nat → Slot} (h : Cl o f) {i : Nat} {s : Slot} (k : i ∉ o ∨ cl s = true) : Cl o (sU f i s) := fun j hj => by
  unfold sU
  by_cases e : j = i
  · rw [if_pos e]
    rcases k with k | k
    · exact absurd (e ▸ hj) k
    · exact k
  · rw [if_neg e]; exact h j hj
theorem Cl.back {o : List Nat} {f g : Nat → Slot} (h : Cl o f) (k : Cl o g) {i : Nat} : Cl o (sU f i (g i)) := fun j hj => by
  unfold sU
  by_cases e : j = i
  · rw [if_pos e, ← e]; exact k j hj
  · rw [if_neg e]; exact h j hj
end PL

set_option autoImplicit false
set_option linter.all false
set_option Elab.async false
set_option maxRecDepth 100000
namespace PL.L
open PySem PySem.Spec PyProof.Rows L2 PL
def top (i : Nat) : Stmt := PySem.Challenge.pw_fewforces_k95_whole_mobiles.main.body.getD i (.Pass ⟨0, 0, 0, 0⟩)
def n_is_integer : List Str := ["thing"]
def b_is_integer : List St := [.ret (.band [(.bi (.isinst .int) [(.var 0)]), (.not (.bi (.isinst .bool) [(.var 0)]))])]
def d_is_integer : Def := ⟨1, 1, [], b_is_integer⟩
def n_is_within : List Str := ["thing", "low", "high"]
def b_is_within : List St := [.ret (.band [(.call "is_integer" [(.var 0)]), (.cmp (.var 1) [.LtE, .LtE] [(.var 0), (.var 2)])])]
def d_is_within : Def := ⟨3, 3, [], b_is_within⟩
def n_is_tuple : List Str := ["thing", "least", "most"]
def b_is_tuple : List St := [.ret (.band [(.bi (.isinst .tuple) [(.var 0)]), (.cmp (.var 1) [.LtE, .LtE] [(.bi .len [(.var 0)]), (.var 2)])])]
def d_is_tuple : Def := ⟨3, 3, [], b_is_tuple⟩
def n_divisor : List Str := ["one", "other"]
def b_divisor : List St := [.par [0, 1] [false, false] [(.bi .abs [(.var 0)]), (.bi .abs [(.var 1)])],
    .wh (.cmp (.var 1) [.NotEq] [(.con (.int 0))]) [.par [0, 1] [false, false] [(.var 1), (.bin .Mod (.var 0) (.var 1))]],
    .ret (.var 0)]
def d_divisor : Def := ⟨2, 2, [], b_divisor⟩
def n_reduced : List Str := ["top", "bottom", "low", "sign"]
def b_reduced : List St := [.asg 2 false (.call "divisor" [(.var 0), (.var 1)]),
    .asg 3 false (.ife (.cmp (.var 1) [.Gt] [(.con (.int 0))]) (.con (.int 1)) (.neg (.con (.int 1)))),
    .ret (.tup [(.bin .FloorDiv (.bin .Mult (.var 3) (.var 0)) (.var 2)), (.bin .FloorDiv (.bin .Mult (.var 3) (.var 1)) (.var 2))])]
def d_reduced : Def := ⟨2, 4, [], b_reduced⟩
def n_times : List Str := ["one", "other"]
def b_times : List St := [.ret (.call "reduced" [(.bin .Mult (.idx (.var 0) (.con (.int 0))) (.idx (.var 1) (.con (.int 0)))), (.bin .Mult (.idx (.var 0) (.con (.int 1))) (.idx (.var 1) (.con (.int 1))))])]
def d_times : Def := ⟨2, 2, [], b_times⟩
def n_as_integers : List Str := ["line", "bottom", "one", "whole", "low"]
def b_as_integers : List St := [.asg 1 false (.con (.int 1)),
    .fr (.nm 2) .plain [(.var 0)] [.asg 1 false (.bin .FloorDiv (.bin .Mult (.var 1) (.idx (.var 2) (.con (.int 1)))) (.call "divisor" [(.var 1), (.idx (.var 2) (.con (.int 1)))]))],
    .unp (.tp [(.nm 3), (.nm 4)]) (.tup [(.lc (.bin .Mult (.idx (.var 2) (.con (.int 0))) (.bin .FloorDiv (.var 1) (.idx (.var 2) (.con (.int 1))))) (.nm 2) .plain [(.var 0)] [] [2]), (.con (.int 0))]),
    .fr (.nm 2) .plain [(.var 3)] [.asg 4 false (.call "divisor" [(.var 4), (.var 2)])],
    .ret (.bi .tuple [(.lc (.bin .FloorDiv (.var 2) (.var 4)) (.nm 2) .plain [(.var 3)] [] [2])])]
def d_as_integers : Def := ⟨1, 5, [], b_as_integers⟩
def n_names_of : List Str := ["thing", "found", "waiting", "here", "deep"]
def b_names_of : List St := [.par [1, 2] [true, true] [(.lst []), (.lst [(.tup [(.var 0), (.con (.int 0))])])],
    .wh (.cmp (.bi .len [(.var 2)]) [.Gt] [(.con (.int 0))]) [.unp (.tp [(.nm 3), (.nm 4)]) (.met .pop (.var 2) []),
    .ite (.bi (.isinst .tuple) [(.var 3)]) [.ite (.bor [(.cmp (.var 4) [.GtE] [(.gl "MOST_NAMES" (.int 6))]), (.not (.call "is_tuple" [(.var 3), (.con (.int 4)), (.con (.int 4))]))]) [.ret (.con .none)] [],
    .ite (.bor [(.not (.call "is_within" [(.idx (.var 3) (.con (.int 0))), (.con (.int 1)), (.gl "MOST_ARM" (.int 20))])), (.not (.call "is_within" [(.idx (.var 3) (.con (.int 2))), (.con (.int 1)), (.gl "MOST_ARM" (.int 20))]))]) [.ret (.con .none)] [],
    .ex (.met .extend (.var 2) [(.lst [(.tup [(.idx (.var 3) (.con (.int 3))), (.bin .Add (.var 4) (.con (.int 1)))]), (.tup [(.idx (.var 3) (.con (.int 1))), (.bin .Add (.var 4) (.con (.int 1)))])])])] [.ite (.call "is_within" [(.var 3), (.con (.int 0)), (.bin .Sub (.gl "MOST_NAMES" (.int 6)) (.con (.int 1)))]) [.ex (.met .append (.var 1) [(.var 3)])] [.ret (.con .none)]]],
    .ret (.var 1)]
def d_names_of : Def := ⟨1, 5, [], b_names_of⟩
def n_check_mobile : List Str := ["mobile", "found"]
def b_check_mobile : List St := [.asg 1 false (.call "names_of" [(.var 0)]),
    .ite (.bor [(.cmp (.var 1) [.Is] [(.con .none)]), (.cmp (.bi .sorted [(.var 1)]) [.NotEq] [(.bi .range [(.bi .len [(.var 1)])])])]) [.raise "e"] []]
def d_check_mobile : Def := ⟨1, 2, [], b_check_mobile⟩
def n_parts_of : List Str := ["mobile", "left", "one", "right", "other", "found", "part", "share", "inner", "name"]
def b_parts_of : List St := [.ite (.not (.bi (.isinst .tuple) [(.var 0)])) [.ret (.dct [(.var 0)] [(.tup [(.con (.int 1)), (.con (.int 1))])])] [],
    .unp (.tp [(.nm 1), (.nm 2), (.nm 3), (.nm 4)]) (.var 0),
    .asg 5 true (.dct [] []),
    .fr (.tp [(.nm 6), (.nm 7)]) .plain [(.tup [(.tup [(.var 2), (.call "reduced" [(.var 3), (.bin .Add (.var 1) (.var 3))])]), (.tup [(.var 4), (.call "reduced" [(.var 1), (.bin .Add (.var 1) (.var 3))])])])] [.asg 8 false (.call "parts_of" [(.var 6)]),
    .fr (.nm 9) .plain [(.var 8)] [.sub 5 (.var 9) (.call "times" [(.idx (.var 8) (.var 9)), (.var 7)])]],
    .ret (.var 5)]
def d_parts_of : Def := ⟨1, 10, [], b_parts_of⟩
def n_least_weights : List Str := ["mobile", "parts", "name"]
def b_least_weights : List St := [.ex (.call "check_mobile" [(.var 0)]),
    .asg 1 false (.call "parts_of" [(.var 0)]),
    .ret (.call "as_integers" [(.lc (.idx (.var 1) (.var 2)) (.nm 2) .r1 [(.bi .len [(.var 1)])] [] [2])])]
def d_least_weights : Def := ⟨1, 3, [], b_least_weights⟩
def n_check_weights : List Str := ["mobile", "weights", "many", "one"]
def b_check_weights : List St := [.ex (.call "check_mobile" [(.var 0)]),
    .asg 2 false (.bi .len [(.call "names_of" [(.var 0)])]),
    .ite (.bor [(.not (.call "is_tuple" [(.var 1), (.var 2), (.var 2)])), (.not (.bi .all [(.lc (.call "is_within" [(.var 3), (.con (.int 1)), (.gl "HEAVIEST" (.int 10000))]) (.nm 3) .plain [(.var 1)] [] [3])]))]) [.raise "e"] []]
def d_check_weights : Def := ⟨2, 4, [], b_check_weights⟩
def n_weight_of : List Str := ["mobile", "weights", "name"]
def b_weight_of : List St := [.ret (.bi .sum [(.lc (.idx (.var 1) (.var 2)) (.nm 2) .plain [(.call "names_of" [(.var 0)])] [] [2])])]
def d_weight_of : Def := ⟨2, 3, [], b_weight_of⟩
def n_tilts_of : List Str := ["mobile", "weights", "left", "one", "right", "other", "off", "word"]
def b_tilts_of : List St := [.ite (.not (.bi (.isinst .tuple) [(.var 0)])) [.ret (.lst [])] [],
    .unp (.tp [(.nm 2), (.nm 3), (.nm 4), (.nm 5)]) (.var 0),
    .asg 6 false (.bin .Sub (.bin .Mult (.var 2) (.call "weight_of" [(.var 3), (.var 1)])) (.bin .Mult (.var 4) (.call "weight_of" [(.var 5), (.var 1)]))),
    .asg 7 false (.ife (.cmp (.var 6) [.Eq] [(.con (.int 0))]) (.con (.str "level")) (.ife (.cmp (.var 6) [.Gt] [(.con (.int 0))]) (.con (.str "left")) (.con (.str "right")))),
    .ret (.bin .Add (.bin .Add (.lst [(.var 7)]) (.call "tilts_of" [(.var 3), (.var 1)])) (.call "tilts_of" [(.var 5), (.var 1)]))]
def d_tilts_of : Def := ⟨2, 8, [], b_tilts_of⟩
def n_tilts : List Str := ["mobile", "weights"]
def b_tilts : List St := [.ex (.call "check_weights" [(.var 0), (.var 1)]),
    .ret (.bi .tuple [(.call "tilts_of" [(.var 0), (.var 1)])])]
def d_tilts : Def := ⟨2, 2, [], b_tilts⟩
def n_is_level : List Str := ["mobile", "weights", "word"]
def b_is_level : List St := [.ex (.call "check_weights" [(.var 0), (.var 1)]),
    .ret (.not (.bi .any [(.lc (.cmp (.var 2) [.NotEq] [(.con (.str "level"))]) (.nm 2) .plain [(.call "tilts_of" [(.var 0), (.var 1)])] [] [2])]))]
def d_is_level : Def := ⟨2, 3, [], b_is_level⟩
def n_whole_weight : List Str := ["mobile", "weights"]
def b_whole_weight : List St := [.ex (.call "check_weights" [(.var 0), (.var 1)]),
    .ret (.bi .sum [(.var 1)])]
def d_whole_weight : Def := ⟨2, 2, [], b_whole_weight⟩
def n_reach_by : List Str := ["mobile", "left", "one", "right", "other", "first", "second"]
def b_reach_by : List St := [.ite (.not (.bi (.isinst .tuple) [(.var 0)])) [.ret (.tup [(.con (.int 0)), (.con (.int 0))])] [],
    .unp (.tp [(.nm 1), (.nm 2), (.nm 3), (.nm 4)]) (.var 0),
    .par [5, 6] [false, false] [(.call "reach_by" [(.var 2)]), (.call "reach_by" [(.var 4)])],
    .ret (.tup [(.bi .max [(.bin .Add (.var 1) (.idx (.var 5) (.con (.int 0)))), (.bin .Sub (.idx (.var 6) (.con (.int 0))) (.var 3)), (.con (.int 0))]), (.bi .max [(.bin .Add (.var 3) (.idx (.var 6) (.con (.int 1)))), (.bin .Sub (.idx (.var 5) (.con (.int 1))) (.var 1)), (.con (.int 0))])])]
def d_reach_by : Def := ⟨1, 7, [], b_reach_by⟩
def n_reach_of : List Str := ["mobile"]
def b_reach_of : List St := [.ex (.call "check_mobile" [(.var 0)]),
    .ret (.call "reach_by" [(.var 0)])]
def d_reach_of : Def := ⟨1, 1, [], b_reach_of⟩
def n_law_draw : List Str := ["hand", "many", "cell", "digit", "number"]
def b_law_draw : List St := [.ite (.band [(.cmp (.idx (.var 0) (.con (.int 2))) [.Eq] [(.con (.int 0))]), (.cmp (.idx (.var 0) (.con (.int 1))) [.Lt] [(.bi .len [(.idx (.var 0) (.con (.int 0)))])])]) [.asg 2 false (.idx (.idx (.var 0) (.con (.int 0))) (.idx (.var 0) (.con (.int 1)))),
    .sub 0 (.con (.int 1)) (.bin .Add (.idx (.var 0) (.con (.int 1))) (.con (.int 1))),
    .sub 0 (.con (.int 3)) (.bin .Mod (.bi .int [(.bin .Add (.bin .Add (.bin .Mult (.idx (.var 0) (.con (.int 3))) (.con (.int 48271))) (.bin .Mult (.var 2) (.con (.int 5)))) (.con (.int 29)))]) (.con (.int 2147483587))),
    .sub 0 (.con (.int 2)) (.ife (.cmp (.var 2) [.GtE] [(.bin .Pow (.con (.int 10)) (.con (.int 18)))]) (.var 2) (.con (.int 0)))] [],
    .ite (.cmp (.idx (.var 0) (.con (.int 2))) [.Gt] [(.con (.int 0))]) [.asg 3 false (.bin .Mod (.bi .int [(.idx (.var 0) (.con (.int 2)))]) (.var 1)),
    .sub 0 (.con (.int 2)) (.bin .FloorDiv (.idx (.var 0) (.con (.int 2))) (.var 1)),
    .ret (.var 3)] [],
    .sub 0 (.con (.int 4)) (.bin .Add (.idx (.var 0) (.con (.int 4))) (.con (.int 1))),
    .asg 4 false (.bin .Mod (.bi .int [(.bin .Mult (.bi .int [(.bin .Add (.idx (.var 0) (.con (.int 3))) (.bin .Mult (.con (.int 7877)) (.idx (.var 0) (.con (.int 4)))))]) (.con (.int 69621)))]) (.con (.int 2147483647))),
    .asg 4 false (.bin .Mod (.bi .int [(.bin .Mult (.var 4) (.bin .Add (.bin .FloorDiv (.var 4) (.con (.int 1103))) (.con (.int 40692))))]) (.con (.int 2147483399))),
    .asg 4 false (.bin .Mod (.bi .int [(.bin .Mult (.var 4) (.bin .Add (.bin .FloorDiv (.var 4) (.con (.int 2311))) (.con (.int 48271))))]) (.con (.int 2147483629))),
    .ret (.bin .Mod (.bi .int [(.bin .FloorDiv (.var 4) (.con (.int 16)))]) (.var 1))]
def d_law_draw : Def := ⟨2, 5, [0], b_law_draw⟩
def n_law_low : List Str := ["top", "bottom", "one", "other"]
def b_law_low : List St := [.par [2, 3] [false, false] [(.bi .abs [(.var 0)]), (.bi .abs [(.var 1)])],
    .wh (.cmp (.var 3) [.NotEq] [(.con (.int 0))]) [.par [2, 3] [false, false] [(.var 3), (.bin .Mod (.bi .int [(.var 2)]) (.var 3))]],
    .asg 2 false (.ife (.cmp (.var 1) [.Gt] [(.con (.int 0))]) (.var 2) (.bin .Sub (.con (.int 0)) (.var 2))),
    .ret (.tup [(.bin .FloorDiv (.var 0) (.var 2)), (.bin .FloorDiv (.var 1) (.var 2))])]
def d_law_low : Def := ⟨2, 4, [], b_law_low⟩
def n_law_plus : List Str := ["one", "other"]
def b_law_plus : List St := [.ret (.call "_law_low" [(.bin .Add (.bin .Mult (.idx (.var 0) (.con (.int 0))) (.idx (.var 1) (.con (.int 1)))) (.bin .Mult (.idx (.var 1) (.con (.int 0))) (.idx (.var 0) (.con (.int 1))))), (.bin .Mult (.idx (.var 0) (.con (.int 1))) (.idx (.var 1) (.con (.int 1))))])]
def d_law_plus : Def := ⟨2, 2, [], b_law_plus⟩
def n_law_times : List Str := ["one", "other"]
def b_law_times : List St := [.ret (.call "_law_low" [(.bin .Mult (.idx (.var 0) (.con (.int 0))) (.idx (.var 1) (.con (.int 0)))), (.bin .Mult (.idx (.var 0) (.con (.int 1))) (.idx (.var 1) (.con (.int 1))))])]
def d_law_times : Def := ⟨2, 2, [], b_law_times⟩
def n_law_mobile : List Str := ["hand", "many", "parts", "one", "other", "a", "b", "mine", "its", "much", "by", "left", "right", "arms", "name", "row"]
def b_law_mobile : List St := [.asg 1 false (.bin .Add (.con (.int 1)) (.call "_law_draw" [(.var 0), (.con (.int 6))])),
    .asg 2 true (.lc (.tup [(.var 14), (.lst [(.var 14)]), (.lst [(.tup [(.con (.int 1)), (.con (.int 1))])]), (.tup [(.con (.int 0)), (.con (.int 0))]), (.lst [])]) (.nm 14) .r1 [(.var 1)] [] [14]),
    .wh (.cmp (.bi .len [(.var 2)]) [.Gt] [(.con (.int 1))]) [.asg 3 false (.met .pop (.var 2) [(.call "_law_draw" [(.var 0), (.bi .len [(.var 2)])])]),
    .asg 4 false (.met .pop (.var 2) [(.call "_law_draw" [(.var 0), (.bi .len [(.var 2)])])]),
    .par [5, 6] [false, false] [(.bin .Add (.con (.int 1)) (.call "_law_draw" [(.var 0), (.con (.int 4))])), (.bin .Add (.con (.int 1)) (.call "_law_draw" [(.var 0), (.con (.int 4))]))],
    .unp (.tp [(.nm 7), (.nm 8)]) (.tup [(.tup [(.con (.int 0)), (.con (.int 1))]), (.tup [(.con (.int 0)), (.con (.int 1))])]),
    .fr (.nm 9) .plain [(.idx (.var 3) (.con (.int 2)))] [.asg 7 false (.call "_law_plus" [(.var 7), (.var 9)])],
    .fr (.nm 9) .plain [(.idx (.var 4) (.con (.int 2)))] [.asg 8 false (.call "_law_plus" [(.var 8), (.var 9)])],
    .asg 10 false (.call "_law_times" [(.call "_law_times" [(.tup [(.var 5), (.var 6)]), (.var 7)]), (.tup [(.idx (.var 8) (.con (.int 1))), (.idx (.var 8) (.con (.int 0)))])]),
    .asg 9 false (.bin .Add (.idx (.var 3) (.con (.int 2))) (.lc (.call "_law_times" [(.var 10), (.var 15)]) (.nm 15) .plain [(.idx (.var 4) (.con (.int 2)))] [] [15])),
    .asg 11 false (.bi .max [(.con (.int 0)), (.bin .Add (.var 5) (.idx (.idx (.var 3) (.con (.int 3))) (.con (.int 0)))), (.bin .Sub (.idx (.idx (.var 4) (.con (.int 3))) (.con (.int 0))) (.var 6))]),
    .asg 12 false (.bi .max [(.con (.int 0)), (.bin .Add (.var 6) (.idx (.idx (.var 4) (.con (.int 3))) (.con (.int 1)))), (.bin .Sub (.idx (.idx (.var 3) (.con (.int 3))) (.con (.int 1))) (.var 5))]),
    .asg 13 false (.bin .Add (.bin .Add (.lst [(.tup [(.var 5), (.bi .tuple [(.idx (.var 3) (.con (.int 1)))]), (.var 6), (.bi .tuple [(.idx (.var 4) (.con (.int 1)))])])]) (.idx (.var 3) (.con (.int 4)))) (.idx (.var 4) (.con (.int 4)))),
    .ex (.met .append (.var 2) [(.tup [(.tup [(.var 5), (.idx (.var 3) (.con (.int 0))), (.var 6), (.idx (.var 4) (.con (.int 0)))]), (.bin .Add (.idx (.var 3) (.con (.int 1))) (.idx (.var 4) (.con (.int 1)))), (.var 9), (.tup [(.var 11), (.var 12)]), (.var 13)])])],
    .ret (.idx (.var 2) (.con (.int 0)))]
def d_law_mobile : Def := ⟨1, 16, [0], b_law_mobile⟩
def n_law_whole : List Str := ["fractions", "bottom", "common", "top", "low", "rows", "row"]
def b_law_whole : List St := [.unp (.tp [(.nm 1), (.nm 2)]) (.tup [(.con (.int 1)), (.con (.int 0))]),
    .fr (.tp [(.nm 3), (.nm 4)]) .plain [(.var 0)] [.asg 1 false (.bin .Mult (.var 1) (.idx (.call "_law_low" [(.var 4), (.var 1)]) (.con (.int 0))))],
    .asg 5 false (.lc (.bin .Mult (.var 3) (.bin .FloorDiv (.var 1) (.var 4))) (.tp [(.nm 3), (.nm 4)]) .plain [(.var 0)] [] [3, 4]),
    .fr (.nm 6) .plain [(.var 5)] [.wh (.cmp (.var 6) [.NotEq] [(.con (.int 0))]) [.unp (.tp [(.nm 2), (.nm 6)]) (.tup [(.var 6), (.bin .Mod (.bi .int [(.var 2)]) (.var 6))])]],
    .ret (.lc (.bin .FloorDiv (.var 6) (.var 2)) (.nm 6) .plain [(.var 5)] [] [6])]
def d_law_whole : Def := ⟨1, 7, [], b_law_whole⟩
def n_law : List Str := "script" :: "hand" :: "turn" :: "mobile" :: "names" :: "much" :: "reach_now" :: "arms" :: "whole_now" :: "due" :: "by" :: "more" :: "drawn" :: "words_now" :: "a" :: "mine" :: "b" :: "its" :: "left" :: "right" :: "told" :: "level" :: "name" :: "word" :: "one" :: []
def b_law : List St := [.ite (.cmp (.call "least_weights" [(.tup [(.con (.int 1)), (.con (.int 0)), (.con (.int 2)), (.con (.int 1))])]) [.NotEq] [(.tup [(.con (.int 2)), (.con (.int 1))])]) [.ret (.con (.bool false))] [],
    .ite (.cmp (.call "tilts" [(.tup [(.con (.int 1)), (.con (.int 0)), (.con (.int 1)), (.con (.int 1))]), (.tup [(.con (.int 3)), (.con (.int 2))])]) [.NotEq] [(.tup [(.con (.str "left"))])]) [.ret (.con (.bool false))] [],
    .ite (.cmp (.call "least_weights" [(.con (.int 0))]) [.NotEq] [(.tup [(.con (.int 1))])]) [.ret (.con (.bool false))] [],
    .fr (.nm 2) .r1 [(.con (.int 5))] [.unp (.tp [(.nm 3), (.nm 4), (.nm 5), (.nm 6), (.nm 7)]) (.call "_law_mobile" [(.var 1)]),
    .asg 8 false (.call "_law_whole" [(.var 5)]),
    .asg 9 false (.bi .tuple [(.lc (.idx (.var 8) (.met .index (.var 4) [(.var 22)])) (.nm 22) .r1 [(.bi .len [(.var 4)])] [] [22])]),
    .ite (.bor [(.cmp (.call "least_weights" [(.var 3)]) [.NotEq] [(.var 9)]), (.cmp (.call "reach_of" [(.var 3)]) [.NotEq] [(.var 6)])]) [.ret (.con (.bool false))] [],
    .asg 10 false (.bin .Add (.con (.int 1)) (.call "_law_draw" [(.var 1), (.con (.int 3))])),
    .ite (.cmp (.bin .Mult (.bi .max [(.var 9)]) (.var 10)) [.Lt] [(.con (.int 10001))]) [.asg 11 false (.bi .tuple [(.lc (.bin .Mult (.var 10) (.var 24)) (.nm 24) .plain [(.var 9)] [] [24])]),
    .ite (.cmp (.call "is_level" [(.var 3), (.var 11)]) [.IsNot] [(.con (.bool true))]) [.ret (.con (.bool false))] [],
    .ite (.cmp (.call "whole_weight" [(.var 3), (.var 11)]) [.NotEq] [(.bin .Mult (.var 10) (.bi .sum [(.var 9)]))]) [.ret (.con (.bool false))] [],
    .ite (.cmp (.call "tilts" [(.var 3), (.var 11)]) [.NotEq] [(.bin .Mult (.tup [(.con (.str "level"))]) (.bi .len [(.var 7)]))]) [.ret (.con (.bool false))] []] [],
    .asg 12 false (.bi .tuple [(.lc (.bin .Add (.con (.int 1)) (.call "_law_draw" [(.var 1), (.con (.int 9))])) (.nm 22) .plain [(.var 4)] [] [22])]),
    .asg 13 true (.lst []),
    .fr (.tp [(.nm 14), (.nm 15), (.nm 16), (.nm 17)]) .plain [(.var 7)] [.par [18, 19] [false, false] [(.bin .Mult (.var 14) (.bi .sum [(.lc (.idx (.var 12) (.var 22)) (.nm 22) .plain [(.var 15)] [] [22])])), (.bin .Mult (.var 16) (.bi .sum [(.lc (.idx (.var 12) (.var 22)) (.nm 22) .plain [(.var 17)] [] [22])]))],
    .ex (.met .append (.var 13) [(.ife (.cmp (.var 18) [.Eq] [(.var 19)]) (.con (.str "level")) (.ife (.cmp (.var 18) [.Gt] [(.var 19)]) (.con (.str "left")) (.con (.str "right"))))])],
    .asg 20 false (.call "tilts" [(.var 3), (.var 12)]),
    .ite (.bor [(.cmp (.bi .sorted [(.var 20)]) [.NotEq] [(.bi .sorted [(.var 13)])]), (.cmp (.sli (.var 20) [] [(.con (.int 1))]) [.NotEq] [(.bi .tuple [(.sli (.var 13) [] [(.con (.int 1))])])])]) [.ret (.con (.bool false))] [],
    .asg 21 false (.bi .all [(.lc (.cmp (.var 23) [.Eq] [(.con (.str "level"))]) (.nm 23) .plain [(.var 13)] [] [23])]),
    .ite (.cmp (.call "is_level" [(.var 3), (.var 12)]) [.NotEq] [(.var 21)]) [.ret (.con (.bool false))] [],
    .ite (.cmp (.call "whole_weight" [(.var 3), (.var 12)]) [.NotEq] [(.bi .sum [(.var 12)])]) [.ret (.con (.bool false))] [],
    .ite (.cmp (.var 21) [.NotEq] [(.bi .all [(.lc (.cmp (.bin .Mult (.idx (.var 12) (.var 22)) (.idx (.var 9) (.con (.int 0)))) [.Eq] [(.bin .Mult (.idx (.var 12) (.con (.int 0))) (.idx (.var 9) (.var 22)))]) (.nm 22) .plain [(.var 4)] [] [22])])]) [.ret (.con (.bool false))] []],
    .ret (.con (.bool true))]
def n_law_hand : List Str := ["script", "cells", "cell"]
def b_law_hand : List St := [.ret (.lst [(.var 1), (.con (.int 0)), (.con (.int 0)), (.bin .Add (.con (.int 83)) (.bin .Mult (.con (.int 5)) (.bi .len [(.var 1)]))), (.con (.int 0))])]
def table : List (Str × Def) := [("is_integer", d_is_integer), ("is_within", d_is_within), ("is_tuple", d_is_tuple), ("divisor", d_divisor), ("reduced", d_reduced), ("times", d_times), ("as_integers", d_as_integers), ("names_of", d_names_of), ("check_mobile", d_check_mobile), ("parts_of", d_parts_of), ("least_weights", d_least_weights), ("check_weights", d_check_weights), ("weight_of", d_weight_of), ("tilts_of", d_tilts_of), ("tilts", d_tilts), ("is_level", d_is_level), ("whole_weight", d_whole_weight), ("reach_by", d_reach_by), ("reach_of", d_reach_of), ("_law_draw", d_law_draw), ("_law_low", d_law_low), ("_law_plus", d_law_plus), ("_law_times", d_law_times), ("_law_mobile", d_law_mobile), ("_law_whole", d_law_whole)]
def bis : List Str := ["abs", "all", "any", "bool", "int", "isinstance", "len", "list", "max", "range", "sorted", "sum", "tuple"]
def gls : List (Str × PyData) := [("HEAVIEST", (.int 10000)), ("MOST_ARM", (.int 20)), ("MOST_NAMES", (.int 6))]

abbrev s_is_integer : Stmt := top 1
theorem sc_is_integer : FnScope n_is_integer ["thing"] (defScope s_is_integer) := ⟨rfl, rfl, rfl, by decide +kernel, rfl, by decide +kernel, by decide +kernel⟩
theorem ok_is_integer : okSs ⟨n_is_integer, defScope s_is_integer, defScope s_is_integer, bis, gls⟩ b_is_integer (defBody s_is_integer) = true := by decide +kernel
abbrev s_is_within : Stmt := top 2
theorem sc_is_within : FnScope n_is_within ["thing", "low", "high"] (defScope s_is_within) := ⟨rfl, rfl, rfl, by decide +kernel, rfl, by decide +kernel, by decide +kernel⟩
theorem ok_is_within : okSs ⟨n_is_within, defScope s_is_within, defScope s_is_within, bis, gls⟩ b_is_within (defBody s_is_within) = true := by decide +kernel
abbrev s_is_tuple : Stmt := top 3
theorem sc_is_tuple : FnScope n_is_tuple ["thing", "least", "most"] (defScope s_is_tuple) := ⟨rfl, rfl, rfl, by decide +kernel, rfl, by decide +kernel, by decide +kernel⟩
theorem ok_is_tuple : okSs ⟨n_is_tuple, defScope s_is_tuple, defScope s_is_tuple, bis, gls⟩ b_is_tuple (defBody s_is_tuple) = true := by decide +kernel
abbrev s_divisor : Stmt := top 9
theorem sc_divisor : FnScope n_divisor ["one", "other"] (defScope s_divisor) := ⟨rfl, rfl, rfl, by decide +kernel, rfl, by decide +kernel, by decide +kernel⟩
theorem ok_divisor : okSs ⟨n_divisor, defScope s_divisor, defScope s_divisor, bis, gls⟩ b_divisor (defBody s_divisor) = true := by decide +kernel
abbrev s_reduced : Stmt := top 10
theorem sc_reduced : FnScope n_reduced ["top", "bottom"] (defScope s_reduced) := ⟨rfl, rfl, rfl, by decide +kernel, rfl, by decide +kernel, by decide +kernel⟩
theorem ok_reduced : okSs ⟨n_reduced, defScope s_reduced, defScope s_reduced, bis, gls⟩ b_reduced (defBody s_reduced) = true := by decide +kernel
abbrev s_times : Stmt := top 11
theorem sc_times : FnScope n_times ["one", "other"] (defScope s_times) := ⟨rfl, rfl, rfl, by decide +kernel, rfl, by decide +kernel, by decide +kernel⟩
theorem ok_times : okSs ⟨n_times, defScope s_times, defScope s_times, bis, gls⟩ b_times (defBody s_times) = true := by decide +kernel
abbrev s_as_integers : Stmt := top 12
theorem sc_as_integers : FnScope n_as_integers ["line"] (defScope s_as_integers) := ⟨rfl, rfl, rfl, by decide +kernel, rfl, by decide +kernel, by decide +kernel⟩
theorem ok_as_integers : okSs ⟨n_as_integers, defScope s_as_integers, defScope s_as_integers, bis, gls⟩ b_as_integers (defBody s_as_integers) = true := by decide +kernel
abbrev s_names_of : Stmt := top 17
theorem sc_names_of : FnScope n_names_of ["thing"] (defScope s_names_of) := ⟨rfl, rfl, rfl, by decide +kernel, rfl, by decide +kernel, by decide +kernel⟩
theorem ok_names_of : okSs ⟨n_names_of, defScope s_names_of, defScope s_names_of, bis, gls⟩ b_names_of (defBody s_names_of) = true := by decide +kernel
abbrev s_check_mobile : Stmt := top 18
theorem sc_check_mobile : FnScope n_check_mobile ["mobile"] (defScope s_check_mobile) := ⟨rfl, rfl, rfl, by decide +kernel, rfl, by decide +kernel, by decide +kernel⟩
theorem ok_check_mobile : okSs ⟨n_check_mobile, defScope s_check_mobile, defScope s_check_mobile, bis, gls⟩ b_check_mobile (defBody s_check_mobile) = true := by decide +kernel
abbrev s_parts_of : Stmt := top 19
theorem sc_parts_of : FnScope n_parts_of ["mobile"] (defScope s_parts_of) := ⟨rfl, rfl, rfl, by decide +kernel, rfl, by decide +kernel, by decide +kernel⟩
theorem ok_parts_of : okSs ⟨n_parts_of, defScope s_parts_of, defScope s_parts_of, bis, gls⟩ b_parts_of (defBody s_parts_of) = true := by decide +kernel
abbrev s_least_weights : Stmt := top 20
theorem sc_least_weights : FnScope n_least_weights ["mobile"] (defScope s_least_weights) := ⟨rfl, rfl, rfl, by decide +kernel, rfl, by decide +kernel, by decide +kernel⟩
theorem ok_least_weights : okSs ⟨n_least_weights, defScope s_least_weights, defScope s_least_weights, bis, gls⟩ b_least_weights (defBody s_least_weights) = true := by decide +kernel
abbrev s_check_weights : Stmt := top 21
theorem sc_check_weights : FnScope n_check_weights ["mobile", "weights"] (defScope s_check_weights) := ⟨rfl, rfl, rfl, by decide +kernel, rfl, by decide +kernel, by decide +kernel⟩
theorem ok_check_weights : okSs ⟨n_check_weights, defScope s_check_weights, defScope s_check_weights, bis, gls⟩ b_check_weights (defBody s_check_weights) = true := by decide +kernel
abbrev s_weight_of : Stmt := top 22
theorem sc_weight_of : FnScope n_weight_of ["mobile", "weights"] (defScope s_weight_of) := ⟨rfl, rfl, rfl, by decide +kernel, rfl, by decide +kernel, by decide +kernel⟩
theorem ok_weight_of : okSs ⟨n_weight_of, defScope s_weight_of, defScope s_weight_of, bis, gls⟩ b_weight_of (defBody s_weight_of) = true := by decide +kernel
abbrev s_tilts_of : Stmt := top 23
theorem sc_tilts_of : FnScope n_tilts_of ["mobile", "weights"] (defScope s_tilts_of) := ⟨rfl, rfl, rfl, by decide +kernel, rfl, by decide +kernel, by decide +kernel⟩
theorem ok_tilts_of : okSs ⟨n_tilts_of, defScope s_tilts_of, defScope s_tilts_of, bis, gls⟩ b_tilts_of (defBody s_tilts_of) = true := by decide +kernel
abbrev s_tilts : Stmt := top 24
theorem sc_tilts : FnScope n_tilts ["mobile", "weights"] (defScope s_tilts) := ⟨rfl, rfl, rfl, by decide +kernel, rfl, by decide +kernel, by decide +kernel⟩
theorem ok_tilts : okSs ⟨n_tilts, defScope s_tilts, defScope s_tilts, bis, gls⟩ b_tilts (defBody s_tilts) = true := by decide +kernel
abbrev s_is_level : Stmt := top 25
theorem sc_is_level : FnScope n_is_level ["mobile", "weights"] (defScope s_is_level) := ⟨rfl, rfl, rfl, by decide +kernel, rfl, by decide +kernel, by decide +kernel⟩
theorem ok_is_level : okSs ⟨n_is_level, defScope s_is_level, defScope s_is_level, bis, gls⟩ b_is_level (defBody s_is_level) = true := by decide +kernel
abbrev s_whole_weight : Stmt := top 26
theorem sc_whole_weight : FnScope n_whole_weight ["mobile", "weights"] (defScope s_whole_weight) := ⟨rfl, rfl, rfl, by decide +kernel, rfl, by decide +kernel, by decide +kernel⟩
theorem ok_whole_weight : okSs ⟨n_whole_weight, defScope s_whole_weight, defScope s_whole_weight, bis, gls⟩ b_whole_weight (defBody s_whole_weight) = true := by decide +kernel
abbrev s_reach_by : Stmt := top 27
theorem sc_reach_by : FnScope n_reach_by ["mobile"] (defScope s_reach_by) := ⟨rfl, rfl, rfl, by decide +kernel, rfl, by decide +kernel, by decide +kernel⟩
theorem ok_reach_by : okSs ⟨n_reach_by, defScope s_reach_by, defScope s_reach_by, bis, gls⟩ b_reach_by (defBody s_reach_by) = true := by decide +kernel
abbrev s_reach_of : Stmt := top 28
theorem sc_reach_of : FnScope n_reach_of ["mobile"] (defScope s_reach_of) := ⟨rfl, rfl, rfl, by decide +kernel, rfl, by decide +kernel, by decide +kernel⟩
theorem ok_reach_of : okSs ⟨n_reach_of, defScope s_reach_of, defScope s_reach_of, bis, gls⟩ b_reach_of (defBody s_reach_of) = true := by decide +kernel
abbrev s_law_draw : Stmt := top 31
theorem sc_law_draw : FnScope n_law_draw ["hand", "many"] (defScope s_law_draw) := ⟨rfl, rfl, rfl, by decide +kernel, rfl, by decide +kernel, by decide +kernel⟩
theorem ok_law_draw : okSs ⟨n_law_draw, defScope s_law_draw, defScope s_law_draw, bis, gls⟩ b_law_draw (defBody s_law_draw) = true := by decide +kernel
abbrev s_law_low : Stmt := top 32
theorem sc_law_low : FnScope n_law_low ["top", "bottom"] (defScope s_law_low) := ⟨rfl, rfl, rfl, by decide +kernel, rfl, by decide +kernel, by decide +kernel⟩
theorem ok_law_low : okSs ⟨n_law_low, defScope s_law_low, defScope s_law_low, bis, gls⟩ b_law_low (defBody s_law_low) = true := by decide +kernel
abbrev s_law_plus : Stmt := top 33
theorem sc_law_plus : FnScope n_law_plus ["one", "other"] (defScope s_law_plus) := ⟨rfl, rfl, rfl, by decide +kernel, rfl, by decide +kernel, by decide +kernel⟩
theorem ok_law_plus : okSs ⟨n_law_plus, defScope s_law_plus, defScope s_law_plus, bis, gls⟩ b_law_plus (defBody s_law_plus) = true := by decide +kernel
abbrev s_law_times : Stmt := top 34
theorem sc_law_times : FnScope n_law_times ["one", "other"] (defScope s_law_times) := ⟨rfl, rfl, rfl, by decide +kernel, rfl, by decide +kernel, by decide +kernel⟩
theorem ok_law_times : okSs ⟨n_law_times, defScope s_law_times, defScope s_law_times, bis, gls⟩ b_law_times (defBody s_law_times) = true := by decide +kernel
abbrev s_law_mobile : Stmt := top 35
theorem sc_law_mobile : FnScope n_law_mobile ["hand"] (defScope s_law_mobile) := ⟨rfl, rfl, rfl, by decide +kernel, rfl, by decide +kernel, by decide +kernel⟩
theorem ok_law_mobile : okSs ⟨n_law_mobile, defScope s_law_mobile, defScope s_law_mobile, bis, gls⟩ b_law_mobile (defBody s_law_mobile) = true := by decide +kernel
abbrev s_law_whole : Stmt := top 36
theorem sc_law_whole : FnScope n_law_whole ["fractions"] (defScope s_law_whole) := ⟨rfl, rfl, rfl, by decide +kernel, rfl, by decide +kernel, by decide +kernel⟩
theorem ok_law_whole : okSs ⟨n_law_whole, defScope s_law_whole, defScope s_law_whole, bis, gls⟩ b_law_whole (defBody s_law_whole) = true := by decide +kernel
abbrev s_law : Stmt := top 37
theorem sc_law : FnScope n_law ["script"] (defScope s_law) := ⟨rfl, rfl, rfl, by decide +kernel, rfl, by decide +kernel, by decide +kernel⟩
theorem ok_law : lawB ⟨n_law, defScope s_law, defScope s_law, bis, gls⟩ (defBody s_law) b_law = true := by decide +kernel
abbrev s_law_hand : Stmt := top 30
theorem sc_law_hand : FnScope n_law_hand ["script"] (defScope s_law_hand) := ⟨rfl, rfl, rfl, by decide +kernel, rfl, by decide +kernel, by decide +kernel⟩
theorem ok_law_hand : handB ⟨n_law_hand, defScope s_law_hand, defScope s_law_hand, bis, gls⟩ (defBody s_law_hand) b_law_hand = true := by decide +kernel
end PL.L

set_option autoImplicit false
set_option linter.all false
set_option Elab.async false
set_option maxRecDepth 100000
set_option maxHeartbeats 2000000
/-! M0: mobiles, their weights in whole numbers (pure). -/
namespace PL.L
open PySem PL
inductive Mob where
  | leaf (n : Nat)
  | node (a : Nat) (l : Mob) (b : Nat) (r : Mob)
namespace Mob
def nms : Mob → List Nat
  | leaf n => [n]
  | node _ l _ r => l.nms ++ r.nms
def Ok : Mob → Prop
  | leaf _ => True
  | node a l b r => 1 ≤ a ∧ a ≤ 4 ∧ 1 ≤ b ∧ b ≤ 4 ∧ l.Ok ∧ r.Ok
def S : Mob → Nat
  | leaf _ => 1
  | node a l b r => (a + b) * (l.S * r.S)
def cd : Mob → Nat
  | leaf _ => 1
  | node _ l b r => l.cd * (b * r.S)
def prs : Mob → List (Nat × Nat)
  | leaf n => [(n, 1)]
  | node a l b r => (l.prs.map fun p => (p.1, b * r.S * p.2)) ++ (r.prs.map fun p => (p.1, a * l.S * p.2))
def wt (w : Nat → Int) : Mob → Int
  | leaf n => w n
  | node _ l _ r => wt w l + wt w r
def lev (w : Nat → Int) : Mob → Prop
  | leaf _ => True
  | node a l b r => (a : Int) * wt w l = b * wt w r ∧ lev w l ∧ lev w r
theorem nms_prs : ∀ m : Mob, m.prs.map (·.1) = m.nms
  | leaf _ => rfl
  | node a l b r => by
    simp only [prs, nms, List.map_append, List.map_map]
    rw [← nms_prs l, ← nms_prs r]
    rfl
theorem nms_pos : ∀ m : Mob, 1 ≤ m.nms.length
  | leaf _ => Nat.le_refl _
  | node a l b r => by
    have := nms_pos l
    simp only [nms, List.length_append]; omega
theorem S_pos : ∀ {m : Mob}, m.Ok → 0 < m.S
  | leaf _, _ => Nat.one_pos
  | node a l b r, h => Nat.mul_pos (by have := h.1; omega) (Nat.mul_pos (S_pos h.2.2.2.2.1) (S_pos h.2.2.2.2.2))
theorem cd_pos : ∀ {m : Mob}, m.Ok → 0 < m.cd
  | leaf _, _ => Nat.one_pos
  | node a l b r, h => Nat.mul_pos (cd_pos h.2.2.2.2.1) (Nat.mul_pos h.2.2.1 (S_pos h.2.2.2.2.2))
theorem prs_pos : ∀ {m : Mob}, m.Ok → ∀ p ∈ m.prs, 0 < p.2
  | leaf _, _ => fun p hp => by
    simp only [prs, List.mem_singleton] at hp
    subst hp; exact Nat.one_pos
  | node a l b r, h => fun p hp => by
    obtain ⟨ha, _, hb, _, hl, hr⟩ := h
    simp only [prs, List.mem_append, List.mem_map] at hp
    rcases hp with ⟨q, hq, rfl⟩ | ⟨q, hq, rfl⟩
    · exact Nat.mul_pos (Nat.mul_pos hb (S_pos hr)) (prs_pos hl q hq)
    · exact Nat.mul_pos (Nat.mul_pos ha (S_pos hl)) (prs_pos hr q hq)
theorem sum_scale (k : Nat) : ∀ l : List (Nat × Nat), ((l.map fun p => (p.1, k * p.2)).map (·.2)).sum = k * (l.map (·.2)).sum
  | [] => by simp
  | p :: l => by
    have := sum_scale k l
    simp only [List.map_cons, List.sum_cons] at this ⊢
    rw [this, Nat.mul_add]
theorem sum_prs : ∀ m : Mob, (m.prs.map (·.2)).sum = m.S
  | leaf _ => rfl
  | node a l b r => by
    simp only [prs, List.map_append, List.sum_append, sum_scale, S]
    rw [sum_prs l, sum_prs r]
    grind
theorem S_le : ∀ {m : Mob}, m.Ok → m.S ≤ 8 ^ (m.nms.length - 1)
  | leaf _, _ => by simp [S, nms]
  | node a l b r, h => by
    obtain ⟨ha, ha', hb, hb', hl, hr⟩ := h
    have e : (node a l b r).nms.length - 1 = 1 + ((l.nms.length - 1) + (r.nms.length - 1)) := by
      have := nms_pos l
      have := nms_pos r
      simp only [nms, List.length_append]; omega
    rw [e, Nat.pow_add, Nat.pow_add]
    exact Nat.mul_le_mul (by omega) (Nat.mul_le_mul (S_le hl) (S_le hr))
theorem cd_le : ∀ {m : Mob}, m.Ok → m.cd ≤ 8 ^ (m.nms.length - 1)
  | leaf _, _ => by simp [cd, nms]
  | node a l b r, h => by
    obtain ⟨ha, ha', hb, hb', hl, hr⟩ := h
    have e : (node a l b r).nms.length - 1 = (l.nms.length - 1) + (1 + (r.nms.length - 1)) := by
      have := nms_pos l
      have := nms_pos r
      simp only [nms, List.length_append]; omega
    rw [e, Nat.pow_add, Nat.pow_add]
    exact Nat.mul_le_mul (cd_le hl) (Nat.mul_le_mul (by omega) (S_le hr))
theorem le_sum : ∀ {l : List Nat} {x : Nat}, x ∈ l → x ≤ l.sum
  | y :: l, x, h => by
    rw [List.sum_cons]
    rcases List.mem_cons.mp h with rfl | h
    · omega
    · have := le_sum h; omega
theorem prs_le {m : Mob} : ∀ p ∈ m.prs, p.2 ≤ m.S := fun p hp => by
  rw [← sum_prs m]
  exact le_sum (List.mem_map_of_mem hp)
/-- sums by name -/
theorem wt_prs (w : Nat → Int) : ∀ m : Mob, (m.prs.map fun p => w p.1).sum = m.wt w
  | leaf n => by simp [prs, wt]
  | node a l b r => by
    simp only [prs, List.map_append, List.sum_append, List.map_map, wt]
    rw [← wt_prs w l, ← wt_prs w r]
    rfl
theorem wt_nms (w : Nat → Int) (m : Mob) : (m.nms.map w).sum = m.wt w := by
  rw [← wt_prs, ← nms_prs, List.map_map]; rfl
theorem sum_rel (w : Nat → Int) (A B : Int) : ∀ {l : List (Nat × Nat)}, (∀ p ∈ l, w p.1 * A = (p.2 : Int) * B) → (l.map fun p => w p.1).sum * A = ((l.map (·.2)).sum : Nat) * B
  | [], _ => by simp
  | p :: l, h => by
    have h1 := h p (List.mem_cons_self)
    have h2 := sum_rel w A B (l := l) fun q hq => h q (List.mem_cons_of_mem _ hq)
    simp only [List.map_cons, List.sum_cons, Int.natCast_add]
    rw [Int.add_mul, Int.add_mul, h1, h2]
theorem lev_iff (w : Nat → Int) : ∀ {m : Mob}, m.Ok → (m.lev w ↔ ∀ p ∈ m.prs, w p.1 * (m.S : Int) = (p.2 : Int) * m.wt w)
  | leaf n, _ => by simp [lev, prs, S, wt]
  | node a l b r, h => by
    obtain ⟨ha, ha', hb, hb', hl, hr⟩ := h
    have sl : (0 : Int) < l.S := Int.natCast_pos.mpr (S_pos hl)
    have sr : (0 : Int) < r.S := Int.natCast_pos.mpr (S_pos hr)
    simp only [lev, prs, S, wt, List.mem_append, List.mem_map]
    rw [lev_iff w hl, lev_iff w hr]
    constructor
    · rintro ⟨h1, h2, h3⟩ p (⟨q, hq, rfl⟩ | ⟨q, hq, rfl⟩)
      · have e := h2 q hq
        simp only [Int.natCast_mul, Int.natCast_add]
        grind
      · have e := h3 q hq
        simp only [Int.natCast_mul, Int.natCast_add]
        grind
    · intro h
      have hL : ∀ q ∈ l.prs, w q.1 * (((a + b) * (l.S * r.S) : Nat) : Int) = (q.2 : Int) * ((b * r.S : Nat) * (wt w l + wt w r)) := fun q hq => by
        have e := h _ (.inl ⟨q, hq, rfl⟩)
        simp only [Int.natCast_mul, Int.natCast_add] at e ⊢
        grind
      have hR : ∀ q ∈ r.prs, w q.1 * (((a + b) * (l.S * r.S) : Nat) : Int) = (q.2 : Int) * ((a * l.S : Nat) * (wt w l + wt w r)) := fun q hq => by
        have e := h _ (.inr ⟨q, hq, rfl⟩)
        simp only [Int.natCast_mul, Int.natCast_add] at e ⊢
        grind
      have tl := sum_rel w _ _ hL
      have tr := sum_rel w _ _ hR
      rw [wt_prs, sum_prs] at tl tr
      simp only [Int.natCast_mul, Int.natCast_add] at tl tr hL hR
      have slr := Int.ne_of_gt (Int.mul_pos sl sr)
      have el : (wt w l) * ((a : Int) + b) = b * (wt w l + wt w r) := Int.eq_of_mul_eq_mul_right slr (by grind)
      have er : (wt w r) * ((a : Int) + b) = a * (wt w l + wt w r) := Int.eq_of_mul_eq_mul_right slr (by grind)
      have ab : ((a : Int) + b) ≠ 0 := by omega
      refine ⟨by grind, fun q hq => ?_, fun q hq => ?_⟩
      · have e := hL q hq
        refine Int.eq_of_mul_eq_mul_right (Int.mul_ne_zero ab (Int.ne_of_gt sr)) ?_
        grind
      · have e := hR q hq
        refine Int.eq_of_mul_eq_mul_right (Int.mul_ne_zero ab (Int.ne_of_gt sl)) ?_
        grind
end Mob
/-! ### fractions in lowest terms, and the greatest common divisor of a line -/
def frN (P Q : Nat) : Nat × Nat := (P / Nat.gcd P Q, Q / Nat.gcd P Q)
theorem frN_scale {P Q k : Nat} (hk : 0 < k) : frN (k * P) (k * Q) = frN P Q := by
  unfold frN
  rw [Nat.gcd_mul_left, Nat.mul_div_mul_left _ _ hk, Nat.mul_div_mul_left _ _ hk]
theorem frN_ratio {P Q P' Q' : Nat} (hq : 0 < Q) (hq' : 0 < Q') (h : P * Q' = P' * Q) : frN P Q = frN P' Q' := by
  rw [← frN_scale (P := P) (Q := Q) hq', ← frN_scale (P := P') (Q := Q') hq, Nat.mul_comm Q' P, h, Nat.mul_comm P' Q, Nat.mul_comm Q' Q]
theorem frN_eq (P Q : Nat) : (frN P Q).1 * Nat.gcd P Q = P ∧ (frN P Q).2 * Nat.gcd P Q = Q :=
  ⟨Nat.div_mul_cancel (Nat.gcd_dvd_left P Q), Nat.div_mul_cancel (Nat.gcd_dvd_right P Q)⟩
theorem frN_cross (P Q : Nat) : (frN P Q).1 * Q = P * (frN P Q).2 := by
  obtain ⟨a, b⟩ := frN_eq P Q
  rcases Nat.eq_zero_or_pos (Nat.gcd P Q) with z | z
  · rw [z] at a b
    simp at a b
    subst a; subst b; simp [frN]
  · refine Nat.eq_of_mul_eq_mul_right z ?_
    calc (frN P Q).1 * Q * Nat.gcd P Q = (frN P Q).1 * Nat.gcd P Q * Q := by grind
      _ = P * Q := by rw [a]
      _ = P * ((frN P Q).2 * Nat.gcd P Q) := by rw [b]
      _ = _ := by grind
theorem frN_pos {P Q : Nat} (h : 0 < Q) : 0 < (frN P Q).2 := by
  have := (frN_eq P Q).2
  rcases Nat.eq_zero_or_pos (frN P Q).2 with z | z
  · rw [z] at this; omega
  · exact z
theorem frN_le {P Q : Nat} : (frN P Q).1 ≤ P ∧ (frN P Q).2 ≤ Q := ⟨Nat.div_le_self _ _, Nat.div_le_self _ _⟩
/-- the gcd of a line -/
def gl : List Nat → Nat
  | [] => 0
  | x :: l => Nat.gcd x (gl l)
theorem gl_dvd : ∀ {l : List Nat} {x : Nat}, x ∈ l → gl l ∣ x
  | y :: l, x, h => by
    rcases List.mem_cons.mp h with rfl | h
    · exact Nat.gcd_dvd_left _ _
    · exact Nat.dvd_trans (Nat.gcd_dvd_right _ _) (gl_dvd h)
theorem dvd_gl : ∀ {l : List Nat} {d : Nat}, (∀ x ∈ l, d ∣ x) → d ∣ gl l
  | [], d, _ => Nat.dvd_zero d
  | y :: l, d, h => Nat.dvd_gcd (h y List.mem_cons_self) (dvd_gl fun x hx => h x (List.mem_cons_of_mem _ hx))
theorem gl_ext {l m : List Nat} (h : ∀ x, x ∈ l ↔ x ∈ m) : gl l = gl m :=
  Nat.dvd_antisymm (dvd_gl fun x hx => gl_dvd ((h x).mpr hx)) (dvd_gl fun x hx => gl_dvd ((h x).mp hx))
theorem gl_scale (k : Nat) : ∀ l : List Nat, gl (l.map (k * ·)) = k * gl l
  | [] => rfl
  | x :: l => by
    simp only [List.map_cons, gl]
    rw [gl_scale k l, Nat.gcd_mul_left]
theorem gl_pos {l : List Nat} {x : Nat} (hx : x ∈ l) (h : 0 < x) : 0 < gl l := Nat.pos_of_dvd_of_pos (gl_dvd hx) h
/-- two lines in one ratio have one lowest form -/
theorem low_ratio {α : Type} {l : List α} {x w : α → Nat} {K M : Nat} (hK : 0 < K) (hM : 0 < M) (h : ∀ a ∈ l, K * x a = M * w a) : ∀ a ∈ l, x a / gl (l.map x) = w a / gl (l.map w) := by
  have e : K * gl (l.map x) = M * gl (l.map w) := by
    rw [← gl_scale, ← gl_scale, List.map_map, List.map_map]
    congr 1
    exact List.map_congr_left h
  intro a ha
  rw [← Nat.mul_div_mul_left (x a) _ hK, ← Nat.mul_div_mul_left (w a) _ hM, e, h a ha]
/-- the lcm of a line, as it is folded -/
theorem lcm_fold_dvd : ∀ (l : List Nat) (b : Nat), b ∣ l.foldl Nat.lcm b ∧ ∀ x ∈ l, x ∣ l.foldl Nat.lcm b
  | [], b => ⟨Nat.dvd_refl b, fun _ h => nomatch h⟩
  | y :: l, b => by
    obtain ⟨h1, h2⟩ := lcm_fold_dvd l (Nat.lcm b y)
    refine ⟨Nat.dvd_trans (Nat.dvd_lcm_left b y) h1, fun x hx => ?_⟩
    rcases List.mem_cons.mp hx with rfl | hx
    · exact Nat.dvd_trans (Nat.dvd_lcm_right b x) h1
    · exact h2 x hx
theorem lcm_fold_pos : ∀ (l : List Nat) (b : Nat), 0 < b → (∀ x ∈ l, 0 < x) → 0 < l.foldl Nat.lcm b
  | [], _, h, _ => h
  | y :: l, b, h, k => lcm_fold_pos l _ (Nat.lcm_pos h (k y List.mem_cons_self)) fun x hx => k x (List.mem_cons_of_mem _ hx)
theorem lcm_fold_of (l : List Nat) : ∀ (b c : Nat), b ∣ c → (∀ x ∈ l, x ∣ c) → l.foldl Nat.lcm b ∣ c := by
  induction l with
  | nil => exact fun _ _ h _ => h
  | cons y l ih => exact fun b c h k => ih _ _ (Nat.lcm_dvd h (k y List.mem_cons_self)) fun x hx => k x (List.mem_cons_of_mem _ hx)
theorem gcd_fold : ∀ (l : List Nat) (b : Nat), l.foldl Nat.gcd b = Nat.gcd b (gl l)
  | [], b => (Nat.gcd_zero_right b).symm
  | x :: l, b => by
    rw [List.foldl_cons, gcd_fold l, gl, Nat.gcd_assoc]
end PL.L

set_option autoImplicit false
set_option linter.all false
set_option Elab.async false
set_option maxRecDepth 100000
set_option maxHeartbeats 2000000
/-! M1: fractions, the program's and the law's. -/
namespace PL.L
open PySem PL
abbrev dfs : Str → Option Def := fun f => table.lookup f
theorem df_is_integer : dfs "is_integer" = some d_is_integer := rfl
theorem io_is_integer : d_is_integer.ios = [] := rfl
theorem df_is_within : dfs "is_within" = some d_is_within := rfl
theorem io_is_within : d_is_within.ios = [] := rfl
theorem df_is_tuple : dfs "is_tuple" = some d_is_tuple := rfl
theorem io_is_tuple : d_is_tuple.ios = [] := rfl
theorem df_divisor : dfs "divisor" = some d_divisor := rfl
theorem io_divisor : d_divisor.ios = [] := rfl
theorem df_reduced : dfs "reduced" = some d_reduced := rfl
theorem io_reduced : d_reduced.ios = [] := rfl
theorem df_times : dfs "times" = some d_times := rfl
theorem io_times : d_times.ios = [] := rfl
theorem df_as_integers : dfs "as_integers" = some d_as_integers := rfl
theorem io_as_integers : d_as_integers.ios = [] := rfl
theorem df_names_of : dfs "names_of" = some d_names_of := rfl
theorem io_names_of : d_names_of.ios = [] := rfl
theorem df_check_mobile : dfs "check_mobile" = some d_check_mobile := rfl
theorem io_check_mobile : d_check_mobile.ios = [] := rfl
theorem df_parts_of : dfs "parts_of" = some d_parts_of := rfl
theorem io_parts_of : d_parts_of.ios = [] := rfl
theorem df_least_weights : dfs "least_weights" = some d_least_weights := rfl
theorem io_least_weights : d_least_weights.ios = [] := rfl
theorem df_check_weights : dfs "check_weights" = some d_check_weights := rfl
theorem io_check_weights : d_check_weights.ios = [] := rfl
theorem df_weight_of : dfs "weight_of" = some d_weight_of := rfl
theorem io_weight_of : d_weight_of.ios = [] := rfl
theorem df_tilts_of : dfs "tilts_of" = some d_tilts_of := rfl
theorem io_tilts_of : d_tilts_of.ios = [] := rfl
theorem df_tilts : dfs "tilts" = some d_tilts := rfl
theorem io_tilts : d_tilts.ios = [] := rfl
theorem df_is_level : dfs "is_level" = some d_is_level := rfl
theorem io_is_level : d_is_level.ios = [] := rfl
theorem df_whole_weight : dfs "whole_weight" = some d_whole_weight := rfl
theorem io_whole_weight : d_whole_weight.ios = [] := rfl
theorem df_reach_by : dfs "reach_by" = some d_reach_by := rfl
theorem io_reach_by : d_reach_by.ios = [] := rfl
theorem df_reach_of : dfs "reach_of" = some d_reach_of := rfl
theorem io_reach_of : d_reach_of.ios = [] := rfl
theorem df_law_draw : dfs "_law_draw" = some d_law_draw := rfl
theorem io_law_draw : d_law_draw.ios = [0] := rfl
theorem df_law_low : dfs "_law_low" = some d_law_low := rfl
theorem io_law_low : d_law_low.ios = [] := rfl
theorem df_law_plus : dfs "_law_plus" = some d_law_plus := rfl
theorem io_law_plus : d_law_plus.ios = [] := rfl
theorem df_law_times : dfs "_law_times" = some d_law_times := rfl
theorem io_law_times : d_law_times.ios = [] := rfl
theorem df_law_mobile : dfs "_law_mobile" = some d_law_mobile := rfl
theorem io_law_mobile : d_law_mobile.ios = [0] := rfl
theorem df_law_whole : dfs "_law_whole" = some d_law_whole := rfl
theorem io_law_whole : d_law_whole.ios = [] := rfl
def iN (n : Nat) : PyData := .int (n : Int)
/-- a bound for every number that is met -/
abbrev BB : Nat := 1000000000000
theorem small_n {n : Nat} (h : n ≤ BB) : small (n : Int) = true := small_of (by omega) (by unfold BB at h; omega)
theorem mid_n {n : Nat} (h : n ≤ BB) : mid (n : Int) = true := by
  refine decide_eq_true ?_
  have : BB < 2 ^ 4096 := by decide +kernel
  omega
theorem div_n {n : Nat} (h0 : 0 < n) (h : n ≤ BB) : divOk (n : Int) = true := by
  unfold divOk
  rw [mid_n h, decide_eq_true (show (0 : Int) < (n : Int) by omega)]; rfl
theorem d_mul {a b : Nat} (h : a ≤ BB) : binD .Mult (iN a) (iN b) = some (.val (iN (a * b))) := by
  have : binD .Mult (iN a) (iN b) = if mulOk (a : Int) b then some (.val (.int ((a : Int) * b))) else none := rfl
  rw [this, if_pos (mul_l (small_n h)), iN, Int.natCast_mul]
theorem d_div {a b : Nat} (h0 : 0 < b) (h : b ≤ BB) : binD .FloorDiv (iN a) (iN b) = some (.val (iN (a / b))) := by
  have : binD .FloorDiv (iN a) (iN b) = if divOk (b : Int) then some (.val (.int ((a : Int) / b))) else none := rfl
  rw [this, if_pos (div_n h0 h), iN, Int.natCast_ediv]
theorem d_mod {a b : Nat} (h0 : 0 < b) : binD .Mod (iN a) (iN b) = some (.val (iN (a % b))) := by
  have : binD .Mod (iN a) (iN b) = if decide ((0 : Int) < b) then some (.val (.int ((a : Int) % b))) else none := rfl
  rw [this, if_pos (decide_eq_true (by omega)), iN, Int.natCast_emod]
theorem d_add (a b : Nat) : binD .Add (iN a) (iN b) = some (.val (iN (a + b))) := by
  have : binD .Add (iN a) (iN b) = some (.val (.int ((a : Int) + b))) := rfl
  rw [this, iN, Int.natCast_add]
theorem d_abs (a : Nat) : absD (iN a) = some (.val (iN a)) := by
  simp [absD, iN]
  omega
theorem d_int (a : Nat) : intD (iN a) = some (.val (iN a)) := rfl
theorem n_ne0 (b : Nat) : cmpD .NotEq (iN b) (.int 0) = some (decide (b ≠ 0)) := by
  rw [iN, cmp_ne]
  congr 1
  rw [decide_eq_decide]
  omega
/-- Euclid's loop -/
theorem euclidW {c : PL.Env → Out Bool} {b : PL.Env → SOut} (st : Nat → Nat → PL.Env) {B : Nat} (hc : ∀ x y, c (st x y) = .ok (decide (y ≠ 0)) (st x y)) (hb : ∀ x y, 0 < y → y ≤ B → b (st x y) = .nx (st y (x % y))) :
    ∀ (y : Nat) (x N : Nat), y ≤ B → y < N → whileN c b N (st x y) = .nx (st (Nat.gcd x y) 0) := by
  intro y
  induction y using Nat.strongRecOn with
  | _ y ih =>
    intro x N hB hN
    obtain ⟨N, rfl⟩ : ∃ k, N = k + 1 := ⟨N - 1, by omega⟩
    by_cases h0 : y = 0
    · subst h0
      rw [whileN, hc, Nat.gcd_zero_right]; rfl
    · have lt : x % y < y := Nat.mod_lt _ (by omega)
      rw [whileN, hc, decide_eq_true h0]
      dsimp only
      rw [hb x y (by omega) hB]
      dsimp only
      rw [ih (x % y) lt y N (by omega) (by omega), Nat.gcd_comm x y, Nat.gcd_rec y x, Nat.gcd_comm]
section
variable {N n : Nat}
theorem c_divisor (hN : BB < N) {a b : Nat} (hb : b ≤ BB) : callD dfs N (n + 1) "divisor" [iN a, iN b] = .ok (.c (iN (Nat.gcd a b))) [] := by
  refine callD_ret0 (D := d_divisor) rfl rfl rfl ?_
  have w := euclidW (c := evT ⟨dfs, callD dfs N n⟩ (.cmp (.var 1) [.NotEq] [(.con (.int 0))])) (b := execs ⟨dfs, callD dfs N n⟩ N [.par [0, 1] [false, false] [(.var 1), (.bin .Mod (.var 0) (.var 1))]]) (fun x y => [.c (iN x), .c (iN y)]) (B := BB)
    (fun x y => by simp [execs, exec, ev.eq_1, ev.eq_2, ev.eq_3, ev.eq_4, ev.eq_5, ev.eq_6, ev.eq_7, ev.eq_8, ev.eq_9, ev.eq_10, ev.eq_11, ev.eq_12, ev.eq_13, ev.eq_14, ev.eq_15, ev.eq_16, ev.eq_17, ev.eq_18, ev.eq_19, ev_lc, evAnd, evOr, evCh, evR, evC, evA, evP, evIf, evT, evO, PL.bind, sb, biR, negR, binR, idxR, sliR, metR, cmpR, truthR, callR, iosOf, derefs, putBack, PL.cold, peeks, peek, gets, ofO, retOf, slotOf, setAll, isHot, subAt, recvOk, isMut, isUpd, recvD, dctR, biD, one, ovS, seq?, isInst, PyData.isInt, PyData.isBool, PyData.isTuple, truthD, PyData.truthy, entry, asgT, asgTs, wipeE, notHot, backE, it_lst, it_tpl, it_r1, it_r2, it_r3, it_enum, it_zip, rg1, rg2, ints?, intR, setD, retIs_rt, nxIs_nx, retH_rt, nxH_nx, PyData.isList, PyData.isDict, PyData.isStr, List.range, List.range.loop, sz0, sz1, sz2, sz3, sz4, sz5, sz6, sz7, sz8, sz9, sz10, sz11, sz12, n_ne0]) (fun x y h0 h => by simp [execs, exec, ev.eq_1, ev.eq_2, ev.eq_3, ev.eq_4, ev.eq_5, ev.eq_6, ev.eq_7, ev.eq_8, ev.eq_9, ev.eq_10, ev.eq_11, ev.eq_12, ev.eq_13, ev.eq_14, ev.eq_15, ev.eq_16, ev.eq_17, ev.eq_18, ev.eq_19, ev_lc, evAnd, evOr, evCh, evR, evC, evA, evP, evIf, evT, evO, PL.bind, sb, biR, negR, binR, idxR, sliR, metR, cmpR, truthR, callR, iosOf, derefs, putBack, PL.cold, peeks, peek, gets, ofO, retOf, slotOf, setAll, isHot, subAt, recvOk, isMut, isUpd, recvD, dctR, biD, one, ovS, seq?, isInst, PyData.isInt, PyData.isBool, PyData.isTuple, truthD, PyData.truthy, entry, asgT, asgTs, wipeE, notHot, backE, it_lst, it_tpl, it_r1, it_r2, it_r3, it_enum, it_zip, rg1, rg2, ints?, intR, setD, retIs_rt, nxIs_nx, retH_rt, nxH_nx, PyData.isList, PyData.isDict, PyData.isStr, List.range, List.range.loop, sz0, sz1, sz2, sz3, sz4, sz5, sz6, sz7, sz8, sz9, sz10, sz11, sz12, d_mod h0]) b a N hb (by omega)
  refine rI_seq (ρ1 := [.c (iN a), .c (iN b)]) (by simp [execs, exec, ev.eq_1, ev.eq_2, ev.eq_3, ev.eq_4, ev.eq_5, ev.eq_6, ev.eq_7, ev.eq_8, ev.eq_9, ev.eq_10, ev.eq_11, ev.eq_12, ev.eq_13, ev.eq_14, ev.eq_15, ev.eq_16, ev.eq_17, ev.eq_18, ev.eq_19, ev_lc, evAnd, evOr, evCh, evR, evC, evA, evP, evIf, evT, evO, PL.bind, sb, biR, negR, binR, idxR, sliR, metR, cmpR, truthR, callR, iosOf, derefs, putBack, PL.cold, peeks, peek, gets, ofO, retOf, slotOf, setAll, isHot, subAt, recvOk, isMut, isUpd, recvD, dctR, biD, one, ovS, seq?, isInst, PyData.isInt, PyData.isBool, PyData.isTuple, truthD, PyData.truthy, entry, asgT, asgTs, wipeE, notHot, backE, it_lst, it_tpl, it_r1, it_r2, it_r3, it_enum, it_zip, rg1, rg2, ints?, intR, setD, retIs_rt, nxIs_nx, retH_rt, nxH_nx, PyData.isList, PyData.isDict, PyData.isStr, List.range, List.range.loop, sz0, sz1, sz2, sz3, sz4, sz5, sz6, sz7, sz8, sz9, sz10, sz11, sz12, entry, d_divisor, d_abs]) (rI_seq (ρ1 := [.c (iN (Nat.gcd a b)), .c (iN 0)]) (by rw [exec]; exact w) (by simp [execs, exec, ev.eq_1, ev.eq_2, ev.eq_3, ev.eq_4, ev.eq_5, ev.eq_6, ev.eq_7, ev.eq_8, ev.eq_9, ev.eq_10, ev.eq_11, ev.eq_12, ev.eq_13, ev.eq_14, ev.eq_15, ev.eq_16, ev.eq_17, ev.eq_18, ev.eq_19, ev_lc, evAnd, evOr, evCh, evR, evC, evA, evP, evIf, evT, evO, PL.bind, sb, biR, negR, binR, idxR, sliR, metR, cmpR, truthR, callR, iosOf, derefs, putBack, PL.cold, peeks, peek, gets, ofO, retOf, slotOf, setAll, isHot, subAt, recvOk, isMut, isUpd, recvD, dctR, biD, one, ovS, seq?, isInst, PyData.isInt, PyData.isBool, PyData.isTuple, truthD, PyData.truthy, entry, asgT, asgTs, wipeE, notHot, backE, it_lst, it_tpl, it_r1, it_r2, it_r3, it_enum, it_zip, rg1, rg2, ints?, intR, setD, retIs_rt, nxIs_nx, retH_rt, nxH_nx, PyData.isList, PyData.isDict, PyData.isStr, List.range, List.range.loop, sz0, sz1, sz2, sz3, sz4, sz5, sz6, sz7, sz8, sz9, sz10, sz11, sz12]))
def fr (P Q : Nat) : PyData := .tuple [iN (frN P Q).1, iN (frN P Q).2]
theorem c_low (hN : BB < N) {a b : Nat} (h0 : 0 < b) (hb : b ≤ BB) : callD dfs N (n + 1) "_law_low" [iN a, iN b] = .ok (.c (fr a b)) [] := by
  refine callD_ret0 (D := d_law_low) rfl rfl rfl ?_
  have w := euclidW (c := evT ⟨dfs, callD dfs N n⟩ (.cmp (.var 3) [.NotEq] [(.con (.int 0))])) (b := execs ⟨dfs, callD dfs N n⟩ N [.par [2, 3] [false, false] [(.var 3), (.bin .Mod (.bi .int [(.var 2)]) (.var 3))]]) (fun x y => [.c (iN a), .c (iN b), .c (iN x), .c (iN y)]) (B := BB)
    (fun x y => by simp [execs, exec, ev.eq_1, ev.eq_2, ev.eq_3, ev.eq_4, ev.eq_5, ev.eq_6, ev.eq_7, ev.eq_8, ev.eq_9, ev.eq_10, ev.eq_11, ev.eq_12, ev.eq_13, ev.eq_14, ev.eq_15, ev.eq_16, ev.eq_17, ev.eq_18, ev.eq_19, ev_lc, evAnd, evOr, evCh, evR, evC, evA, evP, evIf, evT, evO, PL.bind, sb, biR, negR, binR, idxR, sliR, metR, cmpR, truthR, callR, iosOf, derefs, putBack, PL.cold, peeks, peek, gets, ofO, retOf, slotOf, setAll, isHot, subAt, recvOk, isMut, isUpd, recvD, dctR, biD, one, ovS, seq?, isInst, PyData.isInt, PyData.isBool, PyData.isTuple, truthD, PyData.truthy, entry, asgT, asgTs, wipeE, notHot, backE, it_lst, it_tpl, it_r1, it_r2, it_r3, it_enum, it_zip, rg1, rg2, ints?, intR, setD, retIs_rt, nxIs_nx, retH_rt, nxH_nx, PyData.isList, PyData.isDict, PyData.isStr, List.range, List.range.loop, sz0, sz1, sz2, sz3, sz4, sz5, sz6, sz7, sz8, sz9, sz10, sz11, sz12, n_ne0]) (fun x y h0 h => by simp [execs, exec, ev.eq_1, ev.eq_2, ev.eq_3, ev.eq_4, ev.eq_5, ev.eq_6, ev.eq_7, ev.eq_8, ev.eq_9, ev.eq_10, ev.eq_11, ev.eq_12, ev.eq_13, ev.eq_14, ev.eq_15, ev.eq_16, ev.eq_17, ev.eq_18, ev.eq_19, ev_lc, evAnd, evOr, evCh, evR, evC, evA, evP, evIf, evT, evO, PL.bind, sb, biR, negR, binR, idxR, sliR, metR, cmpR, truthR, callR, iosOf, derefs, putBack, PL.cold, peeks, peek, gets, ofO, retOf, slotOf, setAll, isHot, subAt, recvOk, isMut, isUpd, recvD, dctR, biD, one, ovS, seq?, isInst, PyData.isInt, PyData.isBool, PyData.isTuple, truthD, PyData.truthy, entry, asgT, asgTs, wipeE, notHot, backE, it_lst, it_tpl, it_r1, it_r2, it_r3, it_enum, it_zip, rg1, rg2, ints?, intR, setD, retIs_rt, nxIs_nx, retH_rt, nxH_nx, PyData.isList, PyData.isDict, PyData.isStr, List.range, List.range.loop, sz0, sz1, sz2, sz3, sz4, sz5, sz6, sz7, sz8, sz9, sz10, sz11, sz12, d_mod h0, d_int]) b a N hb (by omega)
  have gp : 0 < Nat.gcd a b := Nat.gcd_pos_of_pos_right _ h0
  have gle : Nat.gcd a b ≤ BB := Nat.le_trans (Nat.gcd_le_right _ h0) hb
  have g1 : cmpD .Gt (iN b) (.int 0) = some true := by rw [iN, cmp_gt, decide_eq_true]; omega
  have z : cmpD .Gt (iN b) (.int 0) = some true := g1
  refine rI_seq (ρ1 := [.c (iN a), .c (iN b), .c (iN a), .c (iN b)]) (by simp [execs, exec, ev.eq_1, ev.eq_2, ev.eq_3, ev.eq_4, ev.eq_5, ev.eq_6, ev.eq_7, ev.eq_8, ev.eq_9, ev.eq_10, ev.eq_11, ev.eq_12, ev.eq_13, ev.eq_14, ev.eq_15, ev.eq_16, ev.eq_17, ev.eq_18, ev.eq_19, ev_lc, evAnd, evOr, evCh, evR, evC, evA, evP, evIf, evT, evO, PL.bind, sb, biR, negR, binR, idxR, sliR, metR, cmpR, truthR, callR, iosOf, derefs, putBack, PL.cold, peeks, peek, gets, ofO, retOf, slotOf, setAll, isHot, subAt, recvOk, isMut, isUpd, recvD, dctR, biD, one, ovS, seq?, isInst, PyData.isInt, PyData.isBool, PyData.isTuple, truthD, PyData.truthy, entry, asgT, asgTs, wipeE, notHot, backE, it_lst, it_tpl, it_r1, it_r2, it_r3, it_enum, it_zip, rg1, rg2, ints?, intR, setD, retIs_rt, nxIs_nx, retH_rt, nxH_nx, PyData.isList, PyData.isDict, PyData.isStr, List.range, List.range.loop, sz0, sz1, sz2, sz3, sz4, sz5, sz6, sz7, sz8, sz9, sz10, sz11, sz12, entry, d_law_low, d_abs]) (rI_seq (ρ1 := [.c (iN a), .c (iN b), .c (iN (Nat.gcd a b)), .c (iN 0)]) (by rw [exec]; exact w) (by simp [execs, exec, ev.eq_1, ev.eq_2, ev.eq_3, ev.eq_4, ev.eq_5, ev.eq_6, ev.eq_7, ev.eq_8, ev.eq_9, ev.eq_10, ev.eq_11, ev.eq_12, ev.eq_13, ev.eq_14, ev.eq_15, ev.eq_16, ev.eq_17, ev.eq_18, ev.eq_19, ev_lc, evAnd, evOr, evCh, evR, evC, evA, evP, evIf, evT, evO, PL.bind, sb, biR, negR, binR, idxR, sliR, metR, cmpR, truthR, callR, iosOf, derefs, putBack, PL.cold, peeks, peek, gets, ofO, retOf, slotOf, setAll, isHot, subAt, recvOk, isMut, isUpd, recvD, dctR, biD, one, ovS, seq?, isInst, PyData.isInt, PyData.isBool, PyData.isTuple, truthD, PyData.truthy, entry, asgT, asgTs, wipeE, notHot, backE, it_lst, it_tpl, it_r1, it_r2, it_r3, it_enum, it_zip, rg1, rg2, ints?, intR, setD, retIs_rt, nxIs_nx, retH_rt, nxH_nx, PyData.isList, PyData.isDict, PyData.isStr, List.range, List.range.loop, sz0, sz1, sz2, sz3, sz4, sz5, sz6, sz7, sz8, sz9, sz10, sz11, sz12, g1, d_div gp gle, fr, frN]))
theorem c_reduced (hN : BB < N) {a b : Nat} (h0 : 0 < b) (hb : b ≤ BB) : callD dfs N (n + 2) "reduced" [iN a, iN b] = .ok (.c (fr a b)) [] := by
  refine callD_ret0 (D := d_reduced) rfl rfl rfl ?_
  have gp : 0 < Nat.gcd a b := Nat.gcd_pos_of_pos_right _ h0
  have gle : Nat.gcd a b ≤ BB := Nat.le_trans (Nat.gcd_le_right _ h0) hb
  have g1 : cmpD .Gt (iN b) (.int 0) = some true := by rw [iN, cmp_gt, decide_eq_true]; omega
  have m1 : ∀ x : Nat, binD .Mult (.int 1) (iN x) = some (.val (iN x)) := fun x => by
    have := d_mul (a := 1) (b := x) (by decide)
    rw [Nat.one_mul] at this; exact this
  have cd : callD dfs N (n + 1) "divisor" [iN a, iN b] = .ok (.c (iN (Nat.gcd a b))) [] := c_divisor hN hb
  refine rI_seq (ρ1 := [.c (iN a), .c (iN b), .c (iN (Nat.gcd a b)), .no]) (by simp [execs, exec, ev.eq_1, ev.eq_2, ev.eq_3, ev.eq_4, ev.eq_5, ev.eq_6, ev.eq_7, ev.eq_8, ev.eq_9, ev.eq_10, ev.eq_11, ev.eq_12, ev.eq_13, ev.eq_14, ev.eq_15, ev.eq_16, ev.eq_17, ev.eq_18, ev.eq_19, ev_lc, evAnd, evOr, evCh, evR, evC, evA, evP, evIf, evT, evO, PL.bind, sb, biR, negR, binR, idxR, sliR, metR, cmpR, truthR, callR, iosOf, derefs, putBack, PL.cold, peeks, peek, gets, ofO, retOf, slotOf, setAll, isHot, subAt, recvOk, isMut, isUpd, recvD, dctR, biD, one, ovS, seq?, isInst, PyData.isInt, PyData.isBool, PyData.isTuple, truthD, PyData.truthy, entry, asgT, asgTs, wipeE, notHot, backE, it_lst, it_tpl, it_r1, it_r2, it_r3, it_enum, it_zip, rg1, rg2, ints?, intR, setD, retIs_rt, nxIs_nx, retH_rt, nxH_nx, PyData.isList, PyData.isDict, PyData.isStr, List.range, List.range.loop, sz0, sz1, sz2, sz3, sz4, sz5, sz6, sz7, sz8, sz9, sz10, sz11, sz12, entry, d_reduced, df_divisor, io_divisor, cd]) (rI_seq (ρ1 := [.c (iN a), .c (iN b), .c (iN (Nat.gcd a b)), .c (.int 1)]) (by simp [execs, exec, ev.eq_1, ev.eq_2, ev.eq_3, ev.eq_4, ev.eq_5, ev.eq_6, ev.eq_7, ev.eq_8, ev.eq_9, ev.eq_10, ev.eq_11, ev.eq_12, ev.eq_13, ev.eq_14, ev.eq_15, ev.eq_16, ev.eq_17, ev.eq_18, ev.eq_19, ev_lc, evAnd, evOr, evCh, evR, evC, evA, evP, evIf, evT, evO, PL.bind, sb, biR, negR, binR, idxR, sliR, metR, cmpR, truthR, callR, iosOf, derefs, putBack, PL.cold, peeks, peek, gets, ofO, retOf, slotOf, setAll, isHot, subAt, recvOk, isMut, isUpd, recvD, dctR, biD, one, ovS, seq?, isInst, PyData.isInt, PyData.isBool, PyData.isTuple, truthD, PyData.truthy, entry, asgT, asgTs, wipeE, notHot, backE, it_lst, it_tpl, it_r1, it_r2, it_r3, it_enum, it_zip, rg1, rg2, ints?, intR, setD, retIs_rt, nxIs_nx, retH_rt, nxH_nx, PyData.isList, PyData.isDict, PyData.isStr, List.range, List.range.loop, sz0, sz1, sz2, sz3, sz4, sz5, sz6, sz7, sz8, sz9, sz10, sz11, sz12, g1]) ?_)
  simp [execs, exec, ev.eq_1, ev.eq_2, ev.eq_3, ev.eq_4, ev.eq_5, ev.eq_6, ev.eq_7, ev.eq_8, ev.eq_9, ev.eq_10, ev.eq_11, ev.eq_12, ev.eq_13, ev.eq_14, ev.eq_15, ev.eq_16, ev.eq_17, ev.eq_18, ev.eq_19, ev_lc, evAnd, evOr, evCh, evR, evC, evA, evP, evIf, evT, evO, PL.bind, sb, biR, negR, binR, idxR, sliR, metR, cmpR, truthR, callR, iosOf, derefs, putBack, PL.cold, peeks, peek, gets, ofO, retOf, slotOf, setAll, isHot, subAt, recvOk, isMut, isUpd, recvD, dctR, biD, one, ovS, seq?, isInst, PyData.isInt, PyData.isBool, PyData.isTuple, truthD, PyData.truthy, entry, asgT, asgTs, wipeE, notHot, backE, it_lst, it_tpl, it_r1, it_r2, it_r3, it_enum, it_zip, rg1, rg2, ints?, intR, setD, retIs_rt, nxIs_nx, retH_rt, nxH_nx, PyData.isList, PyData.isDict, PyData.isStr, List.range, List.range.loop, sz0, sz1, sz2, sz3, sz4, sz5, sz6, sz7, sz8, sz9, sz10, sz11, sz12, m1, d_div gp gle, fr, frN]
theorem fr_0 (P Q : Nat) : idxD (fr P Q) (.int 0) = some (iN (frN P Q).1) := rfl
theorem fr_1 (P Q : Nat) : idxD (fr P Q) (.int 1) = some (iN (frN P Q).2) := rfl
theorem frN_one (P : Nat) : frN P 1 = (P, 1) := by simp [frN]
theorem fr_prod (P Q P' Q' : Nat) (h : 0 < Q) (h' : 0 < Q') : fr ((frN P Q).1 * (frN P' Q').1) ((frN P Q).2 * (frN P' Q').2) = fr (P * P') (Q * Q') := by
  unfold fr
  rw [frN_ratio (P' := P * P') (Q' := Q * Q') (Nat.mul_pos (frN_pos h) (frN_pos h')) (Nat.mul_pos h h')]
  have a := frN_cross P Q
  have b := frN_cross P' Q'
  grind
theorem fr_sum (P Q P' Q' : Nat) (h : 0 < Q) (h' : 0 < Q') : fr ((frN P Q).1 * (frN P' Q').2 + (frN P' Q').1 * (frN P Q).2) ((frN P Q).2 * (frN P' Q').2) = fr (P * Q' + P' * Q) (Q * Q') := by
  unfold fr
  rw [frN_ratio (P' := P * Q' + P' * Q) (Q' := Q * Q') (Nat.mul_pos (frN_pos h) (frN_pos h')) (Nat.mul_pos h h')]
  have a := frN_cross P Q
  have b := frN_cross P' Q'
  grind
theorem mulB {a b c d : Nat} (h1 : a ≤ c) (h2 : b ≤ d) (h : c * d ≤ BB) : a * b ≤ BB := Nat.le_trans (Nat.mul_le_mul h1 h2) h
theorem c_times (hN : BB < N) {P Q P' Q' : Nat} (h : 0 < Q) (h' : 0 < Q') (hp : P ≤ BB) (hb : Q * Q' ≤ BB) : callD dfs N (n + 3) "times" [fr P Q, fr P' Q'] = .ok (.c (fr (P * P') (Q * Q'))) [] := by
  refine callD_ret0 (D := d_times) rfl rfl rfl ?_
  have hq : (frN P Q).2 * (frN P' Q').2 ≤ BB := mulB frN_le.2 frN_le.2 hb
  have c := c_reduced (N := N) (n := n) hN (a := (frN P Q).1 * (frN P' Q').1) (b := (frN P Q).2 * (frN P' Q').2) (Nat.mul_pos (frN_pos h) (frN_pos h')) hq
  rw [fr_prod P Q P' Q' h h'] at c
  have m1 := d_mul (a := (frN P Q).1) (b := (frN P' Q').1) (Nat.le_trans frN_le.1 hp)
  have m2 := d_mul (a := (frN P Q).2) (b := (frN P' Q').2) (Nat.le_trans frN_le.2 (Nat.le_trans (Nat.le_mul_of_pos_right Q h') hb))
  simp [execs, exec, ev.eq_1, ev.eq_2, ev.eq_3, ev.eq_4, ev.eq_5, ev.eq_6, ev.eq_7, ev.eq_8, ev.eq_9, ev.eq_10, ev.eq_11, ev.eq_12, ev.eq_13, ev.eq_14, ev.eq_15, ev.eq_16, ev.eq_17, ev.eq_18, ev.eq_19, ev_lc, evAnd, evOr, evCh, evR, evC, evA, evP, evIf, evT, evO, PL.bind, sb, biR, negR, binR, idxR, sliR, metR, cmpR, truthR, callR, iosOf, derefs, putBack, PL.cold, peeks, peek, gets, ofO, retOf, slotOf, setAll, isHot, subAt, recvOk, isMut, isUpd, recvD, dctR, biD, one, ovS, seq?, isInst, PyData.isInt, PyData.isBool, PyData.isTuple, truthD, PyData.truthy, entry, asgT, asgTs, wipeE, notHot, backE, it_lst, it_tpl, it_r1, it_r2, it_r3, it_enum, it_zip, rg1, rg2, ints?, intR, setD, retIs_rt, nxIs_nx, retH_rt, nxH_nx, PyData.isList, PyData.isDict, PyData.isStr, List.range, List.range.loop, sz0, sz1, sz2, sz3, sz4, sz5, sz6, sz7, sz8, sz9, sz10, sz11, sz12, d_times, b_times, fr_0, fr_1, m1, m2, df_reduced, io_reduced, c]
theorem c_ltimes (hN : BB < N) {P Q P' Q' : Nat} (h : 0 < Q) (h' : 0 < Q') (hp : P ≤ BB) (hb : Q * Q' ≤ BB) : callD dfs N (n + 2) "_law_times" [fr P Q, fr P' Q'] = .ok (.c (fr (P * P') (Q * Q'))) [] := by
  refine callD_ret0 (D := d_law_times) rfl rfl rfl ?_
  have hq : (frN P Q).2 * (frN P' Q').2 ≤ BB := mulB frN_le.2 frN_le.2 hb
  have c := c_low (N := N) (n := n) hN (a := (frN P Q).1 * (frN P' Q').1) (b := (frN P Q).2 * (frN P' Q').2) (Nat.mul_pos (frN_pos h) (frN_pos h')) hq
  rw [fr_prod P Q P' Q' h h'] at c
  have m1 := d_mul (a := (frN P Q).1) (b := (frN P' Q').1) (Nat.le_trans frN_le.1 hp)
  have m2 := d_mul (a := (frN P Q).2) (b := (frN P' Q').2) (Nat.le_trans frN_le.2 (Nat.le_trans (Nat.le_mul_of_pos_right Q h') hb))
  simp [execs, exec, ev.eq_1, ev.eq_2, ev.eq_3, ev.eq_4, ev.eq_5, ev.eq_6, ev.eq_7, ev.eq_8, ev.eq_9, ev.eq_10, ev.eq_11, ev.eq_12, ev.eq_13, ev.eq_14, ev.eq_15, ev.eq_16, ev.eq_17, ev.eq_18, ev.eq_19, ev_lc, evAnd, evOr, evCh, evR, evC, evA, evP, evIf, evT, evO, PL.bind, sb, biR, negR, binR, idxR, sliR, metR, cmpR, truthR, callR, iosOf, derefs, putBack, PL.cold, peeks, peek, gets, ofO, retOf, slotOf, setAll, isHot, subAt, recvOk, isMut, isUpd, recvD, dctR, biD, one, ovS, seq?, isInst, PyData.isInt, PyData.isBool, PyData.isTuple, truthD, PyData.truthy, entry, asgT, asgTs, wipeE, notHot, backE, it_lst, it_tpl, it_r1, it_r2, it_r3, it_enum, it_zip, rg1, rg2, ints?, intR, setD, retIs_rt, nxIs_nx, retH_rt, nxH_nx, PyData.isList, PyData.isDict, PyData.isStr, List.range, List.range.loop, sz0, sz1, sz2, sz3, sz4, sz5, sz6, sz7, sz8, sz9, sz10, sz11, sz12, d_law_times, b_law_times, fr_0, fr_1, m1, m2, df_law_low, io_law_low, c]
theorem c_lplus (hN : BB < N) {P Q P' Q' : Nat} (h : 0 < Q) (h' : 0 < Q') (hp : P ≤ BB) (hp' : P' ≤ BB) (hb : Q * Q' ≤ BB) : callD dfs N (n + 2) "_law_plus" [fr P Q, fr P' Q'] = .ok (.c (fr (P * Q' + P' * Q) (Q * Q'))) [] := by
  refine callD_ret0 (D := d_law_plus) rfl rfl rfl ?_
  have hq : (frN P Q).2 * (frN P' Q').2 ≤ BB := mulB frN_le.2 frN_le.2 hb
  have c := c_low (N := N) (n := n) hN (a := (frN P Q).1 * (frN P' Q').2 + (frN P' Q').1 * (frN P Q).2) (b := (frN P Q).2 * (frN P' Q').2) (Nat.mul_pos (frN_pos h) (frN_pos h')) hq
  rw [fr_sum P Q P' Q' h h'] at c
  have m1 := d_mul (a := (frN P Q).1) (b := (frN P' Q').2) (Nat.le_trans frN_le.1 hp)
  have m3 := d_mul (a := (frN P' Q').1) (b := (frN P Q).2) (Nat.le_trans frN_le.1 hp')
  have m2 := d_mul (a := (frN P Q).2) (b := (frN P' Q').2) (Nat.le_trans frN_le.2 (Nat.le_trans (Nat.le_mul_of_pos_right Q h') hb))
  simp [execs, exec, ev.eq_1, ev.eq_2, ev.eq_3, ev.eq_4, ev.eq_5, ev.eq_6, ev.eq_7, ev.eq_8, ev.eq_9, ev.eq_10, ev.eq_11, ev.eq_12, ev.eq_13, ev.eq_14, ev.eq_15, ev.eq_16, ev.eq_17, ev.eq_18, ev.eq_19, ev_lc, evAnd, evOr, evCh, evR, evC, evA, evP, evIf, evT, evO, PL.bind, sb, biR, negR, binR, idxR, sliR, metR, cmpR, truthR, callR, iosOf, derefs, putBack, PL.cold, peeks, peek, gets, ofO, retOf, slotOf, setAll, isHot, subAt, recvOk, isMut, isUpd, recvD, dctR, biD, one, ovS, seq?, isInst, PyData.isInt, PyData.isBool, PyData.isTuple, truthD, PyData.truthy, entry, asgT, asgTs, wipeE, notHot, backE, it_lst, it_tpl, it_r1, it_r2, it_r3, it_enum, it_zip, rg1, rg2, ints?, intR, setD, retIs_rt, nxIs_nx, retH_rt, nxH_nx, PyData.isList, PyData.isDict, PyData.isStr, List.range, List.range.loop, sz0, sz1, sz2, sz3, sz4, sz5, sz6, sz7, sz8, sz9, sz10, sz11, sz12, d_law_plus, b_law_plus, fr_0, fr_1, m1, m2, m3, d_add, df_law_low, io_law_low, c]
end
end PL.L

set_option autoImplicit false
set_option linter.all false
set_option Elab.async false
set_option maxRecDepth 100000
set_option maxHeartbeats 2000000
/-! M2: lines of fractions to whole numbers. -/
namespace PL.L
open PySem PL
abbrev SM : Nat := 32768
def dn (Q w : Nat) : Nat := (frN w Q).2
def nu (Q w : Nat) : Nat := (frN w Q).1
def lineB (Q : Nat) (W : List Nat) : Nat := (W.map (dn Q)).foldl Nat.lcm 1
def rowW (Q : Nat) (W : List Nat) (w : Nat) : Nat := nu Q w * (lineB Q W / dn Q w)
def lowW (W : List Nat) : List Nat := W.map fun w => w / gl W
structure Line (Q : Nat) (W : List Nat) : Prop where
  q0 : 0 < Q
  q1 : Q ≤ SM
  w1 : ∀ w ∈ W, w ≤ SM
  w0 : ∀ w ∈ W, 0 < w
  len : W.length ≤ 100
theorem smB {x : Nat} (h : x ≤ SM) : x ≤ BB := Nat.le_trans h (by decide)
section
variable {N n Q : Nat} {W : List Nat}
theorem dn_pos (h : 0 < Q) (w : Nat) : 0 < dn Q w := frN_pos h
theorem dn_dvd (Q w : Nat) : dn Q w ∣ Q := ⟨_, (frN_eq w Q).2.symm⟩
theorem lineB_dvd (Q : Nat) (W : List Nat) : lineB Q W ∣ Q := lcm_fold_of _ _ _ (Nat.one_dvd Q) fun x hx => by
  obtain ⟨w, _, rfl⟩ := List.mem_map.mp hx
  exact dn_dvd Q w
theorem lineB_pos (h : 0 < Q) : 0 < lineB Q W := Nat.pos_of_dvd_of_pos (lineB_dvd Q W) h
theorem dn_lineB {w : Nat} (h : w ∈ W) : dn Q w ∣ lineB Q W := (lcm_fold_dvd (W.map (dn Q)) 1).2 _ (List.mem_map_of_mem h)
theorem row_rel {w : Nat} (hq : 0 < Q) (h : w ∈ W) : Q * rowW Q W w = lineB Q W * w := by
  obtain ⟨t, ht⟩ := dn_lineB (Q := Q) h
  have e : lineB Q W / dn Q w = t := by rw [ht]; exact Nat.mul_div_cancel_left t (dn_pos hq w)
  have c : nu Q w * Q = w * dn Q w := frN_cross w Q
  unfold rowW
  rw [e, ht]
  grind
theorem row_low (h : Line Q W) : ∀ w ∈ W, rowW Q W w / gl (W.map (rowW Q W)) = w / gl W := fun w hw => by
  have := low_ratio (l := W) (x := rowW Q W) (w := fun w => w) (K := Q) (M := lineB Q W) h.q0 (lineB_pos h.q0) (fun a ha => row_rel h.q0 ha) w hw
  rwa [List.map_id'] at this
theorem row_pos (h : Line Q W) {w : Nat} (hw : w ∈ W) : 0 < rowW Q W w := by
  have e := row_rel h.q0 hw
  rcases Nat.eq_zero_or_pos (rowW Q W w) with z | z
  · rw [z, Nat.mul_zero] at e
    have := Nat.mul_pos (lineB_pos (W := W) h.q0) (h.w0 w hw)
    omega
  · exact z
theorem lineB_le (h : Line Q W) : lineB Q W ≤ SM := Nat.le_trans (Nat.le_of_dvd h.q0 (lineB_dvd Q W)) h.q1
theorem row_le (h : Line Q W) {w : Nat} (hw : w ∈ W) : rowW Q W w ≤ BB := by
  refine mulB (c := SM) (d := SM) (Nat.le_trans frN_le.1 (h.w1 w hw)) (Nat.le_trans (Nat.div_le_self _ _) (lineB_le h)) (by decide)
def lineD (Q : Nat) (W : List Nat) : PyData := .list (W.map fun w => fr w Q)
theorem c_as_integers (hN : BB < N) (h : Line Q W) : callD dfs N (n + 2) "as_integers" [lineD Q W] = .ok (.c (.tuple ((lowW W).map iN))) [] := by
  refine callD_ret0 (D := d_as_integers) rfl rfl rfl ?_
  have cdv : ∀ a b : Nat, b ≤ BB → callD dfs N (n + 1) "divisor" [iN a, iN b] = .ok (.c (iN (Nat.gcd a b))) [] := fun a b hb => c_divisor hN hb
  have Q1 : Q ≤ 32768 := h.q1
  have dnl : ∀ w, dn Q w ≤ SM := fun w => Nat.le_trans frN_le.2 h.q1
  obtain ⟨ρ1, e1, ⟨b1, b2, s1, hs1, rfl⟩⟩ := forL_rel (T := .nm 2) (b := execs ⟨dfs, callD dfs N (n + 1)⟩ N [.asg 1 false (.bin .FloorDiv (.bin .Mult (.var 1) (.idx (.var 2) (.con (.int 1)))) (.call "divisor" [(.var 1), (.idx (.var 2) (.con (.int 1)))]))])
    (g := fun w => fr w Q) (fun (b : Nat) ρ => 0 < b ∧ b ∣ Q ∧ ∃ s : Slot, (s = .no ∨ ∃ d, s = .c d) ∧ ρ = [.c (lineD Q W), .c (iN b), s, .no, .no]) (fun b w => Nat.lcm b (dn Q w)) (l := W)
    (fun w hw b ρ ⟨p, q, s, _, e⟩ => by
      subst e
      have bl : b ≤ SM := Nat.le_trans (Nat.le_of_dvd h.q0 q) h.q1
      have m := d_mul (a := b) (b := (frN w Q).2) (smB bl)
      have gp : 0 < Nat.gcd b (frN w Q).2 := Nat.gcd_pos_of_pos_left _ p
      have c := cdv b (frN w Q).2 (smB (dnl w))
      have d := d_div (a := b * (frN w Q).2) gp (Nat.le_trans (Nat.gcd_le_left _ p) (smB bl))
      refine ⟨[.c (lineD Q W), .c (iN b), .c (fr w Q), .no, .no], [.c (lineD Q W), .c (iN (Nat.lcm b (dn Q w))), .c (fr w Q), .no, .no], rfl, ?_, Nat.lcm_pos p (dn_pos h.q0 w), Nat.lcm_dvd q (dn_dvd Q w), _, .inr ⟨_, rfl⟩, rfl⟩
      rw [execs_one]
      simp [execs, exec, ev.eq_1, ev.eq_2, ev.eq_3, ev.eq_4, ev.eq_5, ev.eq_6, ev.eq_7, ev.eq_8, ev.eq_9, ev.eq_10, ev.eq_11, ev.eq_12, ev.eq_13, ev.eq_14, ev.eq_15, ev.eq_16, ev.eq_17, ev.eq_18, ev.eq_19, ev_lc, evAnd, evOr, evCh, evR, evC, evA, evP, evIf, evT, evO, PL.bind, sb, biR, negR, binR, idxR, sliR, metR, cmpR, truthR, callR, iosOf, derefs, putBack, PL.cold, peeks, peek, gets, ofO, retOf, slotOf, setAll, isHot, subAt, recvOk, isMut, isUpd, recvD, dctR, biD, one, ovS, seq?, isInst, PyData.isInt, PyData.isBool, PyData.isTuple, truthD, PyData.truthy, entry, asgT, asgTs, wipeE, notHot, backE, it_lst, it_tpl, it_r1, it_r2, it_r3, it_enum, it_zip, rg1, rg2, ints?, intR, setD, retIs_rt, nxIs_nx, retH_rt, nxH_nx, PyData.isList, PyData.isDict, PyData.isStr, List.range, List.range.loop, sz0, sz1, sz2, sz3, sz4, sz5, sz6, sz7, sz8, sz9, sz10, sz11, sz12, fr_1, m, df_divisor, io_divisor, c, d, Nat.lcm, dn]) (s := 1) (ρ := [.c (lineD Q W), .c (iN 1), .no, .no, .no]) ⟨Nat.one_pos, Nat.one_dvd Q, _, .inl rfl, rfl⟩
  have eB : W.foldl (fun b w => Nat.lcm b (dn Q w)) 1 = lineB Q W := by unfold lineB; rw [List.foldl_map]
  rw [eB] at e1 b1 b2
  -- the rows
  have rows : ∀ s : Slot, (s = .no ∨ ∃ d, s = .c d) → exec ⟨dfs, callD dfs N (n + 1)⟩ N (.unp (.tp [(.nm 3), (.nm 4)]) (.tup [(.lc (.bin .Mult (.idx (.var 2) (.con (.int 0))) (.bin .FloorDiv (.var 1) (.idx (.var 2) (.con (.int 1))))) (.nm 2) .plain [(.var 0)] [] [2]), (.con (.int 0))])) [.c (lineD Q W), .c (iN (lineB Q W)), s, .no, .no] = .nx [.c (lineD Q W), .c (iN (lineB Q W)), s, .c (.list (W.map fun w => iN (rowW Q W w))), .c (iN 0)] := fun s hs => by
    have st : ∀ w ∈ W, ∀ ρ : PL.Env, ρ = [.c (lineD Q W), .c (iN (lineB Q W)), .no, .no, .no] → stepF (.nm 2) (fun x => Out.ok true x) (ev ⟨dfs, callD dfs N (n + 1)⟩ (.bin .Mult (.idx (.var 2) (.con (.int 0))) (.bin .FloorDiv (.var 1) (.idx (.var 2) (.con (.int 1)))))) [2] (fr w Q) ρ = .ok (some (iN (rowW Q W w))) ρ := fun w hw ρ e => by
      subst e
      have d := d_div (a := lineB Q W) (dn_pos h.q0 w) (smB (dnl w))
      have m := d_mul (a := nu Q w) (b := lineB Q W / dn Q w) (smB (Nat.le_trans frN_le.1 (h.w1 w hw)))
      have x0 : idxD (fr w Q) (.int 0) = some (iN (nu Q w)) := rfl
      have x1 : idxD (fr w Q) (.int 1) = some (iN (dn Q w)) := rfl
      simp [execs, exec, ev.eq_1, ev.eq_2, ev.eq_3, ev.eq_4, ev.eq_5, ev.eq_6, ev.eq_7, ev.eq_8, ev.eq_9, ev.eq_10, ev.eq_11, ev.eq_12, ev.eq_13, ev.eq_14, ev.eq_15, ev.eq_16, ev.eq_17, ev.eq_18, ev.eq_19, ev_lc, evAnd, evOr, evCh, evR, evC, evA, evP, evIf, evT, evO, PL.bind, sb, biR, negR, binR, idxR, sliR, metR, cmpR, truthR, callR, iosOf, derefs, putBack, PL.cold, peeks, peek, gets, ofO, retOf, slotOf, setAll, isHot, subAt, recvOk, isMut, isUpd, recvD, dctR, biD, one, ovS, seq?, isInst, PyData.isInt, PyData.isBool, PyData.isTuple, truthD, PyData.truthy, entry, asgT, asgTs, wipeE, notHot, backE, it_lst, it_tpl, it_r1, it_r2, it_r3, it_enum, it_zip, rg1, rg2, ints?, intR, setD, retIs_rt, nxIs_nx, retH_rt, nxH_nx, PyData.isList, PyData.isDict, PyData.isStr, List.range, List.range.loop, sz0, sz1, sz2, sz3, sz4, sz5, sz6, sz7, sz8, sz9, sz10, sz11, sz12, stepF, x0, x1, d, m, rowW]
    have lc := fun ρ e => lcL_all (l := W) (g := fun w => fr w Q) (f := fun w => iN (rowW Q W w)) (fun w hw => st w hw ρ e) (by have := h.len; omega)
    have it : itemsD .plain [lineD Q W] = some (W.map fun w => fr w Q) := rfl
    rcases hs with rfl | ⟨d, rfl⟩
    · have := lc _ rfl
      simp [execs, exec, ev.eq_1, ev.eq_2, ev.eq_3, ev.eq_4, ev.eq_5, ev.eq_6, ev.eq_7, ev.eq_8, ev.eq_9, ev.eq_10, ev.eq_11, ev.eq_12, ev.eq_13, ev.eq_14, ev.eq_15, ev.eq_16, ev.eq_17, ev.eq_18, ev.eq_19, ev_lc, evAnd, evOr, evCh, evR, evC, evA, evP, evIf, evT, evO, PL.bind, sb, biR, negR, binR, idxR, sliR, metR, cmpR, truthR, callR, iosOf, derefs, putBack, PL.cold, peeks, peek, gets, ofO, retOf, slotOf, setAll, isHot, subAt, recvOk, isMut, isUpd, recvD, dctR, biD, one, ovS, seq?, isInst, PyData.isInt, PyData.isBool, PyData.isTuple, truthD, PyData.truthy, entry, asgT, asgTs, wipeE, notHot, backE, it_lst, it_tpl, it_r1, it_r2, it_r3, it_enum, it_zip, rg1, rg2, ints?, intR, setD, retIs_rt, nxIs_nx, retH_rt, nxH_nx, PyData.isList, PyData.isDict, PyData.isStr, List.range, List.range.loop, sz0, sz1, sz2, sz3, sz4, sz5, sz6, sz7, sz8, sz9, sz10, sz11, sz12, ev_lc, it, this, sz2]
      rfl
    · have := lc _ rfl
      simp [execs, exec, ev.eq_1, ev.eq_2, ev.eq_3, ev.eq_4, ev.eq_5, ev.eq_6, ev.eq_7, ev.eq_8, ev.eq_9, ev.eq_10, ev.eq_11, ev.eq_12, ev.eq_13, ev.eq_14, ev.eq_15, ev.eq_16, ev.eq_17, ev.eq_18, ev.eq_19, ev_lc, evAnd, evOr, evCh, evR, evC, evA, evP, evIf, evT, evO, PL.bind, sb, biR, negR, binR, idxR, sliR, metR, cmpR, truthR, callR, iosOf, derefs, putBack, PL.cold, peeks, peek, gets, ofO, retOf, slotOf, setAll, isHot, subAt, recvOk, isMut, isUpd, recvD, dctR, biD, one, ovS, seq?, isInst, PyData.isInt, PyData.isBool, PyData.isTuple, truthD, PyData.truthy, entry, asgT, asgTs, wipeE, notHot, backE, it_lst, it_tpl, it_r1, it_r2, it_r3, it_enum, it_zip, rg1, rg2, ints?, intR, setD, retIs_rt, nxIs_nx, retH_rt, nxH_nx, PyData.isList, PyData.isDict, PyData.isStr, List.range, List.range.loop, sz0, sz1, sz2, sz3, sz4, sz5, sz6, sz7, sz8, sz9, sz10, sz11, sz12, ev_lc, it, this, sz2]
      rfl
  obtain ⟨ρ2, e2, ⟨s2, hs2, rfl⟩⟩ := forL_rel (T := .nm 2) (b := execs ⟨dfs, callD dfs N (n + 1)⟩ N [.asg 4 false (.call "divisor" [(.var 4), (.var 2)])])
    (g := fun w => iN (rowW Q W w)) (fun (b : Nat) ρ => ∃ s : Slot, (s = .no ∨ ∃ d, s = .c d) ∧ ρ = [.c (lineD Q W), .c (iN (lineB Q W)), s, .c (.list (W.map fun w => iN (rowW Q W w))), .c (iN b)]) (fun b w => Nat.gcd b (rowW Q W w)) (l := W)
    (fun w hw b ρ ⟨s, _, e⟩ => by
      subst e
      have c := cdv b (rowW Q W w) (row_le h hw)
      refine ⟨_, [.c (lineD Q W), .c (iN (lineB Q W)), .c (iN (rowW Q W w)), .c (.list (W.map fun w => iN (rowW Q W w))), .c (iN (Nat.gcd b (rowW Q W w)))], rfl, ?_, _, .inr ⟨_, rfl⟩, rfl⟩
      rw [execs_one]
      simp [execs, exec, ev.eq_1, ev.eq_2, ev.eq_3, ev.eq_4, ev.eq_5, ev.eq_6, ev.eq_7, ev.eq_8, ev.eq_9, ev.eq_10, ev.eq_11, ev.eq_12, ev.eq_13, ev.eq_14, ev.eq_15, ev.eq_16, ev.eq_17, ev.eq_18, ev.eq_19, ev_lc, evAnd, evOr, evCh, evR, evC, evA, evP, evIf, evT, evO, PL.bind, sb, biR, negR, binR, idxR, sliR, metR, cmpR, truthR, callR, iosOf, derefs, putBack, PL.cold, peeks, peek, gets, ofO, retOf, slotOf, setAll, isHot, subAt, recvOk, isMut, isUpd, recvD, dctR, biD, one, ovS, seq?, isInst, PyData.isInt, PyData.isBool, PyData.isTuple, truthD, PyData.truthy, entry, asgT, asgTs, wipeE, notHot, backE, it_lst, it_tpl, it_r1, it_r2, it_r3, it_enum, it_zip, rg1, rg2, ints?, intR, setD, retIs_rt, nxIs_nx, retH_rt, nxH_nx, PyData.isList, PyData.isDict, PyData.isStr, List.range, List.range.loop, sz0, sz1, sz2, sz3, sz4, sz5, sz6, sz7, sz8, sz9, sz10, sz11, sz12, df_divisor, io_divisor, c]) (s := 0) (ρ := [.c (lineD Q W), .c (iN (lineB Q W)), s1, .c (.list (W.map fun w => iN (rowW Q W w))), .c (iN 0)]) ⟨_, hs1, rfl⟩
  have eG : W.foldl (fun b w => Nat.gcd b (rowW Q W w)) 0 = gl (W.map (rowW Q W)) := by
    have := gcd_fold (W.map (rowW Q W)) 0
    rw [List.foldl_map, Nat.gcd_zero_left] at this
    exact this
  rw [eG] at e2
  refine rI_seq (ρ1 := [.c (lineD Q W), .c (iN 1), .no, .no, .no]) (by simp [execs, exec, ev.eq_1, ev.eq_2, ev.eq_3, ev.eq_4, ev.eq_5, ev.eq_6, ev.eq_7, ev.eq_8, ev.eq_9, ev.eq_10, ev.eq_11, ev.eq_12, ev.eq_13, ev.eq_14, ev.eq_15, ev.eq_16, ev.eq_17, ev.eq_18, ev.eq_19, ev_lc, evAnd, evOr, evCh, evR, evC, evA, evP, evIf, evT, evO, PL.bind, sb, biR, negR, binR, idxR, sliR, metR, cmpR, truthR, callR, iosOf, derefs, putBack, PL.cold, peeks, peek, gets, ofO, retOf, slotOf, setAll, isHot, subAt, recvOk, isMut, isUpd, recvD, dctR, biD, one, ovS, seq?, isInst, PyData.isInt, PyData.isBool, PyData.isTuple, truthD, PyData.truthy, entry, asgT, asgTs, wipeE, notHot, backE, it_lst, it_tpl, it_r1, it_r2, it_r3, it_enum, it_zip, rg1, rg2, ints?, intR, setD, retIs_rt, nxIs_nx, retH_rt, nxH_nx, PyData.isList, PyData.isDict, PyData.isStr, List.range, List.range.loop, sz0, sz1, sz2, sz3, sz4, sz5, sz6, sz7, sz8, sz9, sz10, sz11, sz12, entry, d_as_integers]; rfl) (rI_seq (ρ1 := [.c (lineD Q W), .c (iN (lineB Q W)), s1, .no, .no]) (exec_fr (ds := [lineD Q W]) (by simp [execs, exec, ev.eq_1, ev.eq_2, ev.eq_3, ev.eq_4, ev.eq_5, ev.eq_6, ev.eq_7, ev.eq_8, ev.eq_9, ev.eq_10, ev.eq_11, ev.eq_12, ev.eq_13, ev.eq_14, ev.eq_15, ev.eq_16, ev.eq_17, ev.eq_18, ev.eq_19, ev_lc, evAnd, evOr, evCh, evR, evC, evA, evP, evIf, evT, evO, PL.bind, sb, biR, negR, binR, idxR, sliR, metR, cmpR, truthR, callR, iosOf, derefs, putBack, PL.cold, peeks, peek, gets, ofO, retOf, slotOf, setAll, isHot, subAt, recvOk, isMut, isUpd, recvD, dctR, biD, one, ovS, seq?, isInst, PyData.isInt, PyData.isBool, PyData.isTuple, truthD, PyData.truthy, entry, asgT, asgTs, wipeE, notHot, backE, it_lst, it_tpl, it_r1, it_r2, it_r3, it_enum, it_zip, rg1, rg2, ints?, intR, setD, retIs_rt, nxIs_nx, retH_rt, nxH_nx, PyData.isList, PyData.isDict, PyData.isStr, List.range, List.range.loop, sz0, sz1, sz2, sz3, sz4, sz5, sz6, sz7, sz8, sz9, sz10, sz11, sz12]) rfl e1) (rI_seq (rows s1 hs1) (rI_seq (exec_fr (ds := [.list (W.map fun w => iN (rowW Q W w))]) (by simp [execs, exec, ev.eq_1, ev.eq_2, ev.eq_3, ev.eq_4, ev.eq_5, ev.eq_6, ev.eq_7, ev.eq_8, ev.eq_9, ev.eq_10, ev.eq_11, ev.eq_12, ev.eq_13, ev.eq_14, ev.eq_15, ev.eq_16, ev.eq_17, ev.eq_18, ev.eq_19, ev_lc, evAnd, evOr, evCh, evR, evC, evA, evP, evIf, evT, evO, PL.bind, sb, biR, negR, binR, idxR, sliR, metR, cmpR, truthR, callR, iosOf, derefs, putBack, PL.cold, peeks, peek, gets, ofO, retOf, slotOf, setAll, isHot, subAt, recvOk, isMut, isUpd, recvD, dctR, biD, one, ovS, seq?, isInst, PyData.isInt, PyData.isBool, PyData.isTuple, truthD, PyData.truthy, entry, asgT, asgTs, wipeE, notHot, backE, it_lst, it_tpl, it_r1, it_r2, it_r3, it_enum, it_zip, rg1, rg2, ints?, intR, setD, retIs_rt, nxIs_nx, retH_rt, nxH_nx, PyData.isList, PyData.isDict, PyData.isStr, List.range, List.range.loop, sz0, sz1, sz2, sz3, sz4, sz5, sz6, sz7, sz8, sz9, sz10, sz11, sz12]) rfl e2) ?_)))
  have gp : ∀ w ∈ W, 0 < gl (W.map (rowW Q W)) ∧ gl (W.map (rowW Q W)) ≤ BB := fun w hw => by
    have d := gl_dvd (List.mem_map_of_mem (f := rowW Q W) hw)
    exact ⟨Nat.pos_of_dvd_of_pos d (row_pos h hw), Nat.le_trans (Nat.le_of_dvd (row_pos h hw) d) (row_le h hw)⟩
  have st : ∀ w ∈ W, ∀ ρ : PL.Env, ρ = [.c (lineD Q W), .c (iN (lineB Q W)), .no, .c (.list (W.map fun w => iN (rowW Q W w))), .c (iN (gl (W.map (rowW Q W))))] → stepF (.nm 2) (fun x => Out.ok true x) (ev ⟨dfs, callD dfs N (n + 1)⟩ (.bin .FloorDiv (.var 2) (.var 4))) [2] (iN (rowW Q W w)) ρ = .ok (some (iN (w / gl W))) ρ := fun w hw ρ e => by
    subst e
    have d := d_div (a := rowW Q W w) (gp w hw).1 (gp w hw).2
    rw [row_low h w hw] at d
    simp [execs, exec, ev.eq_1, ev.eq_2, ev.eq_3, ev.eq_4, ev.eq_5, ev.eq_6, ev.eq_7, ev.eq_8, ev.eq_9, ev.eq_10, ev.eq_11, ev.eq_12, ev.eq_13, ev.eq_14, ev.eq_15, ev.eq_16, ev.eq_17, ev.eq_18, ev.eq_19, ev_lc, evAnd, evOr, evCh, evR, evC, evA, evP, evIf, evT, evO, PL.bind, sb, biR, negR, binR, idxR, sliR, metR, cmpR, truthR, callR, iosOf, derefs, putBack, PL.cold, peeks, peek, gets, ofO, retOf, slotOf, setAll, isHot, subAt, recvOk, isMut, isUpd, recvD, dctR, biD, one, ovS, seq?, isInst, PyData.isInt, PyData.isBool, PyData.isTuple, truthD, PyData.truthy, entry, asgT, asgTs, wipeE, notHot, backE, it_lst, it_tpl, it_r1, it_r2, it_r3, it_enum, it_zip, rg1, rg2, ints?, intR, setD, retIs_rt, nxIs_nx, retH_rt, nxH_nx, PyData.isList, PyData.isDict, PyData.isStr, List.range, List.range.loop, sz0, sz1, sz2, sz3, sz4, sz5, sz6, sz7, sz8, sz9, sz10, sz11, sz12, stepF, d]
  have lc := lcL_all (l := W) (g := fun w => iN (rowW Q W w)) (f := fun w => iN (w / gl W)) (fun w hw => st w hw _ rfl) (by have := h.len; omega)
  have low : (lowW W).map iN = W.map fun w => iN (w / gl W) := by unfold lowW; rw [List.map_map]; rfl
  rw [low]
  rcases hs2 with rfl | ⟨d, rfl⟩
  · simp [execs, exec, ev.eq_1, ev.eq_2, ev.eq_3, ev.eq_4, ev.eq_5, ev.eq_6, ev.eq_7, ev.eq_8, ev.eq_9, ev.eq_10, ev.eq_11, ev.eq_12, ev.eq_13, ev.eq_14, ev.eq_15, ev.eq_16, ev.eq_17, ev.eq_18, ev.eq_19, ev_lc, evAnd, evOr, evCh, evR, evC, evA, evP, evIf, evT, evO, PL.bind, sb, biR, negR, binR, idxR, sliR, metR, cmpR, truthR, callR, iosOf, derefs, putBack, PL.cold, peeks, peek, gets, ofO, retOf, slotOf, setAll, isHot, subAt, recvOk, isMut, isUpd, recvD, dctR, biD, one, ovS, seq?, isInst, PyData.isInt, PyData.isBool, PyData.isTuple, truthD, PyData.truthy, entry, asgT, asgTs, wipeE, notHot, backE, it_lst, it_tpl, it_r1, it_r2, it_r3, it_enum, it_zip, rg1, rg2, ints?, intR, setD, retIs_rt, nxIs_nx, retH_rt, nxH_nx, PyData.isList, PyData.isDict, PyData.isStr, List.range, List.range.loop, sz0, sz1, sz2, sz3, sz4, sz5, sz6, sz7, sz8, sz9, sz10, sz11, sz12, ev_lc, lc]
  · simp [execs, exec, ev.eq_1, ev.eq_2, ev.eq_3, ev.eq_4, ev.eq_5, ev.eq_6, ev.eq_7, ev.eq_8, ev.eq_9, ev.eq_10, ev.eq_11, ev.eq_12, ev.eq_13, ev.eq_14, ev.eq_15, ev.eq_16, ev.eq_17, ev.eq_18, ev.eq_19, ev_lc, evAnd, evOr, evCh, evR, evC, evA, evP, evIf, evT, evO, PL.bind, sb, biR, negR, binR, idxR, sliR, metR, cmpR, truthR, callR, iosOf, derefs, putBack, PL.cold, peeks, peek, gets, ofO, retOf, slotOf, setAll, isHot, subAt, recvOk, isMut, isUpd, recvD, dctR, biD, one, ovS, seq?, isInst, PyData.isInt, PyData.isBool, PyData.isTuple, truthD, PyData.truthy, entry, asgT, asgTs, wipeE, notHot, backE, it_lst, it_tpl, it_r1, it_r2, it_r3, it_enum, it_zip, rg1, rg2, ints?, intR, setD, retIs_rt, nxIs_nx, retH_rt, nxH_nx, PyData.isList, PyData.isDict, PyData.isStr, List.range, List.range.loop, sz0, sz1, sz2, sz3, sz4, sz5, sz6, sz7, sz8, sz9, sz10, sz11, sz12, ev_lc, lc]
end
end PL.L

set_option autoImplicit false
set_option linter.all false
set_option Elab.async false
set_option maxRecDepth 100000
set_option maxHeartbeats 2000000
/-! M3: the law's whole numbers. -/
namespace PL.L
open PySem PL
section
variable {N n Q : Nat} {W : List Nat}
def cold? (s : Slot) : Prop := s = .no ∨ ∃ d, s = .c d
theorem lcm_step (b d : Nat) : b * (d / Nat.gcd d b) = Nat.lcm b d := by
  unfold Nat.lcm
  rw [Nat.gcd_comm d b, Nat.mul_div_assoc b (Nat.gcd_dvd_right b d)]
theorem c_law_whole (hN : BB < N) (h : Line Q W) : callD dfs N (n + 2) "_law_whole" [lineD Q W] = .ok (.h false (.list ((lowW W).map iN))) [] := by
  refine callD_ret0 (D := d_law_whole) rfl rfl rfl ?_
  have dnl : ∀ w, dn Q w ≤ SM := fun w => Nat.le_trans frN_le.2 h.q1
  obtain ⟨ρ1, e1, ⟨b1, b2, s3, s4, hs3, hs4, rfl⟩⟩ := forL_rel (T := .tp [(.nm 3), (.nm 4)]) (b := execs ⟨dfs, callD dfs N (n + 1)⟩ N [.asg 1 false (.bin .Mult (.var 1) (.idx (.call "_law_low" [(.var 4), (.var 1)]) (.con (.int 0))))])
    (g := fun w => fr w Q) (fun (b : Nat) ρ => 0 < b ∧ b ∣ Q ∧ ∃ s3 s4 : Slot, cold? s3 ∧ cold? s4 ∧ ρ = [.c (lineD Q W), .c (iN b), .c (iN 0), s3, s4, .no, .no]) (fun b w => Nat.lcm b (dn Q w)) (l := W)
    (fun w hw b ρ ⟨p, q, s3, s4, _, _, e⟩ => by
      subst e
      have bl : b ≤ SM := Nat.le_trans (Nat.le_of_dvd h.q0 q) h.q1
      have c : callD dfs N (n + 1) "_law_low" [iN (dn Q w), iN b] = .ok (.c (fr (dn Q w) b)) [] := c_low hN p (smB bl)
      have m := d_mul (a := b) (b := (frN (dn Q w) b).1) (smB bl)
      rw [show b * (frN (dn Q w) b).1 = Nat.lcm b (dn Q w) from lcm_step b (dn Q w)] at m
      have x0 := fr_0 (dn Q w) b
      refine ⟨[.c (lineD Q W), .c (iN b), .c (iN 0), .c (iN (nu Q w)), .c (iN (dn Q w)), .no, .no], [.c (lineD Q W), .c (iN (Nat.lcm b (dn Q w))), .c (iN 0), .c (iN (nu Q w)), .c (iN (dn Q w)), .no, .no], rfl, ?_, Nat.lcm_pos p (dn_pos h.q0 w), Nat.lcm_dvd q (dn_dvd Q w), _, _, .inr ⟨_, rfl⟩, .inr ⟨_, rfl⟩, rfl⟩
      rw [execs_one]
      simp [execs, exec, ev.eq_1, ev.eq_2, ev.eq_3, ev.eq_4, ev.eq_5, ev.eq_6, ev.eq_7, ev.eq_8, ev.eq_9, ev.eq_10, ev.eq_11, ev.eq_12, ev.eq_13, ev.eq_14, ev.eq_15, ev.eq_16, ev.eq_17, ev.eq_18, ev.eq_19, ev_lc, evAnd, evOr, evCh, evR, evC, evA, evP, evIf, evT, evO, PL.bind, sb, biR, negR, binR, idxR, sliR, metR, cmpR, truthR, callR, iosOf, derefs, putBack, PL.cold, peeks, peek, gets, ofO, retOf, slotOf, setAll, isHot, subAt, recvOk, isMut, isUpd, recvD, dctR, biD, one, ovS, seq?, isInst, PyData.isInt, PyData.isBool, PyData.isTuple, truthD, PyData.truthy, entry, asgT, asgTs, wipeE, notHot, backE, it_lst, it_tpl, it_r1, it_r2, it_r3, it_enum, it_zip, rg1, rg2, ints?, intR, setD, retIs_rt, nxIs_nx, retH_rt, nxH_nx, PyData.isList, PyData.isDict, PyData.isStr, List.range, List.range.loop, sz0, sz1, sz2, sz3, sz4, sz5, sz6, sz7, sz8, sz9, sz10, sz11, sz12, df_law_low, io_law_low, c, x0, m]) (s := 1) (ρ := [.c (lineD Q W), .c (iN 1), .c (iN 0), .no, .no, .no, .no]) ⟨Nat.one_pos, Nat.one_dvd Q, _, _, .inl rfl, .inl rfl, rfl⟩
  have eB : W.foldl (fun b w => Nat.lcm b (dn Q w)) 1 = lineB Q W := by unfold lineB; rw [List.foldl_map]
  rw [eB] at e1 b1 b2
  have rows : ∀ s3 s4 : Slot, cold? s3 → cold? s4 → exec ⟨dfs, callD dfs N (n + 1)⟩ N (.asg 5 false (.lc (.bin .Mult (.var 3) (.bin .FloorDiv (.var 1) (.var 4))) (.tp [(.nm 3), (.nm 4)]) .plain [(.var 0)] [] [3, 4])) [.c (lineD Q W), .c (iN (lineB Q W)), .c (iN 0), s3, s4, .no, .no] = .nx [.c (lineD Q W), .c (iN (lineB Q W)), .c (iN 0), s3, s4, .c (.list (W.map fun w => iN (rowW Q W w))), .no] := fun s3 s4 hs3 hs4 => by
    have st : ∀ w ∈ W, ∀ ρ : PL.Env, ρ = [.c (lineD Q W), .c (iN (lineB Q W)), .c (iN 0), .no, .no, .no, .no] → stepF (.tp [(.nm 3), (.nm 4)]) (fun x => Out.ok true x) (ev ⟨dfs, callD dfs N (n + 1)⟩ (.bin .Mult (.var 3) (.bin .FloorDiv (.var 1) (.var 4)))) [3, 4] (fr w Q) ρ = .ok (some (iN (rowW Q W w))) ρ := fun w hw ρ e => by
      subst e
      have d := d_div (a := lineB Q W) (dn_pos h.q0 w) (smB (dnl w))
      have m := d_mul (a := nu Q w) (b := lineB Q W / dn Q w) (smB (Nat.le_trans frN_le.1 (h.w1 w hw)))
      have f : fr w Q = .tuple [iN (nu Q w), iN (dn Q w)] := rfl
      simp [execs, exec, ev.eq_1, ev.eq_2, ev.eq_3, ev.eq_4, ev.eq_5, ev.eq_6, ev.eq_7, ev.eq_8, ev.eq_9, ev.eq_10, ev.eq_11, ev.eq_12, ev.eq_13, ev.eq_14, ev.eq_15, ev.eq_16, ev.eq_17, ev.eq_18, ev.eq_19, ev_lc, evAnd, evOr, evCh, evR, evC, evA, evP, evIf, evT, evO, PL.bind, sb, biR, negR, binR, idxR, sliR, metR, cmpR, truthR, callR, iosOf, derefs, putBack, PL.cold, peeks, peek, gets, ofO, retOf, slotOf, setAll, isHot, subAt, recvOk, isMut, isUpd, recvD, dctR, biD, one, ovS, seq?, isInst, PyData.isInt, PyData.isBool, PyData.isTuple, truthD, PyData.truthy, entry, asgT, asgTs, wipeE, notHot, backE, it_lst, it_tpl, it_r1, it_r2, it_r3, it_enum, it_zip, rg1, rg2, ints?, intR, setD, retIs_rt, nxIs_nx, retH_rt, nxH_nx, PyData.isList, PyData.isDict, PyData.isStr, List.range, List.range.loop, sz0, sz1, sz2, sz3, sz4, sz5, sz6, sz7, sz8, sz9, sz10, sz11, sz12, stepF, f, d, m, rowW]
    have lc := fun ρ e => lcL_all (l := W) (g := fun w => fr w Q) (f := fun w => iN (rowW Q W w)) (fun w hw => st w hw ρ e) (by have := h.len; omega)
    have it : itemsD .plain [lineD Q W] = some (W.map fun w => fr w Q) := rfl
    have := lc _ rfl
    rcases hs3 with rfl | ⟨d, rfl⟩ <;> rcases hs4 with rfl | ⟨d', rfl⟩ <;> simp [execs, exec, ev.eq_1, ev.eq_2, ev.eq_3, ev.eq_4, ev.eq_5, ev.eq_6, ev.eq_7, ev.eq_8, ev.eq_9, ev.eq_10, ev.eq_11, ev.eq_12, ev.eq_13, ev.eq_14, ev.eq_15, ev.eq_16, ev.eq_17, ev.eq_18, ev.eq_19, ev_lc, evAnd, evOr, evCh, evR, evC, evA, evP, evIf, evT, evO, PL.bind, sb, biR, negR, binR, idxR, sliR, metR, cmpR, truthR, callR, iosOf, derefs, putBack, PL.cold, peeks, peek, gets, ofO, retOf, slotOf, setAll, isHot, subAt, recvOk, isMut, isUpd, recvD, dctR, biD, one, ovS, seq?, isInst, PyData.isInt, PyData.isBool, PyData.isTuple, truthD, PyData.truthy, entry, asgT, asgTs, wipeE, notHot, backE, it_lst, it_tpl, it_r1, it_r2, it_r3, it_enum, it_zip, rg1, rg2, ints?, intR, setD, retIs_rt, nxIs_nx, retH_rt, nxH_nx, PyData.isList, PyData.isDict, PyData.isStr, List.range, List.range.loop, sz0, sz1, sz2, sz3, sz4, sz5, sz6, sz7, sz8, sz9, sz10, sz11, sz12, ev_lc, it, this]
  have zB : ∀ {w}, w ∈ W → rowW Q W w ≤ BB := fun hw => row_le h hw
  obtain ⟨ρ2, e2, ⟨s6, hs6, rfl⟩⟩ := forL_rel (T := .nm 6) (b := execs ⟨dfs, callD dfs N (n + 1)⟩ N [.wh (.cmp (.var 6) [.NotEq] [(.con (.int 0))]) [.unp (.tp [(.nm 2), (.nm 6)]) (.tup [(.var 6), (.bin .Mod (.bi .int [(.var 2)]) (.var 6))])]])
    (g := fun w => iN (rowW Q W w)) (fun (b : Nat) ρ => ∃ s : Slot, cold? s ∧ ρ = [.c (lineD Q W), .c (iN (lineB Q W)), .c (iN b), s3, s4, .c (.list (W.map fun w => iN (rowW Q W w))), s]) (fun b w => Nat.gcd b (rowW Q W w)) (l := W)
    (fun w hw b ρ ⟨s, _, e⟩ => by
      subst e
      have wl := euclidW (c := evT ⟨dfs, callD dfs N (n + 1)⟩ (.cmp (.var 6) [.NotEq] [(.con (.int 0))])) (b := execs ⟨dfs, callD dfs N (n + 1)⟩ N [.unp (.tp [(.nm 2), (.nm 6)]) (.tup [(.var 6), (.bin .Mod (.bi .int [(.var 2)]) (.var 6))])]) (fun x y => [.c (lineD Q W), .c (iN (lineB Q W)), .c (iN x), s3, s4, .c (.list (W.map fun w => iN (rowW Q W w))), .c (iN y)]) (B := BB)
        (fun x y => by simp [execs, exec, ev.eq_1, ev.eq_2, ev.eq_3, ev.eq_4, ev.eq_5, ev.eq_6, ev.eq_7, ev.eq_8, ev.eq_9, ev.eq_10, ev.eq_11, ev.eq_12, ev.eq_13, ev.eq_14, ev.eq_15, ev.eq_16, ev.eq_17, ev.eq_18, ev.eq_19, ev_lc, evAnd, evOr, evCh, evR, evC, evA, evP, evIf, evT, evO, PL.bind, sb, biR, negR, binR, idxR, sliR, metR, cmpR, truthR, callR, iosOf, derefs, putBack, PL.cold, peeks, peek, gets, ofO, retOf, slotOf, setAll, isHot, subAt, recvOk, isMut, isUpd, recvD, dctR, biD, one, ovS, seq?, isInst, PyData.isInt, PyData.isBool, PyData.isTuple, truthD, PyData.truthy, entry, asgT, asgTs, wipeE, notHot, backE, it_lst, it_tpl, it_r1, it_r2, it_r3, it_enum, it_zip, rg1, rg2, ints?, intR, setD, retIs_rt, nxIs_nx, retH_rt, nxH_nx, PyData.isList, PyData.isDict, PyData.isStr, List.range, List.range.loop, sz0, sz1, sz2, sz3, sz4, sz5, sz6, sz7, sz8, sz9, sz10, sz11, sz12, n_ne0]) (fun x y h0 h => by simp [execs, exec, ev.eq_1, ev.eq_2, ev.eq_3, ev.eq_4, ev.eq_5, ev.eq_6, ev.eq_7, ev.eq_8, ev.eq_9, ev.eq_10, ev.eq_11, ev.eq_12, ev.eq_13, ev.eq_14, ev.eq_15, ev.eq_16, ev.eq_17, ev.eq_18, ev.eq_19, ev_lc, evAnd, evOr, evCh, evR, evC, evA, evP, evIf, evT, evO, PL.bind, sb, biR, negR, binR, idxR, sliR, metR, cmpR, truthR, callR, iosOf, derefs, putBack, PL.cold, peeks, peek, gets, ofO, retOf, slotOf, setAll, isHot, subAt, recvOk, isMut, isUpd, recvD, dctR, biD, one, ovS, seq?, isInst, PyData.isInt, PyData.isBool, PyData.isTuple, truthD, PyData.truthy, entry, asgT, asgTs, wipeE, notHot, backE, it_lst, it_tpl, it_r1, it_r2, it_r3, it_enum, it_zip, rg1, rg2, ints?, intR, setD, retIs_rt, nxIs_nx, retH_rt, nxH_nx, PyData.isList, PyData.isDict, PyData.isStr, List.range, List.range.loop, sz0, sz1, sz2, sz3, sz4, sz5, sz6, sz7, sz8, sz9, sz10, sz11, sz12, d_mod h0, d_int]) (rowW Q W w) b N (zB hw) (by have := zB hw; omega)
      refine ⟨_, [.c (lineD Q W), .c (iN (lineB Q W)), .c (iN (Nat.gcd b (rowW Q W w))), s3, s4, .c (.list (W.map fun w => iN (rowW Q W w))), .c (iN 0)], rfl, ?_, _, .inr ⟨iN 0, rfl⟩, rfl⟩
      rw [execs_one, exec]
      exact wl) (s := 0) (ρ := [.c (lineD Q W), .c (iN (lineB Q W)), .c (iN 0), s3, s4, .c (.list (W.map fun w => iN (rowW Q W w))), .no]) ⟨_, .inl rfl, rfl⟩
  have eG : W.foldl (fun b w => Nat.gcd b (rowW Q W w)) 0 = gl (W.map (rowW Q W)) := by
    have := gcd_fold (W.map (rowW Q W)) 0
    rw [List.foldl_map, Nat.gcd_zero_left] at this
    exact this
  rw [eG] at e2
  refine rI_seq (ρ1 := [.c (lineD Q W), .c (iN 1), .c (iN 0), .no, .no, .no, .no]) (by simp [execs, exec, ev.eq_1, ev.eq_2, ev.eq_3, ev.eq_4, ev.eq_5, ev.eq_6, ev.eq_7, ev.eq_8, ev.eq_9, ev.eq_10, ev.eq_11, ev.eq_12, ev.eq_13, ev.eq_14, ev.eq_15, ev.eq_16, ev.eq_17, ev.eq_18, ev.eq_19, ev_lc, evAnd, evOr, evCh, evR, evC, evA, evP, evIf, evT, evO, PL.bind, sb, biR, negR, binR, idxR, sliR, metR, cmpR, truthR, callR, iosOf, derefs, putBack, PL.cold, peeks, peek, gets, ofO, retOf, slotOf, setAll, isHot, subAt, recvOk, isMut, isUpd, recvD, dctR, biD, one, ovS, seq?, isInst, PyData.isInt, PyData.isBool, PyData.isTuple, truthD, PyData.truthy, entry, asgT, asgTs, wipeE, notHot, backE, it_lst, it_tpl, it_r1, it_r2, it_r3, it_enum, it_zip, rg1, rg2, ints?, intR, setD, retIs_rt, nxIs_nx, retH_rt, nxH_nx, PyData.isList, PyData.isDict, PyData.isStr, List.range, List.range.loop, sz0, sz1, sz2, sz3, sz4, sz5, sz6, sz7, sz8, sz9, sz10, sz11, sz12, entry, d_law_whole]; exact ⟨rfl, rfl⟩) (rI_seq (exec_fr (ds := [lineD Q W]) (by simp [execs, exec, ev.eq_1, ev.eq_2, ev.eq_3, ev.eq_4, ev.eq_5, ev.eq_6, ev.eq_7, ev.eq_8, ev.eq_9, ev.eq_10, ev.eq_11, ev.eq_12, ev.eq_13, ev.eq_14, ev.eq_15, ev.eq_16, ev.eq_17, ev.eq_18, ev.eq_19, ev_lc, evAnd, evOr, evCh, evR, evC, evA, evP, evIf, evT, evO, PL.bind, sb, biR, negR, binR, idxR, sliR, metR, cmpR, truthR, callR, iosOf, derefs, putBack, PL.cold, peeks, peek, gets, ofO, retOf, slotOf, setAll, isHot, subAt, recvOk, isMut, isUpd, recvD, dctR, biD, one, ovS, seq?, isInst, PyData.isInt, PyData.isBool, PyData.isTuple, truthD, PyData.truthy, entry, asgT, asgTs, wipeE, notHot, backE, it_lst, it_tpl, it_r1, it_r2, it_r3, it_enum, it_zip, rg1, rg2, ints?, intR, setD, retIs_rt, nxIs_nx, retH_rt, nxH_nx, PyData.isList, PyData.isDict, PyData.isStr, List.range, List.range.loop, sz0, sz1, sz2, sz3, sz4, sz5, sz6, sz7, sz8, sz9, sz10, sz11, sz12]) rfl e1) (rI_seq (rows s3 s4 hs3 hs4) (rI_seq (exec_fr (ds := [.list (W.map fun w => iN (rowW Q W w))]) (by simp [execs, exec, ev.eq_1, ev.eq_2, ev.eq_3, ev.eq_4, ev.eq_5, ev.eq_6, ev.eq_7, ev.eq_8, ev.eq_9, ev.eq_10, ev.eq_11, ev.eq_12, ev.eq_13, ev.eq_14, ev.eq_15, ev.eq_16, ev.eq_17, ev.eq_18, ev.eq_19, ev_lc, evAnd, evOr, evCh, evR, evC, evA, evP, evIf, evT, evO, PL.bind, sb, biR, negR, binR, idxR, sliR, metR, cmpR, truthR, callR, iosOf, derefs, putBack, PL.cold, peeks, peek, gets, ofO, retOf, slotOf, setAll, isHot, subAt, recvOk, isMut, isUpd, recvD, dctR, biD, one, ovS, seq?, isInst, PyData.isInt, PyData.isBool, PyData.isTuple, truthD, PyData.truthy, entry, asgT, asgTs, wipeE, notHot, backE, it_lst, it_tpl, it_r1, it_r2, it_r3, it_enum, it_zip, rg1, rg2, ints?, intR, setD, retIs_rt, nxIs_nx, retH_rt, nxH_nx, PyData.isList, PyData.isDict, PyData.isStr, List.range, List.range.loop, sz0, sz1, sz2, sz3, sz4, sz5, sz6, sz7, sz8, sz9, sz10, sz11, sz12]) rfl e2) ?_)))
  have gp : ∀ w ∈ W, 0 < gl (W.map (rowW Q W)) ∧ gl (W.map (rowW Q W)) ≤ BB := fun w hw => by
    have d := gl_dvd (List.mem_map_of_mem (f := rowW Q W) hw)
    exact ⟨Nat.pos_of_dvd_of_pos d (row_pos h hw), Nat.le_trans (Nat.le_of_dvd (row_pos h hw) d) (row_le h hw)⟩
  have st : ∀ w ∈ W, ∀ ρ : PL.Env, ρ = [.c (lineD Q W), .c (iN (lineB Q W)), .c (iN (gl (W.map (rowW Q W)))), s3, s4, .c (.list (W.map fun w => iN (rowW Q W w))), .no] → stepF (.nm 6) (fun x => Out.ok true x) (ev ⟨dfs, callD dfs N (n + 1)⟩ (.bin .FloorDiv (.var 6) (.var 2))) [6] (iN (rowW Q W w)) ρ = .ok (some (iN (w / gl W))) ρ := fun w hw ρ e => by
    subst e
    have d := d_div (a := rowW Q W w) (gp w hw).1 (gp w hw).2
    rw [row_low h w hw] at d
    simp [execs, exec, ev.eq_1, ev.eq_2, ev.eq_3, ev.eq_4, ev.eq_5, ev.eq_6, ev.eq_7, ev.eq_8, ev.eq_9, ev.eq_10, ev.eq_11, ev.eq_12, ev.eq_13, ev.eq_14, ev.eq_15, ev.eq_16, ev.eq_17, ev.eq_18, ev.eq_19, ev_lc, evAnd, evOr, evCh, evR, evC, evA, evP, evIf, evT, evO, PL.bind, sb, biR, negR, binR, idxR, sliR, metR, cmpR, truthR, callR, iosOf, derefs, putBack, PL.cold, peeks, peek, gets, ofO, retOf, slotOf, setAll, isHot, subAt, recvOk, isMut, isUpd, recvD, dctR, biD, one, ovS, seq?, isInst, PyData.isInt, PyData.isBool, PyData.isTuple, truthD, PyData.truthy, entry, asgT, asgTs, wipeE, notHot, backE, it_lst, it_tpl, it_r1, it_r2, it_r3, it_enum, it_zip, rg1, rg2, ints?, intR, setD, retIs_rt, nxIs_nx, retH_rt, nxH_nx, PyData.isList, PyData.isDict, PyData.isStr, List.range, List.range.loop, sz0, sz1, sz2, sz3, sz4, sz5, sz6, sz7, sz8, sz9, sz10, sz11, sz12, stepF, d]
  have lc := lcL_all (l := W) (g := fun w => iN (rowW Q W w)) (f := fun w => iN (w / gl W)) (fun w hw => st w hw _ rfl) (by have := h.len; omega)
  have low : (lowW W).map iN = W.map fun w => iN (w / gl W) := by unfold lowW; rw [List.map_map]; rfl
  rw [low]
  rcases hs6 with rfl | ⟨d, rfl⟩
  · simp [execs, exec, ev.eq_1, ev.eq_2, ev.eq_3, ev.eq_4, ev.eq_5, ev.eq_6, ev.eq_7, ev.eq_8, ev.eq_9, ev.eq_10, ev.eq_11, ev.eq_12, ev.eq_13, ev.eq_14, ev.eq_15, ev.eq_16, ev.eq_17, ev.eq_18, ev.eq_19, ev_lc, evAnd, evOr, evCh, evR, evC, evA, evP, evIf, evT, evO, PL.bind, sb, biR, negR, binR, idxR, sliR, metR, cmpR, truthR, callR, iosOf, derefs, putBack, PL.cold, peeks, peek, gets, ofO, retOf, slotOf, setAll, isHot, subAt, recvOk, isMut, isUpd, recvD, dctR, biD, one, ovS, seq?, isInst, PyData.isInt, PyData.isBool, PyData.isTuple, truthD, PyData.truthy, entry, asgT, asgTs, wipeE, notHot, backE, it_lst, it_tpl, it_r1, it_r2, it_r3, it_enum, it_zip, rg1, rg2, ints?, intR, setD, retIs_rt, nxIs_nx, retH_rt, nxH_nx, PyData.isList, PyData.isDict, PyData.isStr, List.range, List.range.loop, sz0, sz1, sz2, sz3, sz4, sz5, sz6, sz7, sz8, sz9, sz10, sz11, sz12, ev_lc, lc]
  · simp [execs, exec, ev.eq_1, ev.eq_2, ev.eq_3, ev.eq_4, ev.eq_5, ev.eq_6, ev.eq_7, ev.eq_8, ev.eq_9, ev.eq_10, ev.eq_11, ev.eq_12, ev.eq_13, ev.eq_14, ev.eq_15, ev.eq_16, ev.eq_17, ev.eq_18, ev.eq_19, ev_lc, evAnd, evOr, evCh, evR, evC, evA, evP, evIf, evT, evO, PL.bind, sb, biR, negR, binR, idxR, sliR, metR, cmpR, truthR, callR, iosOf, derefs, putBack, PL.cold, peeks, peek, gets, ofO, retOf, slotOf, setAll, isHot, subAt, recvOk, isMut, isUpd, recvD, dctR, biD, one, ovS, seq?, isInst, PyData.isInt, PyData.isBool, PyData.isTuple, truthD, PyData.truthy, entry, asgT, asgTs, wipeE, notHot, backE, it_lst, it_tpl, it_r1, it_r2, it_r3, it_enum, it_zip, rg1, rg2, ints?, intR, setD, retIs_rt, nxIs_nx, retH_rt, nxH_nx, PyData.isList, PyData.isDict, PyData.isStr, List.range, List.range.loop, sz0, sz1, sz2, sz3, sz4, sz5, sz6, sz7, sz8, sz9, sz10, sz11, sz12, ev_lc, lc]
end
end PL.L

set_option autoImplicit false
set_option linter.all false
set_option Elab.async false
set_option maxRecDepth 100000
set_option maxHeartbeats 2000000
/-! M4: names_of. -/
namespace PL.L
open PySem PL
namespace Mob
def py : Mob → PyData
  | leaf n => iN n
  | node a l b r => .tuple [iN a, l.py, iN b, r.py]
def hgt : Mob → Nat
  | leaf _ => 0
  | node _ l _ r => 1 + max l.hgt r.hgt
def steps : Mob → Nat
  | leaf _ => 1
  | node _ l _ r => 1 + (l.steps + r.steps)
end Mob
def noC : Ex := (.cmp (.bi .len [(.var 2)]) [.Gt] [(.con (.int 0))])
def noB : List St := [.unp (.tp [(.nm 3), (.nm 4)]) (.met .pop (.var 2) []),
    .ite (.bi (.isinst .tuple) [(.var 3)]) [.ite (.bor [(.cmp (.var 4) [.GtE] [(.gl "MOST_NAMES" (.int 6))]), (.not (.call "is_tuple" [(.var 3), (.con (.int 4)), (.con (.int 4))]))]) [.ret (.con .none)] [],
    .ite (.bor [(.not (.call "is_within" [(.idx (.var 3) (.con (.int 0))), (.con (.int 1)), (.gl "MOST_ARM" (.int 20))])), (.not (.call "is_within" [(.idx (.var 3) (.con (.int 2))), (.con (.int 1)), (.gl "MOST_ARM" (.int 20))]))]) [.ret (.con .none)] [],
    .ex (.met .extend (.var 2) [(.lst [(.tup [(.idx (.var 3) (.con (.int 3))), (.bin .Add (.var 4) (.con (.int 1)))]), (.tup [(.idx (.var 3) (.con (.int 1))), (.bin .Add (.var 4) (.con (.int 1)))])])])] [.ite (.call "is_within" [(.var 3), (.con (.int 0)), (.bin .Sub (.gl "MOST_NAMES" (.int 6)) (.con (.int 1)))]) [.ex (.met .append (.var 1) [(.var 3)])] [.ret (.con .none)]]]
section
variable {N n : Nat}
def envN (t : PyData) (fnd st : List PyData) (s3 s4 : Slot) : PL.Env := [.c t, .h false (.list fnd), .h false (.list st), s3, s4]
def item (m : Mob) (d : Nat) : PyData := .tuple [m.py, iN d]
theorem pop_last (st : List PyData) (x : PyData) : metM .pop (.list (st ++ [x])) [] = some (x, .list st) := by
  simp [metM]
theorem inW_n {k : Nat} {lo hi : Int} (h1 : lo ≤ k) (h2 : (k : Int) ≤ hi) : callD dfs N (n + 2) "is_within" [iN k, .int lo, .int hi] = .ok (.c (.bool true)) [] := by
  rw [l_is_within (defs := dfs) rfl rfl]
  have : inW lo hi (iN k) = true := by simp [inW, iN, h1, h2]
  rw [this]
theorem tup4 (a b c d : PyData) : callD dfs N (n + 1) "is_tuple" [.tuple [a, b, c, d], .int 4, .int 4] = .ok (.c (.bool true)) [] := by
  rw [l_is_tuple (defs := dfs) rfl [a, b, c, d] 4 4 (by simp)]
  rfl
theorem no_leaf {k d : Nat} (hk : k ≤ 5) (t : PyData) (fnd st : List PyData) (hf : fnd.length ≤ 100) (s3 s4 : Slot) :
    execs ⟨dfs, callD dfs N (n + 2)⟩ N noB (envN t fnd (st ++ [item (.leaf k) d]) s3 s4) = .nx (envN t (fnd ++ [iN k]) st (.c (iN k)) (.c (iN d))) := by
  have p := pop_last st (item (.leaf k) d)
  have w := inW_n (N := N) (n := n) (k := k) (lo := 0) (hi := 5) (by omega) (by omega)
  have ap : metM .append (.list fnd) [iN k] = some (.none, .list (fnd ++ [iN k])) := by
    have : szOk fnd.length = true := decide_eq_true (by omega)
    simp [metM, this]
  have sb5 : binD .Sub (.int 6) (.int 1) = some (.val (.int 5)) := rfl
  have nt : PyData.isTuple (iN k) = false := rfl
  have it : item (.leaf k) d = .tuple [iN k, iN d] := rfl
  rw [it] at p
  simp [execs, exec, ev.eq_1, ev.eq_2, ev.eq_3, ev.eq_4, ev.eq_5, ev.eq_6, ev.eq_7, ev.eq_8, ev.eq_9, ev.eq_10, ev.eq_11, ev.eq_12, ev.eq_13, ev.eq_14, ev.eq_15, ev.eq_16, ev.eq_17, ev.eq_18, ev.eq_19, ev_lc, evAnd, evOr, evCh, evR, evC, evA, evP, evIf, evT, evO, PL.bind, sb, biR, negR, binR, idxR, sliR, metR, cmpR, truthR, callR, iosOf, derefs, putBack, PL.cold, peeks, peek, gets, ofO, retOf, slotOf, setAll, isHot, subAt, recvOk, isMut, isUpd, recvD, dctR, biD, one, ovS, seq?, isInst, PyData.isInt, PyData.isBool, PyData.isTuple, truthD, PyData.truthy, entry, asgT, asgTs, wipeE, notHot, backE, it_lst, it_tpl, it_r1, it_r2, it_r3, it_enum, it_zip, rg1, rg2, ints?, intR, setD, retIs_rt, nxIs_nx, retH_rt, nxH_nx, PyData.isList, PyData.isDict, PyData.isStr, List.range, List.range.loop, sz0, sz1, sz2, sz3, sz4, sz5, sz6, sz7, sz8, sz9, sz10, sz11, sz12, noB, envN, it, p, w, ap, sb5, nt, df_is_within, io_is_within, -PyData.isTuple]
theorem no_node {a b d : Nat} {l r : Mob} (ha : 1 ≤ a) (ha' : a ≤ 4) (hb : 1 ≤ b) (hb' : b ≤ 4) (hd : d < 6) (t : PyData) (fnd st : List PyData) (hs : st.length ≤ 100) (s3 s4 : Slot) :
    execs ⟨dfs, callD dfs N (n + 2)⟩ N noB (envN t fnd (st ++ [item (.node a l b r) d]) s3 s4) = .nx (envN t fnd (st ++ [item r (d + 1), item l (d + 1)]) (.c (Mob.py (.node a l b r))) (.c (iN d))) := by
  have p := pop_last st (item (.node a l b r) d)
  have w1 := inW_n (N := N) (n := n) (k := a) (lo := 1) (hi := 20) (by omega) (by omega)
  have w2 := inW_n (N := N) (n := n) (k := b) (lo := 1) (hi := 20) (by omega) (by omega)
  have tp := tup4 (N := N) (n := n + 1) (iN a) l.py (iN b) r.py
  have ex : metM .extend (.list st) [.list [.tuple [r.py, iN (d + 1)], .tuple [l.py, iN (d + 1)]]] = some (.none, .list (st ++ [.tuple [r.py, iN (d + 1)], .tuple [l.py, iN (d + 1)]])) := by
    have : szOk (st.length + 2) = true := decide_eq_true (by omega)
    simp [metM, this]
  have it : item (.node a l b r) d = .tuple [.tuple [iN a, l.py, iN b, r.py], iN d] := rfl
  have il : item l (d + 1) = .tuple [l.py, iN (d + 1)] := rfl
  have ir : item r (d + 1) = .tuple [r.py, iN (d + 1)] := rfl
  have ge : cmpD .GtE (iN d) (.int 6) = some false := by
    rw [iN, cmp_ge, decide_eq_false]; omega
  have ad : binD .Add (iN d) (.int 1) = some (.val (iN (d + 1))) := d_add d 1
  have i0 : idxD (.tuple [iN a, l.py, iN b, r.py]) (.int 0) = some (iN a) := rfl
  have i1 : idxD (.tuple [iN a, l.py, iN b, r.py]) (.int 1) = some l.py := rfl
  have i2 : idxD (.tuple [iN a, l.py, iN b, r.py]) (.int 2) = some (iN b) := rfl
  have i3 : idxD (.tuple [iN a, l.py, iN b, r.py]) (.int 3) = some r.py := rfl
  rw [it] at p
  simp [execs, exec, ev.eq_1, ev.eq_2, ev.eq_3, ev.eq_4, ev.eq_5, ev.eq_6, ev.eq_7, ev.eq_8, ev.eq_9, ev.eq_10, ev.eq_11, ev.eq_12, ev.eq_13, ev.eq_14, ev.eq_15, ev.eq_16, ev.eq_17, ev.eq_18, ev.eq_19, ev_lc, evAnd, evOr, evCh, evR, evC, evA, evP, evIf, evT, evO, PL.bind, sb, biR, negR, binR, idxR, sliR, metR, cmpR, truthR, callR, iosOf, derefs, putBack, PL.cold, peeks, peek, gets, ofO, retOf, slotOf, setAll, isHot, subAt, recvOk, isMut, isUpd, recvD, dctR, biD, one, ovS, seq?, isInst, PyData.isInt, PyData.isBool, PyData.isTuple, truthD, PyData.truthy, entry, asgT, asgTs, wipeE, notHot, backE, it_lst, it_tpl, it_r1, it_r2, it_r3, it_enum, it_zip, rg1, rg2, ints?, intR, setD, retIs_rt, nxIs_nx, retH_rt, nxH_nx, PyData.isList, PyData.isDict, PyData.isStr, List.range, List.range.loop, sz0, sz1, sz2, sz3, sz4, sz5, sz6, sz7, sz8, sz9, sz10, sz11, sz12, noB, envN, it, il, ir, Mob.py, p, w1, w2, tp, ex, ge, ad, i0, i1, i2, i3, df_is_within, io_is_within, df_is_tuple, io_is_tuple]
theorem no_cond (t : PyData) (fnd st : List PyData) (hs : st.length ≤ 1000) (s3 s4 : Slot) : evT ⟨dfs, callD dfs N (n + 2)⟩ noC (envN t fnd st s3 s4) = .ok (decide (st ≠ [])) (envN t fnd st s3 s4) := by
  have z : szOk st.length = true := decide_eq_true (by omega)
  have : decide (0 < st.length) = decide (st ≠ []) := by
    rw [decide_eq_decide]; exact List.length_pos_iff
  simp [execs, exec, ev.eq_1, ev.eq_2, ev.eq_3, ev.eq_4, ev.eq_5, ev.eq_6, ev.eq_7, ev.eq_8, ev.eq_9, ev.eq_10, ev.eq_11, ev.eq_12, ev.eq_13, ev.eq_14, ev.eq_15, ev.eq_16, ev.eq_17, ev.eq_18, ev.eq_19, ev_lc, evAnd, evOr, evCh, evR, evC, evA, evP, evIf, evT, evO, PL.bind, sb, biR, negR, binR, idxR, sliR, metR, cmpR, truthR, callR, iosOf, derefs, putBack, PL.cold, peeks, peek, gets, ofO, retOf, slotOf, setAll, isHot, subAt, recvOk, isMut, isUpd, recvD, dctR, biD, one, ovS, seq?, isInst, PyData.isInt, PyData.isBool, PyData.isTuple, truthD, PyData.truthy, entry, asgT, asgTs, wipeE, notHot, backE, it_lst, it_tpl, it_r1, it_r2, it_r3, it_enum, it_zip, rg1, rg2, ints?, intR, setD, retIs_rt, nxIs_nx, retH_rt, nxH_nx, PyData.isList, PyData.isDict, PyData.isStr, List.range, List.range.loop, sz0, sz1, sz2, sz3, sz4, sz5, sz6, sz7, sz8, sz9, sz10, sz11, sz12, noC, envN, lenD, z, cmp_gt, this]
theorem no_loop : ∀ (m : Mob), m.Ok → (∀ k ∈ m.nms, k ≤ 5) → ∀ (d : Nat), d + m.hgt ≤ 6 → ∀ (t : PyData) (fnd st : List PyData), fnd.length + m.nms.length ≤ 100 → st.length + 2 * m.hgt ≤ 50 → ∀ (s3 s4 : Slot) (M : Nat), ∃ s3' s4' : Slot,
    whileN (evT ⟨dfs, callD dfs N (n + 2)⟩ noC) (execs ⟨dfs, callD dfs N (n + 2)⟩ N noB) (m.steps + M) (envN t fnd (st ++ [item m d]) s3 s4) = whileN (evT ⟨dfs, callD dfs N (n + 2)⟩ noC) (execs ⟨dfs, callD dfs N (n + 2)⟩ N noB) M (envN t (fnd ++ m.nms.map iN) st s3' s4')
  | .leaf k, ok, hn, d, hd, t, fnd, st, hf, hs, s3, s4, M => by
    refine ⟨.c (iN k), .c (iN d), ?_⟩
    rw [Mob.steps, show 1 + M = M + 1 from Nat.add_comm 1 M, whileN, no_cond _ _ _ (by simp; omega)]
    rw [show decide (st ++ [item (.leaf k) d] ≠ []) = true by simp]
    dsimp only
    rw [no_leaf (hn k (by simp [Mob.nms])) t fnd st (by omega)]
    rfl
  | .node a l b r, ok, hn, d, hd, t, fnd, st, hf, hs, s3, s4, M => by
    obtain ⟨ha, ha', hb, hb', hl, hr⟩ := ok
    simp only [Mob.nms, Mob.hgt, List.length_append, List.mem_append] at hf hs hd hn
    have m1 : l.hgt ≤ max l.hgt r.hgt := Nat.le_max_left _ _
    have m2 : r.hgt ≤ max l.hgt r.hgt := Nat.le_max_right _ _
    obtain ⟨u3, u4, e1⟩ := no_loop l hl (fun k hk => hn k (.inl hk)) (d + 1) (by omega) t fnd (st ++ [item r (d + 1)]) (by omega) (by simp; omega) (.c (Mob.py (.node a l b r))) (.c (iN d)) (r.steps + M)
    obtain ⟨v3, v4, e2⟩ := no_loop r hr (fun k hk => hn k (.inr hk)) (d + 1) (by omega) t (fnd ++ l.nms.map iN) st (by simp; omega) (by omega) u3 u4 M
    refine ⟨v3, v4, ?_⟩
    rw [Mob.steps, show 1 + (l.steps + r.steps) + M = (l.steps + (r.steps + M)) + 1 by omega, whileN, no_cond _ _ _ (by simp; omega)]
    rw [show decide (st ++ [item (.node a l b r) d] ≠ []) = true by simp]
    dsimp only
    rw [no_node ha ha' hb hb' (by omega) t fnd st (by omega)]
    dsimp only
    rw [show st ++ [item r (d + 1), item l (d + 1)] = (st ++ [item r (d + 1)]) ++ [item l (d + 1)] by simp, e1, e2]
    simp [Mob.nms]
theorem hgt_le : ∀ m : Mob, m.hgt + 1 ≤ m.nms.length
  | .leaf _ => by simp [Mob.hgt, Mob.nms]
  | .node a l b r => by
    have := hgt_le l
    have := hgt_le r
    simp only [Mob.hgt, Mob.nms, List.length_append]; omega
theorem steps_le : ∀ m : Mob, m.steps + 1 ≤ 2 * m.nms.length
  | .leaf _ => by simp [Mob.steps, Mob.nms]
  | .node a l b r => by
    have := steps_le l
    have := steps_le r
    simp only [Mob.steps, Mob.nms, List.length_append]; omega
/-- a mobile that the program takes, or a part of one -/
structure Part (m : Mob) : Prop where
  ok : m.Ok
  nm : ∀ k ∈ m.nms, k ≤ 5
  len : m.nms.length ≤ 6
theorem Part.left {a b : Nat} {l r : Mob} (h : Part (.node a l b r)) : Part l := ⟨h.ok.2.2.2.2.1, fun k hk => h.nm k (List.mem_append.mpr (.inl hk)), by have := h.len; simp only [Mob.nms, List.length_append] at this; omega⟩
theorem Part.right {a b : Nat} {l r : Mob} (h : Part (.node a l b r)) : Part r := ⟨h.ok.2.2.2.2.2, fun k hk => h.nm k (List.mem_append.mpr (.inr hk)), by have := h.len; simp only [Mob.nms, List.length_append] at this; omega⟩
theorem c_names_of (hN : BB < N) {m : Mob} (h : Part m) : callD dfs N (n + 3) "names_of" [m.py] = .ok (.h false (.list (m.nms.map iN))) [] := by
  refine callD_ret0 (D := d_names_of) rfl rfl rfl ?_
  have hl := h.len
  have h1 := hgt_le m
  have h2 := steps_le m
  obtain ⟨s3, s4, e⟩ := no_loop (N := N) (n := n) m h.ok h.nm 0 (by omega) m.py [] [] (by simp; omega) (by simp; omega) .no .no (N - m.steps)
  obtain ⟨M, hM⟩ : ∃ M, N - m.steps = M + 1 := ⟨N - m.steps - 1, by unfold BB at hN; omega⟩
  rw [show m.steps + (N - m.steps) = N by unfold BB at hN; omega, hM, whileN, no_cond _ _ _ (by simp)] at e
  refine rI_seq (ρ1 := envN m.py [] ([] ++ [item m 0]) .no .no) (by simp [execs, exec, ev.eq_1, ev.eq_2, ev.eq_3, ev.eq_4, ev.eq_5, ev.eq_6, ev.eq_7, ev.eq_8, ev.eq_9, ev.eq_10, ev.eq_11, ev.eq_12, ev.eq_13, ev.eq_14, ev.eq_15, ev.eq_16, ev.eq_17, ev.eq_18, ev.eq_19, ev_lc, evAnd, evOr, evCh, evR, evC, evA, evP, evIf, evT, evO, PL.bind, sb, biR, negR, binR, idxR, sliR, metR, cmpR, truthR, callR, iosOf, derefs, putBack, PL.cold, peeks, peek, gets, ofO, retOf, slotOf, setAll, isHot, subAt, recvOk, isMut, isUpd, recvD, dctR, biD, one, ovS, seq?, isInst, PyData.isInt, PyData.isBool, PyData.isTuple, truthD, PyData.truthy, entry, asgT, asgTs, wipeE, notHot, backE, it_lst, it_tpl, it_r1, it_r2, it_r3, it_enum, it_zip, rg1, rg2, ints?, intR, setD, retIs_rt, nxIs_nx, retH_rt, nxH_nx, PyData.isList, PyData.isDict, PyData.isStr, List.range, List.range.loop, sz0, sz1, sz2, sz3, sz4, sz5, sz6, sz7, sz8, sz9, sz10, sz11, sz12, entry, d_names_of, envN, item]; rfl) (rI_seq (ρ1 := envN m.py ([] ++ m.nms.map iN) [] s3 s4) (by rw [exec]; exact e) ?_)
  simp [execs, exec, ev.eq_1, ev.eq_2, ev.eq_3, ev.eq_4, ev.eq_5, ev.eq_6, ev.eq_7, ev.eq_8, ev.eq_9, ev.eq_10, ev.eq_11, ev.eq_12, ev.eq_13, ev.eq_14, ev.eq_15, ev.eq_16, ev.eq_17, ev.eq_18, ev.eq_19, ev_lc, evAnd, evOr, evCh, evR, evC, evA, evP, evIf, evT, evO, PL.bind, sb, biR, negR, binR, idxR, sliR, metR, cmpR, truthR, callR, iosOf, derefs, putBack, PL.cold, peeks, peek, gets, ofO, retOf, slotOf, setAll, isHot, subAt, recvOk, isMut, isUpd, recvD, dctR, biD, one, ovS, seq?, isInst, PyData.isInt, PyData.isBool, PyData.isTuple, truthD, PyData.truthy, entry, asgT, asgTs, wipeE, notHot, backE, it_lst, it_tpl, it_r1, it_r2, it_r3, it_enum, it_zip, rg1, rg2, ints?, intR, setD, retIs_rt, nxIs_nx, retH_rt, nxH_nx, PyData.isList, PyData.isDict, PyData.isStr, List.range, List.range.loop, sz0, sz1, sz2, sz3, sz4, sz5, sz6, sz7, sz8, sz9, sz10, sz11, sz12, envN]
end
end PL.L

set_option autoImplicit false
set_option linter.all false
set_option Elab.async false
set_option maxRecDepth 100000
set_option maxHeartbeats 2000000
/-! M5: the checks. -/
namespace PL.L
open PySem PL
open PyProof.Rows PySem.W PySem.SeqAt in
theorem insL_perm {α : Type} (le : α → α → Bool) (a : α) : ∀ l : List α, (insL le a l).Perm (a :: l)
  | [] => .refl _
  | b :: l => by
    rw [insL]
    split
    · exact .refl _
    · exact ((insL_perm le a l).cons b).trans (.swap a b l)
theorem insS_perm {α : Type} (le : α → α → Bool) : ∀ l : List α, (insS le l).Perm l
  | [] => .refl _
  | a :: l => by
    rw [insS]
    exact (insL_perm le a _).trans ((insS_perm le l).cons a)
open PyProof.Rows PySem.W PySem.SeqAt in
theorem sortD_pw (l : List PyData) : (sortD l).Pairwise fun a b => (!dataLt b a) = true := by
  have T := PySem.W.sortLe_total (listOrd itemOrd) false keyToks
  have tot : ∀ a b : PyData, ((!dataLt b a) || (!dataLt a b)) = true := fun a b => by
    rw [Bool.or_eq_true]; exact T.total a b
  have srt := List.pairwise_mergeSort (le := fun a b => !dataLt b a) T.trans tot l
  rw [← sortD_merge] at srt
  exact srt
theorem sort_range {l : List Nat} {k : Nat} (h : l.Perm (List.range k)) : sortD (l.map iN) = (List.range k).map iN := by
  refine List.Perm.eq_of_pairwise (le := fun a b => (!W.dataLt b a) = true) ?_ (sortD_pw _) ?_ ((insS_perm _ _).trans (h.map iN))
  · intro a b ha hb h1 h2
    obtain ⟨x, _, rfl⟩ := List.mem_map.mp ((insS_perm _ _).mem_iff.mp ha)
    obtain ⟨y, _, rfl⟩ := List.mem_map.mp hb
    simp only [iN, W.dataLt_int, Bool.not_eq_true', decide_eq_false_iff_not] at h1 h2
    have : x = y := by omega
    rw [this]
  · rw [List.pairwise_map]
    refine List.Pairwise.imp ?_ (List.pairwise_lt_range (n := k))
    intro a b hab
    simp only [iN, W.dataLt_int, Bool.not_eq_true', decide_eq_false_iff_not]
    omega
theorem sorted_range {l : List Nat} {k : Nat} (h : l.Perm (List.range k)) (hk : k ≤ 1000) : sortedD (.list (l.map iN)) = some (.fresh (.list ((List.range k).map iN))) := by
  have hl : l.length = k := by rw [h.length_eq, List.length_range]
  have e : l.map iN = (l.map fun (x : Nat) => (x : Int)).map PyData.int := by rw [List.map_map]; rfl
  have s1 : selfAlike (l.map iN) = true := by
    unfold selfAlike
    refine List.all_eq_true.mpr fun x hx => List.all_eq_true.mpr fun y hy => ?_
    obtain ⟨a, _, rfl⟩ := List.mem_map.mp hx
    obtain ⟨b, _, rfl⟩ := List.mem_map.mp hy
    rfl
  have s2 : deepOks (l.map iN) = true := by rw [e]; exact deeps_ints _
  have s3 : sortKind (l.map iN) = true := by
    unfold sortKind
    rw [Bool.or_eq_true]
    refine .inr (List.all_eq_true.mpr fun x hx => ?_)
    obtain ⟨a, _, rfl⟩ := List.mem_map.mp hx
    rfl
  have s4 : szOk (l.map iN).length = true := decide_eq_true (by rw [List.length_map]; omega)
  have : sortedD (.list (l.map iN)) = sortedL (l.map iN) := rfl
  rw [this, sortedL, s1, s2, s3, s4, sort_range h]
  rfl
section
variable {N n : Nat}
/-- a whole mobile -/
structure Whole (m : Mob) : Prop where
  ok : m.Ok
  pm : m.nms.Perm (List.range m.nms.length)
  len : m.nms.length ≤ 6
theorem Whole.part {m : Mob} (h : Whole m) : Part m := ⟨h.ok, fun k hk => by
  have := List.mem_range.mp (h.pm.mem_iff.mp hk)
  have := h.len; omega, h.len⟩
theorem deep_iN (l : List Nat) : deepOk (.list (l.map iN)) = true := by
  have e : l.map iN = (l.map fun (x : Nat) => (x : Int)).map PyData.int := by rw [List.map_map]; rfl
  rw [e]; exact deep_listI _
theorem len_iN {l : List Nat} (h : l.length ≤ 1000) : lenD (.list (l.map iN)) = some (.val (iN l.length)) := by
  have z : szOk (l.map iN).length = true := decide_eq_true (by rw [List.length_map]; omega)
  have : lenD (.list (l.map iN)) = if szOk (l.map iN).length = true then some (.val (.int ((l.map iN).length : Nat))) else none := rfl
  rw [this, if_pos z, List.length_map]; rfl
theorem range_iN {k : Nat} (h : k ≤ 1000) : PL.rangeL (ints? [iN k]) = some ((upto k).map iN) := by
  have e : PL.rangeL (ints? [iN k]) = lrange 0 k := rfl
  have z1 : szOk ((k : Int) - 0).toNat = true := decide_eq_true (by omega)
  have z2 : szOk (0 : Int).natAbs = true := by decide
  have z3 : szOk (k : Int).natAbs = true := decide_eq_true (by omega)
  rw [e, lrange, z1, z2, z3]
  simp [iN, upto]
theorem c_check_mobile (hN : BB < N) {m : Mob} (h : Whole m) : callD dfs N (n + 4) "check_mobile" [m.py] = .ok (.c .none) [] := by
  refine callD_nx0 (D := d_check_mobile) rfl rfl rfl ?_
  have c : callD dfs N (n + 3) "names_of" [m.py] = .ok (.h false (.list (m.nms.map iN))) [] := c_names_of hN h.part
  have so : sortedD (.list (m.nms.map iN)) = some (.fresh (.list ((upto m.nms.length).map iN))) := sorted_range h.pm (by have := h.len; omega)
  have ln := len_iN (l := m.nms) (by have := h.len; omega)
  have rg := range_iN (k := m.nms.length) (by have := h.len; omega)
  have ne := ne_self (deep_iN (upto m.nms.length))
  have isn : cmpD .Is (.list (m.nms.map iN)) .none = some false := rfl
  refine nI_seq (ρ1 := [.c m.py, .c (.list (m.nms.map iN))]) (by simp [execs, exec, ev.eq_1, ev.eq_2, ev.eq_3, ev.eq_4, ev.eq_5, ev.eq_6, ev.eq_7, ev.eq_8, ev.eq_9, ev.eq_10, ev.eq_11, ev.eq_12, ev.eq_13, ev.eq_14, ev.eq_15, ev.eq_16, ev.eq_17, ev.eq_18, ev.eq_19, ev_lc, evAnd, evOr, evCh, evR, evC, evA, evP, evIf, evT, evO, PL.bind, sb, biR, negR, binR, idxR, sliR, metR, cmpR, truthR, callR, iosOf, derefs, putBack, PL.cold, peeks, peek, gets, ofO, retOf, slotOf, setAll, isHot, subAt, recvOk, isMut, isUpd, recvD, dctR, biD, one, ovS, seq?, isInst, PyData.isInt, PyData.isBool, PyData.isTuple, truthD, PyData.truthy, entry, asgT, asgTs, wipeE, notHot, backE, it_lst, it_tpl, it_r1, it_r2, it_r3, it_enum, it_zip, rg1, rg2, ints?, intR, setD, retIs_rt, nxIs_nx, retH_rt, nxH_nx, PyData.isList, PyData.isDict, PyData.isStr, List.range, List.range.loop, sz0, sz1, sz2, sz3, sz4, sz5, sz6, sz7, sz8, sz9, sz10, sz11, sz12, entry, d_check_mobile, df_names_of, io_names_of, c]) ?_
  simp [execs, exec, ev.eq_1, ev.eq_2, ev.eq_3, ev.eq_4, ev.eq_5, ev.eq_6, ev.eq_7, ev.eq_8, ev.eq_9, ev.eq_10, ev.eq_11, ev.eq_12, ev.eq_13, ev.eq_14, ev.eq_15, ev.eq_16, ev.eq_17, ev.eq_18, ev.eq_19, ev_lc, evAnd, evOr, evCh, evR, evC, evA, evP, evIf, evT, evO, PL.bind, sb, biR, negR, binR, idxR, sliR, metR, cmpR, truthR, callR, iosOf, derefs, putBack, PL.cold, peeks, peek, gets, ofO, retOf, slotOf, setAll, isHot, subAt, recvOk, isMut, isUpd, recvD, dctR, biD, one, ovS, seq?, isInst, PyData.isInt, PyData.isBool, PyData.isTuple, truthD, PyData.truthy, entry, asgT, asgTs, wipeE, notHot, backE, it_lst, it_tpl, it_r1, it_r2, it_r3, it_enum, it_zip, rg1, rg2, ints?, intR, setD, retIs_rt, nxIs_nx, retH_rt, nxH_nx, PyData.isList, PyData.isDict, PyData.isStr, List.range, List.range.loop, sz0, sz1, sz2, sz3, sz4, sz5, sz6, sz7, sz8, sz9, sz10, sz11, sz12, isn, so, ln, rg, ne]
end
end PL.L

set_option autoImplicit false
set_option linter.all false
set_option Elab.async false
set_option maxRecDepth 100000
set_option maxHeartbeats 2000000
/-! M6: weights and tilts. -/
namespace PL.L
open PySem PL
section
variable {N n : Nat}
def tupN (ws : List Nat) : PyData := .tuple (ws.map iN)
structure Wts (m : Mob) (ws : List Nat) : Prop where
  len : ws.length = m.nms.length
  rng : ∀ w ∈ ws, 1 ≤ w ∧ w ≤ 10000
theorem tup_n (ws : List Nat) (h : ws.length ≤ 1000) : callD dfs N (n + 1) "is_tuple" [tupN ws, iN ws.length, iN ws.length] = .ok (.c (.bool true)) [] := by
  have := l_is_tuple (defs := dfs) (N := N) (n := n) rfl (ws.map iN) (ws.length : Int) (ws.length : Int) (by rw [List.length_map]; omega)
  rw [List.length_map] at this
  simpa [tupN, iN] using this
theorem c_check_weights (hN : BB < N) {m : Mob} (h : Whole m) {ws : List Nat} (hw : Wts m ws) : callD dfs N (n + 5) "check_weights" [m.py, tupN ws] = .ok (.c .none) [] := by
  refine callD_nx0 (D := d_check_weights) rfl rfl rfl ?_
  have hl := h.len
  have c1 : callD dfs N (n + 4) "check_mobile" [m.py] = .ok (.c .none) [] := c_check_mobile hN h
  have c2 : callD dfs N (n + 4) "names_of" [m.py] = .ok (.h false (.list (m.nms.map iN))) [] := c_names_of (n := n + 1) hN h.part
  have ln := len_iN (l := m.nms) (by omega)
  have tp : callD dfs N (n + 4) "is_tuple" [tupN ws, iN m.nms.length, iN m.nms.length] = .ok (.c (.bool true)) [] := by
    rw [← hw.len]; exact tup_n (n := n + 3) ws (by have := hw.len; omega)
  have st : ∀ w ∈ ws, ∀ ρ : PL.Env, ρ = [.c m.py, .c (tupN ws), .c (iN m.nms.length), .no] → stepF (.nm 3) (fun x => Out.ok true x) (ev ⟨dfs, callD dfs N (n + 4)⟩ (.call "is_within" [(.var 3), (.con (.int 1)), (.gl "HEAVIEST" (.int 10000))])) [3] (iN w) ρ = .ok (some (.bool true)) ρ := fun w hw' ρ e => by
    subst e
    have := hw.rng w hw'
    have c := inW_n (N := N) (n := n + 2) (k := w) (lo := 1) (hi := 10000) (by omega) (by omega)
    simp [execs, exec, ev.eq_1, ev.eq_2, ev.eq_3, ev.eq_4, ev.eq_5, ev.eq_6, ev.eq_7, ev.eq_8, ev.eq_9, ev.eq_10, ev.eq_11, ev.eq_12, ev.eq_13, ev.eq_14, ev.eq_15, ev.eq_16, ev.eq_17, ev.eq_18, ev.eq_19, ev_lc, evAnd, evOr, evCh, evR, evC, evA, evP, evIf, evT, evO, PL.bind, sb, biR, negR, binR, idxR, sliR, metR, cmpR, truthR, callR, iosOf, derefs, putBack, PL.cold, peeks, peek, gets, ofO, retOf, slotOf, setAll, isHot, subAt, recvOk, isMut, isUpd, recvD, dctR, biD, one, ovS, seq?, isInst, PyData.isInt, PyData.isBool, PyData.isTuple, truthD, PyData.truthy, entry, asgT, asgTs, wipeE, notHot, backE, it_lst, it_tpl, it_r1, it_r2, it_r3, it_enum, it_zip, rg1, rg2, ints?, intR, setD, retIs_rt, nxIs_nx, retH_rt, nxH_nx, PyData.isList, PyData.isDict, PyData.isStr, List.range, List.range.loop, sz0, sz1, sz2, sz3, sz4, sz5, sz6, sz7, sz8, sz9, sz10, sz11, sz12, stepF, df_is_within, io_is_within, c]
  have lc := fun ρ e => lcL_all (l := ws) (g := iN) (f := fun _ => .bool true) (fun w hw' => st w hw' ρ e) (by have := hw.len; omega)
  have lc := lc _ rfl
  have it : itemsD .plain [tupN ws] = some (ws.map iN) := rfl
  have al : allL (ws.map fun _ => PyData.bool true) = some (.val (.bool true)) := allL_true fun _ _ => rfl
  refine nI_seq (ρ1 := [.c m.py, .c (tupN ws), .no, .no]) (by simp [execs, exec, ev.eq_1, ev.eq_2, ev.eq_3, ev.eq_4, ev.eq_5, ev.eq_6, ev.eq_7, ev.eq_8, ev.eq_9, ev.eq_10, ev.eq_11, ev.eq_12, ev.eq_13, ev.eq_14, ev.eq_15, ev.eq_16, ev.eq_17, ev.eq_18, ev.eq_19, ev_lc, evAnd, evOr, evCh, evR, evC, evA, evP, evIf, evT, evO, PL.bind, sb, biR, negR, binR, idxR, sliR, metR, cmpR, truthR, callR, iosOf, derefs, putBack, PL.cold, peeks, peek, gets, ofO, retOf, slotOf, setAll, isHot, subAt, recvOk, isMut, isUpd, recvD, dctR, biD, one, ovS, seq?, isInst, PyData.isInt, PyData.isBool, PyData.isTuple, truthD, PyData.truthy, entry, asgT, asgTs, wipeE, notHot, backE, it_lst, it_tpl, it_r1, it_r2, it_r3, it_enum, it_zip, rg1, rg2, ints?, intR, setD, retIs_rt, nxIs_nx, retH_rt, nxH_nx, PyData.isList, PyData.isDict, PyData.isStr, List.range, List.range.loop, sz0, sz1, sz2, sz3, sz4, sz5, sz6, sz7, sz8, sz9, sz10, sz11, sz12, entry, d_check_weights, df_check_mobile, io_check_mobile, c1]) (nI_seq (ρ1 := [.c m.py, .c (tupN ws), .c (iN m.nms.length), .no]) (by simp [execs, exec, ev.eq_1, ev.eq_2, ev.eq_3, ev.eq_4, ev.eq_5, ev.eq_6, ev.eq_7, ev.eq_8, ev.eq_9, ev.eq_10, ev.eq_11, ev.eq_12, ev.eq_13, ev.eq_14, ev.eq_15, ev.eq_16, ev.eq_17, ev.eq_18, ev.eq_19, ev_lc, evAnd, evOr, evCh, evR, evC, evA, evP, evIf, evT, evO, PL.bind, sb, biR, negR, binR, idxR, sliR, metR, cmpR, truthR, callR, iosOf, derefs, putBack, PL.cold, peeks, peek, gets, ofO, retOf, slotOf, setAll, isHot, subAt, recvOk, isMut, isUpd, recvD, dctR, biD, one, ovS, seq?, isInst, PyData.isInt, PyData.isBool, PyData.isTuple, truthD, PyData.truthy, entry, asgT, asgTs, wipeE, notHot, backE, it_lst, it_tpl, it_r1, it_r2, it_r3, it_enum, it_zip, rg1, rg2, ints?, intR, setD, retIs_rt, nxIs_nx, retH_rt, nxH_nx, PyData.isList, PyData.isDict, PyData.isStr, List.range, List.range.loop, sz0, sz1, sz2, sz3, sz4, sz5, sz6, sz7, sz8, sz9, sz10, sz11, sz12, df_names_of, io_names_of, c2, ln]) ?_)
  simp [execs, exec, ev.eq_1, ev.eq_2, ev.eq_3, ev.eq_4, ev.eq_5, ev.eq_6, ev.eq_7, ev.eq_8, ev.eq_9, ev.eq_10, ev.eq_11, ev.eq_12, ev.eq_13, ev.eq_14, ev.eq_15, ev.eq_16, ev.eq_17, ev.eq_18, ev.eq_19, ev_lc, evAnd, evOr, evCh, evR, evC, evA, evP, evIf, evT, evO, PL.bind, sb, biR, negR, binR, idxR, sliR, metR, cmpR, truthR, callR, iosOf, derefs, putBack, PL.cold, peeks, peek, gets, ofO, retOf, slotOf, setAll, isHot, subAt, recvOk, isMut, isUpd, recvD, dctR, biD, one, ovS, seq?, isInst, PyData.isInt, PyData.isBool, PyData.isTuple, truthD, PyData.truthy, entry, asgT, asgTs, wipeE, notHot, backE, it_lst, it_tpl, it_r1, it_r2, it_r3, it_enum, it_zip, rg1, rg2, ints?, intR, setD, retIs_rt, nxIs_nx, retH_rt, nxH_nx, PyData.isList, PyData.isDict, PyData.isStr, List.range, List.range.loop, sz0, sz1, sz2, sz3, sz4, sz5, sz6, sz7, sz8, sz9, sz10, sz11, sz12, df_is_tuple, io_is_tuple, tp, ev_lc, it, lc, al]
def wfn (ws : List Nat) (k : Nat) : Int := ((ws.getD k 0 : Nat) : Int)
theorem idx_w {ws : List Nat} {k : Nat} (h : k < ws.length) : idxD (tupN ws) (iN k) = some (.int (wfn ws k)) := by
  refine idx_mapT (f := iN) (l := ws) ?_
  rw [List.getD_eq_getElem?_getD, List.getElem?_eq_getElem h]; rfl
theorem c_weight_of (hN : BB < N) {m : Mob} (h : Part m) {ws : List Nat} (hw : ∀ k ∈ m.nms, k < ws.length) : callD dfs N (n + 4) "weight_of" [m.py, tupN ws] = .ok (.c (.int (m.wt (wfn ws)))) [] := by
  refine callD_ret0 (D := d_weight_of) rfl rfl rfl ?_
  have hl := h.len
  have c2 : callD dfs N (n + 3) "names_of" [m.py] = .ok (.h false (.list (m.nms.map iN))) [] := c_names_of (n := n) hN h
  have st : ∀ k ∈ m.nms, ∀ ρ : PL.Env, ρ = [.c m.py, .c (tupN ws), .no] → stepF (.nm 2) (fun x => Out.ok true x) (ev ⟨dfs, callD dfs N (n + 3)⟩ (.idx (.var 1) (.var 2))) [2] (iN k) ρ = .ok (some (.int (wfn ws k))) ρ := fun k hk ρ e => by
    subst e
    have i := idx_w (hw k hk)
    simp [execs, exec, ev.eq_1, ev.eq_2, ev.eq_3, ev.eq_4, ev.eq_5, ev.eq_6, ev.eq_7, ev.eq_8, ev.eq_9, ev.eq_10, ev.eq_11, ev.eq_12, ev.eq_13, ev.eq_14, ev.eq_15, ev.eq_16, ev.eq_17, ev.eq_18, ev.eq_19, ev_lc, evAnd, evOr, evCh, evR, evC, evA, evP, evIf, evT, evO, PL.bind, sb, biR, negR, binR, idxR, sliR, metR, cmpR, truthR, callR, iosOf, derefs, putBack, PL.cold, peeks, peek, gets, ofO, retOf, slotOf, setAll, isHot, subAt, recvOk, isMut, isUpd, recvD, dctR, biD, one, ovS, seq?, isInst, PyData.isInt, PyData.isBool, PyData.isTuple, truthD, PyData.truthy, entry, asgT, asgTs, wipeE, notHot, backE, it_lst, it_tpl, it_r1, it_r2, it_r3, it_enum, it_zip, rg1, rg2, ints?, intR, setD, retIs_rt, nxIs_nx, retH_rt, nxH_nx, PyData.isList, PyData.isDict, PyData.isStr, List.range, List.range.loop, sz0, sz1, sz2, sz3, sz4, sz5, sz6, sz7, sz8, sz9, sz10, sz11, sz12, stepF, i]
  have lc := lcL_all (l := m.nms) (g := iN) (f := fun k => .int (wfn ws k)) (fun w hw' => st w hw' _ rfl) (by omega)
  have sm := sum_map (h := wfn ws) (l := m.nms)
  rw [Mob.wt_nms] at sm
  have it : itemsD .plain [.list (m.nms.map iN)] = some (m.nms.map iN) := rfl
  simp [execs, exec, ev.eq_1, ev.eq_2, ev.eq_3, ev.eq_4, ev.eq_5, ev.eq_6, ev.eq_7, ev.eq_8, ev.eq_9, ev.eq_10, ev.eq_11, ev.eq_12, ev.eq_13, ev.eq_14, ev.eq_15, ev.eq_16, ev.eq_17, ev.eq_18, ev.eq_19, ev_lc, evAnd, evOr, evCh, evR, evC, evA, evP, evIf, evT, evO, PL.bind, sb, biR, negR, binR, idxR, sliR, metR, cmpR, truthR, callR, iosOf, derefs, putBack, PL.cold, peeks, peek, gets, ofO, retOf, slotOf, setAll, isHot, subAt, recvOk, isMut, isUpd, recvD, dctR, biD, one, ovS, seq?, isInst, PyData.isInt, PyData.isBool, PyData.isTuple, truthD, PyData.truthy, entry, asgT, asgTs, wipeE, notHot, backE, it_lst, it_tpl, it_r1, it_r2, it_r3, it_enum, it_zip, rg1, rg2, ints?, intR, setD, retIs_rt, nxIs_nx, retH_rt, nxH_nx, PyData.isList, PyData.isDict, PyData.isStr, List.range, List.range.loop, sz0, sz1, sz2, sz3, sz4, sz5, sz6, sz7, sz8, sz9, sz10, sz11, sz12, d_weight_of, b_weight_of, df_names_of, io_names_of, c2, ev_lc, lc, sm]
end
end PL.L

set_option autoImplicit false
set_option linter.all false
set_option Elab.async false
set_option maxRecDepth 100000
set_option maxHeartbeats 2000000
/-! M7: tilts. -/
namespace PL.L
open PySem PL
section
variable {N n : Nat}
def tword (x : Int) : PyData := .str (if x = 0 then "level" else if x > 0 then "left" else "right")
def Mob.words (w : Nat → Int) : Mob → List PyData
  | .leaf _ => []
  | .node a l b r => tword ((a : Int) * l.wt w - b * r.wt w) :: (l.words w ++ r.words w)
theorem words_len (w : Nat → Int) : ∀ m : Mob, (m.words w).length + 1 = m.nms.length
  | .leaf _ => rfl
  | .node a l b r => by
    have := words_len w l
    have := words_len w r
    simp only [Mob.words, Mob.nms, List.length_cons, List.length_append]; omega
theorem add_lists {xs ys : List PyData} (h : xs.length + ys.length ≤ 1000) : binD .Add (.list xs) (.list ys) = some (.fresh (.list (xs ++ ys))) := by
  have z : szOk (xs.length + ys.length) = true := decide_eq_true (by omega)
  simp [binD, z]
theorem d_mulZ {a : Nat} (h : a ≤ BB) (x : Int) : binD .Mult (iN a) (.int x) = some (.val (.int ((a : Int) * x))) := by
  have : binD .Mult (iN a) (.int x) = if mulOk (a : Int) x then some (.val (.int ((a : Int) * x))) else none := rfl
  rw [this, if_pos (mul_l (small_n h))]
theorem c_tilts_of (hN : BB < N) {ws : List Nat} : ∀ {m : Mob}, Part m → (∀ k ∈ m.nms, k < ws.length) → ∀ n : Nat, callD dfs N (n + m.hgt + 5) "tilts_of" [m.py, tupN ws] = .ok (.h false (.list (m.words (wfn ws)))) []
  | .leaf k, h, hw, n => by
    refine callD_ret0 (D := d_tilts_of) rfl rfl rfl ?_
    have nt : PyData.isTuple (iN k) = false := rfl
    simp [execs, exec, ev.eq_1, ev.eq_2, ev.eq_3, ev.eq_4, ev.eq_5, ev.eq_6, ev.eq_7, ev.eq_8, ev.eq_9, ev.eq_10, ev.eq_11, ev.eq_12, ev.eq_13, ev.eq_14, ev.eq_15, ev.eq_16, ev.eq_17, ev.eq_18, ev.eq_19, ev_lc, evAnd, evOr, evCh, evR, evC, evA, evP, evIf, evT, evO, PL.bind, sb, biR, negR, binR, idxR, sliR, metR, cmpR, truthR, callR, iosOf, derefs, putBack, PL.cold, peeks, peek, gets, ofO, retOf, slotOf, setAll, isHot, subAt, recvOk, isMut, isUpd, recvD, dctR, biD, one, ovS, seq?, isInst, PyData.isInt, PyData.isBool, PyData.isTuple, truthD, PyData.truthy, entry, asgT, asgTs, wipeE, notHot, backE, it_lst, it_tpl, it_r1, it_r2, it_r3, it_enum, it_zip, rg1, rg2, ints?, intR, setD, retIs_rt, nxIs_nx, retH_rt, nxH_nx, PyData.isList, PyData.isDict, PyData.isStr, List.range, List.range.loop, sz0, sz1, sz2, sz3, sz4, sz5, sz6, sz7, sz8, sz9, sz10, sz11, sz12, d_tilts_of, b_tilts_of, Mob.py, nt, Mob.words, -PyData.isTuple]
  | .node a l b r, h, hw, n => by
    refine callD_ret0 (D := d_tilts_of) rfl rfl rfl ?_
    obtain ⟨ha, ha', hb, hb', _, _⟩ := h.ok
    have wl : ∀ k ∈ l.nms, k < ws.length := fun k hk => hw k (List.mem_append.mpr (.inl hk))
    have wr : ∀ k ∈ r.nms, k < ws.length := fun k hk => hw k (List.mem_append.mpr (.inr hk))
    have m1 : l.hgt ≤ max l.hgt r.hgt := Nat.le_max_left _ _
    have m2 : r.hgt ≤ max l.hgt r.hgt := Nat.le_max_right _ _
    have hl := h.left.len
    have hr := h.right.len
    have wwl := words_len (wfn ws) l
    have wwr := words_len (wfn ws) r
    obtain ⟨F, hF⟩ : ∃ F, n + (Mob.node a l b r).hgt + 4 = F := ⟨_, rfl⟩
    have c1 : callD dfs N F "weight_of" [l.py, tupN ws] = .ok (.c (.int (l.wt (wfn ws)))) [] := by
      rw [← hF]; exact c_weight_of (n := n + (Mob.node a l b r).hgt) hN h.left wl
    have c2 : callD dfs N F "weight_of" [r.py, tupN ws] = .ok (.c (.int (r.wt (wfn ws)))) [] := by
      rw [← hF]; exact c_weight_of (n := n + (Mob.node a l b r).hgt) hN h.right wr
    have t1 : callD dfs N F "tilts_of" [l.py, tupN ws] = .ok (.h false (.list (l.words (wfn ws)))) [] := by
      have := c_tilts_of hN h.left wl (n + (max l.hgt r.hgt - l.hgt))
      rw [← hF, Mob.hgt]
      rwa [show n + (max l.hgt r.hgt - l.hgt) + l.hgt + 5 = n + (1 + max l.hgt r.hgt) + 4 by omega] at this
    have t2 : callD dfs N F "tilts_of" [r.py, tupN ws] = .ok (.h false (.list (r.words (wfn ws)))) [] := by
      have := c_tilts_of hN h.right wr (n + (max l.hgt r.hgt - r.hgt))
      rw [← hF, Mob.hgt]
      rwa [show n + (max l.hgt r.hgt - r.hgt) + r.hgt + 5 = n + (1 + max l.hgt r.hgt) + 4 by omega] at this
    have p1 := d_mulZ (a := a) (by unfold BB; omega) (l.wt (wfn ws))
    have p2 := d_mulZ (a := b) (by unfold BB; omega) (r.wt (wfn ws))
    have sbD : ∀ x y : Int, binD .Sub (.int x) (.int y) = some (.val (.int (x - y))) := fun _ _ => rfl
    have a1 := add_lists (xs := [tword ((a : Int) * l.wt (wfn ws) - b * r.wt (wfn ws))]) (ys := l.words (wfn ws)) (by simp; omega)
    have a2 := add_lists (xs := [tword ((a : Int) * l.wt (wfn ws) - b * r.wt (wfn ws))] ++ l.words (wfn ws)) (ys := r.words (wfn ws)) (by simp; omega)
    rw [hF]
    refine rI_seq (ρ1 := [.c (Mob.py (.node a l b r)), .c (tupN ws), .no, .no, .no, .no, .no, .no]) (by simp [execs, exec, ev.eq_1, ev.eq_2, ev.eq_3, ev.eq_4, ev.eq_5, ev.eq_6, ev.eq_7, ev.eq_8, ev.eq_9, ev.eq_10, ev.eq_11, ev.eq_12, ev.eq_13, ev.eq_14, ev.eq_15, ev.eq_16, ev.eq_17, ev.eq_18, ev.eq_19, ev_lc, evAnd, evOr, evCh, evR, evC, evA, evP, evIf, evT, evO, PL.bind, sb, biR, negR, binR, idxR, sliR, metR, cmpR, truthR, callR, iosOf, derefs, putBack, PL.cold, peeks, peek, gets, ofO, retOf, slotOf, setAll, isHot, subAt, recvOk, isMut, isUpd, recvD, dctR, biD, one, ovS, seq?, isInst, PyData.isInt, PyData.isBool, PyData.isTuple, truthD, PyData.truthy, entry, asgT, asgTs, wipeE, notHot, backE, it_lst, it_tpl, it_r1, it_r2, it_r3, it_enum, it_zip, rg1, rg2, ints?, intR, setD, retIs_rt, nxIs_nx, retH_rt, nxH_nx, PyData.isList, PyData.isDict, PyData.isStr, List.range, List.range.loop, sz0, sz1, sz2, sz3, sz4, sz5, sz6, sz7, sz8, sz9, sz10, sz11, sz12, entry, d_tilts_of, Mob.py]) (rI_seq (ρ1 := [.c (Mob.py (.node a l b r)), .c (tupN ws), .c (iN a), .c l.py, .c (iN b), .c r.py, .no, .no]) (by simp [execs, exec, ev.eq_1, ev.eq_2, ev.eq_3, ev.eq_4, ev.eq_5, ev.eq_6, ev.eq_7, ev.eq_8, ev.eq_9, ev.eq_10, ev.eq_11, ev.eq_12, ev.eq_13, ev.eq_14, ev.eq_15, ev.eq_16, ev.eq_17, ev.eq_18, ev.eq_19, ev_lc, evAnd, evOr, evCh, evR, evC, evA, evP, evIf, evT, evO, PL.bind, sb, biR, negR, binR, idxR, sliR, metR, cmpR, truthR, callR, iosOf, derefs, putBack, PL.cold, peeks, peek, gets, ofO, retOf, slotOf, setAll, isHot, subAt, recvOk, isMut, isUpd, recvD, dctR, biD, one, ovS, seq?, isInst, PyData.isInt, PyData.isBool, PyData.isTuple, truthD, PyData.truthy, entry, asgT, asgTs, wipeE, notHot, backE, it_lst, it_tpl, it_r1, it_r2, it_r3, it_enum, it_zip, rg1, rg2, ints?, intR, setD, retIs_rt, nxIs_nx, retH_rt, nxH_nx, PyData.isList, PyData.isDict, PyData.isStr, List.range, List.range.loop, sz0, sz1, sz2, sz3, sz4, sz5, sz6, sz7, sz8, sz9, sz10, sz11, sz12, Mob.py]) (rI_seq (ρ1 := [.c (Mob.py (.node a l b r)), .c (tupN ws), .c (iN a), .c l.py, .c (iN b), .c r.py, .c (.int ((a : Int) * l.wt (wfn ws) - b * r.wt (wfn ws))), .no]) (by simp [execs, exec, ev.eq_1, ev.eq_2, ev.eq_3, ev.eq_4, ev.eq_5, ev.eq_6, ev.eq_7, ev.eq_8, ev.eq_9, ev.eq_10, ev.eq_11, ev.eq_12, ev.eq_13, ev.eq_14, ev.eq_15, ev.eq_16, ev.eq_17, ev.eq_18, ev.eq_19, ev_lc, evAnd, evOr, evCh, evR, evC, evA, evP, evIf, evT, evO, PL.bind, sb, biR, negR, binR, idxR, sliR, metR, cmpR, truthR, callR, iosOf, derefs, putBack, PL.cold, peeks, peek, gets, ofO, retOf, slotOf, setAll, isHot, subAt, recvOk, isMut, isUpd, recvD, dctR, biD, one, ovS, seq?, isInst, PyData.isInt, PyData.isBool, PyData.isTuple, truthD, PyData.truthy, entry, asgT, asgTs, wipeE, notHot, backE, it_lst, it_tpl, it_r1, it_r2, it_r3, it_enum, it_zip, rg1, rg2, ints?, intR, setD, retIs_rt, nxIs_nx, retH_rt, nxH_nx, PyData.isList, PyData.isDict, PyData.isStr, List.range, List.range.loop, sz0, sz1, sz2, sz3, sz4, sz5, sz6, sz7, sz8, sz9, sz10, sz11, sz12, df_weight_of, io_weight_of, c1, c2, p1, p2, sbD]) (rI_seq (ρ1 := [.c (Mob.py (.node a l b r)), .c (tupN ws), .c (iN a), .c l.py, .c (iN b), .c r.py, .c (.int ((a : Int) * l.wt (wfn ws) - b * r.wt (wfn ws))), .c (tword ((a : Int) * l.wt (wfn ws) - b * r.wt (wfn ws)))]) ?_ ?_)))
    · generalize (a : Int) * l.wt (wfn ws) - b * r.wt (wfn ws) = x
      by_cases x0 : x = 0
      · simp [execs, exec, ev.eq_1, ev.eq_2, ev.eq_3, ev.eq_4, ev.eq_5, ev.eq_6, ev.eq_7, ev.eq_8, ev.eq_9, ev.eq_10, ev.eq_11, ev.eq_12, ev.eq_13, ev.eq_14, ev.eq_15, ev.eq_16, ev.eq_17, ev.eq_18, ev.eq_19, ev_lc, evAnd, evOr, evCh, evR, evC, evA, evP, evIf, evT, evO, PL.bind, sb, biR, negR, binR, idxR, sliR, metR, cmpR, truthR, callR, iosOf, derefs, putBack, PL.cold, peeks, peek, gets, ofO, retOf, slotOf, setAll, isHot, subAt, recvOk, isMut, isUpd, recvD, dctR, biD, one, ovS, seq?, isInst, PyData.isInt, PyData.isBool, PyData.isTuple, truthD, PyData.truthy, entry, asgT, asgTs, wipeE, notHot, backE, it_lst, it_tpl, it_r1, it_r2, it_r3, it_enum, it_zip, rg1, rg2, ints?, intR, setD, retIs_rt, nxIs_nx, retH_rt, nxH_nx, PyData.isList, PyData.isDict, PyData.isStr, List.range, List.range.loop, sz0, sz1, sz2, sz3, sz4, sz5, sz6, sz7, sz8, sz9, sz10, sz11, sz12, cmp_eq, x0, tword]
      · by_cases x1 : x > 0
        · simp [execs, exec, ev.eq_1, ev.eq_2, ev.eq_3, ev.eq_4, ev.eq_5, ev.eq_6, ev.eq_7, ev.eq_8, ev.eq_9, ev.eq_10, ev.eq_11, ev.eq_12, ev.eq_13, ev.eq_14, ev.eq_15, ev.eq_16, ev.eq_17, ev.eq_18, ev.eq_19, ev_lc, evAnd, evOr, evCh, evR, evC, evA, evP, evIf, evT, evO, PL.bind, sb, biR, negR, binR, idxR, sliR, metR, cmpR, truthR, callR, iosOf, derefs, putBack, PL.cold, peeks, peek, gets, ofO, retOf, slotOf, setAll, isHot, subAt, recvOk, isMut, isUpd, recvD, dctR, biD, one, ovS, seq?, isInst, PyData.isInt, PyData.isBool, PyData.isTuple, truthD, PyData.truthy, entry, asgT, asgTs, wipeE, notHot, backE, it_lst, it_tpl, it_r1, it_r2, it_r3, it_enum, it_zip, rg1, rg2, ints?, intR, setD, retIs_rt, nxIs_nx, retH_rt, nxH_nx, PyData.isList, PyData.isDict, PyData.isStr, List.range, List.range.loop, sz0, sz1, sz2, sz3, sz4, sz5, sz6, sz7, sz8, sz9, sz10, sz11, sz12, cmp_eq, cmp_gt, x0, x1, tword]
        · simp [execs, exec, ev.eq_1, ev.eq_2, ev.eq_3, ev.eq_4, ev.eq_5, ev.eq_6, ev.eq_7, ev.eq_8, ev.eq_9, ev.eq_10, ev.eq_11, ev.eq_12, ev.eq_13, ev.eq_14, ev.eq_15, ev.eq_16, ev.eq_17, ev.eq_18, ev.eq_19, ev_lc, evAnd, evOr, evCh, evR, evC, evA, evP, evIf, evT, evO, PL.bind, sb, biR, negR, binR, idxR, sliR, metR, cmpR, truthR, callR, iosOf, derefs, putBack, PL.cold, peeks, peek, gets, ofO, retOf, slotOf, setAll, isHot, subAt, recvOk, isMut, isUpd, recvD, dctR, biD, one, ovS, seq?, isInst, PyData.isInt, PyData.isBool, PyData.isTuple, truthD, PyData.truthy, entry, asgT, asgTs, wipeE, notHot, backE, it_lst, it_tpl, it_r1, it_r2, it_r3, it_enum, it_zip, rg1, rg2, ints?, intR, setD, retIs_rt, nxIs_nx, retH_rt, nxH_nx, PyData.isList, PyData.isDict, PyData.isStr, List.range, List.range.loop, sz0, sz1, sz2, sz3, sz4, sz5, sz6, sz7, sz8, sz9, sz10, sz11, sz12, cmp_eq, cmp_gt, x0, x1, tword]
    · rw [Mob.words]
      simp only [List.cons_append, List.nil_append] at a1 a2
      simp [execs, exec, ev.eq_1, ev.eq_2, ev.eq_3, ev.eq_4, ev.eq_5, ev.eq_6, ev.eq_7, ev.eq_8, ev.eq_9, ev.eq_10, ev.eq_11, ev.eq_12, ev.eq_13, ev.eq_14, ev.eq_15, ev.eq_16, ev.eq_17, ev.eq_18, ev.eq_19, ev_lc, evAnd, evOr, evCh, evR, evC, evA, evP, evIf, evT, evO, PL.bind, sb, biR, negR, binR, idxR, sliR, metR, cmpR, truthR, callR, iosOf, derefs, putBack, PL.cold, peeks, peek, gets, ofO, retOf, slotOf, setAll, isHot, subAt, recvOk, isMut, isUpd, recvD, dctR, biD, one, ovS, seq?, isInst, PyData.isInt, PyData.isBool, PyData.isTuple, truthD, PyData.truthy, entry, asgT, asgTs, wipeE, notHot, backE, it_lst, it_tpl, it_r1, it_r2, it_r3, it_enum, it_zip, rg1, rg2, ints?, intR, setD, retIs_rt, nxIs_nx, retH_rt, nxH_nx, PyData.isList, PyData.isDict, PyData.isStr, List.range, List.range.loop, sz0, sz1, sz2, sz3, sz4, sz5, sz6, sz7, sz8, sz9, sz10, sz11, sz12, df_tilts_of, io_tilts_of, t1, t2, a1, a2]
end
end PL.L

set_option autoImplicit false
set_option linter.all false
set_option Elab.async false
set_option maxRecDepth 100000
set_option maxHeartbeats 2000000
/-! M8: tilts, is_level, whole_weight, reach. -/
namespace PL.L
open PySem PL
section
variable {N n : Nat}
theorem Whole.lt {m : Mob} (h : Whole m) {ws : List Nat} (hw : ws.length = m.nms.length) : ∀ k ∈ m.nms, k < ws.length := fun k hk => by
  have := List.mem_range.mp (h.pm.mem_iff.mp hk); omega
theorem tilts_at (hN : BB < N) {m : Mob} (h : Whole m) {ws : List Nat} (hw : ws.length = m.nms.length) (n : Nat) : callD dfs N (n + 10) "tilts_of" [m.py, tupN ws] = .ok (.h false (.list (m.words (wfn ws)))) [] := by
  have a := hgt_le m
  have b := h.len
  have := c_tilts_of hN h.part (h.lt hw) (n + (5 - m.hgt))
  rwa [show n + (5 - m.hgt) + m.hgt + 5 = n + 10 by omega] at this
theorem c_tilts (hN : BB < N) {m : Mob} (h : Whole m) {ws : List Nat} (hw : Wts m ws) : callD dfs N (n + 11) "tilts" [m.py, tupN ws] = .ok (.c (.tuple (m.words (wfn ws)))) [] := by
  refine callD_ret0 (D := d_tilts) rfl rfl rfl ?_
  have c1 : callD dfs N (n + 10) "check_weights" [m.py, tupN ws] = .ok (.c .none) [] := c_check_weights (n := n + 5) hN h hw
  have c2 := tilts_at hN h hw.len n
  refine rI_seq (ρ1 := [.c m.py, .c (tupN ws)]) (by simp [execs, exec, ev.eq_1, ev.eq_2, ev.eq_3, ev.eq_4, ev.eq_5, ev.eq_6, ev.eq_7, ev.eq_8, ev.eq_9, ev.eq_10, ev.eq_11, ev.eq_12, ev.eq_13, ev.eq_14, ev.eq_15, ev.eq_16, ev.eq_17, ev.eq_18, ev.eq_19, ev_lc, evAnd, evOr, evCh, evR, evC, evA, evP, evIf, evT, evO, PL.bind, sb, biR, negR, binR, idxR, sliR, metR, cmpR, truthR, callR, iosOf, derefs, putBack, PL.cold, peeks, peek, gets, ofO, retOf, slotOf, setAll, isHot, subAt, recvOk, isMut, isUpd, recvD, dctR, biD, one, ovS, seq?, isInst, PyData.isInt, PyData.isBool, PyData.isTuple, truthD, PyData.truthy, entry, asgT, asgTs, wipeE, notHot, backE, it_lst, it_tpl, it_r1, it_r2, it_r3, it_enum, it_zip, rg1, rg2, ints?, intR, setD, retIs_rt, nxIs_nx, retH_rt, nxH_nx, PyData.isList, PyData.isDict, PyData.isStr, List.range, List.range.loop, sz0, sz1, sz2, sz3, sz4, sz5, sz6, sz7, sz8, sz9, sz10, sz11, sz12, entry, d_tilts, df_check_weights, io_check_weights, c1]) ?_
  simp [execs, exec, ev.eq_1, ev.eq_2, ev.eq_3, ev.eq_4, ev.eq_5, ev.eq_6, ev.eq_7, ev.eq_8, ev.eq_9, ev.eq_10, ev.eq_11, ev.eq_12, ev.eq_13, ev.eq_14, ev.eq_15, ev.eq_16, ev.eq_17, ev.eq_18, ev.eq_19, ev_lc, evAnd, evOr, evCh, evR, evC, evA, evP, evIf, evT, evO, PL.bind, sb, biR, negR, binR, idxR, sliR, metR, cmpR, truthR, callR, iosOf, derefs, putBack, PL.cold, peeks, peek, gets, ofO, retOf, slotOf, setAll, isHot, subAt, recvOk, isMut, isUpd, recvD, dctR, biD, one, ovS, seq?, isInst, PyData.isInt, PyData.isBool, PyData.isTuple, truthD, PyData.truthy, entry, asgT, asgTs, wipeE, notHot, backE, it_lst, it_tpl, it_r1, it_r2, it_r3, it_enum, it_zip, rg1, rg2, ints?, intR, setD, retIs_rt, nxIs_nx, retH_rt, nxH_nx, PyData.isList, PyData.isDict, PyData.isStr, List.range, List.range.loop, sz0, sz1, sz2, sz3, sz4, sz5, sz6, sz7, sz8, sz9, sz10, sz11, sz12, df_tilts_of, io_tilts_of, c2]
theorem c_whole_weight (hN : BB < N) {m : Mob} (h : Whole m) {ws : List Nat} (hw : Wts m ws) : callD dfs N (n + 6) "whole_weight" [m.py, tupN ws] = .ok (.c (.int ((ws.map fun (w : Nat) => (w : Int)).sum))) [] := by
  refine callD_ret0 (D := d_whole_weight) rfl rfl rfl ?_
  have c1 : callD dfs N (n + 5) "check_weights" [m.py, tupN ws] = .ok (.c .none) [] := c_check_weights (n := n) hN h hw
  have sm : sumL (ws.map iN) = some (.val (.int ((ws.map fun (w : Nat) => (w : Int)).sum))) := sum_map (h := fun (w : Nat) => (w : Int)) (l := ws)
  refine rI_seq (ρ1 := [.c m.py, .c (tupN ws)]) (by simp [execs, exec, ev.eq_1, ev.eq_2, ev.eq_3, ev.eq_4, ev.eq_5, ev.eq_6, ev.eq_7, ev.eq_8, ev.eq_9, ev.eq_10, ev.eq_11, ev.eq_12, ev.eq_13, ev.eq_14, ev.eq_15, ev.eq_16, ev.eq_17, ev.eq_18, ev.eq_19, ev_lc, evAnd, evOr, evCh, evR, evC, evA, evP, evIf, evT, evO, PL.bind, sb, biR, negR, binR, idxR, sliR, metR, cmpR, truthR, callR, iosOf, derefs, putBack, PL.cold, peeks, peek, gets, ofO, retOf, slotOf, setAll, isHot, subAt, recvOk, isMut, isUpd, recvD, dctR, biD, one, ovS, seq?, isInst, PyData.isInt, PyData.isBool, PyData.isTuple, truthD, PyData.truthy, entry, asgT, asgTs, wipeE, notHot, backE, it_lst, it_tpl, it_r1, it_r2, it_r3, it_enum, it_zip, rg1, rg2, ints?, intR, setD, retIs_rt, nxIs_nx, retH_rt, nxH_nx, PyData.isList, PyData.isDict, PyData.isStr, List.range, List.range.loop, sz0, sz1, sz2, sz3, sz4, sz5, sz6, sz7, sz8, sz9, sz10, sz11, sz12, entry, d_whole_weight, df_check_weights, io_check_weights, c1]) ?_
  simp [execs, exec, ev.eq_1, ev.eq_2, ev.eq_3, ev.eq_4, ev.eq_5, ev.eq_6, ev.eq_7, ev.eq_8, ev.eq_9, ev.eq_10, ev.eq_11, ev.eq_12, ev.eq_13, ev.eq_14, ev.eq_15, ev.eq_16, ev.eq_17, ev.eq_18, ev.eq_19, ev_lc, evAnd, evOr, evCh, evR, evC, evA, evP, evIf, evT, evO, PL.bind, sb, biR, negR, binR, idxR, sliR, metR, cmpR, truthR, callR, iosOf, derefs, putBack, PL.cold, peeks, peek, gets, ofO, retOf, slotOf, setAll, isHot, subAt, recvOk, isMut, isUpd, recvD, dctR, biD, one, ovS, seq?, isInst, PyData.isInt, PyData.isBool, PyData.isTuple, truthD, PyData.truthy, entry, asgT, asgTs, wipeE, notHot, backE, it_lst, it_tpl, it_r1, it_r2, it_r3, it_enum, it_zip, rg1, rg2, ints?, intR, setD, retIs_rt, nxIs_nx, retH_rt, nxH_nx, PyData.isList, PyData.isDict, PyData.isStr, List.range, List.range.loop, sz0, sz1, sz2, sz3, sz4, sz5, sz6, sz7, sz8, sz9, sz10, sz11, sz12, tupN, sm]
def isLevW : PyData → Bool := fun d => PyData.eqv d (.str "level")
def Mob.levB (w : Nat → Int) (m : Mob) : Bool := (m.words w).all isLevW
theorem tword_lev (x : Int) : isLevW (tword x) = decide (x = 0) := by
  unfold tword
  by_cases h : x = 0
  · rw [if_pos h, decide_eq_true h]; rfl
  · rw [if_neg h, decide_eq_false h]
    by_cases h1 : x > 0
    · rw [if_pos h1]; decide
    · rw [if_neg h1]; decide
theorem levB_iff (w : Nat → Int) : ∀ m : Mob, m.levB w = true ↔ m.lev w
  | .leaf _ => by simp [Mob.levB, Mob.words, Mob.lev]
  | .node a l b r => by
    have i1 := levB_iff w l
    have i2 := levB_iff w r
    unfold Mob.levB at i1 i2 ⊢
    rw [Mob.words, List.all_cons, List.all_append, tword_lev, Bool.and_eq_true, Bool.and_eq_true, i1, i2, Mob.lev, decide_eq_true_eq]
    refine and_congr ?_ Iff.rfl
    omega
theorem words_mem (w : Nat → Int) : ∀ {m : Mob} {d : PyData}, d ∈ m.words w → ∃ x, d = tword x
  | .leaf _, d, h => nomatch h
  | .node a l b r, d, h => by
    rw [Mob.words, List.mem_cons, List.mem_append] at h
    rcases h with rfl | h | h
    · exact ⟨_, rfl⟩
    · exact words_mem w h
    · exact words_mem w h
theorem deep_str (s : Str) : deepOk (.str s) = true := by simp [deepOk, PyData.plain, PyData.depth]
theorem ne_word (x : Int) : cmpD .NotEq (tword x) (.str "level") = some (!isLevW (tword x)) := by
  have : cmpD .NotEq (tword x) (.str "level") = if deepOk (tword x) && deepOk (.str "level") then some (!(PyData.eqv (tword x) (.str "level"))) else none := rfl
  rw [this, show deepOk (tword x) = true from deep_str _, deep_str]; rfl
theorem eq_word (x : Int) : cmpD .Eq (tword x) (.str "level") = some (isLevW (tword x)) := by
  have : cmpD .Eq (tword x) (.str "level") = if deepOk (tword x) && deepOk (.str "level") then some (PyData.eqv (tword x) (.str "level")) else none := rfl
  rw [this, show deepOk (tword x) = true from deep_str _, deep_str]; rfl
theorem c_is_level (hN : BB < N) {m : Mob} (h : Whole m) {ws : List Nat} (hw : Wts m ws) : callD dfs N (n + 11) "is_level" [m.py, tupN ws] = .ok (.c (.bool (m.levB (wfn ws)))) [] := by
  refine callD_ret0 (D := d_is_level) rfl rfl rfl ?_
  have c1 : callD dfs N (n + 10) "check_weights" [m.py, tupN ws] = .ok (.c .none) [] := c_check_weights (n := n + 5) hN h hw
  have c2 := tilts_at hN h hw.len n
  have st : ∀ d ∈ m.words (wfn ws), ∀ ρ : PL.Env, ρ = [.c m.py, .c (tupN ws), .no] → stepF (.nm 2) (fun x => Out.ok true x) (ev ⟨dfs, callD dfs N (n + 10)⟩ (.cmp (.var 2) [.NotEq] [(.con (.str "level"))])) [2] d ρ = .ok (some (.bool (!isLevW d))) ρ := fun d hd ρ e => by
    subst e
    obtain ⟨x, rfl⟩ := words_mem _ hd
    have c := ne_word x
    simp [execs, exec, ev.eq_1, ev.eq_2, ev.eq_3, ev.eq_4, ev.eq_5, ev.eq_6, ev.eq_7, ev.eq_8, ev.eq_9, ev.eq_10, ev.eq_11, ev.eq_12, ev.eq_13, ev.eq_14, ev.eq_15, ev.eq_16, ev.eq_17, ev.eq_18, ev.eq_19, ev_lc, evAnd, evOr, evCh, evR, evC, evA, evP, evIf, evT, evO, PL.bind, sb, biR, negR, binR, idxR, sliR, metR, cmpR, truthR, callR, iosOf, derefs, putBack, PL.cold, peeks, peek, gets, ofO, retOf, slotOf, setAll, isHot, subAt, recvOk, isMut, isUpd, recvD, dctR, biD, one, ovS, seq?, isInst, PyData.isInt, PyData.isBool, PyData.isTuple, truthD, PyData.truthy, entry, asgT, asgTs, wipeE, notHot, backE, it_lst, it_tpl, it_r1, it_r2, it_r3, it_enum, it_zip, rg1, rg2, ints?, intR, setD, retIs_rt, nxIs_nx, retH_rt, nxH_nx, PyData.isList, PyData.isDict, PyData.isStr, List.range, List.range.loop, sz0, sz1, sz2, sz3, sz4, sz5, sz6, sz7, sz8, sz9, sz10, sz11, sz12, stepF, c]
  have lc := lcL_all (l := m.words (wfn ws)) (g := fun d => d) (f := fun d => .bool (!isLevW d)) (fun w hw' => st w hw' _ rfl) (by have := words_len (wfn ws) m; have := h.len; omega)
  rw [List.map_id'] at lc
  have an := any_bools (l := m.words (wfn ws)) (q := fun d => !isLevW d)
  have e : (!(m.words (wfn ws)).any fun d => !isLevW d) = m.levB (wfn ws) := by
    rw [List.not_any_eq_all_not]; simp [Mob.levB]
  refine rI_seq (ρ1 := [.c m.py, .c (tupN ws), .no]) (by simp [execs, exec, ev.eq_1, ev.eq_2, ev.eq_3, ev.eq_4, ev.eq_5, ev.eq_6, ev.eq_7, ev.eq_8, ev.eq_9, ev.eq_10, ev.eq_11, ev.eq_12, ev.eq_13, ev.eq_14, ev.eq_15, ev.eq_16, ev.eq_17, ev.eq_18, ev.eq_19, ev_lc, evAnd, evOr, evCh, evR, evC, evA, evP, evIf, evT, evO, PL.bind, sb, biR, negR, binR, idxR, sliR, metR, cmpR, truthR, callR, iosOf, derefs, putBack, PL.cold, peeks, peek, gets, ofO, retOf, slotOf, setAll, isHot, subAt, recvOk, isMut, isUpd, recvD, dctR, biD, one, ovS, seq?, isInst, PyData.isInt, PyData.isBool, PyData.isTuple, truthD, PyData.truthy, entry, asgT, asgTs, wipeE, notHot, backE, it_lst, it_tpl, it_r1, it_r2, it_r3, it_enum, it_zip, rg1, rg2, ints?, intR, setD, retIs_rt, nxIs_nx, retH_rt, nxH_nx, PyData.isList, PyData.isDict, PyData.isStr, List.range, List.range.loop, sz0, sz1, sz2, sz3, sz4, sz5, sz6, sz7, sz8, sz9, sz10, sz11, sz12, entry, d_is_level, df_check_weights, io_check_weights, c1]) ?_
  rw [← e]
  simp [execs, exec, ev.eq_1, ev.eq_2, ev.eq_3, ev.eq_4, ev.eq_5, ev.eq_6, ev.eq_7, ev.eq_8, ev.eq_9, ev.eq_10, ev.eq_11, ev.eq_12, ev.eq_13, ev.eq_14, ev.eq_15, ev.eq_16, ev.eq_17, ev.eq_18, ev.eq_19, ev_lc, evAnd, evOr, evCh, evR, evC, evA, evP, evIf, evT, evO, PL.bind, sb, biR, negR, binR, idxR, sliR, metR, cmpR, truthR, callR, iosOf, derefs, putBack, PL.cold, peeks, peek, gets, ofO, retOf, slotOf, setAll, isHot, subAt, recvOk, isMut, isUpd, recvD, dctR, biD, one, ovS, seq?, isInst, PyData.isInt, PyData.isBool, PyData.isTuple, truthD, PyData.truthy, entry, asgT, asgTs, wipeE, notHot, backE, it_lst, it_tpl, it_r1, it_r2, it_r3, it_enum, it_zip, rg1, rg2, ints?, intR, setD, retIs_rt, nxIs_nx, retH_rt, nxH_nx, PyData.isList, PyData.isDict, PyData.isStr, List.range, List.range.loop, sz0, sz1, sz2, sz3, sz4, sz5, sz6, sz7, sz8, sz9, sz10, sz11, sz12, df_tilts_of, io_tilts_of, c2, ev_lc, lc, an]
end
end PL.L

set_option autoImplicit false
set_option linter.all false
set_option Elab.async false
set_option maxRecDepth 100000
set_option maxHeartbeats 2000000
/-! M9: reach. -/
namespace PL.L
open PySem PL
section
variable {N n : Nat}
def Mob.rc : Mob → Int × Int
  | .leaf _ => (0, 0)
  | .node a l b r => (max ((a : Int) + l.rc.1) (max (r.rc.1 - b) 0), max ((b : Int) + r.rc.2) (max (l.rc.2 - a) 0))
def rcD (p : Int × Int) : PyData := .tuple [.int p.1, .int p.2]
theorem max3 (x y z : Int) : maxA [.int x, .int y, .int z] = some (.val (.int (max x (max y z)))) := by
  simp [maxA, ovI, ints?, maxI]
  omega
theorem d_addZ (a : Nat) (x : Int) : binD .Add (iN a) (.int x) = some (.val (.int ((a : Int) + x))) := rfl
theorem d_subZ (x : Int) (b : Nat) : binD .Sub (.int x) (iN b) = some (.val (.int (x - b))) := rfl
theorem c_reach_by : ∀ (m : Mob) (n : Nat), callD dfs N (n + m.hgt + 1) "reach_by" [m.py] = .ok (.c (rcD m.rc)) []
  | .leaf k, n => by
    refine callD_ret0 (D := d_reach_by) rfl rfl rfl ?_
    have nt : PyData.isTuple (iN k) = false := rfl
    simp [execs, exec, ev.eq_1, ev.eq_2, ev.eq_3, ev.eq_4, ev.eq_5, ev.eq_6, ev.eq_7, ev.eq_8, ev.eq_9, ev.eq_10, ev.eq_11, ev.eq_12, ev.eq_13, ev.eq_14, ev.eq_15, ev.eq_16, ev.eq_17, ev.eq_18, ev.eq_19, ev_lc, evAnd, evOr, evCh, evR, evC, evA, evP, evIf, evT, evO, PL.bind, sb, biR, negR, binR, idxR, sliR, metR, cmpR, truthR, callR, iosOf, derefs, putBack, PL.cold, peeks, peek, gets, ofO, retOf, slotOf, setAll, isHot, subAt, recvOk, isMut, isUpd, recvD, dctR, biD, one, ovS, seq?, isInst, PyData.isInt, PyData.isBool, PyData.isTuple, truthD, PyData.truthy, entry, asgT, asgTs, wipeE, notHot, backE, it_lst, it_tpl, it_r1, it_r2, it_r3, it_enum, it_zip, rg1, rg2, ints?, intR, setD, retIs_rt, nxIs_nx, retH_rt, nxH_nx, PyData.isList, PyData.isDict, PyData.isStr, List.range, List.range.loop, sz0, sz1, sz2, sz3, sz4, sz5, sz6, sz7, sz8, sz9, sz10, sz11, sz12, d_reach_by, b_reach_by, Mob.py, nt, Mob.rc, rcD, -PyData.isTuple]
  | .node a l b r, n => by
    refine callD_ret0 (D := d_reach_by) rfl rfl rfl ?_
    have m1 : l.hgt ≤ max l.hgt r.hgt := Nat.le_max_left _ _
    have m2 : r.hgt ≤ max l.hgt r.hgt := Nat.le_max_right _ _
    obtain ⟨F, hF⟩ : ∃ F, n + (Mob.node a l b r).hgt = F := ⟨_, rfl⟩
    have t1 : callD dfs N F "reach_by" [l.py] = .ok (.c (rcD l.rc)) [] := by
      have := c_reach_by l (n + (max l.hgt r.hgt - l.hgt))
      rw [← hF, Mob.hgt]
      rwa [show n + (max l.hgt r.hgt - l.hgt) + l.hgt + 1 = n + (1 + max l.hgt r.hgt) by omega] at this
    have t2 : callD dfs N F "reach_by" [r.py] = .ok (.c (rcD r.rc)) [] := by
      have := c_reach_by r (n + (max l.hgt r.hgt - r.hgt))
      rw [← hF, Mob.hgt]
      rwa [show n + (max l.hgt r.hgt - r.hgt) + r.hgt + 1 = n + (1 + max l.hgt r.hgt) by omega] at this
    have x0 : ∀ p, idxD (rcD p) (.int 0) = some (.int p.1) := fun _ => rfl
    have x1 : ∀ p, idxD (rcD p) (.int 1) = some (.int p.2) := fun _ => rfl
    rw [hF]
    refine rI_seq (ρ1 := [.c (Mob.py (.node a l b r)), .no, .no, .no, .no, .no, .no]) (by simp [execs, exec, ev.eq_1, ev.eq_2, ev.eq_3, ev.eq_4, ev.eq_5, ev.eq_6, ev.eq_7, ev.eq_8, ev.eq_9, ev.eq_10, ev.eq_11, ev.eq_12, ev.eq_13, ev.eq_14, ev.eq_15, ev.eq_16, ev.eq_17, ev.eq_18, ev.eq_19, ev_lc, evAnd, evOr, evCh, evR, evC, evA, evP, evIf, evT, evO, PL.bind, sb, biR, negR, binR, idxR, sliR, metR, cmpR, truthR, callR, iosOf, derefs, putBack, PL.cold, peeks, peek, gets, ofO, retOf, slotOf, setAll, isHot, subAt, recvOk, isMut, isUpd, recvD, dctR, biD, one, ovS, seq?, isInst, PyData.isInt, PyData.isBool, PyData.isTuple, truthD, PyData.truthy, entry, asgT, asgTs, wipeE, notHot, backE, it_lst, it_tpl, it_r1, it_r2, it_r3, it_enum, it_zip, rg1, rg2, ints?, intR, setD, retIs_rt, nxIs_nx, retH_rt, nxH_nx, PyData.isList, PyData.isDict, PyData.isStr, List.range, List.range.loop, sz0, sz1, sz2, sz3, sz4, sz5, sz6, sz7, sz8, sz9, sz10, sz11, sz12, entry, d_reach_by, Mob.py]) (rI_seq (ρ1 := [.c (Mob.py (.node a l b r)), .c (iN a), .c l.py, .c (iN b), .c r.py, .no, .no]) (by simp [execs, exec, ev.eq_1, ev.eq_2, ev.eq_3, ev.eq_4, ev.eq_5, ev.eq_6, ev.eq_7, ev.eq_8, ev.eq_9, ev.eq_10, ev.eq_11, ev.eq_12, ev.eq_13, ev.eq_14, ev.eq_15, ev.eq_16, ev.eq_17, ev.eq_18, ev.eq_19, ev_lc, evAnd, evOr, evCh, evR, evC, evA, evP, evIf, evT, evO, PL.bind, sb, biR, negR, binR, idxR, sliR, metR, cmpR, truthR, callR, iosOf, derefs, putBack, PL.cold, peeks, peek, gets, ofO, retOf, slotOf, setAll, isHot, subAt, recvOk, isMut, isUpd, recvD, dctR, biD, one, ovS, seq?, isInst, PyData.isInt, PyData.isBool, PyData.isTuple, truthD, PyData.truthy, entry, asgT, asgTs, wipeE, notHot, backE, it_lst, it_tpl, it_r1, it_r2, it_r3, it_enum, it_zip, rg1, rg2, ints?, intR, setD, retIs_rt, nxIs_nx, retH_rt, nxH_nx, PyData.isList, PyData.isDict, PyData.isStr, List.range, List.range.loop, sz0, sz1, sz2, sz3, sz4, sz5, sz6, sz7, sz8, sz9, sz10, sz11, sz12, Mob.py]) (rI_seq (ρ1 := [.c (Mob.py (.node a l b r)), .c (iN a), .c l.py, .c (iN b), .c r.py, .c (rcD l.rc), .c (rcD r.rc)]) (by simp [execs, exec, ev.eq_1, ev.eq_2, ev.eq_3, ev.eq_4, ev.eq_5, ev.eq_6, ev.eq_7, ev.eq_8, ev.eq_9, ev.eq_10, ev.eq_11, ev.eq_12, ev.eq_13, ev.eq_14, ev.eq_15, ev.eq_16, ev.eq_17, ev.eq_18, ev.eq_19, ev_lc, evAnd, evOr, evCh, evR, evC, evA, evP, evIf, evT, evO, PL.bind, sb, biR, negR, binR, idxR, sliR, metR, cmpR, truthR, callR, iosOf, derefs, putBack, PL.cold, peeks, peek, gets, ofO, retOf, slotOf, setAll, isHot, subAt, recvOk, isMut, isUpd, recvD, dctR, biD, one, ovS, seq?, isInst, PyData.isInt, PyData.isBool, PyData.isTuple, truthD, PyData.truthy, entry, asgT, asgTs, wipeE, notHot, backE, it_lst, it_tpl, it_r1, it_r2, it_r3, it_enum, it_zip, rg1, rg2, ints?, intR, setD, retIs_rt, nxIs_nx, retH_rt, nxH_nx, PyData.isList, PyData.isDict, PyData.isStr, List.range, List.range.loop, sz0, sz1, sz2, sz3, sz4, sz5, sz6, sz7, sz8, sz9, sz10, sz11, sz12, df_reach_by, io_reach_by, t1, t2]) ?_))
    rw [Mob.rc]
    simp [execs, exec, ev.eq_1, ev.eq_2, ev.eq_3, ev.eq_4, ev.eq_5, ev.eq_6, ev.eq_7, ev.eq_8, ev.eq_9, ev.eq_10, ev.eq_11, ev.eq_12, ev.eq_13, ev.eq_14, ev.eq_15, ev.eq_16, ev.eq_17, ev.eq_18, ev.eq_19, ev_lc, evAnd, evOr, evCh, evR, evC, evA, evP, evIf, evT, evO, PL.bind, sb, biR, negR, binR, idxR, sliR, metR, cmpR, truthR, callR, iosOf, derefs, putBack, PL.cold, peeks, peek, gets, ofO, retOf, slotOf, setAll, isHot, subAt, recvOk, isMut, isUpd, recvD, dctR, biD, one, ovS, seq?, isInst, PyData.isInt, PyData.isBool, PyData.isTuple, truthD, PyData.truthy, entry, asgT, asgTs, wipeE, notHot, backE, it_lst, it_tpl, it_r1, it_r2, it_r3, it_enum, it_zip, rg1, rg2, ints?, intR, setD, retIs_rt, nxIs_nx, retH_rt, nxH_nx, PyData.isList, PyData.isDict, PyData.isStr, List.range, List.range.loop, sz0, sz1, sz2, sz3, sz4, sz5, sz6, sz7, sz8, sz9, sz10, sz11, sz12, x0, x1, d_addZ, d_subZ, max3]
    rfl
theorem c_reach_of (hN : BB < N) {m : Mob} (h : Whole m) : callD dfs N (n + 7) "reach_of" [m.py] = .ok (.c (rcD m.rc)) [] := by
  refine callD_ret0 (D := d_reach_of) rfl rfl rfl ?_
  have c1 : callD dfs N (n + 6) "check_mobile" [m.py] = .ok (.c .none) [] := c_check_mobile (n := n + 2) hN h
  have a := hgt_le m
  have b := h.len
  have c2 : callD dfs N (n + 6) "reach_by" [m.py] = .ok (.c (rcD m.rc)) [] := by
    have := c_reach_by (N := N) m (n + (5 - m.hgt))
    rwa [show n + (5 - m.hgt) + m.hgt + 1 = n + 6 by omega] at this
  refine rI_seq (ρ1 := [.c m.py]) (by simp [execs, exec, ev.eq_1, ev.eq_2, ev.eq_3, ev.eq_4, ev.eq_5, ev.eq_6, ev.eq_7, ev.eq_8, ev.eq_9, ev.eq_10, ev.eq_11, ev.eq_12, ev.eq_13, ev.eq_14, ev.eq_15, ev.eq_16, ev.eq_17, ev.eq_18, ev.eq_19, ev_lc, evAnd, evOr, evCh, evR, evC, evA, evP, evIf, evT, evO, PL.bind, sb, biR, negR, binR, idxR, sliR, metR, cmpR, truthR, callR, iosOf, derefs, putBack, PL.cold, peeks, peek, gets, ofO, retOf, slotOf, setAll, isHot, subAt, recvOk, isMut, isUpd, recvD, dctR, biD, one, ovS, seq?, isInst, PyData.isInt, PyData.isBool, PyData.isTuple, truthD, PyData.truthy, entry, asgT, asgTs, wipeE, notHot, backE, it_lst, it_tpl, it_r1, it_r2, it_r3, it_enum, it_zip, rg1, rg2, ints?, intR, setD, retIs_rt, nxIs_nx, retH_rt, nxH_nx, PyData.isList, PyData.isDict, PyData.isStr, List.range, List.range.loop, sz0, sz1, sz2, sz3, sz4, sz5, sz6, sz7, sz8, sz9, sz10, sz11, sz12, entry, d_reach_of, df_check_mobile, io_check_mobile, c1]) ?_
  simp [execs, exec, ev.eq_1, ev.eq_2, ev.eq_3, ev.eq_4, ev.eq_5, ev.eq_6, ev.eq_7, ev.eq_8, ev.eq_9, ev.eq_10, ev.eq_11, ev.eq_12, ev.eq_13, ev.eq_14, ev.eq_15, ev.eq_16, ev.eq_17, ev.eq_18, ev.eq_19, ev_lc, evAnd, evOr, evCh, evR, evC, evA, evP, evIf, evT, evO, PL.bind, sb, biR, negR, binR, idxR, sliR, metR, cmpR, truthR, callR, iosOf, derefs, putBack, PL.cold, peeks, peek, gets, ofO, retOf, slotOf, setAll, isHot, subAt, recvOk, isMut, isUpd, recvD, dctR, biD, one, ovS, seq?, isInst, PyData.isInt, PyData.isBool, PyData.isTuple, truthD, PyData.truthy, entry, asgT, asgTs, wipeE, notHot, backE, it_lst, it_tpl, it_r1, it_r2, it_r3, it_enum, it_zip, rg1, rg2, ints?, intR, setD, retIs_rt, nxIs_nx, retH_rt, nxH_nx, PyData.isList, PyData.isDict, PyData.isStr, List.range, List.range.loop, sz0, sz1, sz2, sz3, sz4, sz5, sz6, sz7, sz8, sz9, sz10, sz11, sz12, df_reach_by, io_reach_by, c2]
end
end PL.L

set_option autoImplicit false
set_option linter.all false
set_option Elab.async false
set_option maxRecDepth 100000
set_option maxHeartbeats 2000000
/-! MA: dicts by names; parts_of. -/
namespace PL.L
open PySem PL
def kvN (L : List (Nat × PyData)) : List (PyData × PyData) := L.map fun p => (iN p.1, p.2)
theorem eqv_iN (a b : Nat) : PyData.eqv (iN a) (iN b) = decide (a = b) := by
  have : PyData.eqv (iN a) (iN b) = decide ((a : Int) = b) := rfl
  rw [this, decide_eq_decide]; omega
theorem keysN (k : Nat) (L : List (Nat × PyData)) : keysOk (iN k :: (kvN L).map (·.1)) = true := by
  unfold keysOk
  rw [Bool.or_eq_true]
  refine .inl (List.all_eq_true.mpr fun d hd => ?_)
  rcases List.mem_cons.mp hd with rfl | hd
  · rfl
  · obtain ⟨kv, hkv, rfl⟩ := List.mem_map.mp hd
    obtain ⟨p, _, rfl⟩ := List.mem_map.mp hkv
    rfl
theorem store_newN {L : List (Nat × PyData)} {k : Nat} {v : PyData} (h : k ∉ L.map (·.1)) : store (kvN L) (iN k) v = kvN (L ++ [(k, v)]) := by
  unfold store
  rw [if_neg]
  · simp [kvN]
  · intro z
    obtain ⟨kv, hkv, e⟩ := List.any_eq_true.mp z
    obtain ⟨p, hp, rfl⟩ := List.mem_map.mp hkv
    rw [eqv_iN, decide_eq_true_eq] at e
    exact h (List.mem_map.mpr ⟨p, hp, e⟩)
theorem set_newN {L : List (Nat × PyData)} {k : Nat} {v : PyData} (h : k ∉ L.map (·.1)) (hl : L.length ≤ 1000) : setD (.dict (kvN L)) (iN k) v = some (.dict (kvN (L ++ [(k, v)]))) := by
  have : setD (.dict (kvN L)) (iN k) v = if (keysOk (iN k :: (kvN L).map (·.1)) && decide ((kvN L).length < 1000000)) = true then some (.dict (store (kvN L) (iN k) v)) else none := rfl
  rw [this, if_pos (by rw [keysN, Bool.true_and]; exact decide_eq_true (by unfold kvN; rw [List.length_map]; omega)), store_newN h]
theorem idx_N {L : List (Nat × PyData)} {k : Nat} {v : PyData} (nd : (L.map (·.1)).Nodup) (h : (k, v) ∈ L) : idxD (.dict (kvN L)) (iN k) = some v := by
  have : idxD (.dict (kvN L)) (iN k) = if keysOk (iN k :: (kvN L).map (·.1)) = true then look (kvN L) (iN k) else none := rfl
  rw [this, if_pos (keysN k L)]
  clear this
  unfold look
  induction L with
  | nil => cases h
  | cons p L ih =>
    simp only [kvN, List.map_cons, List.find?_cons, eqv_iN]
    rw [List.map_cons, List.nodup_cons] at nd
    by_cases e : p.1 = k
    · rw [decide_eq_true e]
      rcases List.mem_cons.mp h with rfl | h
      · rfl
      · exact absurd (List.mem_map.mpr ⟨_, h, e.symm⟩) nd.1
    · rw [decide_eq_false e]
      rcases List.mem_cons.mp h with rfl | h
      · exact absurd rfl e
      · exact ih nd.2 h
section
variable {N n : Nat}
def parL (m : Mob) : List (Nat × PyData) := m.prs.map fun p => (p.1, fr p.2 m.S)
def inB : List St := [.sub 5 (.var 9) (.call "times" [(.idx (.var 8) (.var 9)), (.var 7)])]
/-- one part's names, with its share P / Q -/
theorem in_loop (hN : BB < N) {m : Mob} (h : Part m) (nd : m.nms.Nodup) {P Q : Nat} (hq : 0 < Q) (hb : m.S * Q ≤ BB) (F : List (Nat × PyData)) (hF : F.length ≤ 100) (hd : ∀ k ∈ m.nms, k ∉ F.map (·.1)) (s0 s1 s2 s3 s4 s6 s9 : Slot) :
    ∃ s9', forL (.nm 9) (execs ⟨dfs, callD dfs N (n + 3)⟩ N inB) ((kvN (parL m)).map (·.1)) [s0, s1, s2, s3, s4, .h false (.dict (kvN F)), s6, .c (fr P Q), .c (.dict (kvN (parL m))), s9] =
      .nx [s0, s1, s2, s3, s4, .h false (.dict (kvN (F ++ m.prs.map fun p => (p.1, fr (p.2 * P) (m.S * Q))))), s6, .c (fr P Q), .c (.dict (kvN (parL m))), s9'] := by
  have it : (kvN (parL m)).map (·.1) = m.prs.map fun p => iN p.1 := by
    unfold kvN parL; rw [List.map_map, List.map_map]; rfl
  have ndp : ((parL m).map (·.1)).Nodup := by
    have : (parL m).map (·.1) = m.nms := by unfold parL; rw [List.map_map, ← Mob.nms_prs]; rfl
    rw [this]; exact nd
  have hl : m.prs.length ≤ 6 := by
    have := congrArg List.length (Mob.nms_prs m)
    rw [List.length_map] at this
    rw [this]; exact h.len
  have main : ∀ (l pre : List (Nat × Nat)), m.prs = pre ++ l → ∀ s9, ∃ s9', forL (.nm 9) (execs ⟨dfs, callD dfs N (n + 3)⟩ N inB) (l.map fun p => iN p.1) [s0, s1, s2, s3, s4, .h false (.dict (kvN (F ++ pre.map fun p => (p.1, fr (p.2 * P) (m.S * Q))))), s6, .c (fr P Q), .c (.dict (kvN (parL m))), s9] =
      .nx [s0, s1, s2, s3, s4, .h false (.dict (kvN (F ++ m.prs.map fun p => (p.1, fr (p.2 * P) (m.S * Q))))), s6, .c (fr P Q), .c (.dict (kvN (parL m))), s9'] := by
    intro l
    induction l with
    | nil =>
      intro pre e s9
      rw [List.append_nil] at e
      rw [← e]
      exact ⟨s9, by rw [List.map_nil, forL]⟩
    | cons p l ih =>
      intro pre e s9
      have pm : p ∈ m.prs := by rw [e]; simp
      obtain ⟨s9', e'⟩ := ih (pre ++ [p]) (by rw [e]; simp) (.c (iN p.1))
      refine ⟨s9', forL_seq (ρ1 := [s0, s1, s2, s3, s4, .h false (.dict (kvN (F ++ pre.map fun p => (p.1, fr (p.2 * P) (m.S * Q))))), s6, .c (fr P Q), .c (.dict (kvN (parL m))), .c (iN p.1)]) rfl (ρ2 := [s0, s1, s2, s3, s4, .h false (.dict (kvN (F ++ (pre ++ [p]).map fun p => (p.1, fr (p.2 * P) (m.S * Q))))), s6, .c (fr P Q), .c (.dict (kvN (parL m))), .c (iN p.1)]) ?_ e'⟩
      have ix := idx_N (k := p.1) (v := fr p.2 m.S) ndp (List.mem_map.mpr ⟨p, pm, rfl⟩)
      have sp := Mob.S_pos h.ok
      have c := c_times (N := N) (n := n) hN (P := p.2) (Q := m.S) (P' := P) (Q' := Q) sp hq (Nat.le_trans (Mob.prs_le p pm) (Nat.le_trans (Nat.le_mul_of_pos_right _ hq) hb)) hb
      have nn : m.nms = pre.map (·.1) ++ p.1 :: l.map (·.1) := by rw [← Mob.nms_prs, e]; simp
      have new : p.1 ∉ (F ++ pre.map fun p => (p.1, fr (p.2 * P) (m.S * Q))).map (·.1) := by
        rw [List.map_append, List.mem_append, List.map_map]
        rintro (z | z)
        · exact hd p.1 (by rw [nn]; simp) z
        · rw [nn, List.nodup_append] at nd
          exact nd.2.2 p.1 z p.1 (by simp) rfl
      have st := set_newN (v := fr (p.2 * P) (m.S * Q)) new (by
        have : pre.length ≤ 6 := by have := congrArg List.length e; simp at this; omega
        simp; omega)
      have ap : (F ++ pre.map fun p => (p.1, fr (p.2 * P) (m.S * Q))) ++ [(p.1, fr (p.2 * P) (m.S * Q))] = F ++ (pre ++ [p]).map fun p => (p.1, fr (p.2 * P) (m.S * Q)) := by simp
      rw [ap] at st
      rw [inB, execs_one]
      generalize hG : kvN (F ++ pre.map fun p => (p.1, fr (p.2 * P) (m.S * Q))) = G at st ⊢
      generalize hG' : kvN (F ++ (pre ++ [p]).map fun p => (p.1, fr (p.2 * P) (m.S * Q))) = G' at st ⊢
      simp [execs, exec, ev.eq_1, ev.eq_2, ev.eq_3, ev.eq_4, ev.eq_5, ev.eq_6, ev.eq_7, ev.eq_8, ev.eq_9, ev.eq_10, ev.eq_11, ev.eq_12, ev.eq_13, ev.eq_14, ev.eq_15, ev.eq_16, ev.eq_17, ev.eq_18, ev.eq_19, ev_lc, evAnd, evOr, evCh, evR, evC, evA, evP, evIf, evT, evO, PL.bind, sb, biR, negR, binR, idxR, sliR, metR, cmpR, truthR, callR, iosOf, derefs, putBack, PL.cold, peeks, peek, gets, ofO, retOf, slotOf, setAll, isHot, subAt, recvOk, isMut, isUpd, recvD, dctR, biD, one, ovS, seq?, isInst, PyData.isInt, PyData.isBool, PyData.isTuple, truthD, PyData.truthy, entry, asgT, asgTs, wipeE, notHot, backE, it_lst, it_tpl, it_r1, it_r2, it_r3, it_enum, it_zip, rg1, rg2, ints?, intR, setD, retIs_rt, nxIs_nx, retH_rt, nxH_nx, PyData.isList, PyData.isDict, PyData.isStr, List.range, List.range.loop, sz0, sz1, sz2, sz3, sz4, sz5, sz6, sz7, sz8, sz9, sz10, sz11, sz12, df_times, io_times, ix, c, st, -PL.setD]
  obtain ⟨s9', e⟩ := main m.prs [] rfl s9
  rw [List.map_nil, List.append_nil] at e
  exact ⟨s9', by rw [it]; exact e⟩
end
end PL.L

set_option autoImplicit false
set_option linter.all false
set_option Elab.async false
set_option maxRecDepth 100000
set_option maxHeartbeats 2000000
/-! MB: parts_of, least_weights. -/
namespace PL.L
open PySem PL
section
variable {N n : Nat}
theorem S_le5 {m : Mob} (h : Part m) : m.S ≤ SM := by
  have a := Mob.S_le h.ok
  have b : 8 ^ (m.nms.length - 1) ≤ 8 ^ 5 := Nat.pow_le_pow_right (by decide) (by have := h.len; omega)
  exact Nat.le_trans a (Nat.le_trans b (by decide))
theorem par_left {a b : Nat} {l r : Mob} (ha : 1 ≤ a) (hl : l.Ok) (hr : r.Ok) : (l.prs.map fun p => (p.1, fr (p.2 * b) (l.S * (a + b)))) = (l.prs.map fun p => (p.1, b * r.S * p.2)).map fun p => (p.1, fr p.2 ((Mob.node a l b r).S)) := by
  rw [List.map_map]
  refine List.map_congr_left fun p _ => ?_
  have sl := Mob.S_pos hl
  have sr := Mob.S_pos hr
  refine congrArg (Prod.mk p.1) ?_
  show fr _ _ = fr (b * r.S * p.2) ((a + b) * (l.S * r.S))
  unfold fr
  rw [frN_ratio (P := p.2 * b) (Q := l.S * (a + b)) (P' := b * r.S * p.2) (Q' := (a + b) * (l.S * r.S)) (Nat.mul_pos sl (by omega)) (Nat.mul_pos (by omega) (Nat.mul_pos sl sr)) (by grind)]
theorem par_right {a b : Nat} {l r : Mob} (ha : 1 ≤ a) (hl : l.Ok) (hr : r.Ok) : (r.prs.map fun p => (p.1, fr (p.2 * a) (r.S * (a + b)))) = (r.prs.map fun p => (p.1, a * l.S * p.2)).map fun p => (p.1, fr p.2 ((Mob.node a l b r).S)) := by
  rw [List.map_map]
  refine List.map_congr_left fun p _ => ?_
  have sl := Mob.S_pos hl
  have sr := Mob.S_pos hr
  refine congrArg (Prod.mk p.1) ?_
  show fr _ _ = fr (a * l.S * p.2) ((a + b) * (l.S * r.S))
  unfold fr
  rw [frN_ratio (P := p.2 * a) (Q := r.S * (a + b)) (P' := a * l.S * p.2) (Q' := (a + b) * (l.S * r.S)) (Nat.mul_pos sr (by omega)) (Nat.mul_pos (by omega) (Nat.mul_pos sl sr)) (by grind)]
theorem parL_node (a b : Nat) (l r : Mob) : parL (.node a l b r) = ((l.prs.map fun p => (p.1, b * r.S * p.2)).map fun p => (p.1, fr p.2 ((Mob.node a l b r).S))) ++ ((r.prs.map fun p => (p.1, a * l.S * p.2)).map fun p => (p.1, fr p.2 ((Mob.node a l b r).S))) := by
  unfold parL
  rw [Mob.prs, List.map_append]
theorem c_parts_of (hN : BB < N) : ∀ {m : Mob}, Part m → m.nms.Nodup → ∀ n : Nat, callD dfs N (n + m.hgt + 4) "parts_of" [m.py] = .ok (.h false (.dict (kvN (parL m)))) []
  | .leaf k, h, nd, n => by
    refine callD_ret0 (D := d_parts_of) rfl rfl rfl ?_
    have nt : PyData.isTuple (iN k) = false := rfl
    have kk : keysOk [iN k] = true := keysN k []
    have e : kvN (parL (.leaf k)) = [(iN k, .tuple [.int 1, .int 1])] := by simp [kvN, parL, Mob.prs, Mob.S, fr, frN, iN]
    rw [e]
    simp [execs, exec, ev.eq_1, ev.eq_2, ev.eq_3, ev.eq_4, ev.eq_5, ev.eq_6, ev.eq_7, ev.eq_8, ev.eq_9, ev.eq_10, ev.eq_11, ev.eq_12, ev.eq_13, ev.eq_14, ev.eq_15, ev.eq_16, ev.eq_17, ev.eq_18, ev.eq_19, ev_lc, evAnd, evOr, evCh, evR, evC, evA, evP, evIf, evT, evO, PL.bind, sb, biR, negR, binR, idxR, sliR, metR, cmpR, truthR, callR, iosOf, derefs, putBack, PL.cold, peeks, peek, gets, ofO, retOf, slotOf, setAll, isHot, subAt, recvOk, isMut, isUpd, recvD, dctR, biD, one, ovS, seq?, isInst, PyData.isInt, PyData.isBool, PyData.isTuple, truthD, PyData.truthy, entry, asgT, asgTs, wipeE, notHot, backE, it_lst, it_tpl, it_r1, it_r2, it_r3, it_enum, it_zip, rg1, rg2, ints?, intR, setD, retIs_rt, nxIs_nx, retH_rt, nxH_nx, PyData.isList, PyData.isDict, PyData.isStr, List.range, List.range.loop, sz0, sz1, sz2, sz3, sz4, sz5, sz6, sz7, sz8, sz9, sz10, sz11, sz12, d_parts_of, b_parts_of, Mob.py, nt, kk, evC, -PyData.isTuple]
  | .node a l b r, h, nd, n => by
    refine callD_ret0 (D := d_parts_of) rfl rfl rfl ?_
    obtain ⟨ha, ha', hb, hb', okl, okr⟩ := h.ok
    have m1 : l.hgt ≤ max l.hgt r.hgt := Nat.le_max_left _ _
    have m2 : r.hgt ≤ max l.hgt r.hgt := Nat.le_max_right _ _
    have ndl : l.nms.Nodup := (List.nodup_append.mp nd).1
    have ndr : r.nms.Nodup := (List.nodup_append.mp nd).2.1
    have ndx := (List.nodup_append.mp nd).2.2
    obtain ⟨F, hF⟩ : ∃ F, n + (Mob.node a l b r).hgt = F := ⟨_, rfl⟩
    have t1 : callD dfs N (F + 3) "parts_of" [l.py] = .ok (.h false (.dict (kvN (parL l)))) [] := by
      have := c_parts_of hN h.left ndl (n + (max l.hgt r.hgt - l.hgt))
      rw [← hF, Mob.hgt]
      rwa [show n + (max l.hgt r.hgt - l.hgt) + l.hgt + 4 = n + (1 + max l.hgt r.hgt) + 3 by omega] at this
    have t2 : callD dfs N (F + 3) "parts_of" [r.py] = .ok (.h false (.dict (kvN (parL r)))) [] := by
      have := c_parts_of hN h.right ndr (n + (max l.hgt r.hgt - r.hgt))
      rw [← hF, Mob.hgt]
      rwa [show n + (max l.hgt r.hgt - r.hgt) + r.hgt + 4 = n + (1 + max l.hgt r.hgt) + 3 by omega] at this
    have r1 : callD dfs N (F + 3) "reduced" [iN b, iN (a + b)] = .ok (.c (fr b (a + b))) [] := c_reduced (n := F + 1) hN (by omega) (by unfold BB; omega)
    have r2 : callD dfs N (F + 3) "reduced" [iN a, iN (a + b)] = .ok (.c (fr a (a + b))) [] := c_reduced (n := F + 1) hN (by omega) (by unfold BB; omega)
    have sl := S_le5 h.left
    have sr := S_le5 h.right
    have ab : a + b ≤ 8 := by omega
    have q0 : 0 < a + b := by omega
    have bl : l.S * (a + b) ≤ BB := mulB sl ab (by decide)
    have br : r.S * (a + b) ≤ BB := mulB sr ab (by decide)
    obtain ⟨u1, e1⟩ := in_loop (N := N) (n := F) hN h.left ndl (P := b) q0 bl [] (by simp) (by simp) (.c (Mob.py (.node a l b r))) (.c (iN a)) (.c l.py) (.c (iN b)) (.c r.py) (.c l.py) .no
    rw [List.nil_append, par_left ha okl okr] at e1
    obtain ⟨u2, e2⟩ := in_loop (N := N) (n := F) hN h.right ndr (P := a) q0 br ((l.prs.map fun p => (p.1, b * r.S * p.2)).map fun p => (p.1, fr p.2 ((Mob.node a l b r).S))) (by
        have := congrArg List.length (Mob.nms_prs l)
        rw [List.length_map] at this
        have := h.left.len
        simp; omega) (by
        intro k hk z
        rw [List.map_map, List.map_map] at z
        have : k ∈ l.nms := by rw [← Mob.nms_prs]; exact z
        exact ndx k this k hk rfl) (.c (Mob.py (.node a l b r))) (.c (iN a)) (.c l.py) (.c (iN b)) (.c r.py) (.c r.py) u1
    rw [par_right ha okl okr, ← parL_node] at e2
    generalize hA : ((l.prs.map fun p => (p.1, b * r.S * p.2)).map fun p => (p.1, fr p.2 ((Mob.node a l b r).S))) = A at e1 e2
    rw [hF]
    have ad := d_add a b
    have lm : fr b (a + b) = fr b (a + b) := rfl
    have body : ∀ (D : List (Nat × PyData)) (D' : List (Nat × PyData)) (x : Mob) (q : PyData) (s8 s9 s9' s6 s7 : Slot), callD dfs N (F + 3) "parts_of" [x.py] = .ok (.h false (.dict (kvN (parL x)))) [] →
        forL (.nm 9) (execs ⟨dfs, callD dfs N (F + 3)⟩ N inB) ((kvN (parL x)).map (·.1)) [.c (Mob.py (.node a l b r)), .c (iN a), .c l.py, .c (iN b), .c r.py, .h false (.dict (kvN D)), .c x.py, .c q, .c (.dict (kvN (parL x))), s9] = .nx [.c (Mob.py (.node a l b r)), .c (iN a), .c l.py, .c (iN b), .c r.py, .h false (.dict (kvN D')), .c x.py, .c q, .c (.dict (kvN (parL x))), s9'] →
        execs ⟨dfs, callD dfs N (F + 3)⟩ N [.asg 8 false (.call "parts_of" [(.var 6)]), .fr (.nm 9) .plain [(.var 8)] inB] [.c (Mob.py (.node a l b r)), .c (iN a), .c l.py, .c (iN b), .c r.py, .h false (.dict (kvN D)), .c x.py, .c q, s8, s9] = .nx [.c (Mob.py (.node a l b r)), .c (iN a), .c l.py, .c (iN b), .c r.py, .h false (.dict (kvN D')), .c x.py, .c q, .c (.dict (kvN (parL x))), s9'] := by
      intro D D' x q s8 s9 s9' s6 s7 hc hf
      refine execs_seq (ρ1 := [.c (Mob.py (.node a l b r)), .c (iN a), .c l.py, .c (iN b), .c r.py, .h false (.dict (kvN D)), .c x.py, .c q, .c (.dict (kvN (parL x))), s9]) (by simp [execs, exec, ev.eq_1, ev.eq_2, ev.eq_3, ev.eq_4, ev.eq_5, ev.eq_6, ev.eq_7, ev.eq_8, ev.eq_9, ev.eq_10, ev.eq_11, ev.eq_12, ev.eq_13, ev.eq_14, ev.eq_15, ev.eq_16, ev.eq_17, ev.eq_18, ev.eq_19, ev_lc, evAnd, evOr, evCh, evR, evC, evA, evP, evIf, evT, evO, PL.bind, sb, biR, negR, binR, idxR, sliR, metR, cmpR, truthR, callR, iosOf, derefs, putBack, PL.cold, peeks, peek, gets, ofO, retOf, slotOf, setAll, isHot, subAt, recvOk, isMut, isUpd, recvD, dctR, biD, one, ovS, seq?, isInst, PyData.isInt, PyData.isBool, PyData.isTuple, truthD, PyData.truthy, entry, asgT, asgTs, wipeE, notHot, backE, it_lst, it_tpl, it_r1, it_r2, it_r3, it_enum, it_zip, rg1, rg2, ints?, intR, setD, retIs_rt, nxIs_nx, retH_rt, nxH_nx, PyData.isList, PyData.isDict, PyData.isStr, List.range, List.range.loop, sz0, sz1, sz2, sz3, sz4, sz5, sz6, sz7, sz8, sz9, sz10, sz11, sz12, df_parts_of, io_parts_of, hc]) ?_
      rw [execs_one]
      exact exec_fr (ds := [.dict (kvN (parL x))]) (by simp [execs, exec, ev.eq_1, ev.eq_2, ev.eq_3, ev.eq_4, ev.eq_5, ev.eq_6, ev.eq_7, ev.eq_8, ev.eq_9, ev.eq_10, ev.eq_11, ev.eq_12, ev.eq_13, ev.eq_14, ev.eq_15, ev.eq_16, ev.eq_17, ev.eq_18, ev.eq_19, ev_lc, evAnd, evOr, evCh, evR, evC, evA, evP, evIf, evT, evO, PL.bind, sb, biR, negR, binR, idxR, sliR, metR, cmpR, truthR, callR, iosOf, derefs, putBack, PL.cold, peeks, peek, gets, ofO, retOf, slotOf, setAll, isHot, subAt, recvOk, isMut, isUpd, recvD, dctR, biD, one, ovS, seq?, isInst, PyData.isInt, PyData.isBool, PyData.isTuple, truthD, PyData.truthy, entry, asgT, asgTs, wipeE, notHot, backE, it_lst, it_tpl, it_r1, it_r2, it_r3, it_enum, it_zip, rg1, rg2, ints?, intR, setD, retIs_rt, nxIs_nx, retH_rt, nxH_nx, PyData.isList, PyData.isDict, PyData.isStr, List.range, List.range.loop, sz0, sz1, sz2, sz3, sz4, sz5, sz6, sz7, sz8, sz9, sz10, sz11, sz12]) rfl hf
    have b1 := body [] A l (fr b (a + b)) .no .no u1 .no .no t1 e1
    have b2 := body A _ r (fr a (a + b)) (.c (.dict (kvN (parL l)))) u1 u2 .no .no t2 e2
    have kn : kvN [] = [] := rfl
    rw [kn] at b1
    have lp := forL_seq (T := .tp [(.nm 6), (.nm 7)]) (d := .tuple [l.py, fr b (a + b)]) (ds := [.tuple [r.py, fr a (a + b)]]) (ρ := [.c (Mob.py (.node a l b r)), .c (iN a), .c l.py, .c (iN b), .c r.py, .h false (.dict []), .no, .no, .no, .no]) (ρ1 := [.c (Mob.py (.node a l b r)), .c (iN a), .c l.py, .c (iN b), .c r.py, .h false (.dict []), .c l.py, .c (fr b (a + b)), .no, .no]) rfl b1
      (forL_seq (T := .tp [(.nm 6), (.nm 7)]) (d := .tuple [r.py, fr a (a + b)]) (ds := []) (ρ1 := [.c (Mob.py (.node a l b r)), .c (iN a), .c l.py, .c (iN b), .c r.py, .h false (.dict (kvN A)), .c r.py, .c (fr a (a + b)), .c (.dict (kvN (parL l))), u1]) rfl b2 forL_end)
    refine rI_seq (ρ1 := [.c (Mob.py (.node a l b r)), .no, .no, .no, .no, .no, .no, .no, .no, .no]) (by simp [execs, exec, ev.eq_1, ev.eq_2, ev.eq_3, ev.eq_4, ev.eq_5, ev.eq_6, ev.eq_7, ev.eq_8, ev.eq_9, ev.eq_10, ev.eq_11, ev.eq_12, ev.eq_13, ev.eq_14, ev.eq_15, ev.eq_16, ev.eq_17, ev.eq_18, ev.eq_19, ev_lc, evAnd, evOr, evCh, evR, evC, evA, evP, evIf, evT, evO, PL.bind, sb, biR, negR, binR, idxR, sliR, metR, cmpR, truthR, callR, iosOf, derefs, putBack, PL.cold, peeks, peek, gets, ofO, retOf, slotOf, setAll, isHot, subAt, recvOk, isMut, isUpd, recvD, dctR, biD, one, ovS, seq?, isInst, PyData.isInt, PyData.isBool, PyData.isTuple, truthD, PyData.truthy, entry, asgT, asgTs, wipeE, notHot, backE, it_lst, it_tpl, it_r1, it_r2, it_r3, it_enum, it_zip, rg1, rg2, ints?, intR, setD, retIs_rt, nxIs_nx, retH_rt, nxH_nx, PyData.isList, PyData.isDict, PyData.isStr, List.range, List.range.loop, sz0, sz1, sz2, sz3, sz4, sz5, sz6, sz7, sz8, sz9, sz10, sz11, sz12, entry, d_parts_of, Mob.py]) (rI_seq (ρ1 := [.c (Mob.py (.node a l b r)), .c (iN a), .c l.py, .c (iN b), .c r.py, .no, .no, .no, .no, .no]) (by simp [execs, exec, ev.eq_1, ev.eq_2, ev.eq_3, ev.eq_4, ev.eq_5, ev.eq_6, ev.eq_7, ev.eq_8, ev.eq_9, ev.eq_10, ev.eq_11, ev.eq_12, ev.eq_13, ev.eq_14, ev.eq_15, ev.eq_16, ev.eq_17, ev.eq_18, ev.eq_19, ev_lc, evAnd, evOr, evCh, evR, evC, evA, evP, evIf, evT, evO, PL.bind, sb, biR, negR, binR, idxR, sliR, metR, cmpR, truthR, callR, iosOf, derefs, putBack, PL.cold, peeks, peek, gets, ofO, retOf, slotOf, setAll, isHot, subAt, recvOk, isMut, isUpd, recvD, dctR, biD, one, ovS, seq?, isInst, PyData.isInt, PyData.isBool, PyData.isTuple, truthD, PyData.truthy, entry, asgT, asgTs, wipeE, notHot, backE, it_lst, it_tpl, it_r1, it_r2, it_r3, it_enum, it_zip, rg1, rg2, ints?, intR, setD, retIs_rt, nxIs_nx, retH_rt, nxH_nx, PyData.isList, PyData.isDict, PyData.isStr, List.range, List.range.loop, sz0, sz1, sz2, sz3, sz4, sz5, sz6, sz7, sz8, sz9, sz10, sz11, sz12, Mob.py]) (rI_seq (ρ1 := [.c (Mob.py (.node a l b r)), .c (iN a), .c l.py, .c (iN b), .c r.py, .h false (.dict []), .no, .no, .no, .no]) (by simp [execs, exec, ev.eq_1, ev.eq_2, ev.eq_3, ev.eq_4, ev.eq_5, ev.eq_6, ev.eq_7, ev.eq_8, ev.eq_9, ev.eq_10, ev.eq_11, ev.eq_12, ev.eq_13, ev.eq_14, ev.eq_15, ev.eq_16, ev.eq_17, ev.eq_18, ev.eq_19, ev_lc, evAnd, evOr, evCh, evR, evC, evA, evP, evIf, evT, evO, PL.bind, sb, biR, negR, binR, idxR, sliR, metR, cmpR, truthR, callR, iosOf, derefs, putBack, PL.cold, peeks, peek, gets, ofO, retOf, slotOf, setAll, isHot, subAt, recvOk, isMut, isUpd, recvD, dctR, biD, one, ovS, seq?, isInst, PyData.isInt, PyData.isBool, PyData.isTuple, truthD, PyData.truthy, entry, asgT, asgTs, wipeE, notHot, backE, it_lst, it_tpl, it_r1, it_r2, it_r3, it_enum, it_zip, rg1, rg2, ints?, intR, setD, retIs_rt, nxIs_nx, retH_rt, nxH_nx, PyData.isList, PyData.isDict, PyData.isStr, List.range, List.range.loop, sz0, sz1, sz2, sz3, sz4, sz5, sz6, sz7, sz8, sz9, sz10, sz11, sz12]) (rI_seq (exec_fr (ds := [.tuple [.tuple [l.py, fr b (a + b)], .tuple [r.py, fr a (a + b)]]]) (by simp [execs, exec, ev.eq_1, ev.eq_2, ev.eq_3, ev.eq_4, ev.eq_5, ev.eq_6, ev.eq_7, ev.eq_8, ev.eq_9, ev.eq_10, ev.eq_11, ev.eq_12, ev.eq_13, ev.eq_14, ev.eq_15, ev.eq_16, ev.eq_17, ev.eq_18, ev.eq_19, ev_lc, evAnd, evOr, evCh, evR, evC, evA, evP, evIf, evT, evO, PL.bind, sb, biR, negR, binR, idxR, sliR, metR, cmpR, truthR, callR, iosOf, derefs, putBack, PL.cold, peeks, peek, gets, ofO, retOf, slotOf, setAll, isHot, subAt, recvOk, isMut, isUpd, recvD, dctR, biD, one, ovS, seq?, isInst, PyData.isInt, PyData.isBool, PyData.isTuple, truthD, PyData.truthy, entry, asgT, asgTs, wipeE, notHot, backE, it_lst, it_tpl, it_r1, it_r2, it_r3, it_enum, it_zip, rg1, rg2, ints?, intR, setD, retIs_rt, nxIs_nx, retH_rt, nxH_nx, PyData.isList, PyData.isDict, PyData.isStr, List.range, List.range.loop, sz0, sz1, sz2, sz3, sz4, sz5, sz6, sz7, sz8, sz9, sz10, sz11, sz12, df_reduced, io_reduced, ad, r1, r2]) rfl lp) ?_)))
    simp [execs, exec, ev.eq_1, ev.eq_2, ev.eq_3, ev.eq_4, ev.eq_5, ev.eq_6, ev.eq_7, ev.eq_8, ev.eq_9, ev.eq_10, ev.eq_11, ev.eq_12, ev.eq_13, ev.eq_14, ev.eq_15, ev.eq_16, ev.eq_17, ev.eq_18, ev.eq_19, ev_lc, evAnd, evOr, evCh, evR, evC, evA, evP, evIf, evT, evO, PL.bind, sb, biR, negR, binR, idxR, sliR, metR, cmpR, truthR, callR, iosOf, derefs, putBack, PL.cold, peeks, peek, gets, ofO, retOf, slotOf, setAll, isHot, subAt, recvOk, isMut, isUpd, recvD, dctR, biD, one, ovS, seq?, isInst, PyData.isInt, PyData.isBool, PyData.isTuple, truthD, PyData.truthy, entry, asgT, asgTs, wipeE, notHot, backE, it_lst, it_tpl, it_r1, it_r2, it_r3, it_enum, it_zip, rg1, rg2, ints?, intR, setD, retIs_rt, nxIs_nx, retH_rt, nxH_nx, PyData.isList, PyData.isDict, PyData.isStr, List.range, List.range.loop, sz0, sz1, sz2, sz3, sz4, sz5, sz6, sz7, sz8, sz9, sz10, sz11, sz12]
end
end PL.L

set_option autoImplicit false
set_option linter.all false
set_option Elab.async false
set_option maxRecDepth 100000
set_option maxHeartbeats 2000000
/-! MC: least_weights. -/
namespace PL.L
open PySem PL
/-- the weight of a name -/
def Mob.wOf (m : Mob) (k : Nat) : Nat := (m.prs.lookup k).getD 0
theorem lookup_of {L : List (Nat × Nat)} {k v : Nat} (nd : (L.map (·.1)).Nodup) (h : (k, v) ∈ L) : L.lookup k = some v := by
  induction L with
  | nil => cases h
  | cons p L ih =>
    rw [List.map_cons, List.nodup_cons] at nd
    rw [List.lookup_cons]
    rcases List.mem_cons.mp h with rfl | h
    · simp
    · have : (k == p.1) = false := by
        rw [beq_eq_false_iff_ne]
        rintro rfl
        exact nd.1 (List.mem_map.mpr ⟨_, h, rfl⟩)
      rw [this]
      exact ih nd.2 h
theorem wOf_of {m : Mob} (nd : m.nms.Nodup) {p : Nat × Nat} (h : p ∈ m.prs) : m.wOf p.1 = p.2 := by
  unfold Mob.wOf
  rw [lookup_of (by rw [Mob.nms_prs]; exact nd) h]; rfl
theorem prs_of {m : Mob} (nd : m.nms.Nodup) {k : Nat} (h : k ∈ m.nms) : (k, m.wOf k) ∈ m.prs := by
  rw [← Mob.nms_prs] at h
  obtain ⟨p, hp, rfl⟩ := List.mem_map.mp h
  rw [wOf_of nd hp]; exact hp
theorem Whole.nd {m : Mob} (h : Whole m) : m.nms.Nodup := h.pm.nodup_iff.mpr List.nodup_range
def Mob.Wl (m : Mob) : List Nat := (upto m.nms.length).map m.wOf
theorem Wl_mem {m : Mob} (h : Whole m) (x : Nat) : x ∈ m.Wl ↔ x ∈ m.prs.map (·.2) := by
  unfold Mob.Wl
  rw [List.mem_map, List.mem_map]
  constructor
  · rintro ⟨k, hk, rfl⟩
    exact ⟨_, prs_of h.nd (h.pm.mem_iff.mpr hk), rfl⟩
  · rintro ⟨p, hp, rfl⟩
    refine ⟨p.1, h.pm.mem_iff.mp ?_, wOf_of h.nd hp⟩
    rw [← Mob.nms_prs]; exact List.mem_map_of_mem hp
theorem gl_Wl {m : Mob} (h : Whole m) : gl m.Wl = gl (m.prs.map (·.2)) := gl_ext (Wl_mem h)
/-- the least weights by names -/
def Mob.due (m : Mob) : List Nat := (upto m.nms.length).map fun k => m.wOf k / gl (m.prs.map (·.2))
theorem low_Wl {m : Mob} (h : Whole m) : lowW m.Wl = m.due := by
  unfold lowW
  rw [gl_Wl h, Mob.Wl, List.map_map]; rfl
section
variable {N n : Nat}
theorem line_m {m : Mob} (h : Whole m) : Line m.S m.Wl := by
  have pr := fun x hx => (Wl_mem h x).mp hx
  refine ⟨Mob.S_pos h.ok, S_le5 h.part, fun w hw => ?_, fun w hw => ?_, ?_⟩
  · obtain ⟨p, hp, rfl⟩ := List.mem_map.mp (pr w hw)
    exact Nat.le_trans (Mob.prs_le p hp) (S_le5 h.part)
  · obtain ⟨p, hp, rfl⟩ := List.mem_map.mp (pr w hw)
    exact Mob.prs_pos h.ok p hp
  · unfold Mob.Wl
    rw [List.length_map, upto_len]
    have := h.len; omega
theorem c_least (hN : BB < N) {m : Mob} (h : Whole m) : callD dfs N (n + 10) "least_weights" [m.py] = .ok (.c (tupN m.due)) [] := by
  refine callD_ret0 (D := d_least_weights) rfl rfl rfl ?_
  have c1 : callD dfs N (n + 9) "check_mobile" [m.py] = .ok (.c .none) [] := c_check_mobile (n := n + 5) hN h
  have a := hgt_le m
  have b := h.len
  have c2 : callD dfs N (n + 9) "parts_of" [m.py] = .ok (.h false (.dict (kvN (parL m)))) [] := by
    have := c_parts_of hN h.part h.nd (n + (5 - m.hgt))
    rwa [show n + (5 - m.hgt) + m.hgt + 4 = n + 9 by omega] at this
  have c3 : callD dfs N (n + 9) "as_integers" [lineD m.S m.Wl] = .ok (.c (.tuple ((lowW m.Wl).map iN))) [] := c_as_integers (n := n + 7) hN (line_m h)
  rw [low_Wl h] at c3
  have ll : (kvN (parL m)).length = m.nms.length := by
    unfold kvN parL
    rw [List.length_map, List.length_map, ← List.length_map (f := (·.1)), Mob.nms_prs]
  have lz : lenD (.dict (kvN (parL m))) = some (.val (iN m.nms.length)) := by
    have z : szOk (kvN (parL m)).length = true := zw _ (by omega)
    have : lenD (.dict (kvN (parL m))) = if szOk (kvN (parL m)).length = true then some (.val (.int ((kvN (parL m)).length : Nat))) else none := rfl
    rw [this, if_pos z, ll]; rfl
  have it : rg1 (ints? [iN m.nms.length]) = some ((upto m.nms.length).map iN) := it_r1n (by omega)
  have st : ∀ k ∈ upto m.nms.length, ∀ ρ : PL.Env, ρ = [.c m.py, .c (.dict (kvN (parL m))), .no] → stepF (.nm 2) (fun x => Out.ok true x) (ev ⟨dfs, callD dfs N (n + 9)⟩ (.idx (.var 1) (.var 2))) [2] (iN k) ρ = .ok (some (fr (m.wOf k) m.S)) ρ := fun k hk ρ e => by
    subst e
    have i : idxD (.dict (kvN (parL m))) (iN k) = some (fr (m.wOf k) m.S) := by
      refine idx_N ?_ ?_
      · unfold parL
        rw [List.map_map]
        have : (m.prs.map ((·.1) ∘ fun p => (p.1, fr p.2 m.S))) = m.prs.map (·.1) := rfl
        rw [this, Mob.nms_prs]; exact h.nd
      · exact List.mem_map.mpr ⟨_, prs_of h.nd (h.pm.mem_iff.mpr hk), rfl⟩
    generalize kvN (parL m) = D at i ⊢
    simp [execs, exec, ev.eq_1, ev.eq_2, ev.eq_3, ev.eq_4, ev.eq_5, ev.eq_6, ev.eq_7, ev.eq_8, ev.eq_9, ev.eq_10, ev.eq_11, ev.eq_12, ev.eq_13, ev.eq_14, ev.eq_15, ev.eq_16, ev.eq_17, ev.eq_18, ev.eq_19, ev_lc, evAnd, evOr, evCh, evR, evC, evA, evP, evIf, evT, evO, PL.bind, sb, biR, negR, binR, idxR, sliR, metR, cmpR, truthR, callR, iosOf, derefs, putBack, PL.cold, peeks, peek, gets, ofO, retOf, slotOf, setAll, isHot, subAt, recvOk, isMut, isUpd, recvD, dctR, biD, one, ovS, seq?, isInst, PyData.isInt, PyData.isBool, PyData.isTuple, truthD, PyData.truthy, entry, asgT, asgTs, wipeE, notHot, backE, it_lst, it_tpl, it_r1, it_r2, it_r3, it_enum, it_zip, rg1, rg2, ints?, intR, setD, retIs_rt, nxIs_nx, retH_rt, nxH_nx, PyData.isList, PyData.isDict, PyData.isStr, List.range, List.range.loop, sz0, sz1, sz2, sz3, sz4, sz5, sz6, sz7, sz8, sz9, sz10, sz11, sz12, stepF, i]
  have lc := lcL_all (l := upto m.nms.length) (g := iN) (f := fun k => fr (m.wOf k) m.S) (fun w hw' => st w hw' _ rfl) (by rw [upto_len]; omega)
  have ln : (upto m.nms.length).map (fun k => fr (m.wOf k) m.S) = m.Wl.map fun w => fr w m.S := by
    unfold Mob.Wl; rw [List.map_map]; rfl
  rw [ln] at lc
  have lD : lineD m.S m.Wl = .list (m.Wl.map fun w => fr w m.S) := rfl
  rw [lD] at c3
  refine rI_seq (ρ1 := [.c m.py, .no, .no]) (by simp [execs, exec, ev.eq_1, ev.eq_2, ev.eq_3, ev.eq_4, ev.eq_5, ev.eq_6, ev.eq_7, ev.eq_8, ev.eq_9, ev.eq_10, ev.eq_11, ev.eq_12, ev.eq_13, ev.eq_14, ev.eq_15, ev.eq_16, ev.eq_17, ev.eq_18, ev.eq_19, ev_lc, evAnd, evOr, evCh, evR, evC, evA, evP, evIf, evT, evO, PL.bind, sb, biR, negR, binR, idxR, sliR, metR, cmpR, truthR, callR, iosOf, derefs, putBack, PL.cold, peeks, peek, gets, ofO, retOf, slotOf, setAll, isHot, subAt, recvOk, isMut, isUpd, recvD, dctR, biD, one, ovS, seq?, isInst, PyData.isInt, PyData.isBool, PyData.isTuple, truthD, PyData.truthy, entry, asgT, asgTs, wipeE, notHot, backE, it_lst, it_tpl, it_r1, it_r2, it_r3, it_enum, it_zip, rg1, rg2, ints?, intR, setD, retIs_rt, nxIs_nx, retH_rt, nxH_nx, PyData.isList, PyData.isDict, PyData.isStr, List.range, List.range.loop, sz0, sz1, sz2, sz3, sz4, sz5, sz6, sz7, sz8, sz9, sz10, sz11, sz12, entry, d_least_weights, df_check_mobile, io_check_mobile, c1]) (rI_seq (ρ1 := [.c m.py, .c (.dict (kvN (parL m))), .no]) (by simp [execs, exec, ev.eq_1, ev.eq_2, ev.eq_3, ev.eq_4, ev.eq_5, ev.eq_6, ev.eq_7, ev.eq_8, ev.eq_9, ev.eq_10, ev.eq_11, ev.eq_12, ev.eq_13, ev.eq_14, ev.eq_15, ev.eq_16, ev.eq_17, ev.eq_18, ev.eq_19, ev_lc, evAnd, evOr, evCh, evR, evC, evA, evP, evIf, evT, evO, PL.bind, sb, biR, negR, binR, idxR, sliR, metR, cmpR, truthR, callR, iosOf, derefs, putBack, PL.cold, peeks, peek, gets, ofO, retOf, slotOf, setAll, isHot, subAt, recvOk, isMut, isUpd, recvD, dctR, biD, one, ovS, seq?, isInst, PyData.isInt, PyData.isBool, PyData.isTuple, truthD, PyData.truthy, entry, asgT, asgTs, wipeE, notHot, backE, it_lst, it_tpl, it_r1, it_r2, it_r3, it_enum, it_zip, rg1, rg2, ints?, intR, setD, retIs_rt, nxIs_nx, retH_rt, nxH_nx, PyData.isList, PyData.isDict, PyData.isStr, List.range, List.range.loop, sz0, sz1, sz2, sz3, sz4, sz5, sz6, sz7, sz8, sz9, sz10, sz11, sz12, df_parts_of, io_parts_of, c2]) ?_)
  generalize kvN (parL m) = D at *
  have tn : tupN m.due = .tuple (m.due.map iN) := rfl
  rw [tn]
  simp [execs, exec, ev.eq_1, ev.eq_2, ev.eq_3, ev.eq_4, ev.eq_5, ev.eq_6, ev.eq_7, ev.eq_8, ev.eq_9, ev.eq_10, ev.eq_11, ev.eq_12, ev.eq_13, ev.eq_14, ev.eq_15, ev.eq_16, ev.eq_17, ev.eq_18, ev.eq_19, ev_lc, evAnd, evOr, evCh, evR, evC, evA, evP, evIf, evT, evO, PL.bind, sb, biR, negR, binR, idxR, sliR, metR, cmpR, truthR, callR, iosOf, derefs, putBack, PL.cold, peeks, peek, gets, ofO, retOf, slotOf, setAll, isHot, subAt, recvOk, isMut, isUpd, recvD, dctR, biD, one, ovS, seq?, isInst, PyData.isInt, PyData.isBool, PyData.isTuple, truthD, PyData.truthy, entry, asgT, asgTs, wipeE, notHot, backE, it_lst, it_tpl, it_r1, it_r2, it_r3, it_enum, it_zip, rg1, rg2, ints?, intR, setD, retIs_rt, nxIs_nx, retH_rt, nxH_nx, PyData.isList, PyData.isDict, PyData.isStr, List.range, List.range.loop, sz0, sz1, sz2, sz3, sz4, sz5, sz6, sz7, sz8, sz9, sz10, sz11, sz12, lz, it, ev_lc, lc, df_as_integers, io_as_integers, c3, -ints?, -rg1]
end
end PL.L

set_option autoImplicit false
set_option linter.all false
set_option Elab.async false
set_option maxRecDepth 100000
set_option maxHeartbeats 2000000
/-! MD: _law_mobile, one turn. -/
namespace PL.L
open PySem PL
def mo_0 : St := .asg 1 false (.bin .Add (.con (.int 1)) (.call "_law_draw" [(.var 0), (.con (.int 6))]))
def mo_1 : St := .asg 2 true (.lc (.tup [(.var 14), (.lst [(.var 14)]), (.lst [(.tup [(.con (.int 1)), (.con (.int 1))])]), (.tup [(.con (.int 0)), (.con (.int 0))]), (.lst [])]) (.nm 14) .r1 [(.var 1)] [] [14])
def mo_2_c : Ex := (.cmp (.bi .len [(.var 2)]) [.Gt] [(.con (.int 1))])
def mo_2_0 : St := .asg 3 false (.met .pop (.var 2) [(.call "_law_draw" [(.var 0), (.bi .len [(.var 2)])])])
def mo_2_1 : St := .asg 4 false (.met .pop (.var 2) [(.call "_law_draw" [(.var 0), (.bi .len [(.var 2)])])])
def mo_2_2 : St := .par [5, 6] [false, false] [(.bin .Add (.con (.int 1)) (.call "_law_draw" [(.var 0), (.con (.int 4))])), (.bin .Add (.con (.int 1)) (.call "_law_draw" [(.var 0), (.con (.int 4))]))]
def mo_2_3 : St := .unp (.tp [(.nm 7), (.nm 8)]) (.tup [(.tup [(.con (.int 0)), (.con (.int 1))]), (.tup [(.con (.int 0)), (.con (.int 1))])])
def mo_2_4_0 : St := .asg 7 false (.call "_law_plus" [(.var 7), (.var 9)])
def mo_2_4 : St := .fr (.nm 9) .plain [(.idx (.var 3) (.con (.int 2)))] [mo_2_4_0]
def mo_2_5_0 : St := .asg 8 false (.call "_law_plus" [(.var 8), (.var 9)])
def mo_2_5 : St := .fr (.nm 9) .plain [(.idx (.var 4) (.con (.int 2)))] [mo_2_5_0]
def mo_2_6 : St := .asg 10 false (.call "_law_times" [(.call "_law_times" [(.tup [(.var 5), (.var 6)]), (.var 7)]), (.tup [(.idx (.var 8) (.con (.int 1))), (.idx (.var 8) (.con (.int 0)))])])
def mo_2_7 : St := .asg 9 false (.bin .Add (.idx (.var 3) (.con (.int 2))) (.lc (.call "_law_times" [(.var 10), (.var 15)]) (.nm 15) .plain [(.idx (.var 4) (.con (.int 2)))] [] [15]))
def mo_2_8 : St := .asg 11 false (.bi .max [(.con (.int 0)), (.bin .Add (.var 5) (.idx (.idx (.var 3) (.con (.int 3))) (.con (.int 0)))), (.bin .Sub (.idx (.idx (.var 4) (.con (.int 3))) (.con (.int 0))) (.var 6))])
def mo_2_9 : St := .asg 12 false (.bi .max [(.con (.int 0)), (.bin .Add (.var 6) (.idx (.idx (.var 4) (.con (.int 3))) (.con (.int 1)))), (.bin .Sub (.idx (.idx (.var 3) (.con (.int 3))) (.con (.int 1))) (.var 5))])
def mo_2_10 : St := .asg 13 false (.bin .Add (.bin .Add (.lst [(.tup [(.var 5), (.bi .tuple [(.idx (.var 3) (.con (.int 1)))]), (.var 6), (.bi .tuple [(.idx (.var 4) (.con (.int 1)))])])]) (.idx (.var 3) (.con (.int 4)))) (.idx (.var 4) (.con (.int 4))))
def mo_2_11 : St := .ex (.met .append (.var 2) [(.tup [(.tup [(.var 5), (.idx (.var 3) (.con (.int 0))), (.var 6), (.idx (.var 4) (.con (.int 0)))]), (.bin .Add (.idx (.var 3) (.con (.int 1))) (.idx (.var 4) (.con (.int 1)))), (.var 9), (.tup [(.var 11), (.var 12)]), (.var 13)])])
def mo_2 : St := .wh mo_2_c [mo_2_0, mo_2_1, mo_2_2, mo_2_3, mo_2_4, mo_2_5, mo_2_6, mo_2_7, mo_2_8, mo_2_9, mo_2_10, mo_2_11]
def mo_3 : St := .ret (.idx (.var 2) (.con (.int 0)))
theorem mo_eq : b_law_mobile = [mo_0, mo_1, mo_2, mo_3] := rfl
theorem sU_3 (f : Nat → Slot) (i j : Nat) (a b c : Slot) : sU (sU (sU f i a) j b) i c = sU (sU f j b) i c := by
  funext k
  unfold sU
  by_cases h : k = i <;> simp [h]
theorem er_map {α β : Type} (g : α → β) : ∀ (l : List α) (i : Nat), (l.eraseIdx i).map g = (l.map g).eraseIdx i
  | [], i => by simp
  | _ :: _, 0 => rfl
  | x :: l, i + 1 => by rw [List.map_cons, List.eraseIdx_cons_succ, List.eraseIdx_cons_succ, List.map_cons, er_map g l i]
def Mob.arms : Mob → List PyData
  | .leaf _ => []
  | .node a l b r => .tuple [iN a, tupN l.nms, iN b, tupN r.nms] :: (l.arms ++ r.arms)
def muchL (m : Mob) : List PyData := m.prs.map fun p => fr p.2 m.cd
def namL (m : Mob) : List PyData := m.nms.map iN
def itm (m : Mob) : PyData := .tuple [m.py, .list (namL m), .list (muchL m), rcD m.rc, .list m.arms]
theorem itm0 (m : Mob) : idxD (itm m) (.int 0) = some m.py := rfl
theorem itm1 (m : Mob) : idxD (itm m) (.int 1) = some (.list (namL m)) := rfl
theorem itm2 (m : Mob) : idxD (itm m) (.int 2) = some (.list (muchL m)) := rfl
theorem itm3 (m : Mob) : idxD (itm m) (.int 3) = some (rcD m.rc) := rfl
theorem itm4 (m : Mob) : idxD (itm m) (.int 4) = some (.list m.arms) := rfl
section
variable {N n : Nat}
abbrev Gm (N n : Nat) : PL.Ctx := ⟨dfs, callD dfs N (n + 4)⟩
theorem drm {N : Nat} : Draws dfs N := draws_A rfl
theorem eDm : dfs "_law_draw" = some d_law_draw := rfl
theorem iDm : d_law_draw.ios = [0] := rfl
theorem pop_itm {ps : List Mob} {r : Int} (h0 : 0 ≤ r) (h : r < ps.length) : ∃ (i : Nat) (hi : i < ps.length), metM .pop (.list (ps.map itm)) [.int r] = some (itm ps[i], .list ((ps.eraseIdx i).map itm)) := by
  have hi : r.toNat < ps.length := by omega
  refine ⟨r.toNat, hi, ?_⟩
  have ix : ixD (ps.map itm).length r = some r.toNat := by
    unfold ixD
    rw [if_pos h0, if_pos (by rw [List.length_map]; exact h)]
  have e : metM .pop (.list (ps.map itm)) [.int r] = (ixD (ps.map itm).length r).bind fun j => ((ps.map itm)[j]?).map fun x => (x, .list ((ps.map itm).eraseIdx j)) := rfl
  rw [e, ix, Option.bind_some, List.getElem?_map, List.getElem?_eq_getElem hi, ← er_map]
  rfl
theorem len_itm {ps : List Mob} (h : ps.length ≤ 1000) : lenD (.list (ps.map itm)) = some (.val (.int (ps.length : Nat))) := by
  have z : szOk (ps.map itm).length = true := zw _ (by rw [List.length_map]; omega)
  have : lenD (.list (ps.map itm)) = if szOk (ps.map itm).length = true then some (.val (.int ((ps.map itm).length : Nat))) else none := rfl
  rw [this, if_pos z, List.length_map]
theorem m_pop (s : Nat) (hs : s = 3 ∨ s = 4) {f : Nat → Slot} {d : PyData} {ps : List Mob} (h0 : f 0 = .h true d) (hk : HandOk d) (h2 : f 2 = .h false (.list (ps.map itm))) (l1 : 1 ≤ ps.length) (l2 : ps.length ≤ 1000) :
    ∃ (i : Nat) (hi : i < ps.length) (d' : PyData), HandOk d' ∧ exec (Gm N n) N (.asg s false (.met .pop (.var 2) [(.call "_law_draw" [(.var 0), (.bi .len [(.var 2)])])])) (E 16 f) = .nx (E 16 (sU (sU (sU f 0 (.h true d')) 2 (.h false (.list ((ps.eraseIdx i).map itm)))) s (.c (itm ps[i])))) := by
  obtain ⟨r, d', r0, r1, k', e⟩ := (drm (N := N)).2 hk (ps.length : Nat) (by omega) (by omega)
  have e' := e (n + 3)
  obtain ⟨i, hi, p⟩ := pop_itm r0 r1
  have ln := len_itm l2
  refine ⟨i, hi, d', k', ?_⟩
  generalize ps.map itm = xs at p ln h2
  generalize (ps.eraseIdx i).map itm = ys at p ⊢
  rcases hs with rfl | rfl <;> simp [execs, exec, ev.eq_1, ev.eq_2, ev.eq_3, ev.eq_4, ev.eq_5, ev.eq_6, ev.eq_7, ev.eq_8, ev.eq_9, ev.eq_10, ev.eq_11, ev.eq_12, ev.eq_13, ev.eq_14, ev.eq_15, ev.eq_16, ev.eq_17, ev.eq_18, ev.eq_19, ev_lc, evAnd, evOr, evCh, evR, evC, evA, evP, evIf, evT, evO, PL.bind, sb, biR, negR, binR, idxR, sliR, metR, cmpR, truthR, callR, iosOf, derefs, putBack, PL.cold, peeks, peek, gets, ofO, retOf, slotOf, setAll, isHot, subAt, recvOk, isMut, isUpd, recvD, dctR, biD, one, ovS, seq?, isInst, PyData.isInt, PyData.isBool, PyData.isTuple, truthD, PyData.truthy, entry, asgT, asgTs, wipeE, backE, it_lst, it_tpl, it_r1, it_r2, it_r3, it_enum, it_zip, rg1, rg2, ints?, intR, setD, retIs_rt, nxIs_nx, retH_rt, nxH_nx, PyData.isList, PyData.isDict, PyData.isStr, List.range, List.range.loop, sz0, sz1, sz2, sz3, sz4, sz5, sz6, sz7, sz8, sz9, sz10, sz11, sz12, E_get, E_set, sU_eq, sU_ne, sU_sU, sU_comm, notHot_E, cl_no, cl_c, h0, h2, ln, eDm, iDm, e', p]
theorem m_arms {f : Nat → Slot} {d : PyData} (h0 : f 0 = .h true d) (hk : HandOk d) : ∃ (a b : Nat) (d' : PyData), 1 ≤ a ∧ a ≤ 4 ∧ 1 ≤ b ∧ b ≤ 4 ∧ HandOk d' ∧ exec (Gm N n) N mo_2_2 (E 16 f) = .nx (E 16 (sU (sU (sU f 0 (.h true d')) 5 (.c (iN a))) 6 (.c (iN b)))) := by
  obtain ⟨r, d1, r0, r1, k1, e1⟩ := (drm (N := N)).2 hk 4 (by omega) (by omega)
  obtain ⟨s, d2, s0, s1, k2, e2⟩ := (drm (N := N)).2 k1 4 (by omega) (by omega)
  have e1' := e1 (n + 3)
  have e2' := e2 (n + 3)
  refine ⟨(1 + r).toNat, (1 + s).toNat, d2, by omega, by omega, by omega, by omega, k2, ?_⟩
  have i1 : iN (1 + r).toNat = .int (1 + r) := by unfold iN; rw [Int.toNat_of_nonneg (by omega)]
  have i2 : iN (1 + s).toNat = .int (1 + s) := by unfold iN; rw [Int.toNat_of_nonneg (by omega)]
  rw [i1, i2]
  simp [execs, exec, ev.eq_1, ev.eq_2, ev.eq_3, ev.eq_4, ev.eq_5, ev.eq_6, ev.eq_7, ev.eq_8, ev.eq_9, ev.eq_10, ev.eq_11, ev.eq_12, ev.eq_13, ev.eq_14, ev.eq_15, ev.eq_16, ev.eq_17, ev.eq_18, ev.eq_19, ev_lc, evAnd, evOr, evCh, evR, evC, evA, evP, evIf, evT, evO, PL.bind, sb, biR, negR, binR, idxR, sliR, metR, cmpR, truthR, callR, iosOf, derefs, putBack, PL.cold, peeks, peek, gets, ofO, retOf, slotOf, setAll, isHot, subAt, recvOk, isMut, isUpd, recvD, dctR, biD, one, ovS, seq?, isInst, PyData.isInt, PyData.isBool, PyData.isTuple, truthD, PyData.truthy, entry, asgT, asgTs, wipeE, backE, it_lst, it_tpl, it_r1, it_r2, it_r3, it_enum, it_zip, rg1, rg2, ints?, intR, setD, retIs_rt, nxIs_nx, retH_rt, nxH_nx, PyData.isList, PyData.isDict, PyData.isStr, List.range, List.range.loop, sz0, sz1, sz2, sz3, sz4, sz5, sz6, sz7, sz8, sz9, sz10, sz11, sz12, E_get, E_set, sU_eq, sU_ne, sU_sU, sU_comm, notHot_E, cl_no, cl_c, mo_2_2, h0, eDm, iDm, e1', e2', binD]
theorem m_zero {f : Nat → Slot} : exec (Gm N n) N mo_2_3 (E 16 f) = .nx (E 16 (sU (sU f 7 (.c (.tuple [.int 0, .int 1]))) 8 (.c (.tuple [.int 0, .int 1])))) := by
  simp [execs, exec, ev.eq_1, ev.eq_2, ev.eq_3, ev.eq_4, ev.eq_5, ev.eq_6, ev.eq_7, ev.eq_8, ev.eq_9, ev.eq_10, ev.eq_11, ev.eq_12, ev.eq_13, ev.eq_14, ev.eq_15, ev.eq_16, ev.eq_17, ev.eq_18, ev.eq_19, ev_lc, evAnd, evOr, evCh, evR, evC, evA, evP, evIf, evT, evO, PL.bind, sb, biR, negR, binR, idxR, sliR, metR, cmpR, truthR, callR, iosOf, derefs, putBack, PL.cold, peeks, peek, gets, ofO, retOf, slotOf, setAll, isHot, subAt, recvOk, isMut, isUpd, recvD, dctR, biD, one, ovS, seq?, isInst, PyData.isInt, PyData.isBool, PyData.isTuple, truthD, PyData.truthy, entry, asgT, asgTs, wipeE, backE, it_lst, it_tpl, it_r1, it_r2, it_r3, it_enum, it_zip, rg1, rg2, ints?, intR, setD, retIs_rt, nxIs_nx, retH_rt, nxH_nx, PyData.isList, PyData.isDict, PyData.isStr, List.range, List.range.loop, sz0, sz1, sz2, sz3, sz4, sz5, sz6, sz7, sz8, sz9, sz10, sz11, sz12, E_get, E_set, sU_eq, sU_ne, sU_sU, sU_comm, notHot_E, cl_no, cl_c, mo_2_3]
theorem fr_zero {c : Nat} (h : 0 < c) : (.tuple [.int 0, .int 1] : PyData) = fr 0 c := by
  unfold fr frN
  rw [Nat.gcd_zero_left, Nat.zero_div, Nat.div_self h]; rfl
theorem fold_sum : ∀ (l : List (Nat × Nat)) (s : Nat), l.foldl (fun s p => s + p.2) s = s + (l.map (·.2)).sum
  | [], s => by simp
  | p :: l, s => by rw [List.foldl_cons, fold_sum l]; simp; omega
/-- a part of the law's mobile, of so many names -/
structure Pt (m : Mob) (k : Nat) : Prop where
  ok : m.Ok
  len : m.nms.length = k
theorem Pt.S {m : Mob} {k : Nat} (h : Pt m k) : m.S ≤ 8 ^ (k - 1) := by have := Mob.S_le h.ok; rwa [h.len] at this
theorem Pt.cd {m : Mob} {k : Nat} (h : Pt m k) : m.cd ≤ 8 ^ (k - 1) := by have := Mob.cd_le h.ok; rwa [h.len] at this
theorem pw {k : Nat} (h : k ≤ 6) : 8 ^ (k - 1) ≤ 32768 := Nat.le_trans (Nat.pow_le_pow_right (by decide) (show k - 1 ≤ 5 by omega)) (by decide)
theorem m_sum (i j : Nat) (hij : (i = 7 ∧ j = 3) ∨ (i = 8 ∧ j = 4)) (hN : BB < N) {f : Nat → Slot} {m : Mob} {k : Nat} (hm : Pt m k) (hk : k ≤ 6) (hi : f i = .c (.tuple [.int 0, .int 1])) (hj : f j = .c (itm m)) :
    ∃ s9 : Slot, exec (Gm N n) N (.fr (.nm 9) .plain [(.idx (.var j) (.con (.int 2)))] [.asg i false (.call "_law_plus" [(.var i), (.var 9)])]) (E 16 f) = .nx (E 16 (sU (sU f 9 s9) i (.c (fr m.S m.cd)))) := by
  have cp := Mob.cd_pos hm.ok
  have cl := Nat.le_trans hm.cd (pw hk)
  have sl := Nat.le_trans hm.S (pw hk)
  have q : m.cd * m.cd ≤ BB := mulB (c := 32768) (d := 32768) cl cl (by decide)
  have tot := Mob.sum_prs m
  have key : ∀ (l : List (Nat × Nat)) (s : Nat) (x : Slot), s + (l.map (·.2)).sum ≤ m.S → ∃ x', forL (.nm 9) (execs (Gm N n) N [.asg i false (.call "_law_plus" [(.var i), (.var 9)])]) (l.map fun p => fr p.2 m.cd) (E 16 (sU (sU f 9 x) i (.c (fr s m.cd)))) = .nx (E 16 (sU (sU f 9 x') i (.c (fr (s + (l.map (·.2)).sum) m.cd)))) := by
    intro l
    induction l with
    | nil => intro s x _; exact ⟨x, by rw [List.map_nil, forL]; rfl⟩
    | cons p l ih =>
      intro s x hs
      simp only [List.map_cons, List.sum_cons] at hs
      obtain ⟨x', e⟩ := ih (s + p.2) (.c (fr p.2 m.cd)) (by omega)
      have c := c_lplus (N := N) (n := n + 2) hN (P := s) (Q := m.cd) (P' := p.2) (Q' := m.cd) cp cp (by unfold BB; omega) (by unfold BB; omega) q
      have r : fr (s * m.cd + p.2 * m.cd) (m.cd * m.cd) = fr (s + p.2) m.cd := by
        unfold fr
        rw [frN_ratio (P' := s + p.2) (Q' := m.cd) (Nat.mul_pos cp cp) cp (by grind)]
      rw [r] at c
      refine ⟨x', ?_⟩
      simp only [List.map_cons, List.sum_cons, ← Nat.add_assoc]
      refine forL_seq (ρ1 := E 16 (sU (sU f 9 (.c (fr p.2 m.cd))) i (.c (fr s m.cd)))) ?_ (ρ2 := E 16 (sU (sU f 9 (.c (fr p.2 m.cd))) i (.c (fr (s + p.2) m.cd)))) ?_ e
      · rw [asgT, E_set, sU_3, sU_comm (i := 9) (j := i) (by omega)]
      · rw [execs_one]
        rcases hij with ⟨rfl, rfl⟩ | ⟨rfl, rfl⟩
        · simp [execs, exec, ev.eq_1, ev.eq_2, ev.eq_3, ev.eq_4, ev.eq_5, ev.eq_6, ev.eq_7, ev.eq_8, ev.eq_9, ev.eq_10, ev.eq_11, ev.eq_12, ev.eq_13, ev.eq_14, ev.eq_15, ev.eq_16, ev.eq_17, ev.eq_18, ev.eq_19, ev_lc, evAnd, evOr, evCh, evR, evC, evA, evP, evIf, evT, evO, PL.bind, sb, biR, negR, binR, idxR, sliR, metR, cmpR, truthR, callR, iosOf, derefs, putBack, PL.cold, peeks, peek, gets, ofO, retOf, slotOf, setAll, isHot, subAt, recvOk, isMut, isUpd, recvD, dctR, biD, one, ovS, seq?, isInst, PyData.isInt, PyData.isBool, PyData.isTuple, truthD, PyData.truthy, entry, asgT, asgTs, wipeE, backE, it_lst, it_tpl, it_r1, it_r2, it_r3, it_enum, it_zip, rg1, rg2, ints?, intR, setD, retIs_rt, nxIs_nx, retH_rt, nxH_nx, PyData.isList, PyData.isDict, PyData.isStr, List.range, List.range.loop, sz0, sz1, sz2, sz3, sz4, sz5, sz6, sz7, sz8, sz9, sz10, sz11, sz12, E_get, E_set, sU_eq, sU_ne, sU_sU, sU_comm, notHot_E, cl_no, cl_c, df_law_plus, io_law_plus, c] <;> simp only [sU_3]
        · simp [execs, exec, ev.eq_1, ev.eq_2, ev.eq_3, ev.eq_4, ev.eq_5, ev.eq_6, ev.eq_7, ev.eq_8, ev.eq_9, ev.eq_10, ev.eq_11, ev.eq_12, ev.eq_13, ev.eq_14, ev.eq_15, ev.eq_16, ev.eq_17, ev.eq_18, ev.eq_19, ev_lc, evAnd, evOr, evCh, evR, evC, evA, evP, evIf, evT, evO, PL.bind, sb, biR, negR, binR, idxR, sliR, metR, cmpR, truthR, callR, iosOf, derefs, putBack, PL.cold, peeks, peek, gets, ofO, retOf, slotOf, setAll, isHot, subAt, recvOk, isMut, isUpd, recvD, dctR, biD, one, ovS, seq?, isInst, PyData.isInt, PyData.isBool, PyData.isTuple, truthD, PyData.truthy, entry, asgT, asgTs, wipeE, backE, it_lst, it_tpl, it_r1, it_r2, it_r3, it_enum, it_zip, rg1, rg2, ints?, intR, setD, retIs_rt, nxIs_nx, retH_rt, nxH_nx, PyData.isList, PyData.isDict, PyData.isStr, List.range, List.range.loop, sz0, sz1, sz2, sz3, sz4, sz5, sz6, sz7, sz8, sz9, sz10, sz11, sz12, E_get, E_set, sU_eq, sU_ne, sU_sU, sU_comm, notHot_E, cl_no, cl_c, df_law_plus, io_law_plus, c] <;> simp only [sU_3]
  obtain ⟨x', e⟩ := key m.prs 0 (f 9) (by rw [tot]; omega)
  rw [tot, Nat.zero_add, ← fr_zero cp] at e
  have fs : sU (sU f 9 (f 9)) i (.c (.tuple [.int 0, .int 1])) = f := by
    rw [sU_self, ← hi, sU_self]
  rw [fs] at e
  refine ⟨x', ?_⟩
  refine exec_fr (ds := [.list (muchL m)]) ?_ rfl e
  rcases hij with ⟨rfl, rfl⟩ | ⟨rfl, rfl⟩ <;> simp [execs, exec, ev.eq_1, ev.eq_2, ev.eq_3, ev.eq_4, ev.eq_5, ev.eq_6, ev.eq_7, ev.eq_8, ev.eq_9, ev.eq_10, ev.eq_11, ev.eq_12, ev.eq_13, ev.eq_14, ev.eq_15, ev.eq_16, ev.eq_17, ev.eq_18, ev.eq_19, ev_lc, evAnd, evOr, evCh, evR, evC, evA, evP, evIf, evT, evO, PL.bind, sb, biR, negR, binR, idxR, sliR, metR, cmpR, truthR, callR, iosOf, derefs, putBack, PL.cold, peeks, peek, gets, ofO, retOf, slotOf, setAll, isHot, subAt, recvOk, isMut, isUpd, recvD, dctR, biD, one, ovS, seq?, isInst, PyData.isInt, PyData.isBool, PyData.isTuple, truthD, PyData.truthy, entry, asgT, asgTs, wipeE, backE, it_lst, it_tpl, it_r1, it_r2, it_r3, it_enum, it_zip, rg1, rg2, ints?, intR, setD, retIs_rt, nxIs_nx, retH_rt, nxH_nx, PyData.isList, PyData.isDict, PyData.isStr, List.range, List.range.loop, sz0, sz1, sz2, sz3, sz4, sz5, sz6, sz7, sz8, sz9, sz10, sz11, sz12, E_get, E_set, sU_eq, sU_ne, sU_sU, sU_comm, notHot_E, cl_no, cl_c, hj, itm2]
theorem c_lt2 (hN : BB < N) {x y x' y' : Nat} (h : 0 < y) (h' : 0 < y') (hp : x ≤ BB) (hb : y * y' ≤ BB) : callD dfs N (n + 2) "_law_times" [.tuple [iN x, iN y], .tuple [iN x', iN y']] = .ok (.c (fr (x * x') (y * y'))) [] := by
  refine callD_ret0 (D := d_law_times) rfl rfl rfl ?_
  have c := c_low (N := N) (n := n) hN (a := x * x') (b := y * y') (Nat.mul_pos h h') hb
  have m1 := d_mul (a := x) (b := x') hp
  have m2 := d_mul (a := y) (b := y') (Nat.le_trans (Nat.le_mul_of_pos_right y h') hb)
  have i0 : ∀ a b : PyData, idxD (.tuple [a, b]) (.int 0) = some a := fun _ _ => rfl
  have i1 : ∀ a b : PyData, idxD (.tuple [a, b]) (.int 1) = some b := fun _ _ => rfl
  simp [execs, exec, ev.eq_1, ev.eq_2, ev.eq_3, ev.eq_4, ev.eq_5, ev.eq_6, ev.eq_7, ev.eq_8, ev.eq_9, ev.eq_10, ev.eq_11, ev.eq_12, ev.eq_13, ev.eq_14, ev.eq_15, ev.eq_16, ev.eq_17, ev.eq_18, ev.eq_19, ev_lc, evAnd, evOr, evCh, evR, evC, evA, evP, evIf, evT, evO, PL.bind, sb, biR, negR, binR, idxR, sliR, metR, cmpR, truthR, callR, iosOf, derefs, putBack, PL.cold, peeks, peek, gets, ofO, retOf, slotOf, setAll, isHot, subAt, recvOk, isMut, isUpd, recvD, dctR, biD, one, ovS, seq?, isInst, PyData.isInt, PyData.isBool, PyData.isTuple, truthD, PyData.truthy, entry, asgT, asgTs, wipeE, notHot, backE, it_lst, it_tpl, it_r1, it_r2, it_r3, it_enum, it_zip, rg1, rg2, ints?, intR, setD, retIs_rt, nxIs_nx, retH_rt, nxH_nx, PyData.isList, PyData.isDict, PyData.isStr, List.range, List.range.loop, sz0, sz1, sz2, sz3, sz4, sz5, sz6, sz7, sz8, sz9, sz10, sz11, sz12, d_law_times, b_law_times, i0, i1, m1, m2, df_law_low, io_law_low, c]
end
end PL.L

set_option autoImplicit false
set_option linter.all false
set_option Elab.async false
set_option maxRecDepth 100000
set_option maxHeartbeats 2000000
/-! ME: _law_mobile's turn, put together. -/
namespace PL.L
open PySem PL
section
variable {N n : Nat}
theorem fr_i0 (P Q : Nat) : idxD (fr P Q) (.int 0) = some (iN (frN P Q).1) := rfl
theorem fr_i1 (P Q : Nat) : idxD (fr P Q) (.int 1) = some (iN (frN P Q).2) := rfl
theorem frN_pos1 {P Q : Nat} (h : 0 < P) : 0 < (frN P Q).1 := by
  have := (frN_eq P Q).1
  rcases Nat.eq_zero_or_pos (frN P Q).1 with z | z
  · rw [z] at this; omega
  · exact z
/-- two parts that are put together -/
structure Two (a : Nat) (l : Mob) (b : Nat) (r : Mob) : Prop where
  okl : l.Ok
  okr : r.Ok
  a1 : 1 ≤ a
  a4 : a ≤ 4
  b1 : 1 ≤ b
  b4 : b ≤ 4
  len : l.nms.length + r.nms.length ≤ 6
theorem Two.ok {a b : Nat} {l r : Mob} (h : Two a l b r) : (Mob.node a l b r).Ok := ⟨h.a1, h.a4, h.b1, h.b4, h.okl, h.okr⟩
theorem Two.l5 {a b : Nat} {l r : Mob} (h : Two a l b r) : l.S ≤ 32768 ∧ l.cd ≤ 32768 ∧ r.S ≤ 32768 ∧ r.cd ≤ 32768 := by
  have := Mob.nms_pos l
  have := Mob.nms_pos r
  have := h.len
  exact ⟨Nat.le_trans (Mob.S_le h.okl) (pw (by omega)), Nat.le_trans (Mob.cd_le h.okl) (pw (by omega)), Nat.le_trans (Mob.S_le h.okr) (pw (by omega)), Nat.le_trans (Mob.cd_le h.okr) (pw (by omega))⟩
theorem Two.bnd {a b : Nat} {l r : Mob} (h : Two a l b r) : b * l.cd * r.S * r.cd ≤ BB := by
  have p1 := Mob.nms_pos l
  have p2 := Mob.nms_pos r
  have p3 := h.len
  have e1 := Mob.cd_le h.okl
  have e2 := Mob.S_le h.okr
  have e3 := Mob.cd_le h.okr
  have e4 : r.S * r.cd ≤ 8 ^ (r.nms.length - 1) * 8 ^ (r.nms.length - 1) := Nat.mul_le_mul e2 e3
  have e5 : b * l.cd ≤ 4 * 8 ^ (l.nms.length - 1) := Nat.mul_le_mul h.b4 e1
  have e6 : b * l.cd * (r.S * r.cd) ≤ 4 * 8 ^ (l.nms.length - 1) * (8 ^ (r.nms.length - 1) * 8 ^ (r.nms.length - 1)) := Nat.mul_le_mul e5 e4
  rw [← Nat.pow_add, Nat.mul_assoc 4, ← Nat.pow_add] at e6
  have e7 : (8 : Nat) ^ (l.nms.length - 1 + (r.nms.length - 1 + (r.nms.length - 1))) ≤ 8 ^ 8 := Nat.pow_le_pow_right (by decide) (by omega)
  rw [Nat.mul_assoc (b * l.cd)]
  refine Nat.le_trans e6 (Nat.le_trans (Nat.mul_le_mul_left 4 e7) (by decide))
theorem m_by (hN : BB < N) {f : Nat → Slot} {a b : Nat} {l r : Mob} (h : Two a l b r) (h5 : f 5 = .c (iN a)) (h6 : f 6 = .c (iN b)) (h7 : f 7 = .c (fr l.S l.cd)) (h8 : f 8 = .c (fr r.S r.cd)) :
    exec (Gm N n) N mo_2_6 (E 16 f) = .nx (E 16 (sU f 10 (.c (fr (a * l.S * r.cd) (b * l.cd * r.S))))) := by
  obtain ⟨l1, l2, l3, l4⟩ := h.l5
  have pS := Mob.S_pos h.okl
  have pC := Mob.cd_pos h.okl
  have qS := Mob.S_pos h.okr
  have qC := Mob.cd_pos h.okr
  have a1 := h.a1
  have a4 := h.a4
  have b1 := h.b1
  have b4 := h.b4
  have c1 : callD dfs N (n + 4) "_law_times" [.tuple [iN a, iN b], fr l.S l.cd] = .ok (.c (fr (a * l.S) (b * l.cd))) [] := by
    have := c_lt2 (N := N) (n := n + 2) hN (x := a) (y := b) (x' := (frN l.S l.cd).1) (y' := (frN l.S l.cd).2) (by omega) (frN_pos pC) (by unfold BB; omega) (mulB (c := 4) (d := 32768) b4 (Nat.le_trans frN_le.2 l2) (by decide))
    have r : fr (a * (frN l.S l.cd).1) (b * (frN l.S l.cd).2) = fr (a * l.S) (b * l.cd) := by
      unfold fr
      have x := frN_cross l.S l.cd
      rw [frN_ratio (P' := a * l.S) (Q' := b * l.cd) (Nat.mul_pos (by omega) (frN_pos pC)) (Nat.mul_pos (by omega) pC) (by grind)]
    rw [r] at this; exact this
  have bb : b * l.cd * r.S ≤ BB := mulB (c := 4 * 32768) (d := 32768) (Nat.mul_le_mul b4 l2) l3 (by decide)
  have c2 : callD dfs N (n + 4) "_law_times" [fr (a * l.S) (b * l.cd), .tuple [iN (frN r.S r.cd).2, iN (frN r.S r.cd).1]] = .ok (.c (fr (a * l.S * r.cd) (b * l.cd * r.S))) [] := by
    have pB : 0 < b * l.cd := Nat.mul_pos (by omega) pC
    have := c_lt2 (N := N) (n := n + 2) hN (x := (frN (a * l.S) (b * l.cd)).1) (y := (frN (a * l.S) (b * l.cd)).2) (x' := (frN r.S r.cd).2) (y' := (frN r.S r.cd).1) (frN_pos pB) (frN_pos1 qS) (Nat.le_trans frN_le.1 (mulB (c := 4) (d := 32768) a4 l1 (by decide))) (Nat.le_trans (Nat.mul_le_mul frN_le.2 frN_le.1) bb)
    have r : fr ((frN (a * l.S) (b * l.cd)).1 * (frN r.S r.cd).2) ((frN (a * l.S) (b * l.cd)).2 * (frN r.S r.cd).1) = fr (a * l.S * r.cd) (b * l.cd * r.S) := by
      unfold fr
      have x := frN_cross r.S r.cd
      have y := frN_cross (a * l.S) (b * l.cd)
      rw [frN_ratio (P' := a * l.S * r.cd) (Q' := b * l.cd * r.S) (Nat.mul_pos (frN_pos pB) (frN_pos1 qS)) (Nat.mul_pos pB qS) (by grind)]
    rw [r] at this; exact this
  simp [execs, exec, ev.eq_1, ev.eq_2, ev.eq_3, ev.eq_4, ev.eq_5, ev.eq_6, ev.eq_7, ev.eq_8, ev.eq_9, ev.eq_10, ev.eq_11, ev.eq_12, ev.eq_13, ev.eq_14, ev.eq_15, ev.eq_16, ev.eq_17, ev.eq_18, ev.eq_19, ev_lc, evAnd, evOr, evCh, evR, evC, evA, evP, evIf, evT, evO, PL.bind, sb, biR, negR, binR, idxR, sliR, metR, cmpR, truthR, callR, iosOf, derefs, putBack, PL.cold, peeks, peek, gets, ofO, retOf, slotOf, setAll, isHot, subAt, recvOk, isMut, isUpd, recvD, dctR, biD, one, ovS, seq?, isInst, PyData.isInt, PyData.isBool, PyData.isTuple, truthD, PyData.truthy, entry, asgT, asgTs, wipeE, backE, it_lst, it_tpl, it_r1, it_r2, it_r3, it_enum, it_zip, rg1, rg2, ints?, intR, setD, retIs_rt, nxIs_nx, retH_rt, nxH_nx, PyData.isList, PyData.isDict, PyData.isStr, List.range, List.range.loop, sz0, sz1, sz2, sz3, sz4, sz5, sz6, sz7, sz8, sz9, sz10, sz11, sz12, E_get, E_set, sU_eq, sU_ne, sU_sU, sU_comm, notHot_E, cl_no, cl_c, mo_2_6, h5, h6, h7, h8, df_law_times, io_law_times, c1, c2, fr_i0, fr_i1]
theorem much_node {a b : Nat} {l r : Mob} (h : Two a l b r) : muchL (.node a l b r) = muchL l ++ r.prs.map fun p => fr (a * l.S * p.2) (l.cd * (b * r.S)) := by
  unfold muchL
  rw [Mob.prs, List.map_append, List.map_map, List.map_map]
  congr 1
  refine List.map_congr_left fun p _ => ?_
  have pS := Mob.S_pos h.okr
  have pC := Mob.cd_pos h.okl
  have b1 := h.b1
  show fr (b * r.S * p.2) (l.cd * (b * r.S)) = fr p.2 l.cd
  unfold fr
  rw [frN_ratio (P' := p.2) (Q' := l.cd) (Nat.mul_pos pC (Nat.mul_pos (by omega) pS)) pC (by grind)]
theorem prs_len (m : Mob) : m.prs.length = m.nms.length := by
  rw [← Mob.nms_prs, List.length_map]
theorem m_much (hN : BB < N) {f : Nat → Slot} {a b : Nat} {l r : Mob} (h : Two a l b r) (h3 : f 3 = .c (itm l)) (h4 : f 4 = .c (itm r)) (h10 : f 10 = .c (fr (a * l.S * r.cd) (b * l.cd * r.S))) (c15 : cl (f 15) = true) :
    exec (Gm N n) N mo_2_7 (E 16 f) = .nx (E 16 (sU f 9 (.c (.list (muchL (.node a l b r)))))) := by
  obtain ⟨l1, l2, l3, l4⟩ := h.l5
  have pS := Mob.S_pos h.okl
  have pC := Mob.cd_pos h.okl
  have qS := Mob.S_pos h.okr
  have qC := Mob.cd_pos h.okr
  have a4 := h.a4
  have b1 := h.b1
  have len := h.len
  have bd := h.bnd
  have pB : 0 < b * l.cd * r.S := Nat.mul_pos (Nat.mul_pos (by omega) pC) qS
  have st : ∀ p ∈ r.prs, stepF (.nm 15) (fun x => Out.ok true x) (ev (Gm N n) (.call "_law_times" [(.var 10), (.var 15)])) [15] (fr p.2 r.cd) (E 16 (sU f 15 .no)) = .ok (some (fr (a * l.S * p.2) (l.cd * (b * r.S)))) (E 16 (sU f 15 .no)) := fun p hp => by
    have c := c_ltimes (N := N) (n := n + 2) hN (P := a * l.S * r.cd) (Q := b * l.cd * r.S) (P' := p.2) (Q' := r.cd) pB qC (mulB (c := 4 * 32768) (d := 32768) (Nat.mul_le_mul a4 l1) l4 (by decide)) bd
    have e : fr (a * l.S * r.cd * p.2) (b * l.cd * r.S * r.cd) = fr (a * l.S * p.2) (l.cd * (b * r.S)) := by
      unfold fr
      rw [frN_ratio (P' := a * l.S * p.2) (Q' := l.cd * (b * r.S)) (Nat.mul_pos pB qC) (Nat.mul_pos pC (Nat.mul_pos (by omega) qS)) (by grind)]
    rw [e] at c
    simp [execs, exec, ev.eq_1, ev.eq_2, ev.eq_3, ev.eq_4, ev.eq_5, ev.eq_6, ev.eq_7, ev.eq_8, ev.eq_9, ev.eq_10, ev.eq_11, ev.eq_12, ev.eq_13, ev.eq_14, ev.eq_15, ev.eq_16, ev.eq_17, ev.eq_18, ev.eq_19, ev_lc, evAnd, evOr, evCh, evR, evC, evA, evP, evIf, evT, evO, PL.bind, sb, biR, negR, binR, idxR, sliR, metR, cmpR, truthR, callR, iosOf, derefs, putBack, PL.cold, peeks, peek, gets, ofO, retOf, slotOf, setAll, isHot, subAt, recvOk, isMut, isUpd, recvD, dctR, biD, one, ovS, seq?, isInst, PyData.isInt, PyData.isBool, PyData.isTuple, truthD, PyData.truthy, entry, asgT, asgTs, wipeE, backE, it_lst, it_tpl, it_r1, it_r2, it_r3, it_enum, it_zip, rg1, rg2, ints?, intR, setD, retIs_rt, nxIs_nx, retH_rt, nxH_nx, PyData.isList, PyData.isDict, PyData.isStr, List.range, List.range.loop, sz0, sz1, sz2, sz3, sz4, sz5, sz6, sz7, sz8, sz9, sz10, sz11, sz12, E_get, E_set, sU_eq, sU_ne, sU_sU, sU_comm, notHot_E, cl_no, cl_c, stepF, h10, df_law_times, io_law_times, c]
  have lc := lcL_all (l := r.prs) (g := fun p => fr p.2 r.cd) (f := fun p => fr (a * l.S * p.2) (l.cd * (b * r.S))) st (by have := prs_len r; omega)
  have ad := add_lists (xs := muchL l) (ys := r.prs.map fun p => fr (a * l.S * p.2) (l.cd * (b * r.S))) (by unfold muchL; have := prs_len l; have := prs_len r; simp; omega)
  rw [much_node h]
  have lm : r.prs.map (fun p => fr p.2 r.cd) = muchL r := rfl
  rw [lm] at lc
  have it : itemsD .plain [.list (muchL r)] = some (muchL r) := rfl
  simp [execs, exec, ev.eq_1, ev.eq_2, ev.eq_3, ev.eq_4, ev.eq_5, ev.eq_6, ev.eq_7, ev.eq_8, ev.eq_9, ev.eq_10, ev.eq_11, ev.eq_12, ev.eq_13, ev.eq_14, ev.eq_15, ev.eq_16, ev.eq_17, ev.eq_18, ev.eq_19, ev_lc, evAnd, evOr, evCh, evR, evC, evA, evP, evIf, evT, evO, PL.bind, sb, biR, negR, binR, idxR, sliR, metR, cmpR, truthR, callR, iosOf, derefs, putBack, PL.cold, peeks, peek, gets, ofO, retOf, slotOf, setAll, isHot, subAt, recvOk, isMut, isUpd, recvD, dctR, biD, one, ovS, seq?, isInst, PyData.isInt, PyData.isBool, PyData.isTuple, truthD, PyData.truthy, entry, asgT, asgTs, wipeE, backE, it_lst, it_tpl, it_r1, it_r2, it_r3, it_enum, it_zip, rg1, rg2, ints?, intR, setD, retIs_rt, nxIs_nx, retH_rt, nxH_nx, PyData.isList, PyData.isDict, PyData.isStr, List.range, List.range.loop, sz0, sz1, sz2, sz3, sz4, sz5, sz6, sz7, sz8, sz9, sz10, sz11, sz12, E_get, E_set, sU_eq, sU_ne, sU_sU, sU_comm, notHot_E, cl_no, cl_c, mo_2_7, h3, h4, itm2, ev_lc, c15, lc, ad, sU_self]
theorem rc0 (p : Int × Int) : idxD (rcD p) (.int 0) = some (.int p.1) := rfl
theorem rc1 (p : Int × Int) : idxD (rcD p) (.int 1) = some (.int p.2) := rfl
theorem m_left {f : Nat → Slot} {a b : Nat} {l r : Mob} (h3 : f 3 = .c (itm l)) (h4 : f 4 = .c (itm r)) (h5 : f 5 = .c (iN a)) (h6 : f 6 = .c (iN b)) :
    exec (Gm N n) N mo_2_8 (E 16 f) = .nx (E 16 (sU f 11 (.c (.int (Mob.node a l b r).rc.1)))) := by
  have e : (Mob.node a l b r).rc.1 = max 0 (max ((a : Int) + l.rc.1) (r.rc.1 - b)) := by
    rw [Mob.rc]; dsimp only; omega
  rw [e]
  simp [execs, exec, ev.eq_1, ev.eq_2, ev.eq_3, ev.eq_4, ev.eq_5, ev.eq_6, ev.eq_7, ev.eq_8, ev.eq_9, ev.eq_10, ev.eq_11, ev.eq_12, ev.eq_13, ev.eq_14, ev.eq_15, ev.eq_16, ev.eq_17, ev.eq_18, ev.eq_19, ev_lc, evAnd, evOr, evCh, evR, evC, evA, evP, evIf, evT, evO, PL.bind, sb, biR, negR, binR, idxR, sliR, metR, cmpR, truthR, callR, iosOf, derefs, putBack, PL.cold, peeks, peek, gets, ofO, retOf, slotOf, setAll, isHot, subAt, recvOk, isMut, isUpd, recvD, dctR, biD, one, ovS, seq?, isInst, PyData.isInt, PyData.isBool, PyData.isTuple, truthD, PyData.truthy, entry, asgT, asgTs, wipeE, backE, it_lst, it_tpl, it_r1, it_r2, it_r3, it_enum, it_zip, rg1, rg2, ints?, intR, setD, retIs_rt, nxIs_nx, retH_rt, nxH_nx, PyData.isList, PyData.isDict, PyData.isStr, List.range, List.range.loop, sz0, sz1, sz2, sz3, sz4, sz5, sz6, sz7, sz8, sz9, sz10, sz11, sz12, E_get, E_set, sU_eq, sU_ne, sU_sU, sU_comm, notHot_E, cl_no, cl_c, mo_2_8, h3, h4, h5, h6, itm3, rc0, d_addZ, d_subZ, max3]
theorem m_right {f : Nat → Slot} {a b : Nat} {l r : Mob} (h3 : f 3 = .c (itm l)) (h4 : f 4 = .c (itm r)) (h5 : f 5 = .c (iN a)) (h6 : f 6 = .c (iN b)) :
    exec (Gm N n) N mo_2_9 (E 16 f) = .nx (E 16 (sU f 12 (.c (.int (Mob.node a l b r).rc.2)))) := by
  have e : (Mob.node a l b r).rc.2 = max 0 (max ((b : Int) + r.rc.2) (l.rc.2 - a)) := by
    rw [Mob.rc]; dsimp only; omega
  rw [e]
  simp [execs, exec, ev.eq_1, ev.eq_2, ev.eq_3, ev.eq_4, ev.eq_5, ev.eq_6, ev.eq_7, ev.eq_8, ev.eq_9, ev.eq_10, ev.eq_11, ev.eq_12, ev.eq_13, ev.eq_14, ev.eq_15, ev.eq_16, ev.eq_17, ev.eq_18, ev.eq_19, ev_lc, evAnd, evOr, evCh, evR, evC, evA, evP, evIf, evT, evO, PL.bind, sb, biR, negR, binR, idxR, sliR, metR, cmpR, truthR, callR, iosOf, derefs, putBack, PL.cold, peeks, peek, gets, ofO, retOf, slotOf, setAll, isHot, subAt, recvOk, isMut, isUpd, recvD, dctR, biD, one, ovS, seq?, isInst, PyData.isInt, PyData.isBool, PyData.isTuple, truthD, PyData.truthy, entry, asgT, asgTs, wipeE, backE, it_lst, it_tpl, it_r1, it_r2, it_r3, it_enum, it_zip, rg1, rg2, ints?, intR, setD, retIs_rt, nxIs_nx, retH_rt, nxH_nx, PyData.isList, PyData.isDict, PyData.isStr, List.range, List.range.loop, sz0, sz1, sz2, sz3, sz4, sz5, sz6, sz7, sz8, sz9, sz10, sz11, sz12, E_get, E_set, sU_eq, sU_ne, sU_sU, sU_comm, notHot_E, cl_no, cl_c, mo_2_9, h3, h4, h5, h6, itm3, rc1, d_addZ, d_subZ, max3]
theorem arms_len : ∀ m : Mob, m.arms.length + 1 = m.nms.length
  | .leaf _ => rfl
  | .node a l b r => by
    have := arms_len l
    have := arms_len r
    simp only [Mob.arms, Mob.nms, List.length_cons, List.length_append]; omega
theorem m_armsL {f : Nat → Slot} {a b : Nat} {l r : Mob} (h : Two a l b r) (h3 : f 3 = .c (itm l)) (h4 : f 4 = .c (itm r)) (h5 : f 5 = .c (iN a)) (h6 : f 6 = .c (iN b)) :
    exec (Gm N n) N mo_2_10 (E 16 f) = .nx (E 16 (sU f 13 (.c (.list (Mob.node a l b r).arms)))) := by
  have t1 : tupN l.nms = .tuple (namL l) := rfl
  have t2 : tupN r.nms = .tuple (namL r) := rfl
  have al := arms_len l
  have ar := arms_len r
  have len := h.len
  have a1 := add_lists (xs := [.tuple [iN a, .tuple (namL l), iN b, .tuple (namL r)]]) (ys := l.arms) (by simp; omega)
  have a2 := add_lists (xs := [.tuple [iN a, .tuple (namL l), iN b, .tuple (namL r)]] ++ l.arms) (ys := r.arms) (by simp; omega)
  rw [Mob.arms, t1, t2]
  simp only [List.cons_append, List.nil_append] at a1 a2
  simp [execs, exec, ev.eq_1, ev.eq_2, ev.eq_3, ev.eq_4, ev.eq_5, ev.eq_6, ev.eq_7, ev.eq_8, ev.eq_9, ev.eq_10, ev.eq_11, ev.eq_12, ev.eq_13, ev.eq_14, ev.eq_15, ev.eq_16, ev.eq_17, ev.eq_18, ev.eq_19, ev_lc, evAnd, evOr, evCh, evR, evC, evA, evP, evIf, evT, evO, PL.bind, sb, biR, negR, binR, idxR, sliR, metR, cmpR, truthR, callR, iosOf, derefs, putBack, PL.cold, peeks, peek, gets, ofO, retOf, slotOf, setAll, isHot, subAt, recvOk, isMut, isUpd, recvD, dctR, biD, one, ovS, seq?, isInst, PyData.isInt, PyData.isBool, PyData.isTuple, truthD, PyData.truthy, entry, asgT, asgTs, wipeE, backE, it_lst, it_tpl, it_r1, it_r2, it_r3, it_enum, it_zip, rg1, rg2, ints?, intR, setD, retIs_rt, nxIs_nx, retH_rt, nxH_nx, PyData.isList, PyData.isDict, PyData.isStr, List.range, List.range.loop, sz0, sz1, sz2, sz3, sz4, sz5, sz6, sz7, sz8, sz9, sz10, sz11, sz12, E_get, E_set, sU_eq, sU_ne, sU_sU, sU_comm, notHot_E, cl_no, cl_c, mo_2_10, h3, h4, h5, h6, itm1, itm4, a1, a2]
theorem m_app {f : Nat → Slot} {a b : Nat} {l r : Mob} {ps : List Mob} (h : Two a l b r) (hl : ps.length ≤ 1000) (h2 : f 2 = .h false (.list (ps.map itm))) (h3 : f 3 = .c (itm l)) (h4 : f 4 = .c (itm r)) (h5 : f 5 = .c (iN a)) (h6 : f 6 = .c (iN b)) (h9 : f 9 = .c (.list (muchL (.node a l b r)))) (h11 : f 11 = .c (.int (Mob.node a l b r).rc.1)) (h12 : f 12 = .c (.int (Mob.node a l b r).rc.2)) (h13 : f 13 = .c (.list (Mob.node a l b r).arms)) :
    exec (Gm N n) N mo_2_11 (E 16 f) = .nx (E 16 (sU f 2 (.h false (.list ((ps ++ [Mob.node a l b r]).map itm))))) := by
  have len := h.len
  have a1 := add_lists (xs := namL l) (ys := namL r) (by unfold namL; simp; omega)
  have z : szOk (ps.map itm).length = true := zw _ (by rw [List.length_map]; omega)
  have ap : ∀ x, metM .append (.list (ps.map itm)) [x] = some (.none, .list (ps.map itm ++ [x])) := fun x => by
    simp only [metM, z, if_true]
  have ei : itm (.node a l b r) = .tuple [.tuple [iN a, l.py, iN b, r.py], .list (namL l ++ namL r), .list (muchL (.node a l b r)), .tuple [.int (Mob.node a l b r).rc.1, .int (Mob.node a l b r).rc.2], .list (Mob.node a l b r).arms] := by
    have : namL (.node a l b r) = namL l ++ namL r := by unfold namL; rw [Mob.nms, List.map_append]
    rw [← this]; rfl
  rw [List.map_append, List.map_singleton, ei]
  generalize muchL (.node a l b r) = X at *
  generalize (Mob.node a l b r).rc.1 = Y at *
  generalize (Mob.node a l b r).rc.2 = Z at *
  generalize (Mob.node a l b r).arms = U at *
  generalize ps.map itm = W at *
  simp [execs, exec, ev.eq_1, ev.eq_2, ev.eq_3, ev.eq_4, ev.eq_5, ev.eq_6, ev.eq_7, ev.eq_8, ev.eq_9, ev.eq_10, ev.eq_11, ev.eq_12, ev.eq_13, ev.eq_14, ev.eq_15, ev.eq_16, ev.eq_17, ev.eq_18, ev.eq_19, ev_lc, evAnd, evOr, evCh, evR, evC, evA, evP, evIf, evT, evO, PL.bind, sb, biR, negR, binR, idxR, sliR, metR, cmpR, truthR, callR, iosOf, derefs, putBack, PL.cold, peeks, peek, gets, ofO, retOf, slotOf, setAll, isHot, subAt, recvOk, isMut, isUpd, recvD, dctR, biD, one, ovS, seq?, isInst, PyData.isInt, PyData.isBool, PyData.isTuple, truthD, PyData.truthy, entry, asgT, asgTs, wipeE, backE, it_lst, it_tpl, it_r1, it_r2, it_r3, it_enum, it_zip, rg1, rg2, ints?, intR, setD, retIs_rt, nxIs_nx, retH_rt, nxH_nx, PyData.isList, PyData.isDict, PyData.isStr, List.range, List.range.loop, sz0, sz1, sz2, sz3, sz4, sz5, sz6, sz7, sz8, sz9, sz10, sz11, sz12, E_get, E_set, sU_eq, sU_ne, sU_sU, sU_comm, notHot_E, cl_no, cl_c, mo_2_11, h2, h3, h4, h5, h6, h9, h11, h12, h13, itm0, itm1, a1, ap]
end
end PL.L

set_option autoImplicit false
set_option linter.all false
set_option Elab.async false
set_option maxRecDepth 100000
set_option maxHeartbeats 2000000
/-! MF: _law_mobile. -/
namespace PL.L
open PySem PL
section
variable {N n : Nat}
def nmsA (ps : List Mob) : List Nat := ps.flatMap Mob.nms
theorem len_nmsA : ∀ ps : List Mob, ps.length ≤ (nmsA ps).length
  | [] => Nat.le_refl _
  | p :: ps => by
    have := len_nmsA ps
    have := Mob.nms_pos p
    unfold nmsA at *
    rw [List.flatMap_cons, List.length_append, List.length_cons]; omega
theorem nmsA_perm {ps qs : List Mob} (h : ps.Perm qs) : (nmsA ps).Perm (nmsA qs) := List.Perm.flatMap_right _ h
theorem er_perm {α : Type} : ∀ {l : List α} {i : Nat} (h : i < l.length), (l[i] :: l.eraseIdx i).Perm l
  | x :: l, 0, h => .refl _
  | x :: l, i + 1, h => by
    have hi : i < l.length := by simpa using h
    have := er_perm (l := l) (i := i) hi
    rw [List.eraseIdx_cons_succ, List.getElem_cons_succ]
    exact (List.Perm.swap x (l[i]'hi) (l.eraseIdx i)).trans (this.cons x)
/-- what a turn begins with -/
structure MoInv (f : Nat → Slot) (d : PyData) (ps : List Mob) : Prop where
  h0 : f 0 = .h true d
  hk : HandOk d
  h2 : f 2 = .h false (.list (ps.map itm))
  ok : ∀ p ∈ ps, p.Ok
  tot : (nmsA ps).length ≤ 6
  c15 : cl (f 15) = true
def moB : List St := [mo_2_0, mo_2_1, mo_2_2, mo_2_3, mo_2_4, mo_2_5, mo_2_6, mo_2_7, mo_2_8, mo_2_9, mo_2_10, mo_2_11]
theorem mo_turn (hN : BB < N) {f : Nat → Slot} {d : PyData} {ps : List Mob} (I : MoInv f d ps) (hl : 2 ≤ ps.length) : ∃ f' d' ps', execs (Gm N n) N moB (E 16 f) = .nx (E 16 f') ∧ MoInv f' d' ps' ∧ ps'.length + 1 = ps.length ∧ (nmsA ps').Perm (nmsA ps) := by
  have l6 := Nat.le_trans (len_nmsA ps) I.tot
  obtain ⟨i, hi, d1, k1, e0⟩ := m_pop (N := N) (n := n) 3 (.inl rfl) I.h0 I.hk I.h2 (by omega) (by omega)
  have p1 : (ps[i] :: ps.eraseIdx i).Perm ps := er_perm hi
  generalize hL : ps[i] = l at p1 e0
  generalize hP : ps.eraseIdx i = qs at p1 e0
  have lq : qs.length + 1 = ps.length := by have := p1.length_eq; simpa using this
  generalize hf1 : sU (sU (sU f 0 (.h true d1)) 2 (.h false (.list (qs.map itm)))) 3 (.c (itm l)) = f1 at e0
  obtain ⟨j, hj, d2, k2, e1⟩ := m_pop (N := N) (n := n) (f := f1) (d := d1) (ps := qs) 4 (.inr rfl) (by rw [← hf1]; rfl) k1 (by rw [← hf1]; rfl) (by omega) (by omega)
  have p2 : (qs[j] :: qs.eraseIdx j).Perm qs := er_perm hj
  generalize hR : qs[j] = r at p2 e1
  generalize hS : qs.eraseIdx j = rs at p2 e1
  have lr : rs.length + 1 = qs.length := by have := p2.length_eq; simpa using this
  generalize hf2 : sU (sU (sU f1 0 (.h true d2)) 2 (.h false (.list (rs.map itm)))) 4 (.c (itm r)) = f2 at e1
  obtain ⟨a, b, d3, a1, a4, b1, b4, k3, e2⟩ := m_arms (N := N) (n := n) (f := f2) (d := d2) (by rw [← hf2]; rfl) k2
  generalize hf3 : sU (sU (sU f2 0 (.h true d3)) 5 (.c (iN a))) 6 (.c (iN b)) = f3 at e2
  have e3 := m_zero (N := N) (n := n) (f := f3)
  generalize hf4 : sU (sU f3 7 (.c (.tuple [.int 0, .int 1]))) 8 (.c (.tuple [.int 0, .int 1])) = f4 at e3
  have pp : (l :: r :: rs).Perm ps := (p2.cons l).trans p1
  have pn := nmsA_perm pp
  have tl : l.nms.length + (r.nms.length + (nmsA rs).length) = (nmsA ps).length := by
    have := pn.length_eq
    unfold nmsA at this
    rw [List.flatMap_cons, List.flatMap_cons, List.length_append, List.length_append] at this
    exact this
  have tot := I.tot
  have T : Two a l b r := ⟨I.ok l (pp.mem_iff.mp (by simp)), I.ok r (pp.mem_iff.mp (by simp)), a1, a4, b1, b4, by omega⟩
  have g3 : f4 3 = .c (itm l) := by rw [← hf4, ← hf3, ← hf2, ← hf1]; rfl
  have g4 : f4 4 = .c (itm r) := by rw [← hf4, ← hf3, ← hf2]; rfl
  have g5 : f4 5 = .c (iN a) := by rw [← hf4, ← hf3]; rfl
  have g6 : f4 6 = .c (iN b) := by rw [← hf4, ← hf3]; rfl
  have g7 : f4 7 = .c (.tuple [.int 0, .int 1]) := by rw [← hf4]; rfl
  have g8 : f4 8 = .c (.tuple [.int 0, .int 1]) := by rw [← hf4]; rfl
  have g0 : f4 0 = .h true d3 := by rw [← hf4, ← hf3]; rfl
  have g2 : f4 2 = .h false (.list (rs.map itm)) := by rw [← hf4, ← hf3, ← hf2]; rfl
  have g15 : cl (f4 15) = true := by rw [← hf4, ← hf3, ← hf2, ← hf1]; exact I.c15
  clear hf1 hf2 hf3 hf4
  obtain ⟨s9, e4⟩ := m_sum (N := N) (n := n) 7 3 (.inl ⟨rfl, rfl⟩) hN (f := f4) (m := l) (k := l.nms.length) ⟨T.okl, rfl⟩ (by have := T.len; omega) g7 g3
  generalize hf5 : sU (sU f4 9 s9) 7 (.c (fr l.S l.cd)) = f5 at e4
  obtain ⟨t9, e5⟩ := m_sum (N := N) (n := n) 8 4 (.inr ⟨rfl, rfl⟩) hN (f := f5) (m := r) (k := r.nms.length) ⟨T.okr, rfl⟩ (by have := T.len; omega) (by rw [← hf5]; exact g8) (by rw [← hf5]; exact g4)
  generalize hf6 : sU (sU f5 9 t9) 8 (.c (fr r.S r.cd)) = f6 at e5
  have e6 := m_by (N := N) (n := n) hN (f := f6) T (by rw [← hf6, ← hf5]; exact g5) (by rw [← hf6, ← hf5]; exact g6) (by rw [← hf6, ← hf5]; rfl) (by rw [← hf6]; rfl)
  generalize hf7 : sU f6 10 (.c (fr (a * l.S * r.cd) (b * l.cd * r.S))) = f7 at e6
  have u3 : f7 3 = .c (itm l) := by rw [← hf7, ← hf6, ← hf5]; exact g3
  have u4 : f7 4 = .c (itm r) := by rw [← hf7, ← hf6, ← hf5]; exact g4
  have u5 : f7 5 = .c (iN a) := by rw [← hf7, ← hf6, ← hf5]; exact g5
  have u6 : f7 6 = .c (iN b) := by rw [← hf7, ← hf6, ← hf5]; exact g6
  have u0 : f7 0 = .h true d3 := by rw [← hf7, ← hf6, ← hf5]; exact g0
  have u2 : f7 2 = .h false (.list (rs.map itm)) := by rw [← hf7, ← hf6, ← hf5]; exact g2
  have u10 : f7 10 = .c (fr (a * l.S * r.cd) (b * l.cd * r.S)) := by rw [← hf7]; rfl
  have u15 : cl (f7 15) = true := by rw [← hf7, ← hf6, ← hf5]; exact g15
  clear hf5 hf6 hf7
  have e7 := m_much (N := N) (n := n) hN (f := f7) T u3 u4 u10 u15
  generalize hf8 : sU f7 9 (.c (.list (muchL (.node a l b r)))) = f8 at e7
  have e8 := m_left (N := N) (n := n) (f := f8) (a := a) (b := b) (l := l) (r := r) (by rw [← hf8]; exact u3) (by rw [← hf8]; exact u4) (by rw [← hf8]; exact u5) (by rw [← hf8]; exact u6)
  generalize hf9 : sU f8 11 (.c (.int (Mob.node a l b r).rc.1)) = f9 at e8
  have e9 := m_right (N := N) (n := n) (f := f9) (a := a) (b := b) (l := l) (r := r) (by rw [← hf9, ← hf8]; exact u3) (by rw [← hf9, ← hf8]; exact u4) (by rw [← hf9, ← hf8]; exact u5) (by rw [← hf9, ← hf8]; exact u6)
  generalize hfA : sU f9 12 (.c (.int (Mob.node a l b r).rc.2)) = fA at e9
  have e10 := m_armsL (N := N) (n := n) (f := fA) T (by rw [← hfA, ← hf9, ← hf8]; exact u3) (by rw [← hfA, ← hf9, ← hf8]; exact u4) (by rw [← hfA, ← hf9, ← hf8]; exact u5) (by rw [← hfA, ← hf9, ← hf8]; exact u6)
  generalize hfB : sU fA 13 (.c (.list (Mob.node a l b r).arms)) = fB at e10
  have e11 := m_app (N := N) (n := n) (f := fB) (ps := rs) T (by omega) (by rw [← hfB, ← hfA, ← hf9, ← hf8]; exact u2) (by rw [← hfB, ← hfA, ← hf9, ← hf8]; exact u3) (by rw [← hfB, ← hfA, ← hf9, ← hf8]; exact u4) (by rw [← hfB, ← hfA, ← hf9, ← hf8]; exact u5) (by rw [← hfB, ← hfA, ← hf9, ← hf8]; exact u6)
    (by rw [← hfB, ← hfA, ← hf9, ← hf8]; rfl) (by rw [← hfB, ← hfA, ← hf9]; rfl) (by rw [← hfB, ← hfA]; rfl) (by rw [← hfB]; rfl)
  have perm : (nmsA (rs ++ [Mob.node a l b r])).Perm (nmsA ps) := by
    refine List.Perm.trans ?_ pn
    refine List.Perm.trans (nmsA_perm (List.perm_append_comm (l₁ := rs) (l₂ := [Mob.node a l b r]))) ?_
    unfold nmsA
    rw [List.cons_append, List.nil_append, List.flatMap_cons, List.flatMap_cons, List.flatMap_cons, Mob.nms, List.append_assoc]
  refine ⟨sU fB 2 (.h false (.list ((rs ++ [Mob.node a l b r]).map itm))), d3, rs ++ [Mob.node a l b r], ?_, ⟨by rw [← hfB, ← hfA, ← hf9, ← hf8]; exact u0, k3, rfl, ?_, by rw [perm.length_eq]; exact I.tot, by rw [← hfB, ← hfA, ← hf9, ← hf8]; exact u15⟩, by simp; omega, perm⟩
  · unfold moB
    have e0' : exec (Gm N n) N mo_2_0 (E 16 f) = .nx (E 16 f1) := e0
    have e1' : exec (Gm N n) N mo_2_1 (E 16 f1) = .nx (E 16 f2) := e1
    have e4' : exec (Gm N n) N mo_2_4 (E 16 f4) = .nx (E 16 f5) := e4
    have e5' : exec (Gm N n) N mo_2_5 (E 16 f5) = .nx (E 16 f6) := e5
    rw [execs_eq e0', execs_eq e1', execs_eq e2, execs_eq e3, execs_eq e4', execs_eq e5', execs_eq e6, execs_eq e7, execs_eq e8, execs_eq e9, execs_eq e10, execs_one, e11]
  · intro p hp
    rcases List.mem_append.mp hp with h | h
    · exact I.ok p (pp.mem_iff.mp (by simp [h]))
    · rw [List.mem_singleton] at h
      rw [h]; exact T.ok
theorem mo_loop (hN : BB < N) : ∀ (k : Nat) {f : Nat → Slot} {d : PyData} {ps : List Mob} {M : Nat}, ps.length = k + 1 → k < M → MoInv f d ps → ∃ f' d' m, whileN (evT (Gm N n) mo_2_c) (execs (Gm N n) N moB) M (E 16 f) = .nx (E 16 f') ∧ MoInv f' d' [m] ∧ m.nms.Perm (nmsA ps)
  | k, f, d, ps, M, hl, hM, I => by
    have l6 := Nat.le_trans (len_nmsA ps) I.tot
    have ln := len_itm (ps := ps) (by omega)
    have h2 := I.h2
    obtain ⟨M, rfl⟩ : ∃ K, M = K + 1 := ⟨M - 1, by omega⟩
    have c : evT (Gm N n) mo_2_c (E 16 f) = .ok (decide ((ps.length : Int) > 1)) (E 16 f) := by
      generalize ps.map itm = xs at ln h2
      simp [execs, exec, ev.eq_1, ev.eq_2, ev.eq_3, ev.eq_4, ev.eq_5, ev.eq_6, ev.eq_7, ev.eq_8, ev.eq_9, ev.eq_10, ev.eq_11, ev.eq_12, ev.eq_13, ev.eq_14, ev.eq_15, ev.eq_16, ev.eq_17, ev.eq_18, ev.eq_19, ev_lc, evAnd, evOr, evCh, evR, evC, evA, evP, evIf, evT, evO, PL.bind, sb, biR, negR, binR, idxR, sliR, metR, cmpR, truthR, callR, iosOf, derefs, putBack, PL.cold, peeks, peek, gets, ofO, retOf, slotOf, setAll, isHot, subAt, recvOk, isMut, isUpd, recvD, dctR, biD, one, ovS, seq?, isInst, PyData.isInt, PyData.isBool, PyData.isTuple, truthD, PyData.truthy, entry, asgT, asgTs, wipeE, backE, it_lst, it_tpl, it_r1, it_r2, it_r3, it_enum, it_zip, rg1, rg2, ints?, intR, setD, retIs_rt, nxIs_nx, retH_rt, nxH_nx, PyData.isList, PyData.isDict, PyData.isStr, List.range, List.range.loop, sz0, sz1, sz2, sz3, sz4, sz5, sz6, sz7, sz8, sz9, sz10, sz11, sz12, E_get, E_set, sU_eq, sU_ne, sU_sU, sU_comm, notHot_E, cl_no, cl_c, mo_2_c, h2, ln, cmp_gt]
    cases k with
    | zero =>
      cases ps with
      | nil => cases hl
      | cons m rs =>
        have : rs = [] := List.eq_nil_of_length_eq_zero (by simpa using hl)
        subst this
        refine ⟨f, d, m, ?_, I, by unfold nmsA; simp⟩
        rw [whileN, c]; rfl
    | succ k =>
      obtain ⟨f1, d1, qs, e1, I1, l1, p1⟩ := mo_turn (n := n) hN I (by omega)
      obtain ⟨f2, d2, m, e2, I2, p2⟩ := mo_loop hN k (M := M) (by omega) (by omega) I1
      refine ⟨f2, d2, m, ?_, I2, p2.trans p1⟩
      rw [whileN, c, decide_eq_true (by omega)]
      dsimp only
      rw [e1]
      exact e2
theorem c_law_mobile (hN : BB < N) {d : PyData} (hk : HandOk d) : ∃ m d', Whole m ∧ HandOk d' ∧ callD dfs N (n + 5) "_law_mobile" [d] = .ok (.c (itm m)) [d'] := by
  obtain ⟨r, d1, r0, r1, k1, e⟩ := (drm (N := N)).2 hk 6 (by omega) (by omega)
  have e' := e (n + 3)
  obtain ⟨m, hm⟩ : ∃ m : Nat, 1 + r = (m : Int) := ⟨(1 + r).toNat, by omega⟩
  have st : ∀ k ∈ upto m, stepF (.nm 14) (fun x => Out.ok true x) (ev (Gm N n) (.tup [(.var 14), (.lst [(.var 14)]), (.lst [(.tup [(.con (.int 1)), (.con (.int 1))])]), (.tup [(.con (.int 0)), (.con (.int 0))]), (.lst [])])) [14] (iN k) (E 16 (sU (sU (sU (fun _ => .no) 0 (.h true d1)) 1 (.c (.int m))) 14 .no)) = .ok (some (itm (.leaf k))) (E 16 (sU (sU (sU (fun _ => .no) 0 (.h true d1)) 1 (.c (.int m))) 14 .no)) := fun k hk => by
    have : itm (.leaf k) = .tuple [iN k, .list [iN k], .list [.tuple [.int 1, .int 1]], .tuple [.int 0, .int 0], .list []] := by
      simp [itm, Mob.py, namL, Mob.nms, muchL, Mob.prs, fr, Mob.cd, frN, rcD, Mob.rc, Mob.arms, iN]
    rw [this]
    simp [execs, exec, ev.eq_1, ev.eq_2, ev.eq_3, ev.eq_4, ev.eq_5, ev.eq_6, ev.eq_7, ev.eq_8, ev.eq_9, ev.eq_10, ev.eq_11, ev.eq_12, ev.eq_13, ev.eq_14, ev.eq_15, ev.eq_16, ev.eq_17, ev.eq_18, ev.eq_19, ev_lc, evAnd, evOr, evCh, evR, evC, evA, evP, evIf, evT, evO, PL.bind, sb, biR, negR, binR, idxR, sliR, metR, cmpR, truthR, callR, iosOf, derefs, putBack, PL.cold, peeks, peek, gets, ofO, retOf, slotOf, setAll, isHot, subAt, recvOk, isMut, isUpd, recvD, dctR, biD, one, ovS, seq?, isInst, PyData.isInt, PyData.isBool, PyData.isTuple, truthD, PyData.truthy, entry, asgT, asgTs, wipeE, backE, it_lst, it_tpl, it_r1, it_r2, it_r3, it_enum, it_zip, rg1, rg2, ints?, intR, setD, retIs_rt, nxIs_nx, retH_rt, nxH_nx, PyData.isList, PyData.isDict, PyData.isStr, List.range, List.range.loop, sz0, sz1, sz2, sz3, sz4, sz5, sz6, sz7, sz8, sz9, sz10, sz11, sz12, E_get, E_set, sU_eq, sU_ne, sU_sU, sU_comm, notHot_E, cl_no, cl_c, stepF]
  have lc := lcL_all (l := upto m) (g := iN) (f := fun k => itm (.leaf k)) st (by rw [upto_len]; omega)
  have I0 : MoInv (sU (sU (sU (fun _ => .no) 0 (.h true d1)) 1 (.c (.int m))) 2 (.h false (.list (((upto m).map Mob.leaf).map itm)))) d1 ((upto m).map Mob.leaf) := by
    have fl : nmsA ((upto m).map Mob.leaf) = upto m := by
      unfold nmsA
      rw [List.flatMap_map]
      have : ∀ l : List Nat, (l.flatMap fun a => (Mob.leaf a).nms) = l := fun l => by
        induction l with
        | nil => rfl
        | cons x l ih => rw [List.flatMap_cons, ih]; rfl
      exact this _
    refine ⟨rfl, k1, rfl, fun p hp => ?_, ?_, rfl⟩
    · obtain ⟨k, _, rfl⟩ := List.mem_map.mp hp
      exact trivial
    · rw [fl, upto_len]; omega
  obtain ⟨f2, d2, w, e2, I2, p2⟩ := mo_loop (n := n) hN (m - 1) (M := N) (by rw [List.length_map, upto_len]; omega) (by unfold BB at hN; omega) I0
  have fl : nmsA ((upto m).map Mob.leaf) = List.range m := by
    unfold nmsA
    rw [List.flatMap_map]
    have : ∀ l : List Nat, (l.flatMap fun a => (Mob.leaf a).nms) = l := fun l => by
      induction l with
      | nil => rfl
      | cons x l ih => rw [List.flatMap_cons, ih]; rfl
    exact this _
  rw [fl] at p2
  have wl : w.nms.length = m := by rw [p2.length_eq, List.length_range]
  refine ⟨w, d2, ⟨I2.ok w (by simp), by rw [wl]; exact p2, by omega⟩, I2.hk, ?_⟩
  refine callD_retH (D := d_law_mobile) rfl rfl rfl ?_
  have s0 : exec (Gm N n) N mo_0 (E 16 (sU (fun _ => .no) 0 (.h true d))) = .nx (E 16 (sU (sU (fun _ => .no) 0 (.h true d1)) 1 (.c (.int m)))) := by
    rw [← hm]
    simp [execs, exec, ev.eq_1, ev.eq_2, ev.eq_3, ev.eq_4, ev.eq_5, ev.eq_6, ev.eq_7, ev.eq_8, ev.eq_9, ev.eq_10, ev.eq_11, ev.eq_12, ev.eq_13, ev.eq_14, ev.eq_15, ev.eq_16, ev.eq_17, ev.eq_18, ev.eq_19, ev_lc, evAnd, evOr, evCh, evR, evC, evA, evP, evIf, evT, evO, PL.bind, sb, biR, negR, binR, idxR, sliR, metR, cmpR, truthR, callR, iosOf, derefs, putBack, PL.cold, peeks, peek, gets, ofO, retOf, slotOf, setAll, isHot, subAt, recvOk, isMut, isUpd, recvD, dctR, biD, one, ovS, seq?, isInst, PyData.isInt, PyData.isBool, PyData.isTuple, truthD, PyData.truthy, entry, asgT, asgTs, wipeE, backE, it_lst, it_tpl, it_r1, it_r2, it_r3, it_enum, it_zip, rg1, rg2, ints?, intR, setD, retIs_rt, nxIs_nx, retH_rt, nxH_nx, PyData.isList, PyData.isDict, PyData.isStr, List.range, List.range.loop, sz0, sz1, sz2, sz3, sz4, sz5, sz6, sz7, sz8, sz9, sz10, sz11, sz12, E_get, E_set, sU_eq, sU_ne, sU_sU, sU_comm, notHot_E, cl_no, cl_c, mo_0, eDm, iDm, e', binD]
  have rg := rg1_nat (k := m) (by omega)
  have s1 : exec (Gm N n) N mo_1 (E 16 (sU (sU (fun _ => .no) 0 (.h true d1)) 1 (.c (.int m)))) = .nx (E 16 (sU (sU (sU (fun _ => .no) 0 (.h true d1)) 1 (.c (.int m))) 2 (.h false (.list (((upto m).map Mob.leaf).map itm))))) := by
    rw [List.map_map]
    have gi : (fun (c : Nat) => PyData.int (c : Int)) = iN := rfl
    rw [gi] at rg
    have fi : (itm ∘ Mob.leaf) = fun k => itm (.leaf k) := rfl
    rw [fi]
    simp [execs, exec, ev.eq_1, ev.eq_2, ev.eq_3, ev.eq_4, ev.eq_5, ev.eq_6, ev.eq_7, ev.eq_8, ev.eq_9, ev.eq_10, ev.eq_11, ev.eq_12, ev.eq_13, ev.eq_14, ev.eq_15, ev.eq_16, ev.eq_17, ev.eq_18, ev.eq_19, ev_lc, evAnd, evOr, evCh, evR, evC, evA, evP, evIf, evT, evO, PL.bind, sb, biR, negR, binR, idxR, sliR, metR, cmpR, truthR, callR, iosOf, derefs, putBack, PL.cold, peeks, peek, gets, ofO, retOf, slotOf, setAll, isHot, subAt, recvOk, isMut, isUpd, recvD, dctR, biD, one, ovS, seq?, isInst, PyData.isInt, PyData.isBool, PyData.isTuple, truthD, PyData.truthy, entry, asgT, asgTs, wipeE, backE, it_lst, it_tpl, it_r1, it_r2, it_r3, it_enum, it_zip, rg1, rg2, ints?, intR, setD, retIs_rt, nxIs_nx, retH_rt, nxH_nx, PyData.isList, PyData.isDict, PyData.isStr, List.range, List.range.loop, sz0, sz1, sz2, sz3, sz4, sz5, sz6, sz7, sz8, sz9, sz10, sz11, sz12, E_get, E_set, sU_eq, sU_ne, sU_sU, sU_comm, notHot_E, cl_no, cl_c, mo_1, ev_lc, rg] at lc ⊢
    rw [lc]
    simp [execs, exec, ev.eq_1, ev.eq_2, ev.eq_3, ev.eq_4, ev.eq_5, ev.eq_6, ev.eq_7, ev.eq_8, ev.eq_9, ev.eq_10, ev.eq_11, ev.eq_12, ev.eq_13, ev.eq_14, ev.eq_15, ev.eq_16, ev.eq_17, ev.eq_18, ev.eq_19, ev_lc, evAnd, evOr, evCh, evR, evC, evA, evP, evIf, evT, evO, PL.bind, sb, biR, negR, binR, idxR, sliR, metR, cmpR, truthR, callR, iosOf, derefs, putBack, PL.cold, peeks, peek, gets, ofO, retOf, slotOf, setAll, isHot, subAt, recvOk, isMut, isUpd, recvD, dctR, biD, one, ovS, seq?, isInst, PyData.isInt, PyData.isBool, PyData.isTuple, truthD, PyData.truthy, entry, asgT, asgTs, wipeE, backE, it_lst, it_tpl, it_r1, it_r2, it_r3, it_enum, it_zip, rg1, rg2, ints?, intR, setD, retIs_rt, nxIs_nx, retH_rt, nxH_nx, PyData.isList, PyData.isDict, PyData.isStr, List.range, List.range.loop, sz0, sz1, sz2, sz3, sz4, sz5, sz6, sz7, sz8, sz9, sz10, sz11, sz12, E_get, E_set, sU_eq, sU_ne, sU_sU, sU_comm, notHot_E, cl_no, cl_c]
    exact congrArg (fun g => E 16 (sU g 2 _)) (sU_self (sU (sU (fun _ => Slot.no) 0 (.h true d1)) 1 (.c (.int m))) 14)
  have en : entry d_law_mobile [d] = E 16 (sU (fun _ => .no) 0 (.h true d)) := rfl
  have l0 : idxD (.list ([w].map itm)) (.int 0) = some (itm w) := rfl
  have h2 := I2.h2
  have h0 := I2.h0
  rw [en, show d_law_mobile.body = [mo_0, mo_1, mo_2, mo_3] from rfl, execs_eq s0, execs_eq s1, execs_eq (show exec (Gm N n) N mo_2 _ = .nx (E 16 f2) from by rw [mo_2, exec]; exact e2)]
  generalize [w].map itm = W at l0 h2
  have : execs (Gm N n) N [mo_3] (E 16 f2) = .rt (.c (itm w)) (E 16 f2) := by simp [execs, exec, ev.eq_1, ev.eq_2, ev.eq_3, ev.eq_4, ev.eq_5, ev.eq_6, ev.eq_7, ev.eq_8, ev.eq_9, ev.eq_10, ev.eq_11, ev.eq_12, ev.eq_13, ev.eq_14, ev.eq_15, ev.eq_16, ev.eq_17, ev.eq_18, ev.eq_19, ev_lc, evAnd, evOr, evCh, evR, evC, evA, evP, evIf, evT, evO, PL.bind, sb, biR, negR, binR, idxR, sliR, metR, cmpR, truthR, callR, iosOf, derefs, putBack, PL.cold, peeks, peek, gets, ofO, retOf, slotOf, setAll, isHot, subAt, recvOk, isMut, isUpd, recvD, dctR, biD, one, ovS, seq?, isInst, PyData.isInt, PyData.isBool, PyData.isTuple, truthD, PyData.truthy, entry, asgT, asgTs, wipeE, backE, it_lst, it_tpl, it_r1, it_r2, it_r3, it_enum, it_zip, rg1, rg2, ints?, intR, setD, retIs_rt, nxIs_nx, retH_rt, nxH_nx, PyData.isList, PyData.isDict, PyData.isStr, List.range, List.range.loop, sz0, sz1, sz2, sz3, sz4, sz5, sz6, sz7, sz8, sz9, sz10, sz11, sz12, E_get, E_set, sU_eq, sU_ne, sU_sU, sU_comm, notHot_E, cl_no, cl_c, mo_3, h2, l0]
  rw [this]
  refine ⟨(E 16 f2).tail, ?_⟩
  have : E 16 f2 = f2 0 :: (E 16 f2).tail := rfl
  rw [← h0, ← this]
end
end PL.L

set_option autoImplicit false
set_option linter.all false
set_option Elab.async false
set_option maxRecDepth 100000
set_option maxHeartbeats 2000000
/-! MG: the law's turn, its statements. -/
namespace PL.L
open PySem PL
def law_p0 : St := .ite (.cmp (.call "least_weights" [(.tup [(.con (.int 1)), (.con (.int 0)), (.con (.int 2)), (.con (.int 1))])]) [.NotEq] [(.tup [(.con (.int 2)), (.con (.int 1))])]) [.ret (.con (.bool false))] []
def law_p1 : St := .ite (.cmp (.call "tilts" [(.tup [(.con (.int 1)), (.con (.int 0)), (.con (.int 1)), (.con (.int 1))]), (.tup [(.con (.int 3)), (.con (.int 2))])]) [.NotEq] [(.tup [(.con (.str "left"))])]) [.ret (.con (.bool false))] []
def law_p2 : St := .ite (.cmp (.call "least_weights" [(.con (.int 0))]) [.NotEq] [(.tup [(.con (.int 1))])]) [.ret (.con (.bool false))] []
def law_t0 : St := .unp (.tp [(.nm 3), (.nm 4), (.nm 5), (.nm 6), (.nm 7)]) (.call "_law_mobile" [(.var 1)])
def law_t1 : St := .asg 8 false (.call "_law_whole" [(.var 5)])
def law_t2 : St := .asg 9 false (.bi .tuple [(.lc (.idx (.var 8) (.met .index (.var 4) [(.var 22)])) (.nm 22) .r1 [(.bi .len [(.var 4)])] [] [22])])
def law_t3 : St := .ite (.bor [(.cmp (.call "least_weights" [(.var 3)]) [.NotEq] [(.var 9)]), (.cmp (.call "reach_of" [(.var 3)]) [.NotEq] [(.var 6)])]) [.ret (.con (.bool false))] []
def law_t4 : St := .asg 10 false (.bin .Add (.con (.int 1)) (.call "_law_draw" [(.var 1), (.con (.int 3))]))
def law_t5 : St := .ite (.cmp (.bin .Mult (.bi .max [(.var 9)]) (.var 10)) [.Lt] [(.con (.int 10001))]) [.asg 11 false (.bi .tuple [(.lc (.bin .Mult (.var 10) (.var 24)) (.nm 24) .plain [(.var 9)] [] [24])]),
    .ite (.cmp (.call "is_level" [(.var 3), (.var 11)]) [.IsNot] [(.con (.bool true))]) [.ret (.con (.bool false))] [],
    .ite (.cmp (.call "whole_weight" [(.var 3), (.var 11)]) [.NotEq] [(.bin .Mult (.var 10) (.bi .sum [(.var 9)]))]) [.ret (.con (.bool false))] [],
    .ite (.cmp (.call "tilts" [(.var 3), (.var 11)]) [.NotEq] [(.bin .Mult (.tup [(.con (.str "level"))]) (.bi .len [(.var 7)]))]) [.ret (.con (.bool false))] []] []
def law_t6 : St := .asg 12 false (.bi .tuple [(.lc (.bin .Add (.con (.int 1)) (.call "_law_draw" [(.var 1), (.con (.int 9))])) (.nm 22) .plain [(.var 4)] [] [22])])
def law_t7 : St := .asg 13 true (.lst [])
def law_t8 : St := .fr (.tp [(.nm 14), (.nm 15), (.nm 16), (.nm 17)]) .plain [(.var 7)] [.par [18, 19] [false, false] [(.bin .Mult (.var 14) (.bi .sum [(.lc (.idx (.var 12) (.var 22)) (.nm 22) .plain [(.var 15)] [] [22])])), (.bin .Mult (.var 16) (.bi .sum [(.lc (.idx (.var 12) (.var 22)) (.nm 22) .plain [(.var 17)] [] [22])]))],
    .ex (.met .append (.var 13) [(.ife (.cmp (.var 18) [.Eq] [(.var 19)]) (.con (.str "level")) (.ife (.cmp (.var 18) [.Gt] [(.var 19)]) (.con (.str "left")) (.con (.str "right"))))])]
def law_t9 : St := .asg 20 false (.call "tilts" [(.var 3), (.var 12)])
def law_t10 : St := .ite (.bor [(.cmp (.bi .sorted [(.var 20)]) [.NotEq] [(.bi .sorted [(.var 13)])]), (.cmp (.sli (.var 20) [] [(.con (.int 1))]) [.NotEq] [(.bi .tuple [(.sli (.var 13) [] [(.con (.int 1))])])])]) [.ret (.con (.bool false))] []
def law_t11 : St := .asg 21 false (.bi .all [(.lc (.cmp (.var 23) [.Eq] [(.con (.str "level"))]) (.nm 23) .plain [(.var 13)] [] [23])])
def law_t12 : St := .ite (.cmp (.call "is_level" [(.var 3), (.var 12)]) [.NotEq] [(.var 21)]) [.ret (.con (.bool false))] []
def law_t13 : St := .ite (.cmp (.call "whole_weight" [(.var 3), (.var 12)]) [.NotEq] [(.bi .sum [(.var 12)])]) [.ret (.con (.bool false))] []
def law_t14 : St := .ite (.cmp (.var 21) [.NotEq] [(.bi .all [(.lc (.cmp (.bin .Mult (.idx (.var 12) (.var 22)) (.idx (.var 9) (.con (.int 0)))) [.Eq] [(.bin .Mult (.idx (.var 12) (.con (.int 0))) (.idx (.var 9) (.var 22)))]) (.nm 22) .plain [(.var 4)] [] [22])])]) [.ret (.con (.bool false))] []
def law_body : List St := [law_t0, law_t1, law_t2, law_t3, law_t4, law_t5, law_t6, law_t7, law_t8, law_t9, law_t10, law_t11, law_t12, law_t13, law_t14]
def law_p4 : St := .ret (.con (.bool true))
theorem b_law_eq : b_law = [law_p0, law_p1, law_p2, .fr (.nm 2) .r1 [(.con (.int 5))] law_body, law_p4] := rfl
/- slots: 0 script, 1 hand, 2 turn, 3 mobile, 4 names, 5 much, 6 reach_now, 7 arms, 8 whole_now, 9 due, 10 by, 11 more, 12 drawn, 13 words_now, 14 a, 15 mine, 16 b, 17 its, 18 left, 19 right, 20 told, 21 level, 22 name, 23 word, 24 one -/
section
variable {N n : Nat}
abbrev GL (N : Nat) : PL.Ctx := ⟨dfs, callD dfs N 20⟩
abbrev ow : List Nat := [22, 23, 24]
/-! ### the pure side -/
def Mob.whs (m : Mob) : List Nat := m.prs.map (·.2)
theorem findIdx_map {α : Type} {g : α → PyData} {k : Nat} (q : α → Nat) (hg : ∀ a, g a = iN (q a)) (l : List α) : ((l.map g).findIdx? fun y => PyData.eqv y (iN k)) = l.findIdx? fun a => decide (q a = k) := by
  rw [List.findIdx?_map]
  congr 1
  funext a
  rw [Function.comp, hg, eqv_iN]
theorem index_nms {m : Mob} (h : Whole m) {k : Nat} (hk : k ∈ m.nms) : ∃ j : Nat, PL.indexD (namL m) (iN k) = some (.val (.int (j : Int))) ∧ m.prs[j]? = some (k, m.wOf k) := by
  have e : namL m = m.prs.map fun p => iN p.1 := by
    unfold namL
    rw [← Mob.nms_prs, List.map_map]; rfl
  have fi := findIdx_map (k := k) (fun p : Nat × Nat => p.1) (fun _ => rfl) m.prs
  have ex : ∃ j, m.prs.findIdx? (fun a => decide (a.1 = k)) = some j := by
    cases c : m.prs.findIdx? (fun a => decide (a.1 = k)) with
    | some j => exact ⟨j, rfl⟩
    | none =>
      rw [List.findIdx?_eq_none_iff] at c
      have := c _ (prs_of h.nd hk)
      simp at this
  obtain ⟨j, hj⟩ := ex
  obtain ⟨jl, jt, _⟩ := List.findIdx?_eq_some_iff_getElem.mp hj
  refine ⟨j, ?_, ?_⟩
  · have d1 : deepOk (iN k) = true := deep_int _
    have d2 : deepOks (namL m) = true := by
      have : namL m = (m.nms.map fun (x : Nat) => (x : Int)).map PyData.int := by unfold namL; rw [List.map_map]; rfl
      rw [this]; exact deeps_ints _
    have d3 : szOk (namL m).length = true := zw _ (by unfold namL; rw [List.length_map]; have := h.len; omega)
    have : PL.indexD (namL m) (iN k) = if deepOk (iN k) && deepOks (namL m) && szOk (namL m).length then ((namL m).findIdx? fun y => PyData.eqv y (iN k)).map fun (j : Nat) => Res.val (.int (j : Int)) else none := rfl
    rw [this, d1, d2, d3, e, fi, hj]; rfl
  · rw [List.getElem?_eq_getElem jl]
    have jt := of_decide_eq_true jt
    congr 1
    have mem := List.getElem_mem jl
    have := wOf_of h.nd mem
    rw [jt] at this
    exact Prod.ext jt this.symm
theorem deep_tupN (l : List Nat) : deepOk (tupN l) = true := by
  have e : tupN l = .tuple ((l.map fun (x : Nat) => (x : Int)).map PyData.int) := by unfold tupN; rw [List.map_map]; rfl
  rw [e]; exact deep_tupI _
theorem deep_rcD (p : Int × Int) : deepOk (rcD p) = true := deep_tupI [p.1, p.2]
theorem line_cd {m : Mob} (h : Whole m) : Line m.cd m.whs := by
  have l1 := Nat.le_trans (Mob.cd_le h.ok) (pw h.len)
  have l2 := Nat.le_trans (Mob.S_le h.ok) (pw h.len)
  refine ⟨Mob.cd_pos h.ok, l1, fun w hw => ?_, fun w hw => ?_, ?_⟩
  · obtain ⟨p, hp, rfl⟩ := List.mem_map.mp hw
    exact Nat.le_trans (Mob.prs_le p hp) l2
  · obtain ⟨p, hp, rfl⟩ := List.mem_map.mp hw
    exact Mob.prs_pos h.ok p hp
  · unfold Mob.whs
    rw [List.length_map, prs_len]
    have := h.len; omega
/-! ### the first statements -/
theorem s0 (hN : BB < N) {f : Nat → Slot} {d : PyData} (h1 : f 1 = .h false d) (hk : HandOk d) : ∃ m d', Whole m ∧ HandOk d' ∧ exec (GL N) N law_t0 (E 25 f) = .nx (E 25 (sU (sU (sU (sU (sU (sU f 1 (.h false d')) 3 (.c m.py)) 4 (.c (.list (namL m)))) 5 (.c (.list (muchL m)))) 6 (.c (rcD m.rc))) 7 (.c (.list m.arms)))) := by
  obtain ⟨m, d', w, k, c⟩ := c_law_mobile (N := N) (n := 15) hN hk
  have c : callD dfs N 20 "_law_mobile" [d] = .ok (.c (itm m)) [d'] := c
  have ei : itm m = .tuple [m.py, .list (namL m), .list (muchL m), rcD m.rc, .list m.arms] := rfl
  rw [ei] at c
  refine ⟨m, d', w, k, ?_⟩
  simp [execs, exec, ev.eq_1, ev.eq_2, ev.eq_3, ev.eq_4, ev.eq_5, ev.eq_6, ev.eq_7, ev.eq_8, ev.eq_9, ev.eq_10, ev.eq_11, ev.eq_12, ev.eq_13, ev.eq_14, ev.eq_15, ev.eq_16, ev.eq_17, ev.eq_18, ev.eq_19, ev_lc, evAnd, evOr, evCh, evR, evC, evA, evP, evIf, evT, evO, PL.bind, sb, biR, negR, binR, idxR, sliR, metR, cmpR, truthR, callR, iosOf, derefs, putBack, PL.cold, peeks, peek, gets, ofO, retOf, slotOf, setAll, isHot, subAt, recvOk, isMut, isUpd, recvD, dctR, biD, one, ovS, seq?, isInst, PyData.isInt, PyData.isBool, PyData.isTuple, truthD, PyData.truthy, entry, asgT, asgTs, wipeE, backE, it_lst, it_tpl, it_r1, it_r2, it_r3, it_enum, it_zip, rg1, rg2, ints?, intR, setD, retIs_rt, nxIs_nx, retH_rt, nxH_nx, PyData.isList, PyData.isDict, PyData.isStr, List.range, List.range.loop, sz0, sz1, sz2, sz3, sz4, sz5, sz6, sz7, sz8, sz9, sz10, sz11, sz12, E_get, E_set, sU_eq, sU_ne, sU_sU, sU_comm, notHot_E, cl_no, cl_c, law_t0, h1, df_law_mobile, io_law_mobile, c]
theorem s1 (hN : BB < N) {f : Nat → Slot} {m : Mob} (h : Whole m) (h5 : f 5 = .c (.list (muchL m))) : exec (GL N) N law_t1 (E 25 f) = .nx (E 25 (sU f 8 (.c (.list ((lowW m.whs).map iN))))) := by
  have c : callD dfs N 20 "_law_whole" [lineD m.cd m.whs] = .ok (.h false (.list ((lowW m.whs).map iN))) [] := c_law_whole (n := 18) hN (line_cd h)
  have e : lineD m.cd m.whs = .list (muchL m) := by unfold lineD Mob.whs muchL; rw [List.map_map]; rfl
  rw [e] at c
  simp [execs, exec, ev.eq_1, ev.eq_2, ev.eq_3, ev.eq_4, ev.eq_5, ev.eq_6, ev.eq_7, ev.eq_8, ev.eq_9, ev.eq_10, ev.eq_11, ev.eq_12, ev.eq_13, ev.eq_14, ev.eq_15, ev.eq_16, ev.eq_17, ev.eq_18, ev.eq_19, ev_lc, evAnd, evOr, evCh, evR, evC, evA, evP, evIf, evT, evO, PL.bind, sb, biR, negR, binR, idxR, sliR, metR, cmpR, truthR, callR, iosOf, derefs, putBack, PL.cold, peeks, peek, gets, ofO, retOf, slotOf, setAll, isHot, subAt, recvOk, isMut, isUpd, recvD, dctR, biD, one, ovS, seq?, isInst, PyData.isInt, PyData.isBool, PyData.isTuple, truthD, PyData.truthy, entry, asgT, asgTs, wipeE, backE, it_lst, it_tpl, it_r1, it_r2, it_r3, it_enum, it_zip, rg1, rg2, ints?, intR, setD, retIs_rt, nxIs_nx, retH_rt, nxH_nx, PyData.isList, PyData.isDict, PyData.isStr, List.range, List.range.loop, sz0, sz1, sz2, sz3, sz4, sz5, sz6, sz7, sz8, sz9, sz10, sz11, sz12, E_get, E_set, sU_eq, sU_ne, sU_sU, sU_comm, notHot_E, cl_no, cl_c, law_t1, h5, df_law_whole, io_law_whole, c]
theorem s2 {f : Nat → Slot} {m : Mob} (h : Whole m) (hc : Cl ow f) (h4 : f 4 = .c (.list (namL m))) (h8 : f 8 = .c (.list ((lowW m.whs).map iN))) : exec (GL N) N law_t2 (E 25 f) = .nx (E 25 (sU f 9 (.c (tupN m.due)))) := by
  have c22 := hc 22 (by decide)
  have hl := h.len
  have ln : lenD (.list (namL m)) = some (.val (iN m.nms.length)) := len_iN (l := m.nms) (by omega)
  have it : rg1 (ints? [iN m.nms.length]) = some ((upto m.nms.length).map iN) := it_r1n (by omega)
  have st : ∀ k ∈ upto m.nms.length, stepF (.nm 22) (fun x => Out.ok true x) (ev (GL N) (.idx (.var 8) (.met .index (.var 4) [(.var 22)]))) [22] (iN k) (E 25 (sU f 22 .no)) = .ok (some (iN (m.wOf k / gl m.whs))) (E 25 (sU f 22 .no)) := fun k hk => by
    obtain ⟨j, e1, e2⟩ := index_nms h (h.pm.mem_iff.mpr hk)
    have i : idxD (.list ((lowW m.whs).map iN)) (.int (j : Int)) = some (iN (m.wOf k / gl m.whs)) := by
      refine idx_map ?_
      unfold lowW Mob.whs
      rw [List.getElem?_map, List.getElem?_map, e2]; rfl
    generalize (lowW m.whs).map iN = L at i h8
    generalize namL m = M at e1 h4
    simp [execs, exec, ev.eq_1, ev.eq_2, ev.eq_3, ev.eq_4, ev.eq_5, ev.eq_6, ev.eq_7, ev.eq_8, ev.eq_9, ev.eq_10, ev.eq_11, ev.eq_12, ev.eq_13, ev.eq_14, ev.eq_15, ev.eq_16, ev.eq_17, ev.eq_18, ev.eq_19, ev_lc, evAnd, evOr, evCh, evR, evC, evA, evP, evIf, evT, evO, PL.bind, sb, biR, negR, binR, idxR, sliR, metR, cmpR, truthR, callR, iosOf, derefs, putBack, PL.cold, peeks, peek, gets, ofO, retOf, slotOf, setAll, isHot, subAt, recvOk, isMut, isUpd, recvD, dctR, biD, one, ovS, seq?, isInst, PyData.isInt, PyData.isBool, PyData.isTuple, truthD, PyData.truthy, entry, asgT, asgTs, wipeE, backE, it_lst, it_tpl, it_r1, it_r2, it_r3, it_enum, it_zip, rg1, rg2, ints?, intR, setD, retIs_rt, nxIs_nx, retH_rt, nxH_nx, PyData.isList, PyData.isDict, PyData.isStr, List.range, List.range.loop, sz0, sz1, sz2, sz3, sz4, sz5, sz6, sz7, sz8, sz9, sz10, sz11, sz12, E_get, E_set, sU_eq, sU_ne, sU_sU, sU_comm, notHot_E, cl_no, cl_c, stepF, h8, h4, metD, e1, i]
  have lc := lcL_all (l := upto m.nms.length) (g := iN) (f := fun k => iN (m.wOf k / gl m.whs)) st (by rw [upto_len]; omega)
  have ln2 : (upto m.nms.length).map (fun k => iN (m.wOf k / gl m.whs)) = m.due.map iN := by
    unfold Mob.due; rw [List.map_map]; rfl
  rw [ln2] at lc
  have td : tupN m.due = .tuple (m.due.map iN) := rfl
  rw [td]
  simp [execs, exec, ev.eq_1, ev.eq_2, ev.eq_3, ev.eq_4, ev.eq_5, ev.eq_6, ev.eq_7, ev.eq_8, ev.eq_9, ev.eq_10, ev.eq_11, ev.eq_12, ev.eq_13, ev.eq_14, ev.eq_15, ev.eq_16, ev.eq_17, ev.eq_18, ev.eq_19, ev_lc, evAnd, evOr, evCh, evR, evC, evA, evP, evIf, evT, evO, PL.bind, sb, biR, negR, binR, idxR, sliR, metR, cmpR, truthR, callR, iosOf, derefs, putBack, PL.cold, peeks, peek, gets, ofO, retOf, slotOf, setAll, isHot, subAt, recvOk, isMut, isUpd, recvD, dctR, biD, one, ovS, seq?, isInst, PyData.isInt, PyData.isBool, PyData.isTuple, truthD, PyData.truthy, entry, asgT, asgTs, wipeE, backE, it_lst, it_tpl, it_r1, it_r2, it_r3, it_enum, it_zip, rg1, rg2, ints?, intR, setD, retIs_rt, nxIs_nx, retH_rt, nxH_nx, PyData.isList, PyData.isDict, PyData.isStr, List.range, List.range.loop, sz0, sz1, sz2, sz3, sz4, sz5, sz6, sz7, sz8, sz9, sz10, sz11, sz12, E_get, E_set, sU_eq, sU_ne, sU_sU, sU_comm, notHot_E, cl_no, cl_c, law_t2, h4, ln, it, ev_lc, c22, lc, sU_self, -ints?, -rg1]
theorem s3 (hN : BB < N) {f : Nat → Slot} {m : Mob} (h : Whole m) (h3 : f 3 = .c m.py) (h6 : f 6 = .c (rcD m.rc)) (h9 : f 9 = .c (tupN m.due)) : exec (GL N) N law_t3 (E 25 f) = .nx (E 25 f) := by
  have c1 : callD dfs N 20 "least_weights" [m.py] = .ok (.c (tupN m.due)) [] := c_least (n := 10) hN h
  have c2 : callD dfs N 20 "reach_of" [m.py] = .ok (.c (rcD m.rc)) [] := c_reach_of (n := 13) hN h
  have n1 := ne_self (deep_tupN m.due)
  have n2 := ne_self (deep_rcD m.rc)
  simp [execs, exec, ev.eq_1, ev.eq_2, ev.eq_3, ev.eq_4, ev.eq_5, ev.eq_6, ev.eq_7, ev.eq_8, ev.eq_9, ev.eq_10, ev.eq_11, ev.eq_12, ev.eq_13, ev.eq_14, ev.eq_15, ev.eq_16, ev.eq_17, ev.eq_18, ev.eq_19, ev_lc, evAnd, evOr, evCh, evR, evC, evA, evP, evIf, evT, evO, PL.bind, sb, biR, negR, binR, idxR, sliR, metR, cmpR, truthR, callR, iosOf, derefs, putBack, PL.cold, peeks, peek, gets, ofO, retOf, slotOf, setAll, isHot, subAt, recvOk, isMut, isUpd, recvD, dctR, biD, one, ovS, seq?, isInst, PyData.isInt, PyData.isBool, PyData.isTuple, truthD, PyData.truthy, entry, asgT, asgTs, wipeE, backE, it_lst, it_tpl, it_r1, it_r2, it_r3, it_enum, it_zip, rg1, rg2, ints?, intR, setD, retIs_rt, nxIs_nx, retH_rt, nxH_nx, PyData.isList, PyData.isDict, PyData.isStr, List.range, List.range.loop, sz0, sz1, sz2, sz3, sz4, sz5, sz6, sz7, sz8, sz9, sz10, sz11, sz12, E_get, E_set, sU_eq, sU_ne, sU_sU, sU_comm, notHot_E, cl_no, cl_c, law_t3, h3, h6, h9, df_least_weights, io_least_weights, df_reach_of, io_reach_of, c1, c2, n1, n2]
theorem s4 {f : Nat → Slot} {d : PyData} (h1 : f 1 = .h false d) (hk : HandOk d) : ∃ (b : Nat) (d' : PyData), 1 ≤ b ∧ b ≤ 3 ∧ HandOk d' ∧ exec (GL N) N law_t4 (E 25 f) = .nx (E 25 (sU (sU f 1 (.h false d')) 10 (.c (iN b)))) := by
  obtain ⟨r, d1, r0, r1, k1, e1⟩ := (drm (N := N)).2 hk 3 (by omega) (by omega)
  have e1' := e1 19
  refine ⟨(1 + r).toNat, d1, by omega, by omega, k1, ?_⟩
  have i1 : iN (1 + r).toNat = .int (1 + r) := by unfold iN; rw [Int.toNat_of_nonneg (by omega)]
  rw [i1]
  simp [execs, exec, ev.eq_1, ev.eq_2, ev.eq_3, ev.eq_4, ev.eq_5, ev.eq_6, ev.eq_7, ev.eq_8, ev.eq_9, ev.eq_10, ev.eq_11, ev.eq_12, ev.eq_13, ev.eq_14, ev.eq_15, ev.eq_16, ev.eq_17, ev.eq_18, ev.eq_19, ev_lc, evAnd, evOr, evCh, evR, evC, evA, evP, evIf, evT, evO, PL.bind, sb, biR, negR, binR, idxR, sliR, metR, cmpR, truthR, callR, iosOf, derefs, putBack, PL.cold, peeks, peek, gets, ofO, retOf, slotOf, setAll, isHot, subAt, recvOk, isMut, isUpd, recvD, dctR, biD, one, ovS, seq?, isInst, PyData.isInt, PyData.isBool, PyData.isTuple, truthD, PyData.truthy, entry, asgT, asgTs, wipeE, backE, it_lst, it_tpl, it_r1, it_r2, it_r3, it_enum, it_zip, rg1, rg2, ints?, intR, setD, retIs_rt, nxIs_nx, retH_rt, nxH_nx, PyData.isList, PyData.isDict, PyData.isStr, List.range, List.range.loop, sz0, sz1, sz2, sz3, sz4, sz5, sz6, sz7, sz8, sz9, sz10, sz11, sz12, E_get, E_set, sU_eq, sU_ne, sU_sU, sU_comm, notHot_E, cl_no, cl_c, law_t4, h1, eDm, iDm, e1', binD]
end
end PL.L

set_option autoImplicit false
set_option linter.all false
set_option Elab.async false
set_option maxRecDepth 100000
set_option maxHeartbeats 2000000
/-! MH: level weights; the law's fifth statement. -/
namespace PL.L
open PySem PL
section
variable {N n : Nat}
theorem fold_max : ∀ (l : List Int) (y : Int), l.foldl max y ∈ y :: l ∧ ∀ x ∈ y :: l, x ≤ l.foldl max y
  | [], y => ⟨by simp, by simp⟩
  | x :: l, y => by
    rw [List.foldl_cons]
    obtain ⟨h1, h2⟩ := fold_max l (max y x)
    have h3 := h2 (max y x) List.mem_cons_self
    refine ⟨?_, fun z hz => ?_⟩
    · rcases List.mem_cons.mp h1 with e | e
      · rcases Int.le_total y x with q | q
        · rw [e, Int.max_eq_right q]; exact List.mem_cons_of_mem _ List.mem_cons_self
        · rw [e, Int.max_eq_left q]; exact List.mem_cons_self
      · exact List.mem_cons_of_mem _ (List.mem_cons_of_mem _ e)
    · rcases List.mem_cons.mp hz with rfl | hz
      · omega
      · rcases List.mem_cons.mp hz with rfl | hz
        · omega
        · exact h2 z (List.mem_cons_of_mem _ hz)
theorem max_ints {l : List Int} (h : l ≠ []) : ∃ m, maxL (l.map .int) = some (.val (.int m)) ∧ m ∈ l ∧ ∀ x ∈ l, x ≤ m := by
  cases l with
  | nil => exact absurd rfl h
  | cons y l =>
    have o := ord_ints (y :: l)
    refine ⟨_, ?_, (fold_max l y).1, (fold_max l y).2⟩
    rw [List.map_cons] at o ⊢
    rw [maxL, if_pos o, W.maxD_ints]
theorem max_nats {l : List Nat} (h : l ≠ []) : ∃ m : Nat, maxL (l.map iN) = some (.val (iN m)) ∧ m ∈ l ∧ ∀ x ∈ l, x ≤ m := by
  have e : l.map iN = (l.map fun (x : Nat) => (x : Int)).map PyData.int := by rw [List.map_map]; rfl
  obtain ⟨m, e1, e2, e3⟩ := max_ints (l := l.map fun (x : Nat) => (x : Int)) (by simpa using h)
  obtain ⟨k, hk, rfl⟩ := List.mem_map.mp e2
  exact ⟨k, by rw [e, e1]; rfl, hk, fun x hx => by
    have := e3 _ (List.mem_map.mpr ⟨x, hx, rfl⟩); omega⟩
/-! ### the least weights are level -/
theorem whs_dvd {m : Mob} {p : Nat × Nat} (h : p ∈ m.prs) : gl m.whs ∣ p.2 := gl_dvd (List.mem_map_of_mem h)
theorem whs_pos {m : Mob} (h : Whole m) : 0 < gl m.whs := by
  have := Mob.nms_pos m
  cases c : m.prs with
  | nil => rw [← prs_len, c] at this; simp at this
  | cons p l =>
    have hp : p ∈ m.prs := by rw [c]; simp
    exact gl_pos (List.mem_map_of_mem hp) (Mob.prs_pos h.ok p hp)
theorem due_len (m : Mob) : m.due.length = m.nms.length := by unfold Mob.due; rw [List.length_map, upto_len]
theorem due_at {m : Mob} (h : Whole m) {p : Nat × Nat} (hp : p ∈ m.prs) : m.due[p.1]? = some (p.2 / gl m.whs) := by
  have hk : p.1 ∈ m.nms := by rw [← Mob.nms_prs]; exact List.mem_map_of_mem hp
  have lt := List.mem_range.mp (h.pm.mem_iff.mp hk)
  unfold Mob.due upto
  rw [List.getElem?_map, List.getElem?_range lt, Option.map_some, wOf_of h.nd hp]; rfl
theorem wfn_of {ws : List Nat} {k x : Nat} (h : ws[k]? = some x) : wfn ws k = (x : Int) := by
  unfold wfn
  rw [List.getD_eq_getElem?_getD, h]; rfl
theorem due_pos {m : Mob} (h : Whole m) {w : Nat} (hw : w ∈ m.due) : 0 < w := by
  unfold Mob.due at hw
  obtain ⟨k, hk, rfl⟩ := List.mem_map.mp hw
  have hp := prs_of h.nd (h.pm.mem_iff.mpr hk)
  exact Nat.div_pos (Nat.le_of_dvd (Mob.prs_pos h.ok _ hp) (whs_dvd hp)) (whs_pos h)
def mulW (b : Nat) (m : Mob) : List Nat := m.due.map (b * ·)
theorem mulW_at {m : Mob} (h : Whole m) (b : Nat) {p : Nat × Nat} (hp : p ∈ m.prs) : wfn (mulW b m) p.1 * (gl m.whs : Nat) = (b : Int) * p.2 := by
  have : (mulW b m)[p.1]? = some (b * (p.2 / gl m.whs)) := by unfold mulW; rw [List.getElem?_map, due_at h hp]; rfl
  rw [wfn_of this]
  obtain ⟨t, ht⟩ := whs_dvd hp
  have g := whs_pos h
  have e : p.2 / gl m.whs = t := by rw [ht]; exact Nat.mul_div_cancel_left t g
  rw [e, ht]
  simp only [Int.natCast_mul]
  grind
theorem mulW_lev {m : Mob} (h : Whole m) (b : Nat) : m.lev (wfn (mulW b m)) := by
  rw [Mob.lev_iff _ h.ok]
  have s := Mob.sum_rel (wfn (mulW b m)) (gl m.whs : Nat) b (l := m.prs) fun p hp => by
    rw [mulW_at h b hp, Int.mul_comm]
  rw [Mob.wt_prs, Mob.sum_prs] at s
  intro p hp
  have e := mulW_at h b hp
  have g : ((gl m.whs : Nat) : Int) ≠ 0 := by have := whs_pos h; omega
  refine Int.eq_of_mul_eq_mul_right g ?_
  grind
theorem wts_mul {m : Mob} (h : Whole m) {b M : Nat} (b1 : 1 ≤ b) (hM : ∀ x ∈ m.due, x ≤ M) (hb : M * b ≤ 10000) : Wts m (mulW b m) := by
  refine ⟨by unfold mulW; rw [List.length_map, due_len], fun w hw => ?_⟩
  unfold mulW at hw
  obtain ⟨x, hx, rfl⟩ := List.mem_map.mp hw
  have := due_pos h hx
  have := hM x hx
  have : b * x ≤ b * M := Nat.mul_le_mul_left b this
  rw [Nat.mul_comm b M] at this
  refine ⟨Nat.mul_pos b1 (by assumption), by omega⟩
theorem words_rep {w : Nat → Int} : ∀ {m : Mob}, m.lev w → m.words w = List.replicate m.arms.length (.str "level")
  | .leaf _, _ => rfl
  | .node a l b r, h => by
    obtain ⟨h1, h2, h3⟩ := h
    rw [Mob.words, words_rep h2, words_rep h3, Mob.arms, List.length_cons, List.length_append, List.replicate_succ, List.replicate_append_replicate]
    congr 1
    unfold tword
    rw [if_pos (by rw [h1]; omega)]
theorem rep_flat (k : Nat) (x : PyData) : rep k [x] = List.replicate k x := by
  unfold rep
  induction k with
  | zero => rfl
  | succ k ih => rw [List.replicate_succ, List.flatten_cons, ih]; rfl
theorem mul_tup1 (x : PyData) {k : Nat} (h : k ≤ 1000) : binD .Mult (.tuple [x]) (iN k) = some (.val (.tuple (List.replicate k x))) := by
  have e : binD .Mult (.tuple [x]) (iN k) = if (k : Int) = 1 then some (.val (.tuple [x])) else if (k : Int) = 0 then some (.val (.tuple [])) else if (decide (2 ≤ (k : Int)) && decide ((k : Int) ≤ 1000)) = true then some (.val (.tuple (rep (k : Int).toNat [x]))) else none := rfl
  rw [e]
  by_cases k1 : k = 1
  · subst k1; rfl
  rw [if_neg (by omega)]
  by_cases k0 : k = 0
  · subst k0; rfl
  rw [if_neg (by omega), if_pos (by rw [Bool.and_eq_true]; exact ⟨decide_eq_true (by omega), decide_eq_true (by omega)⟩), rep_flat]
  rfl
theorem deep_strs {l : List PyData} (h : ∀ d ∈ l, ∃ s : Str, d = .str s) : PyData.plainAll l = true ∧ PyData.depthAll l ≤ 5 := by
  induction l with
  | nil => exact ⟨rfl, by simp [PyData.depthAll]⟩
  | cons x l ih =>
    obtain ⟨s, rfl⟩ := h x List.mem_cons_self
    have ih := ih fun d hd => h d (List.mem_cons_of_mem _ hd)
    refine ⟨?_, ?_⟩
    · simp [PyData.plainAll, PyData.plain]; exact ih.1
    · have := ih.2
      simp only [PyData.depthAll, PyData.depth]
      omega
theorem deep_listS {l : List PyData} (h : ∀ d ∈ l, ∃ s : Str, d = .str s) : deepOk (.list l) = true := by
  have := deep_strs h
  unfold deepOk
  rw [PyData.plain, PyData.depth, this.1]
  exact decide_eq_true (by have := this.2; omega)
theorem deep_tupS {l : List PyData} (h : ∀ d ∈ l, ∃ s : Str, d = .str s) : deepOk (.tuple l) = true := by
  have := deep_strs h
  unfold deepOk
  rw [PyData.plain, PyData.depth, this.1]
  exact decide_eq_true (by have := this.2; omega)
theorem deeps_strs {l : List PyData} (h : ∀ d ∈ l, ∃ s : Str, d = .str s) : deepOks l = true := by
  have := deep_strs h
  unfold deepOks
  rw [this.1]
  exact decide_eq_true (by have := this.2; omega)
theorem is_true (b : Bool) : cmpD .IsNot (.bool b) (.bool true) = some (!b) := by cases b <;> rfl
theorem sum_mul (b : Nat) : ∀ l : List Nat, ((l.map (b * ·)).map fun (x : Nat) => (x : Int)).sum = (b : Int) * (l.map fun (x : Nat) => (x : Int)).sum
  | [] => by simp
  | x :: l => by
    rw [List.map_cons, List.map_cons, List.sum_cons, sum_mul b l, List.map_cons, List.sum_cons, Int.mul_add, Int.natCast_mul]
theorem exec_iteT {G : PL.Ctx} {N : Nat} {c : Ex} {a b : List St} {ρ ρ1 : PL.Env} (h : evT G c ρ = .ok true ρ1) : exec G N (.ite c a b) ρ = execs G N a ρ1 := by
  rw [exec, h]; rfl
theorem exec_iteF {G : PL.Ctx} {N : Nat} {c : Ex} {a b : List St} {ρ ρ1 : PL.Env} (h : evT G c ρ = .ok false ρ1) : exec G N (.ite c a b) ρ = execs G N b ρ1 := by
  rw [exec, h]; rfl
theorem execs_nil {G : PL.Ctx} {N : Nat} {ρ : PL.Env} : execs G N [] ρ = .nx ρ := by rw [execs]
def t5c : Ex := (.cmp (.bin .Mult (.bi .max [(.var 9)]) (.var 10)) [.Lt] [(.con (.int 10001))])
def t5a : St := .asg 11 false (.bi .tuple [(.lc (.bin .Mult (.var 10) (.var 24)) (.nm 24) .plain [(.var 9)] [] [24])])
def t5b : St := .ite (.cmp (.call "is_level" [(.var 3), (.var 11)]) [.IsNot] [(.con (.bool true))]) [.ret (.con (.bool false))] []
def t5d : St := .ite (.cmp (.call "whole_weight" [(.var 3), (.var 11)]) [.NotEq] [(.bin .Mult (.var 10) (.bi .sum [(.var 9)]))]) [.ret (.con (.bool false))] []
def t5e : St := .ite (.cmp (.call "tilts" [(.var 3), (.var 11)]) [.NotEq] [(.bin .Mult (.tup [(.con (.str "level"))]) (.bi .len [(.var 7)]))]) [.ret (.con (.bool false))] []
theorem t5_eq : law_t5 = .ite t5c [t5a, t5b, t5d, t5e] [] := rfl
theorem s5 (hN : BB < N) {f : Nat → Slot} {m : Mob} {b : Nat} (h : Whole m) (hc : Cl ow f) (b1 : 1 ≤ b) (b3 : b ≤ 3) (h3 : f 3 = .c m.py) (h7 : f 7 = .c (.list m.arms)) (h9 : f 9 = .c (tupN m.due)) (h10 : f 10 = .c (iN b)) :
    ∃ x, exec (GL N) N law_t5 (E 25 f) = .nx (E 25 (sU f 11 x)) := by
  have hl := h.len
  have al := arms_len m
  have dl := due_len m
  have np := Mob.nms_pos m
  obtain ⟨M, e1, M1, M2⟩ := max_nats (l := m.due) (by
    intro z; rw [z] at dl; simp at dl; omega)
  have mm : binD .Mult (iN M) (iN b) = some (.val (iN (M * b))) := by
    have : binD .Mult (iN M) (iN b) = if mulOk (M : Int) b then some (.val (.int ((M : Int) * b))) else none := rfl
    rw [this, if_pos (mul_r (small_n (by unfold BB; omega))), iN, Int.natCast_mul]
  have mx : maxA [tupN m.due] = some (.val (iN M)) := e1
  by_cases c : M * b < 10001
  · have lt : cmpD .Lt (iN (M * b)) (.int 10001) = some true := by rw [iN, cmp_lt, decide_eq_true]; omega
    have W := wts_mul h b1 M2 (by omega)
    have L := mulW_lev h b
    have i1 : callD dfs N 20 "is_level" [m.py, tupN (mulW b m)] = .ok (.c (.bool (m.levB (wfn (mulW b m))))) [] := c_is_level (n := 9) hN h W
    rw [(levB_iff _ m).mpr L] at i1
    have i2 : callD dfs N 20 "whole_weight" [m.py, tupN (mulW b m)] = .ok (.c (.int (((mulW b m).map fun (w : Nat) => (w : Int)).sum))) [] := c_whole_weight (n := 14) hN h W
    have i3 : callD dfs N 20 "tilts" [m.py, tupN (mulW b m)] = .ok (.c (.tuple (m.words (wfn (mulW b m))))) [] := c_tilts (n := 9) hN h W
    rw [words_rep L] at i3
    have sm := sum_mul b m.due
    have sm : ((mulW b m).map fun (w : Nat) => (w : Int)).sum = (b : Int) * (m.due.map fun (x : Nat) => (x : Int)).sum := sm
    rw [sm] at i2
    have sd : sumL (m.due.map iN) = some (.val (.int ((m.due.map fun (w : Nat) => (w : Int)).sum))) := sum_map (h := fun (w : Nat) => (w : Int)) (l := m.due)
    generalize (m.due.map fun (x : Nat) => (x : Int)).sum = T at i2 sd
    have dm := d_mulZ (a := b) (by unfold BB; omega) T
    have nT : cmpD .NotEq (.int ((b : Int) * T)) (.int ((b : Int) * T)) = some false := ne_self (deep_int _)
    have la : lenD (.list m.arms) = some (.val (iN m.arms.length)) := by
      have z : szOk m.arms.length = true := zw _ (by omega)
      have : lenD (.list m.arms) = if szOk m.arms.length = true then some (.val (.int (m.arms.length : Nat))) else none := rfl
      rw [this, if_pos z]; rfl
    have mt := mul_tup1 (.str "level") (k := m.arms.length) (by omega)
    have nt : cmpD .NotEq (.tuple (List.replicate m.arms.length (.str "level"))) (.tuple (List.replicate m.arms.length (.str "level"))) = some false := ne_self (deep_tupS fun d hd => ⟨_, List.eq_of_mem_replicate hd⟩)
    have tb : cmpD .IsNot (.bool true) (.bool true) = some false := rfl
    have c24 := hc 24 (by decide)
    have st : ∀ w ∈ m.due, stepF (.nm 24) (fun x => Out.ok true x) (ev (GL N) (.bin .Mult (.var 10) (.var 24))) [24] (iN w) (E 25 (sU f 24 .no)) = .ok (some (iN (b * w))) (E 25 (sU f 24 .no)) := fun w hw => by
      have := d_mul (a := b) (b := w) (by unfold BB; omega)
      simp [execs, exec, ev.eq_1, ev.eq_2, ev.eq_3, ev.eq_4, ev.eq_5, ev.eq_6, ev.eq_7, ev.eq_8, ev.eq_9, ev.eq_10, ev.eq_11, ev.eq_12, ev.eq_13, ev.eq_14, ev.eq_15, ev.eq_16, ev.eq_17, ev.eq_18, ev.eq_19, ev_lc, evAnd, evOr, evCh, evR, evC, evA, evP, evIf, evT, evO, PL.bind, sb, biR, negR, binR, idxR, sliR, metR, cmpR, truthR, callR, iosOf, derefs, putBack, PL.cold, peeks, peek, gets, ofO, retOf, slotOf, setAll, isHot, subAt, recvOk, isMut, isUpd, recvD, dctR, biD, one, ovS, seq?, isInst, PyData.isInt, PyData.isBool, PyData.isTuple, truthD, PyData.truthy, entry, asgT, asgTs, wipeE, backE, it_lst, it_tpl, it_r1, it_r2, it_r3, it_enum, it_zip, rg1, rg2, ints?, intR, setD, retIs_rt, nxIs_nx, retH_rt, nxH_nx, PyData.isList, PyData.isDict, PyData.isStr, List.range, List.range.loop, sz0, sz1, sz2, sz3, sz4, sz5, sz6, sz7, sz8, sz9, sz10, sz11, sz12, E_get, E_set, sU_eq, sU_ne, sU_sU, sU_comm, notHot_E, cl_no, cl_c, stepF, h10, this]
    have lc := lcL_all (l := m.due) (g := iN) (f := fun w => iN (b * w)) st (by omega)
    have me : m.due.map (fun w => iN (b * w)) = (mulW b m).map iN := by unfold mulW; rw [List.map_map]; rfl
    rw [me] at lc
    have tm : tupN (mulW b m) = .tuple ((mulW b m).map iN) := rfl
    have td : tupN m.due = .tuple (m.due.map iN) := rfl
    have it : itemsD .plain [tupN m.due] = some (m.due.map iN) := rfl
    have sq : seq? (tupN m.due) = some (m.due.map iN) := rfl
    rw [tm] at i1 i2 i3
    generalize (mulW b m).map iN = U at *
    generalize m.due.map iN = V at *
    generalize tupN m.due = X at *
    refine ⟨.c (.tuple U), ?_⟩
    have ec : evT (GL N) t5c (E 25 f) = .ok true (E 25 f) := by simp [execs, exec, ev.eq_1, ev.eq_2, ev.eq_3, ev.eq_4, ev.eq_5, ev.eq_6, ev.eq_7, ev.eq_8, ev.eq_9, ev.eq_10, ev.eq_11, ev.eq_12, ev.eq_13, ev.eq_14, ev.eq_15, ev.eq_16, ev.eq_17, ev.eq_18, ev.eq_19, ev_lc, evAnd, evOr, evCh, evR, evC, evA, evP, evIf, evT, evO, PL.bind, sb, biR, negR, binR, idxR, sliR, metR, cmpR, truthR, callR, iosOf, derefs, putBack, PL.cold, peeks, peek, gets, ofO, retOf, slotOf, setAll, isHot, subAt, recvOk, isMut, isUpd, recvD, dctR, biD, one, ovS, seq?, isInst, PyData.isInt, PyData.isBool, PyData.isTuple, truthD, PyData.truthy, entry, asgT, asgTs, wipeE, backE, it_lst, it_tpl, it_r1, it_r2, it_r3, it_enum, it_zip, rg1, rg2, ints?, intR, setD, retIs_rt, nxIs_nx, retH_rt, nxH_nx, PyData.isList, PyData.isDict, PyData.isStr, List.range, List.range.loop, sz0, sz1, sz2, sz3, sz4, sz5, sz6, sz7, sz8, sz9, sz10, sz11, sz12, E_get, E_set, sU_eq, sU_ne, sU_sU, sU_comm, notHot_E, cl_no, cl_c, t5c, h9, h10, mx, mm, lt]
    have ea : exec (GL N) N t5a (E 25 f) = .nx (E 25 (sU f 11 (.c (.tuple U)))) := by simp [execs, exec, ev.eq_1, ev.eq_2, ev.eq_3, ev.eq_4, ev.eq_5, ev.eq_6, ev.eq_7, ev.eq_8, ev.eq_9, ev.eq_10, ev.eq_11, ev.eq_12, ev.eq_13, ev.eq_14, ev.eq_15, ev.eq_16, ev.eq_17, ev.eq_18, ev.eq_19, ev_lc, evAnd, evOr, evCh, evR, evC, evA, evP, evIf, evT, evO, PL.bind, sb, biR, negR, binR, idxR, sliR, metR, cmpR, truthR, callR, iosOf, derefs, putBack, PL.cold, peeks, peek, gets, ofO, retOf, slotOf, setAll, isHot, subAt, recvOk, isMut, isUpd, recvD, dctR, biD, one, ovS, seq?, isInst, PyData.isInt, PyData.isBool, PyData.isTuple, truthD, PyData.truthy, entry, asgT, asgTs, wipeE, backE, it_lst, it_tpl, it_r1, it_r2, it_r3, it_enum, it_zip, rg1, rg2, ints?, intR, setD, retIs_rt, nxIs_nx, retH_rt, nxH_nx, PyData.isList, PyData.isDict, PyData.isStr, List.range, List.range.loop, sz0, sz1, sz2, sz3, sz4, sz5, sz6, sz7, sz8, sz9, sz10, sz11, sz12, E_get, E_set, sU_eq, sU_ne, sU_sU, sU_comm, notHot_E, cl_no, cl_c, t5a, h9, ev_lc, it, c24, lc, sU_self]
    have eb : exec (GL N) N t5b (E 25 (sU f 11 (.c (.tuple U)))) = .nx (E 25 (sU f 11 (.c (.tuple U)))) := by simp [execs, exec, ev.eq_1, ev.eq_2, ev.eq_3, ev.eq_4, ev.eq_5, ev.eq_6, ev.eq_7, ev.eq_8, ev.eq_9, ev.eq_10, ev.eq_11, ev.eq_12, ev.eq_13, ev.eq_14, ev.eq_15, ev.eq_16, ev.eq_17, ev.eq_18, ev.eq_19, ev_lc, evAnd, evOr, evCh, evR, evC, evA, evP, evIf, evT, evO, PL.bind, sb, biR, negR, binR, idxR, sliR, metR, cmpR, truthR, callR, iosOf, derefs, putBack, PL.cold, peeks, peek, gets, ofO, retOf, slotOf, setAll, isHot, subAt, recvOk, isMut, isUpd, recvD, dctR, biD, one, ovS, seq?, isInst, PyData.isInt, PyData.isBool, PyData.isTuple, truthD, PyData.truthy, entry, asgT, asgTs, wipeE, backE, it_lst, it_tpl, it_r1, it_r2, it_r3, it_enum, it_zip, rg1, rg2, ints?, intR, setD, retIs_rt, nxIs_nx, retH_rt, nxH_nx, PyData.isList, PyData.isDict, PyData.isStr, List.range, List.range.loop, sz0, sz1, sz2, sz3, sz4, sz5, sz6, sz7, sz8, sz9, sz10, sz11, sz12, E_get, E_set, sU_eq, sU_ne, sU_sU, sU_comm, notHot_E, cl_no, cl_c, t5b, h3, df_is_level, io_is_level, i1, tb]
    have ed : exec (GL N) N t5d (E 25 (sU f 11 (.c (.tuple U)))) = .nx (E 25 (sU f 11 (.c (.tuple U)))) := by
      have sv : biD .sum [X] = some (.val (.int T)) := by
        have : biD .sum [X] = ovS sumL X := rfl
        rw [this, ovS, sq]; exact sd
      simp only [biD, one] at sv
      simp [execs, exec, ev.eq_1, ev.eq_2, ev.eq_3, ev.eq_4, ev.eq_5, ev.eq_6, ev.eq_7, ev.eq_8, ev.eq_9, ev.eq_10, ev.eq_11, ev.eq_12, ev.eq_13, ev.eq_14, ev.eq_15, ev.eq_16, ev.eq_17, ev.eq_18, ev.eq_19, ev_lc, evAnd, evOr, evCh, evR, evC, evA, evP, evIf, evT, evO, PL.bind, sb, biR, negR, binR, idxR, sliR, metR, cmpR, truthR, callR, iosOf, derefs, putBack, PL.cold, peeks, peek, gets, ofO, retOf, slotOf, setAll, isHot, subAt, recvOk, isMut, isUpd, recvD, dctR, biD, one, ovS, seq?, isInst, PyData.isInt, PyData.isBool, PyData.isTuple, truthD, PyData.truthy, entry, asgT, asgTs, wipeE, backE, it_lst, it_tpl, it_r1, it_r2, it_r3, it_enum, it_zip, rg1, rg2, ints?, intR, setD, retIs_rt, nxIs_nx, retH_rt, nxH_nx, PyData.isList, PyData.isDict, PyData.isStr, List.range, List.range.loop, sz0, sz1, sz2, sz3, sz4, sz5, sz6, sz7, sz8, sz9, sz10, sz11, sz12, E_get, E_set, sU_eq, sU_ne, sU_sU, sU_comm, notHot_E, cl_no, cl_c, t5d, h3, h9, h10, df_whole_weight, io_whole_weight, i2, sv, dm, nT, -ovS]
    have ee : exec (GL N) N t5e (E 25 (sU f 11 (.c (.tuple U)))) = .nx (E 25 (sU f 11 (.c (.tuple U)))) := by simp [execs, exec, ev.eq_1, ev.eq_2, ev.eq_3, ev.eq_4, ev.eq_5, ev.eq_6, ev.eq_7, ev.eq_8, ev.eq_9, ev.eq_10, ev.eq_11, ev.eq_12, ev.eq_13, ev.eq_14, ev.eq_15, ev.eq_16, ev.eq_17, ev.eq_18, ev.eq_19, ev_lc, evAnd, evOr, evCh, evR, evC, evA, evP, evIf, evT, evO, PL.bind, sb, biR, negR, binR, idxR, sliR, metR, cmpR, truthR, callR, iosOf, derefs, putBack, PL.cold, peeks, peek, gets, ofO, retOf, slotOf, setAll, isHot, subAt, recvOk, isMut, isUpd, recvD, dctR, biD, one, ovS, seq?, isInst, PyData.isInt, PyData.isBool, PyData.isTuple, truthD, PyData.truthy, entry, asgT, asgTs, wipeE, backE, it_lst, it_tpl, it_r1, it_r2, it_r3, it_enum, it_zip, rg1, rg2, ints?, intR, setD, retIs_rt, nxIs_nx, retH_rt, nxH_nx, PyData.isList, PyData.isDict, PyData.isStr, List.range, List.range.loop, sz0, sz1, sz2, sz3, sz4, sz5, sz6, sz7, sz8, sz9, sz10, sz11, sz12, E_get, E_set, sU_eq, sU_ne, sU_sU, sU_comm, notHot_E, cl_no, cl_c, t5e, h3, h7, df_tilts, io_tilts, i3, la, mt, nt]
    rw [t5_eq, exec_iteT ec, execs_eq ea, execs_eq eb, execs_eq ed, execs_one, ee]
  · have lt : cmpD .Lt (iN (M * b)) (.int 10001) = some false := by rw [iN, cmp_lt, decide_eq_false]; omega
    refine ⟨f 11, ?_⟩
    rw [sU_self]
    simp [execs, exec, ev.eq_1, ev.eq_2, ev.eq_3, ev.eq_4, ev.eq_5, ev.eq_6, ev.eq_7, ev.eq_8, ev.eq_9, ev.eq_10, ev.eq_11, ev.eq_12, ev.eq_13, ev.eq_14, ev.eq_15, ev.eq_16, ev.eq_17, ev.eq_18, ev.eq_19, ev_lc, evAnd, evOr, evCh, evR, evC, evA, evP, evIf, evT, evO, PL.bind, sb, biR, negR, binR, idxR, sliR, metR, cmpR, truthR, callR, iosOf, derefs, putBack, PL.cold, peeks, peek, gets, ofO, retOf, slotOf, setAll, isHot, subAt, recvOk, isMut, isUpd, recvD, dctR, biD, one, ovS, seq?, isInst, PyData.isInt, PyData.isBool, PyData.isTuple, truthD, PyData.truthy, entry, asgT, asgTs, wipeE, backE, it_lst, it_tpl, it_r1, it_r2, it_r3, it_enum, it_zip, rg1, rg2, ints?, intR, setD, retIs_rt, nxIs_nx, retH_rt, nxH_nx, PyData.isList, PyData.isDict, PyData.isStr, List.range, List.range.loop, sz0, sz1, sz2, sz3, sz4, sz5, sz6, sz7, sz8, sz9, sz10, sz11, sz12, E_get, E_set, sU_eq, sU_ne, sU_sU, sU_comm, notHot_E, cl_no, cl_c, law_t5, h9, h10, mx, mm, lt]
end
end PL.L

set_option autoImplicit false
set_option linter.all false
set_option Elab.async false
set_option maxRecDepth 100000
set_option maxHeartbeats 2000000
/-! MI: the law's statements about drawn weights. -/
namespace PL.L
open PySem PL
section
variable {N n : Nat}
theorem nats_of {ys : List PyData} {lo hi : Nat} (h : ∀ y ∈ ys, ∃ i : Nat, y = iN i ∧ lo ≤ i ∧ i ≤ hi) : ∃ W : List Nat, ys = W.map iN ∧ ∀ w ∈ W, lo ≤ w ∧ w ≤ hi := by
  induction ys with
  | nil => exact ⟨[], rfl, fun w hw => nomatch hw⟩
  | cons y ys ih =>
    obtain ⟨W, e, b⟩ := ih fun z hz => h z (List.mem_cons_of_mem _ hz)
    obtain ⟨i, rfl, b1⟩ := h y List.mem_cons_self
    exact ⟨i :: W, by rw [e]; rfl, fun w hw => by
      rcases List.mem_cons.mp hw with rfl | hw
      · exact b1
      · exact b w hw⟩
theorem s6 {f : Nat → Slot} {d : PyData} {m : Mob} (h : Whole m) (hc : Cl ow f) (h1 : f 1 = .h false d) (h4 : f 4 = .c (.list (namL m))) (hk : HandOk d) : ∃ (ws : List Nat) (d' : PyData), Wts m ws ∧ HandOk d' ∧ exec (GL N) N law_t6 (E 25 f) = .nx (E 25 (sU (sU f 1 (.h false d')) 12 (.c (tupN ws)))) := by
  have c22 := hc 22 (by decide)
  have hl := h.len
  obtain ⟨ys, d2, ly, hy, k2, e2⟩ := lcL_draw (fun d => E 25 (sU (sU f 1 (.h false d)) 22 .no)) (fun y => ∃ i : Nat, y = iN i ∧ 1 ≤ i ∧ i ≤ 9) (g := iN) (l := m.nms)
    (step := stepF (.nm 22) (evIf (GL N) []) (ev (GL N) (.bin .Add (.con (.int 1)) (.call "_law_draw" [(.var 1), (.con (.int 9))]))) [22]) (fun x hx d hd => by
      obtain ⟨r, d', r0, r1, k', e⟩ := (drm (N := N)).2 hd 9 (by omega) (by omega)
      have e' := e 19
      refine ⟨.int (1 + r), d', ⟨(1 + r).toNat, by unfold iN; rw [Int.toNat_of_nonneg (by omega)], by omega, by omega⟩, k', ?_⟩
      simp [execs, exec, ev.eq_1, ev.eq_2, ev.eq_3, ev.eq_4, ev.eq_5, ev.eq_6, ev.eq_7, ev.eq_8, ev.eq_9, ev.eq_10, ev.eq_11, ev.eq_12, ev.eq_13, ev.eq_14, ev.eq_15, ev.eq_16, ev.eq_17, ev.eq_18, ev.eq_19, ev_lc, evAnd, evOr, evCh, evR, evC, evA, evP, evIf, evT, evO, PL.bind, sb, biR, negR, binR, idxR, sliR, metR, cmpR, truthR, callR, iosOf, derefs, putBack, PL.cold, peeks, peek, gets, ofO, retOf, slotOf, setAll, isHot, subAt, recvOk, isMut, isUpd, recvD, dctR, biD, one, ovS, seq?, isInst, PyData.isInt, PyData.isBool, PyData.isTuple, truthD, PyData.truthy, entry, asgT, asgTs, wipeE, backE, it_lst, it_tpl, it_r1, it_r2, it_r3, it_enum, it_zip, rg1, rg2, ints?, intR, setD, retIs_rt, nxIs_nx, retH_rt, nxH_nx, PyData.isList, PyData.isDict, PyData.isStr, List.range, List.range.loop, sz0, sz1, sz2, sz3, sz4, sz5, sz6, sz7, sz8, sz9, sz10, sz11, sz12, E_get, E_set, sU_eq, sU_ne, sU_sU, sU_comm, notHot_E, cl_no, cl_c, stepF, eDm, iDm, e', binD]) (d := d) (acc := []) hk (by simp; omega)
  rw [List.nil_append] at e2
  obtain ⟨W, rfl, hb⟩ := nats_of hy
  rw [List.length_map] at ly
  have hs : sU f 1 (.h false d) = f := by rw [← h1]; exact sU_self f 1
  rw [hs] at e2
  refine ⟨W, d2, ⟨ly, fun w hw => by have := hb w hw; omega⟩, k2, ?_⟩
  have it : itemsD .plain [.list (namL m)] = some (m.nms.map iN) := rfl
  have tw : tupN W = .tuple (W.map iN) := rfl
  rw [tw]
  have c22' : cl ((sU f 1 (.h false d2)) 22) = true := c22
  simp [execs, exec, ev.eq_1, ev.eq_2, ev.eq_3, ev.eq_4, ev.eq_5, ev.eq_6, ev.eq_7, ev.eq_8, ev.eq_9, ev.eq_10, ev.eq_11, ev.eq_12, ev.eq_13, ev.eq_14, ev.eq_15, ev.eq_16, ev.eq_17, ev.eq_18, ev.eq_19, ev_lc, evAnd, evOr, evCh, evR, evC, evA, evP, evIf, evT, evO, PL.bind, sb, biR, negR, binR, idxR, sliR, metR, cmpR, truthR, callR, iosOf, derefs, putBack, PL.cold, peeks, peek, gets, ofO, retOf, slotOf, setAll, isHot, subAt, recvOk, isMut, isUpd, recvD, dctR, biD, one, ovS, seq?, isInst, PyData.isInt, PyData.isBool, PyData.isTuple, truthD, PyData.truthy, entry, asgT, asgTs, wipeE, backE, it_lst, it_tpl, it_r1, it_r2, it_r3, it_enum, it_zip, rg1, rg2, ints?, intR, setD, retIs_rt, nxIs_nx, retH_rt, nxH_nx, PyData.isList, PyData.isDict, PyData.isStr, List.range, List.range.loop, sz0, sz1, sz2, sz3, sz4, sz5, sz6, sz7, sz8, sz9, sz10, sz11, sz12, E_get, E_set, sU_eq, sU_ne, sU_sU, sU_comm, notHot_E, cl_no, cl_c, law_t6, h1, h4, c22, it] at e2 ⊢
  rw [e2]
  simp [execs, exec, ev.eq_1, ev.eq_2, ev.eq_3, ev.eq_4, ev.eq_5, ev.eq_6, ev.eq_7, ev.eq_8, ev.eq_9, ev.eq_10, ev.eq_11, ev.eq_12, ev.eq_13, ev.eq_14, ev.eq_15, ev.eq_16, ev.eq_17, ev.eq_18, ev.eq_19, ev_lc, evAnd, evOr, evCh, evR, evC, evA, evP, evIf, evT, evO, PL.bind, sb, biR, negR, binR, idxR, sliR, metR, cmpR, truthR, callR, iosOf, derefs, putBack, PL.cold, peeks, peek, gets, ofO, retOf, slotOf, setAll, isHot, subAt, recvOk, isMut, isUpd, recvD, dctR, biD, one, ovS, seq?, isInst, PyData.isInt, PyData.isBool, PyData.isTuple, truthD, PyData.truthy, entry, asgT, asgTs, wipeE, backE, it_lst, it_tpl, it_r1, it_r2, it_r3, it_enum, it_zip, rg1, rg2, ints?, intR, setD, retIs_rt, nxIs_nx, retH_rt, nxH_nx, PyData.isList, PyData.isDict, PyData.isStr, List.range, List.range.loop, sz0, sz1, sz2, sz3, sz4, sz5, sz6, sz7, sz8, sz9, sz10, sz11, sz12, E_get, E_set, sU_eq, sU_ne, sU_sU, sU_comm, notHot_E, cl_no, cl_c, sU_self]
theorem s7 {f : Nat → Slot} : exec (GL N) N law_t7 (E 25 f) = .nx (E 25 (sU f 13 (.h false (.list [])))) := by simp [execs, exec, ev.eq_1, ev.eq_2, ev.eq_3, ev.eq_4, ev.eq_5, ev.eq_6, ev.eq_7, ev.eq_8, ev.eq_9, ev.eq_10, ev.eq_11, ev.eq_12, ev.eq_13, ev.eq_14, ev.eq_15, ev.eq_16, ev.eq_17, ev.eq_18, ev.eq_19, ev_lc, evAnd, evOr, evCh, evR, evC, evA, evP, evIf, evT, evO, PL.bind, sb, biR, negR, binR, idxR, sliR, metR, cmpR, truthR, callR, iosOf, derefs, putBack, PL.cold, peeks, peek, gets, ofO, retOf, slotOf, setAll, isHot, subAt, recvOk, isMut, isUpd, recvD, dctR, biD, one, ovS, seq?, isInst, PyData.isInt, PyData.isBool, PyData.isTuple, truthD, PyData.truthy, entry, asgT, asgTs, wipeE, backE, it_lst, it_tpl, it_r1, it_r2, it_r3, it_enum, it_zip, rg1, rg2, ints?, intR, setD, retIs_rt, nxIs_nx, retH_rt, nxH_nx, PyData.isList, PyData.isDict, PyData.isStr, List.range, List.range.loop, sz0, sz1, sz2, sz3, sz4, sz5, sz6, sz7, sz8, sz9, sz10, sz11, sz12, E_get, E_set, sU_eq, sU_ne, sU_sU, sU_comm, notHot_E, cl_no, cl_c, law_t7]
/-- the arms from the top -/
def Mob.nodes : Mob → List (Nat × Mob × Nat × Mob)
  | .leaf _ => []
  | .node a l b r => (a, l, b, r) :: (l.nodes ++ r.nodes)
theorem arms_nodes : ∀ m : Mob, m.arms = m.nodes.map fun p => .tuple [iN p.1, tupN p.2.1.nms, iN p.2.2.1, tupN p.2.2.2.nms]
  | .leaf _ => rfl
  | .node a l b r => by rw [Mob.arms, Mob.nodes, List.map_cons, List.map_append, ← arms_nodes l, ← arms_nodes r]
theorem words_nodes (w : Nat → Int) : ∀ m : Mob, m.words w = m.nodes.map fun p => tword ((p.1 : Int) * p.2.1.wt w - p.2.2.1 * p.2.2.2.wt w)
  | .leaf _ => rfl
  | .node a l b r => by rw [Mob.words, Mob.nodes, List.map_cons, List.map_append, ← words_nodes w l, ← words_nodes w r]
structure NodeOk (m : Mob) (p : Nat × Mob × Nat × Mob) : Prop where
  a : p.1 ≤ 4
  b : p.2.2.1 ≤ 4
  l : ∀ k ∈ p.2.1.nms, k ∈ m.nms
  r : ∀ k ∈ p.2.2.2.nms, k ∈ m.nms
  ll : p.2.1.nms.length ≤ m.nms.length
  lr : p.2.2.2.nms.length ≤ m.nms.length
theorem node_ok : ∀ {m : Mob}, m.Ok → ∀ p ∈ m.nodes, NodeOk m p
  | .leaf _, _, p, hp => nomatch hp
  | .node a l b r, h, p, hp => by
    obtain ⟨_, a4, _, b4, hl, hr⟩ := h
    rw [Mob.nodes, List.mem_cons, List.mem_append] at hp
    have e : (Mob.node a l b r).nms = l.nms ++ r.nms := rfl
    rcases hp with rfl | hp | hp
    · exact ⟨a4, b4, fun k hk => by rw [e]; exact List.mem_append.mpr (.inl hk), fun k hk => by rw [e]; exact List.mem_append.mpr (.inr hk), by rw [e, List.length_append]; exact Nat.le_add_right _ _, by rw [e, List.length_append]; exact Nat.le_add_left _ _⟩
    · have q := node_ok hl p hp
      exact ⟨q.a, q.b, fun k hk => by rw [e]; exact List.mem_append.mpr (.inl (q.l k hk)), fun k hk => by rw [e]; exact List.mem_append.mpr (.inl (q.r k hk)), by rw [e, List.length_append]; have := q.ll; omega, by rw [e, List.length_append]; have := q.lr; omega⟩
    · have q := node_ok hr p hp
      exact ⟨q.a, q.b, fun k hk => by rw [e]; exact List.mem_append.mpr (.inr (q.l k hk)), fun k hk => by rw [e]; exact List.mem_append.mpr (.inr (q.r k hk)), by rw [e, List.length_append]; have := q.ll; omega, by rw [e, List.length_append]; have := q.lr; omega⟩
def t8a : St := .par [18, 19] [false, false] [(.bin .Mult (.var 14) (.bi .sum [(.lc (.idx (.var 12) (.var 22)) (.nm 22) .plain [(.var 15)] [] [22])])), (.bin .Mult (.var 16) (.bi .sum [(.lc (.idx (.var 12) (.var 22)) (.nm 22) .plain [(.var 17)] [] [22])]))]
def t8b : St := .ex (.met .append (.var 13) [(.ife (.cmp (.var 18) [.Eq] [(.var 19)]) (.con (.str "level")) (.ife (.cmp (.var 18) [.Gt] [(.var 19)]) (.con (.str "left")) (.con (.str "right"))))])
theorem t8_eq : law_t8 = .fr (.tp [(.nm 14), (.nm 15), (.nm 16), (.nm 17)]) .plain [(.var 7)] [t8a, t8b] := rfl
theorem side {f : Nat → Slot} {ws : List Nat} {l : Mob} (i : Nat) (hi : i = 15 ∨ i = 17) (c22 : cl (f 22) = true) (h12 : f 12 = .c (tupN ws)) (hil : f i = .c (tupN l.nms)) (hw : ∀ k ∈ l.nms, k < ws.length) (hl : l.nms.length ≤ 1000) :
    ev (GL N) (.bi .sum [(.lc (.idx (.var 12) (.var 22)) (.nm 22) .plain [(.var i)] [] [22])]) (E 25 f) = .ok (.val (.int (l.wt (wfn ws)))) (E 25 f) := by
  have st : ∀ k ∈ l.nms, stepF (.nm 22) (fun x => Out.ok true x) (ev (GL N) (.idx (.var 12) (.var 22))) [22] (iN k) (E 25 (sU f 22 .no)) = .ok (some (.int (wfn ws k))) (E 25 (sU f 22 .no)) := fun k hk => by
    have := idx_w (hw k hk)
    simp [execs, exec, ev.eq_1, ev.eq_2, ev.eq_3, ev.eq_4, ev.eq_5, ev.eq_6, ev.eq_7, ev.eq_8, ev.eq_9, ev.eq_10, ev.eq_11, ev.eq_12, ev.eq_13, ev.eq_14, ev.eq_15, ev.eq_16, ev.eq_17, ev.eq_18, ev.eq_19, ev_lc, evAnd, evOr, evCh, evR, evC, evA, evP, evIf, evT, evO, PL.bind, sb, biR, negR, binR, idxR, sliR, metR, cmpR, truthR, callR, iosOf, derefs, putBack, PL.cold, peeks, peek, gets, ofO, retOf, slotOf, setAll, isHot, subAt, recvOk, isMut, isUpd, recvD, dctR, biD, one, ovS, seq?, isInst, PyData.isInt, PyData.isBool, PyData.isTuple, truthD, PyData.truthy, entry, asgT, asgTs, wipeE, backE, it_lst, it_tpl, it_r1, it_r2, it_r3, it_enum, it_zip, rg1, rg2, ints?, intR, setD, retIs_rt, nxIs_nx, retH_rt, nxH_nx, PyData.isList, PyData.isDict, PyData.isStr, List.range, List.range.loop, sz0, sz1, sz2, sz3, sz4, sz5, sz6, sz7, sz8, sz9, sz10, sz11, sz12, E_get, E_set, sU_eq, sU_ne, sU_sU, sU_comm, notHot_E, cl_no, cl_c, stepF, h12, this]
  have lc := lcL_all (l := l.nms) (g := iN) (f := fun k => .int (wfn ws k)) st (by omega)
  have sm := sum_map (h := wfn ws) (l := l.nms)
  rw [Mob.wt_nms] at sm
  have it : itemsD .plain [tupN l.nms] = some (l.nms.map iN) := rfl
  rcases hi with rfl | rfl <;> simp [execs, exec, ev.eq_1, ev.eq_2, ev.eq_3, ev.eq_4, ev.eq_5, ev.eq_6, ev.eq_7, ev.eq_8, ev.eq_9, ev.eq_10, ev.eq_11, ev.eq_12, ev.eq_13, ev.eq_14, ev.eq_15, ev.eq_16, ev.eq_17, ev.eq_18, ev.eq_19, ev_lc, evAnd, evOr, evCh, evR, evC, evA, evP, evIf, evT, evO, PL.bind, sb, biR, negR, binR, idxR, sliR, metR, cmpR, truthR, callR, iosOf, derefs, putBack, PL.cold, peeks, peek, gets, ofO, retOf, slotOf, setAll, isHot, subAt, recvOk, isMut, isUpd, recvD, dctR, biD, one, ovS, seq?, isInst, PyData.isInt, PyData.isBool, PyData.isTuple, truthD, PyData.truthy, entry, asgT, asgTs, wipeE, backE, it_lst, it_tpl, it_r1, it_r2, it_r3, it_enum, it_zip, rg1, rg2, ints?, intR, setD, retIs_rt, nxIs_nx, retH_rt, nxH_nx, PyData.isList, PyData.isDict, PyData.isStr, List.range, List.range.loop, sz0, sz1, sz2, sz3, sz4, sz5, sz6, sz7, sz8, sz9, sz10, sz11, sz12, E_get, E_set, sU_eq, sU_ne, sU_sU, sU_comm, notHot_E, cl_no, cl_c, hil, ev_lc, it, c22, lc, sm, sU_self]
theorem s8 {f : Nat → Slot} {m : Mob} {ws : List Nat} (h : Whole m) (hc : Cl ow f) (hw : Wts m ws) (h7 : f 7 = .c (.list m.arms)) (h12 : f 12 = .c (tupN ws)) (h13 : f 13 = .h false (.list [])) :
    ∃ g, exec (GL N) N law_t8 (E 25 f) = .nx (E 25 g) ∧ g 13 = .h false (.list (m.words (wfn ws))) ∧ (∀ i, i < 13 ∨ 19 < i → g i = f i) := by
  have hl := h.len
  have nl : m.nodes.length + 1 = m.nms.length := by
    have := arms_len m
    rw [arms_nodes, List.length_map] at this; exact this
  obtain ⟨ρ1, e1, g, rfl, g13, gk, _⟩ := forL_relN (T := .tp [(.nm 14), (.nm 15), (.nm 16), (.nm 17)]) (b := execs (GL N) N [t8a, t8b]) (g := fun p : Nat × Mob × Nat × Mob => .tuple [iN p.1, tupN p.2.1.nms, iN p.2.2.1, tupN p.2.2.2.nms])
    m.nodes.length (fun k (acc : List PyData) ρ => ∃ g, ρ = E 25 g ∧ g 13 = .h false (.list acc) ∧ (∀ i, i < 13 ∨ 19 < i → g i = f i) ∧ acc.length = k) (fun acc p => acc ++ [tword ((p.1 : Int) * p.2.1.wt (wfn ws) - p.2.2.1 * p.2.2.2.wt (wfn ws))]) (l := m.nodes)
    (fun p hp k acc ρ hk ⟨g, e, g13, gk, la⟩ => by
      subst e
      obtain ⟨a, l, b, r⟩ := p
      have q := node_ok h.ok _ hp
      have x12 : g 12 = .c (tupN ws) := (gk 12 (by omega)).trans h12
      have x22 : cl (g 22) = true := by rw [gk 22 (by omega)]; exact hc 22 (by decide)
      have wl : ∀ k ∈ l.nms, k < ws.length := fun k hk => h.lt hw.len k (q.l k hk)
      have wr : ∀ k ∈ r.nms, k < ws.length := fun k hk => h.lt hw.len k (q.r k hk)
      generalize hg1 : sU (sU (sU (sU g 14 (.c (iN a))) 15 (.c (tupN l.nms))) 16 (.c (iN b))) 17 (.c (tupN r.nms)) = g1
      have y14 : g1 14 = .c (iN a) := by rw [← hg1]; rfl
      have y15 : g1 15 = .c (tupN l.nms) := by rw [← hg1]; rfl
      have y16 : g1 16 = .c (iN b) := by rw [← hg1]; rfl
      have y17 : g1 17 = .c (tupN r.nms) := by rw [← hg1]; rfl
      have y12 : g1 12 = .c (tupN ws) := by rw [← hg1]; exact x12
      have y22 : cl (g1 22) = true := by rw [← hg1]; exact x22
      have y13 : g1 13 = .h false (.list acc) := by rw [← hg1]; exact g13
      have sl := side (N := N) (f := g1) (l := l) 15 (.inl rfl) y22 y12 y15 wl (by have := q.ll; simp only at this; omega)
      have sr := side (N := N) (f := g1) (l := r) 17 (.inr rfl) y22 y12 y17 wr (by have := q.lr; simp only at this; omega)
      have a4 : a ≤ 4 := q.a
      have b4 : b ≤ 4 := q.b
      generalize hX : l.wt (wfn ws) = X at sl
      generalize hY : r.wt (wfn ws) = Y at sr
      have m1 := d_mulZ (a := a) (by unfold BB; omega) X
      have m2 := d_mulZ (a := b) (by unfold BB; omega) Y
      have ea : exec (GL N) N t8a (E 25 g1) = .nx (E 25 (sU (sU g1 19 (.c (.int ((b : Int) * Y)))) 18 (.c (.int ((a : Int) * X))))) := by
        rw [t8a, exec, evP]
        simp only [PL.bind, evP, ev.eq_4, ev.eq_1, gets, E_get, y14, y16, sl, sr, binR, peek, m1, m2, ofO, slotOf, PL.cold, sb, setAll, E_set, Nat.reduceLT]
      have ap : ∀ x, metM .append (.list acc) [x] = some (.none, .list (acc ++ [x])) := fun x => by
        have z : szOk acc.length = true := zw _ (by omega)
        simp only [metM, z, if_true]
      generalize hP : (a : Int) * X = P at ea
      generalize hQ : (b : Int) * Y = Q at ea
      have eb : exec (GL N) N t8b (E 25 (sU (sU g1 19 (.c (.int Q))) 18 (.c (.int P)))) = .nx (E 25 (sU (sU (sU g1 19 (.c (.int Q))) 18 (.c (.int P))) 13 (.h false (.list (acc ++ [tword (P - Q)]))))) := by
        unfold tword
        by_cases c0 : P = Q
        · have : P - Q = 0 := by omega
          rw [if_pos this]
          simp [execs, exec, ev.eq_1, ev.eq_2, ev.eq_3, ev.eq_4, ev.eq_5, ev.eq_6, ev.eq_7, ev.eq_8, ev.eq_9, ev.eq_10, ev.eq_11, ev.eq_12, ev.eq_13, ev.eq_14, ev.eq_15, ev.eq_16, ev.eq_17, ev.eq_18, ev.eq_19, ev_lc, evAnd, evOr, evCh, evR, evC, evA, evP, evIf, evT, evO, PL.bind, sb, biR, negR, binR, idxR, sliR, metR, cmpR, truthR, callR, iosOf, derefs, putBack, PL.cold, peeks, peek, gets, ofO, retOf, slotOf, setAll, isHot, subAt, recvOk, isMut, isUpd, recvD, dctR, biD, one, ovS, seq?, isInst, PyData.isInt, PyData.isBool, PyData.isTuple, truthD, PyData.truthy, entry, asgT, asgTs, wipeE, backE, it_lst, it_tpl, it_r1, it_r2, it_r3, it_enum, it_zip, rg1, rg2, ints?, intR, setD, retIs_rt, nxIs_nx, retH_rt, nxH_nx, PyData.isList, PyData.isDict, PyData.isStr, List.range, List.range.loop, sz0, sz1, sz2, sz3, sz4, sz5, sz6, sz7, sz8, sz9, sz10, sz11, sz12, E_get, E_set, sU_eq, sU_ne, sU_sU, sU_comm, notHot_E, cl_no, cl_c, t8b, y13, cmp_eq, c0, ap]
        · have : ¬ P - Q = 0 := by omega
          rw [if_neg this]
          by_cases c1 : P > Q
          · have : P - Q > 0 := by omega
            rw [if_pos this]
            have c1 : Q < P := c1
            simp [execs, exec, ev.eq_1, ev.eq_2, ev.eq_3, ev.eq_4, ev.eq_5, ev.eq_6, ev.eq_7, ev.eq_8, ev.eq_9, ev.eq_10, ev.eq_11, ev.eq_12, ev.eq_13, ev.eq_14, ev.eq_15, ev.eq_16, ev.eq_17, ev.eq_18, ev.eq_19, ev_lc, evAnd, evOr, evCh, evR, evC, evA, evP, evIf, evT, evO, PL.bind, sb, biR, negR, binR, idxR, sliR, metR, cmpR, truthR, callR, iosOf, derefs, putBack, PL.cold, peeks, peek, gets, ofO, retOf, slotOf, setAll, isHot, subAt, recvOk, isMut, isUpd, recvD, dctR, biD, one, ovS, seq?, isInst, PyData.isInt, PyData.isBool, PyData.isTuple, truthD, PyData.truthy, entry, asgT, asgTs, wipeE, backE, it_lst, it_tpl, it_r1, it_r2, it_r3, it_enum, it_zip, rg1, rg2, ints?, intR, setD, retIs_rt, nxIs_nx, retH_rt, nxH_nx, PyData.isList, PyData.isDict, PyData.isStr, List.range, List.range.loop, sz0, sz1, sz2, sz3, sz4, sz5, sz6, sz7, sz8, sz9, sz10, sz11, sz12, E_get, E_set, sU_eq, sU_ne, sU_sU, sU_comm, notHot_E, cl_no, cl_c, t8b, y13, cmp_eq, cmp_gt, c0, c1, ap]
          · have : ¬ P - Q > 0 := by omega
            rw [if_neg this]
            have c1 : ¬ Q < P := c1
            simp [execs, exec, ev.eq_1, ev.eq_2, ev.eq_3, ev.eq_4, ev.eq_5, ev.eq_6, ev.eq_7, ev.eq_8, ev.eq_9, ev.eq_10, ev.eq_11, ev.eq_12, ev.eq_13, ev.eq_14, ev.eq_15, ev.eq_16, ev.eq_17, ev.eq_18, ev.eq_19, ev_lc, evAnd, evOr, evCh, evR, evC, evA, evP, evIf, evT, evO, PL.bind, sb, biR, negR, binR, idxR, sliR, metR, cmpR, truthR, callR, iosOf, derefs, putBack, PL.cold, peeks, peek, gets, ofO, retOf, slotOf, setAll, isHot, subAt, recvOk, isMut, isUpd, recvD, dctR, biD, one, ovS, seq?, isInst, PyData.isInt, PyData.isBool, PyData.isTuple, truthD, PyData.truthy, entry, asgT, asgTs, wipeE, backE, it_lst, it_tpl, it_r1, it_r2, it_r3, it_enum, it_zip, rg1, rg2, ints?, intR, setD, retIs_rt, nxIs_nx, retH_rt, nxH_nx, PyData.isList, PyData.isDict, PyData.isStr, List.range, List.range.loop, sz0, sz1, sz2, sz3, sz4, sz5, sz6, sz7, sz8, sz9, sz10, sz11, sz12, E_get, E_set, sU_eq, sU_ne, sU_sU, sU_comm, notHot_E, cl_no, cl_c, t8b, y13, cmp_eq, cmp_gt, c0, c1, ap]
      refine ⟨E 25 g1, E 25 (sU (sU (sU g1 19 (.c (.int Q))) 18 (.c (.int P))) 13 (.h false (.list (acc ++ [tword (P - Q)])))), ?_, ?_, _, rfl, ?_, ?_, ?_⟩
      · rw [← hg1]
        simp only [asgT, asgTs, E_set]
      · rw [execs_eq ea, execs_one, eb]
      · rw [sU_eq, ← hP, ← hQ, ← hX, ← hY]
      · intro i hi
        rw [sU_ne (by omega), sU_ne (by omega), sU_ne (by omega), ← hg1, sU_ne (by omega), sU_ne (by omega), sU_ne (by omega), sU_ne (by omega)]
        exact gk i hi
      · rw [List.length_append, la]; rfl) (k := 0) (s := []) (ρ := E 25 f) (by omega) ⟨f, rfl, h13, fun _ _ => rfl, rfl⟩
  have fo : ∀ (l : List (Nat × Mob × Nat × Mob)) (acc : List PyData), l.foldl (fun acc p => acc ++ [tword ((p.1 : Int) * p.2.1.wt (wfn ws) - p.2.2.1 * p.2.2.2.wt (wfn ws))]) acc = acc ++ l.map fun p => tword ((p.1 : Int) * p.2.1.wt (wfn ws) - p.2.2.1 * p.2.2.2.wt (wfn ws)) := by
    intro l
    induction l with
    | nil => intro acc; simp
    | cons p l ih => intro acc; rw [List.foldl_cons, ih, List.map_cons, List.append_assoc]; rfl
  rw [fo, List.nil_append, ← words_nodes] at g13
  rw [← arms_nodes] at e1
  refine ⟨g, ?_, g13, gk⟩
  rw [t8_eq]
  exact exec_fr (ds := [.list m.arms]) (by simp [execs, exec, ev.eq_1, ev.eq_2, ev.eq_3, ev.eq_4, ev.eq_5, ev.eq_6, ev.eq_7, ev.eq_8, ev.eq_9, ev.eq_10, ev.eq_11, ev.eq_12, ev.eq_13, ev.eq_14, ev.eq_15, ev.eq_16, ev.eq_17, ev.eq_18, ev.eq_19, ev_lc, evAnd, evOr, evCh, evR, evC, evA, evP, evIf, evT, evO, PL.bind, sb, biR, negR, binR, idxR, sliR, metR, cmpR, truthR, callR, iosOf, derefs, putBack, PL.cold, peeks, peek, gets, ofO, retOf, slotOf, setAll, isHot, subAt, recvOk, isMut, isUpd, recvD, dctR, biD, one, ovS, seq?, isInst, PyData.isInt, PyData.isBool, PyData.isTuple, truthD, PyData.truthy, entry, asgT, asgTs, wipeE, backE, it_lst, it_tpl, it_r1, it_r2, it_r3, it_enum, it_zip, rg1, rg2, ints?, intR, setD, retIs_rt, nxIs_nx, retH_rt, nxH_nx, PyData.isList, PyData.isDict, PyData.isStr, List.range, List.range.loop, sz0, sz1, sz2, sz3, sz4, sz5, sz6, sz7, sz8, sz9, sz10, sz11, sz12, E_get, E_set, sU_eq, sU_ne, sU_sU, sU_comm, notHot_E, cl_no, cl_c, h7]) rfl e1
theorem words_str {w : Nat → Int} {m : Mob} : ∀ d ∈ m.words w, ∃ s : Str, d = .str s := fun d hd => by
  obtain ⟨x, rfl⟩ := words_mem w hd
  exact ⟨_, rfl⟩
theorem sort_strs {l : List PyData} (h : ∀ d ∈ l, ∃ s : Str, d = .str s) (hl : l.length ≤ 1000) : sortedL l = some (.fresh (.list (sortD l))) ∧ sortedK l = some (.fresh (.list (sortD l))) ∧ deepOk (.list (sortD l)) = true := by
  have s1 : selfAlike l = true := by
    unfold selfAlike
    refine List.all_eq_true.mpr fun x hx => List.all_eq_true.mpr fun y hy => ?_
    obtain ⟨a, rfl⟩ := h x hx
    obtain ⟨b, rfl⟩ := h y hy
    rfl
  have s2 : deepOks l = true := deeps_strs h
  have s3 : sortKind l = true := by
    unfold sortKind
    rw [Bool.or_eq_true]
    refine .inr (List.all_eq_true.mpr fun x hx => ?_)
    obtain ⟨a, rfl⟩ := h x hx
    rfl
  have s4 : szOk l.length = true := zw _ (by omega)
  refine ⟨by rw [sortedL, s1, s2, s3, s4]; rfl, by rw [sortedK, s1, s2, s3, s4]; rfl, deep_listS fun d hd => h d ((insS_perm _ _).mem_iff.mp hd)⟩
theorem s9 (hN : BB < N) {f : Nat → Slot} {m : Mob} {ws : List Nat} (h : Whole m) (hw : Wts m ws) (h3 : f 3 = .c m.py) (h12 : f 12 = .c (tupN ws)) : exec (GL N) N law_t9 (E 25 f) = .nx (E 25 (sU f 20 (.c (.tuple (m.words (wfn ws)))))) := by
  have i3 : callD dfs N 20 "tilts" [m.py, tupN ws] = .ok (.c (.tuple (m.words (wfn ws)))) [] := c_tilts (n := 9) hN h hw
  simp [execs, exec, ev.eq_1, ev.eq_2, ev.eq_3, ev.eq_4, ev.eq_5, ev.eq_6, ev.eq_7, ev.eq_8, ev.eq_9, ev.eq_10, ev.eq_11, ev.eq_12, ev.eq_13, ev.eq_14, ev.eq_15, ev.eq_16, ev.eq_17, ev.eq_18, ev.eq_19, ev_lc, evAnd, evOr, evCh, evR, evC, evA, evP, evIf, evT, evO, PL.bind, sb, biR, negR, binR, idxR, sliR, metR, cmpR, truthR, callR, iosOf, derefs, putBack, PL.cold, peeks, peek, gets, ofO, retOf, slotOf, setAll, isHot, subAt, recvOk, isMut, isUpd, recvD, dctR, biD, one, ovS, seq?, isInst, PyData.isInt, PyData.isBool, PyData.isTuple, truthD, PyData.truthy, entry, asgT, asgTs, wipeE, backE, it_lst, it_tpl, it_r1, it_r2, it_r3, it_enum, it_zip, rg1, rg2, ints?, intR, setD, retIs_rt, nxIs_nx, retH_rt, nxH_nx, PyData.isList, PyData.isDict, PyData.isStr, List.range, List.range.loop, sz0, sz1, sz2, sz3, sz4, sz5, sz6, sz7, sz8, sz9, sz10, sz11, sz12, E_get, E_set, sU_eq, sU_ne, sU_sU, sU_comm, notHot_E, cl_no, cl_c, law_t9, h3, h12, df_tilts, io_tilts, i3]
theorem s10 {f : Nat → Slot} {l : List PyData} (hs : ∀ d ∈ l, ∃ s : Str, d = .str s) (hl : l.length ≤ 1000) (h13 : f 13 = .h false (.list l)) (h20 : f 20 = .c (.tuple l)) : exec (GL N) N law_t10 (E 25 f) = .nx (E 25 f) := by
  obtain ⟨a, b, c⟩ := sort_strs hs hl
  have a' : sortedD (.list l) = some (.fresh (.list (sortD l))) := a
  have b' : sortedD (.tuple l) = some (.fresh (.list (sortD l))) := b
  have n1 := ne_self c
  have n2 : cmpD .NotEq (.tuple (cut l none (some 1))) (.tuple (cut l none (some 1))) = some false := ne_self (deep_tupS fun d hd => hs d (by
    unfold cut at hd
    exact List.mem_of_mem_drop (List.mem_of_mem_take hd)))
  have sl1 : sliD (.list l) none (some 1) = some (.fresh (.list (cut l none (some 1)))) := rfl
  have sl2 : sliD (.tuple l) none (some 1) = some (.val (.tuple (cut l none (some 1)))) := rfl
  simp [execs, exec, ev.eq_1, ev.eq_2, ev.eq_3, ev.eq_4, ev.eq_5, ev.eq_6, ev.eq_7, ev.eq_8, ev.eq_9, ev.eq_10, ev.eq_11, ev.eq_12, ev.eq_13, ev.eq_14, ev.eq_15, ev.eq_16, ev.eq_17, ev.eq_18, ev.eq_19, ev_lc, evAnd, evOr, evCh, evR, evC, evA, evP, evIf, evT, evO, PL.bind, sb, biR, negR, binR, idxR, sliR, metR, cmpR, truthR, callR, iosOf, derefs, putBack, PL.cold, peeks, peek, gets, ofO, retOf, slotOf, setAll, isHot, subAt, recvOk, isMut, isUpd, recvD, dctR, biD, one, ovS, seq?, isInst, PyData.isInt, PyData.isBool, PyData.isTuple, truthD, PyData.truthy, entry, asgT, asgTs, wipeE, backE, it_lst, it_tpl, it_r1, it_r2, it_r3, it_enum, it_zip, rg1, rg2, ints?, intR, setD, retIs_rt, nxIs_nx, retH_rt, nxH_nx, PyData.isList, PyData.isDict, PyData.isStr, List.range, List.range.loop, sz0, sz1, sz2, sz3, sz4, sz5, sz6, sz7, sz8, sz9, sz10, sz11, sz12, E_get, E_set, sU_eq, sU_ne, sU_sU, sU_comm, notHot_E, cl_no, cl_c, law_t10, h13, h20, a', b', n1, n2, sl1, sl2, sliR]
theorem s11 {f : Nat → Slot} {m : Mob} {w : Nat → Int} (hc : Cl ow f) (hl : m.nms.length ≤ 1000) (h13 : f 13 = .h false (.list (m.words w))) : exec (GL N) N law_t11 (E 25 f) = .nx (E 25 (sU (sU f 13 (.c (.list (m.words w)))) 21 (.c (.bool (m.levB w))))) := by
  have c23 := hc 23 (by decide)
  have st : ∀ d ∈ m.words w, stepF (.nm 23) (fun x => Out.ok true x) (ev (GL N) (.cmp (.var 23) [.Eq] [(.con (.str "level"))])) [23] d (E 25 (sU (sU f 23 .no) 13 (.c (.list (m.words w))))) = .ok (some (.bool (isLevW d))) (E 25 (sU (sU f 23 .no) 13 (.c (.list (m.words w))))) := fun d hd => by
    obtain ⟨x, rfl⟩ := words_mem _ hd
    have c := eq_word x
    simp [execs, exec, ev.eq_1, ev.eq_2, ev.eq_3, ev.eq_4, ev.eq_5, ev.eq_6, ev.eq_7, ev.eq_8, ev.eq_9, ev.eq_10, ev.eq_11, ev.eq_12, ev.eq_13, ev.eq_14, ev.eq_15, ev.eq_16, ev.eq_17, ev.eq_18, ev.eq_19, ev_lc, evAnd, evOr, evCh, evR, evC, evA, evP, evIf, evT, evO, PL.bind, sb, biR, negR, binR, idxR, sliR, metR, cmpR, truthR, callR, iosOf, derefs, putBack, PL.cold, peeks, peek, gets, ofO, retOf, slotOf, setAll, isHot, subAt, recvOk, isMut, isUpd, recvD, dctR, biD, one, ovS, seq?, isInst, PyData.isInt, PyData.isBool, PyData.isTuple, truthD, PyData.truthy, entry, asgT, asgTs, wipeE, backE, it_lst, it_tpl, it_r1, it_r2, it_r3, it_enum, it_zip, rg1, rg2, ints?, intR, setD, retIs_rt, nxIs_nx, retH_rt, nxH_nx, PyData.isList, PyData.isDict, PyData.isStr, List.range, List.range.loop, sz0, sz1, sz2, sz3, sz4, sz5, sz6, sz7, sz8, sz9, sz10, sz11, sz12, E_get, E_set, sU_eq, sU_ne, sU_sU, sU_comm, notHot_E, cl_no, cl_c, stepF, c]
  have lc := lcL_all (l := m.words w) (g := fun d => d) (f := fun d => .bool (isLevW d)) st (by have := words_len w m; omega)
  rw [List.map_id'] at lc
  have al := all_bools (l := m.words w) (q := fun d => isLevW d)
  have e : (m.words w).all (fun d => isLevW d) = m.levB w := rfl
  rw [e] at al
  simp [execs, exec, ev.eq_1, ev.eq_2, ev.eq_3, ev.eq_4, ev.eq_5, ev.eq_6, ev.eq_7, ev.eq_8, ev.eq_9, ev.eq_10, ev.eq_11, ev.eq_12, ev.eq_13, ev.eq_14, ev.eq_15, ev.eq_16, ev.eq_17, ev.eq_18, ev.eq_19, ev_lc, evAnd, evOr, evCh, evR, evC, evA, evP, evIf, evT, evO, PL.bind, sb, biR, negR, binR, idxR, sliR, metR, cmpR, truthR, callR, iosOf, derefs, putBack, PL.cold, peeks, peek, gets, ofO, retOf, slotOf, setAll, isHot, subAt, recvOk, isMut, isUpd, recvD, dctR, biD, one, ovS, seq?, isInst, PyData.isInt, PyData.isBool, PyData.isTuple, truthD, PyData.truthy, entry, asgT, asgTs, wipeE, backE, it_lst, it_tpl, it_r1, it_r2, it_r3, it_enum, it_zip, rg1, rg2, ints?, intR, setD, retIs_rt, nxIs_nx, retH_rt, nxH_nx, PyData.isList, PyData.isDict, PyData.isStr, List.range, List.range.loop, sz0, sz1, sz2, sz3, sz4, sz5, sz6, sz7, sz8, sz9, sz10, sz11, sz12, E_get, E_set, sU_eq, sU_ne, sU_sU, sU_comm, notHot_E, cl_no, cl_c, law_t11, h13, c23, ev_lc, lc, al, sU_self]
theorem s12 (hN : BB < N) {f : Nat → Slot} {m : Mob} {ws : List Nat} (h : Whole m) (hw : Wts m ws) (h3 : f 3 = .c m.py) (h12 : f 12 = .c (tupN ws)) (h21 : f 21 = .c (.bool (m.levB (wfn ws)))) : exec (GL N) N law_t12 (E 25 f) = .nx (E 25 f) := by
  have i3 : callD dfs N 20 "is_level" [m.py, tupN ws] = .ok (.c (.bool (m.levB (wfn ws)))) [] := c_is_level (n := 9) hN h hw
  have nb := ne_bool (m.levB (wfn ws)) (m.levB (wfn ws))
  simp [execs, exec, ev.eq_1, ev.eq_2, ev.eq_3, ev.eq_4, ev.eq_5, ev.eq_6, ev.eq_7, ev.eq_8, ev.eq_9, ev.eq_10, ev.eq_11, ev.eq_12, ev.eq_13, ev.eq_14, ev.eq_15, ev.eq_16, ev.eq_17, ev.eq_18, ev.eq_19, ev_lc, evAnd, evOr, evCh, evR, evC, evA, evP, evIf, evT, evO, PL.bind, sb, biR, negR, binR, idxR, sliR, metR, cmpR, truthR, callR, iosOf, derefs, putBack, PL.cold, peeks, peek, gets, ofO, retOf, slotOf, setAll, isHot, subAt, recvOk, isMut, isUpd, recvD, dctR, biD, one, ovS, seq?, isInst, PyData.isInt, PyData.isBool, PyData.isTuple, truthD, PyData.truthy, entry, asgT, asgTs, wipeE, backE, it_lst, it_tpl, it_r1, it_r2, it_r3, it_enum, it_zip, rg1, rg2, ints?, intR, setD, retIs_rt, nxIs_nx, retH_rt, nxH_nx, PyData.isList, PyData.isDict, PyData.isStr, List.range, List.range.loop, sz0, sz1, sz2, sz3, sz4, sz5, sz6, sz7, sz8, sz9, sz10, sz11, sz12, E_get, E_set, sU_eq, sU_ne, sU_sU, sU_comm, notHot_E, cl_no, cl_c, law_t12, h3, h12, h21, df_is_level, io_is_level, i3, nb]
theorem s13 (hN : BB < N) {f : Nat → Slot} {m : Mob} {ws : List Nat} (h : Whole m) (hw : Wts m ws) (h3 : f 3 = .c m.py) (h12 : f 12 = .c (tupN ws)) : exec (GL N) N law_t13 (E 25 f) = .nx (E 25 f) := by
  have i2 : callD dfs N 20 "whole_weight" [m.py, tupN ws] = .ok (.c (.int ((ws.map fun (w : Nat) => (w : Int)).sum))) [] := c_whole_weight (n := 14) hN h hw
  have sd : sumL (ws.map iN) = some (.val (.int ((ws.map fun (w : Nat) => (w : Int)).sum))) := sum_map (h := fun (w : Nat) => (w : Int)) (l := ws)
  have sv : one (ovS sumL) [tupN ws] = some (.val (.int ((ws.map fun (w : Nat) => (w : Int)).sum))) := sd
  simp only [one] at sv
  generalize (ws.map fun (w : Nat) => (w : Int)).sum = T at i2 sd sv
  have nT : cmpD .NotEq (.int T) (.int T) = some false := ne_self (deep_int _)
  simp [execs, exec, ev.eq_1, ev.eq_2, ev.eq_3, ev.eq_4, ev.eq_5, ev.eq_6, ev.eq_7, ev.eq_8, ev.eq_9, ev.eq_10, ev.eq_11, ev.eq_12, ev.eq_13, ev.eq_14, ev.eq_15, ev.eq_16, ev.eq_17, ev.eq_18, ev.eq_19, ev_lc, evAnd, evOr, evCh, evR, evC, evA, evP, evIf, evT, evO, PL.bind, sb, biR, negR, binR, idxR, sliR, metR, cmpR, truthR, callR, iosOf, derefs, putBack, PL.cold, peeks, peek, gets, ofO, retOf, slotOf, setAll, isHot, subAt, recvOk, isMut, isUpd, recvD, dctR, biD, one, ovS, seq?, isInst, PyData.isInt, PyData.isBool, PyData.isTuple, truthD, PyData.truthy, entry, asgT, asgTs, wipeE, backE, it_lst, it_tpl, it_r1, it_r2, it_r3, it_enum, it_zip, rg1, rg2, ints?, intR, setD, retIs_rt, nxIs_nx, retH_rt, nxH_nx, PyData.isList, PyData.isDict, PyData.isStr, List.range, List.range.loop, sz0, sz1, sz2, sz3, sz4, sz5, sz6, sz7, sz8, sz9, sz10, sz11, sz12, E_get, E_set, sU_eq, sU_ne, sU_sU, sU_comm, notHot_E, cl_no, cl_c, law_t13, h3, h12, df_whole_weight, io_whole_weight, i2, sv, nT, -ovS]
end
end PL.L

set_option autoImplicit false
set_option linter.all false
set_option Elab.async false
set_option maxRecDepth 100000
set_option maxHeartbeats 2000000
/-! MJ: the law. -/
namespace PL.L
open PySem PL
section
variable {N n : Nat}
theorem due_rel {m : Mob} (h : Whole m) {p : Nat × Nat} (hp : p ∈ m.prs) : wfn m.due p.1 * (gl m.whs : Nat) = p.2 := by
  rw [wfn_of (due_at h hp)]
  obtain ⟨t, ht⟩ := whs_dvd hp
  have g := whs_pos h
  have e : p.2 / gl m.whs = t := by rw [ht]; exact Nat.mul_div_cancel_left t g
  rw [e, ht]
  simp only [Int.natCast_mul]
  exact Int.mul_comm _ _
theorem mem0 {m : Mob} (h : Whole m) : 0 ∈ m.nms := h.pm.mem_iff.mpr (List.mem_range.mpr (Mob.nms_pos m))
theorem lev_ratio {m : Mob} (h : Whole m) (w : Nat → Int) : m.levB w = m.nms.all fun k => decide (w k * wfn m.due 0 = w 0 * wfn m.due k) := by
  have S0 : ((m.S : Nat) : Int) ≠ 0 := by have := Mob.S_pos h.ok; omega
  have G0 : ((gl m.whs : Nat) : Int) ≠ 0 := by have := whs_pos h; omega
  have p0 := prs_of h.nd (mem0 h)
  have r0 := due_rel h p0
  have U0 : wfn m.due 0 ≠ 0 := by
    intro z
    rw [z, Int.zero_mul] at r0
    have := Mob.prs_pos h.ok _ p0
    simp only at this r0
    omega
  rw [Bool.eq_iff_iff, levB_iff, Mob.lev_iff w h.ok, List.all_eq_true]
  simp only [decide_eq_true_eq]
  constructor
  · intro H k hk
    have pk := prs_of h.nd hk
    have rk := due_rel h pk
    have e1 := H _ pk
    have e2 := H _ p0
    simp only at e1 e2 rk r0
    refine Int.eq_of_mul_eq_mul_right S0 ?_
    refine Int.eq_of_mul_eq_mul_right G0 ?_
    grind
  · intro H
    have hp : ∀ p ∈ m.prs, w p.1 * (wfn m.due 0 * (gl m.whs : Nat)) = (p.2 : Int) * w 0 := fun p hp => by
      have hk : p.1 ∈ m.nms := by rw [← Mob.nms_prs]; exact List.mem_map_of_mem hp
      have e := H p.1 hk
      have r := due_rel h hp
      grind
    have s := Mob.sum_rel w _ _ hp
    rw [Mob.wt_prs, Mob.sum_prs] at s
    intro p q
    have e := hp p q
    refine Int.eq_of_mul_eq_mul_right (Int.mul_ne_zero U0 G0) ?_
    grind
theorem mulI {x y : Int} (h : small x = true) : binD .Mult (.int x) (.int y) = some (.val (.int (x * y))) := by
  have : binD .Mult (.int x) (.int y) = if mulOk x y then some (.val (.int (x * y))) else none := rfl
  rw [this, if_pos (mul_l h)]
theorem small_w {m : Mob} {ws : List Nat} (h : Whole m) (hw : Wts m ws) {k : Nat} (hk : k ∈ m.nms) : small (wfn ws k) = true := by
  have lt := h.lt hw.len k hk
  have e : ws[k]? = some ws[k] := List.getElem?_eq_getElem lt
  rw [wfn_of e]
  have := hw.rng _ (List.getElem_mem lt)
  exact small_n (by unfold BB; omega)
theorem s14 {f : Nat → Slot} {m : Mob} {ws : List Nat} (h : Whole m) (hc : Cl ow f) (hw : Wts m ws) (h4 : f 4 = .c (.list (namL m))) (h9 : f 9 = .c (tupN m.due)) (h12 : f 12 = .c (tupN ws)) (h21 : f 21 = .c (.bool (m.levB (wfn ws)))) : exec (GL N) N law_t14 (E 25 f) = .nx (E 25 f) := by
  have c22 := hc 22 (by decide)
  have hl := h.len
  have z0 := mem0 h
  have w0 : idxD (tupN ws) (.int 0) = some (.int (wfn ws 0)) := idx_w (k := 0) (h.lt hw.len 0 z0)
  have d0 : idxD (tupN m.due) (.int 0) = some (.int (wfn m.due 0)) := idx_w (k := 0) (h.lt (due_len m) 0 z0)
  have st : ∀ k ∈ m.nms, stepF (.nm 22) (fun x => Out.ok true x) (ev (GL N) (.cmp (.bin .Mult (.idx (.var 12) (.var 22)) (.idx (.var 9) (.con (.int 0)))) [.Eq] [(.bin .Mult (.idx (.var 12) (.con (.int 0))) (.idx (.var 9) (.var 22)))])) [22] (iN k) (E 25 (sU f 22 .no)) = .ok (some (.bool (decide (wfn ws k * wfn m.due 0 = wfn ws 0 * wfn m.due k)))) (E 25 (sU f 22 .no)) := fun k hk => by
    have wk := idx_w (h.lt hw.len k hk)
    have dk := idx_w (h.lt (due_len m) k hk)
    have m1 := mulI (y := wfn m.due 0) (small_w h hw hk)
    have m2 := mulI (y := wfn m.due k) (small_w h hw z0)
    generalize tupN ws = A at *
    generalize tupN m.due = B at *
    simp [execs, exec, ev.eq_1, ev.eq_2, ev.eq_3, ev.eq_4, ev.eq_5, ev.eq_6, ev.eq_7, ev.eq_8, ev.eq_9, ev.eq_10, ev.eq_11, ev.eq_12, ev.eq_13, ev.eq_14, ev.eq_15, ev.eq_16, ev.eq_17, ev.eq_18, ev.eq_19, ev_lc, evAnd, evOr, evCh, evR, evC, evA, evP, evIf, evT, evO, PL.bind, sb, biR, negR, binR, idxR, sliR, metR, cmpR, truthR, callR, iosOf, derefs, putBack, PL.cold, peeks, peek, gets, ofO, retOf, slotOf, setAll, isHot, subAt, recvOk, isMut, isUpd, recvD, dctR, biD, one, ovS, seq?, isInst, PyData.isInt, PyData.isBool, PyData.isTuple, truthD, PyData.truthy, entry, asgT, asgTs, wipeE, backE, it_lst, it_tpl, it_r1, it_r2, it_r3, it_enum, it_zip, rg1, rg2, ints?, intR, setD, retIs_rt, nxIs_nx, retH_rt, nxH_nx, PyData.isList, PyData.isDict, PyData.isStr, List.range, List.range.loop, sz0, sz1, sz2, sz3, sz4, sz5, sz6, sz7, sz8, sz9, sz10, sz11, sz12, E_get, E_set, sU_eq, sU_ne, sU_sU, sU_comm, notHot_E, cl_no, cl_c, stepF, h9, h12, w0, d0, wk, dk, m1, m2, cmp_eq]
  have lc := lcL_all (l := m.nms) (g := iN) (f := fun k => .bool (decide (wfn ws k * wfn m.due 0 = wfn ws 0 * wfn m.due k))) st (by omega)
  have al := all_bools (l := m.nms) (q := fun k => decide (wfn ws k * wfn m.due 0 = wfn ws 0 * wfn m.due k))
  rw [← lev_ratio h] at al
  have it : itemsD .plain [.list (namL m)] = some (m.nms.map iN) := rfl
  have nb := ne_bool (m.levB (wfn ws)) (m.levB (wfn ws))
  simp [execs, exec, ev.eq_1, ev.eq_2, ev.eq_3, ev.eq_4, ev.eq_5, ev.eq_6, ev.eq_7, ev.eq_8, ev.eq_9, ev.eq_10, ev.eq_11, ev.eq_12, ev.eq_13, ev.eq_14, ev.eq_15, ev.eq_16, ev.eq_17, ev.eq_18, ev.eq_19, ev_lc, evAnd, evOr, evCh, evR, evC, evA, evP, evIf, evT, evO, PL.bind, sb, biR, negR, binR, idxR, sliR, metR, cmpR, truthR, callR, iosOf, derefs, putBack, PL.cold, peeks, peek, gets, ofO, retOf, slotOf, setAll, isHot, subAt, recvOk, isMut, isUpd, recvD, dctR, biD, one, ovS, seq?, isInst, PyData.isInt, PyData.isBool, PyData.isTuple, truthD, PyData.truthy, entry, asgT, asgTs, wipeE, backE, it_lst, it_tpl, it_r1, it_r2, it_r3, it_enum, it_zip, rg1, rg2, ints?, intR, setD, retIs_rt, nxIs_nx, retH_rt, nxH_nx, PyData.isList, PyData.isDict, PyData.isStr, List.range, List.range.loop, sz0, sz1, sz2, sz3, sz4, sz5, sz6, sz7, sz8, sz9, sz10, sz11, sz12, E_get, E_set, sU_eq, sU_ne, sU_sU, sU_comm, notHot_E, cl_no, cl_c, law_t14, h4, h9, h12, h21, c22, ev_lc, it, lc, al, nb, sU_self]
def Turn (ρ : PL.Env) : Prop := ∃ f d, ρ = E 25 f ∧ Cl ow f ∧ f 1 = .h false d ∧ HandOk d
theorem turn (hN : BB < N) {ρ : PL.Env} (h : Turn ρ) : ∃ ρ', execs (GL N) N law_body ρ = .nx ρ' ∧ Turn ρ' := by
  obtain ⟨f, d, rfl, hc, h1, hk⟩ := h
  obtain ⟨m, d1, hm, k1, e0⟩ := s0 (N := N) hN h1 hk
  generalize hf1 : sU (sU (sU (sU (sU (sU f 1 (.h false d1)) 3 (.c m.py)) 4 (.c (.list (namL m)))) 5 (.c (.list (muchL m)))) 6 (.c (rcD m.rc))) 7 (.c (.list m.arms)) = f1 at e0
  have c1 : Cl ow f1 := by rw [← hf1]; exact (((((hc.set (.inl (by decide))).set (.inl (by decide))).set (.inl (by decide))).set (.inl (by decide))).set (.inl (by decide))).set (.inl (by decide))
  have a1 : f1 1 = .h false d1 := by rw [← hf1]; rfl
  have a3 : f1 3 = .c m.py := by rw [← hf1]; rfl
  have a4 : f1 4 = .c (.list (namL m)) := by rw [← hf1]; rfl
  have a5 : f1 5 = .c (.list (muchL m)) := by rw [← hf1]; rfl
  have a6 : f1 6 = .c (rcD m.rc) := by rw [← hf1]; rfl
  have a7 : f1 7 = .c (.list m.arms) := by rw [← hf1]; rfl
  clear hf1
  have e1 := s1 (N := N) hN (f := f1) hm a5
  generalize hf2 : sU f1 8 (.c (.list ((lowW m.whs).map iN))) = f2 at e1
  have c2 : Cl ow f2 := by rw [← hf2]; exact c1.set (.inl (by decide))
  have e2 := s2 (N := N) (f := f2) hm c2 (by rw [← hf2]; exact a4) (by rw [← hf2]; rfl)
  generalize hf3 : sU f2 9 (.c (tupN m.due)) = f3 at e2
  have c3 : Cl ow f3 := by rw [← hf3]; exact c2.set (.inl (by decide))
  have b1 : f3 1 = .h false d1 := by rw [← hf3, ← hf2]; exact a1
  have b3 : f3 3 = .c m.py := by rw [← hf3, ← hf2]; exact a3
  have b4 : f3 4 = .c (.list (namL m)) := by rw [← hf3, ← hf2]; exact a4
  have b6 : f3 6 = .c (rcD m.rc) := by rw [← hf3, ← hf2]; exact a6
  have b7 : f3 7 = .c (.list m.arms) := by rw [← hf3, ← hf2]; exact a7
  have b9 : f3 9 = .c (tupN m.due) := by rw [← hf3]; rfl
  have e3 := s3 (N := N) hN (f := f3) hm b3 b6 b9
  obtain ⟨b, d2, p1, p3, k2, e4⟩ := s4 (N := N) (f := f3) b1 k1
  generalize hf4 : sU (sU f3 1 (.h false d2)) 10 (.c (iN b)) = f4 at e4
  have c4 : Cl ow f4 := by rw [← hf4]; exact (c3.set (.inl (by decide))).set (.inl (by decide))
  obtain ⟨x, e5⟩ := s5 (N := N) hN (f := f4) hm c4 p1 p3 (by rw [← hf4]; exact b3) (by rw [← hf4]; exact b7) (by rw [← hf4]; exact b9) (by rw [← hf4]; rfl)
  generalize hf5 : sU f4 11 x = f5 at e5
  have c5 : Cl ow f5 := by rw [← hf5]; exact c4.set (.inl (by decide))
  have g1 : f5 1 = .h false d2 := by rw [← hf5, ← hf4]; rfl
  have g3 : f5 3 = .c m.py := by rw [← hf5, ← hf4]; exact b3
  have g4 : f5 4 = .c (.list (namL m)) := by rw [← hf5, ← hf4]; exact b4
  have g7 : f5 7 = .c (.list m.arms) := by rw [← hf5, ← hf4]; exact b7
  have g9 : f5 9 = .c (tupN m.due) := by rw [← hf5, ← hf4]; exact b9
  clear hf2 hf3 hf4 hf5
  obtain ⟨ws, d3, hw, k3, e6⟩ := s6 (N := N) (f := f5) hm c5 g1 g4 k2
  generalize hf6 : sU (sU f5 1 (.h false d3)) 12 (.c (tupN ws)) = f6 at e6
  have c6 : Cl ow f6 := by rw [← hf6]; exact (c5.set (.inl (by decide))).set (.inl (by decide))
  have e7 := s7 (N := N) (f := f6)
  generalize hf7 : sU f6 13 (.h false (.list [])) = f7 at e7
  have c7 : Cl ow f7 := by rw [← hf7]; exact c6.set (.inl (by decide))
  obtain ⟨f8, e8, x13, keep⟩ := s8 (N := N) (f := f7) hm c7 hw (by rw [← hf7, ← hf6]; exact g7) (by rw [← hf7, ← hf6]; rfl) (by rw [← hf7]; rfl)
  have c8 : Cl ow f8 := fun i hi => by
    have : i < 13 ∨ 19 < i := by
      simp [ow] at hi
      omega
    rw [keep i this]; exact c7 i hi
  have y1 : f8 1 = .h false d3 := by rw [keep 1 (by omega), ← hf7, ← hf6]; rfl
  have y3 : f8 3 = .c m.py := by rw [keep 3 (by omega), ← hf7, ← hf6]; exact g3
  have y4 : f8 4 = .c (.list (namL m)) := by rw [keep 4 (by omega), ← hf7, ← hf6]; exact g4
  have y9 : f8 9 = .c (tupN m.due) := by rw [keep 9 (by omega), ← hf7, ← hf6]; exact g9
  have y12 : f8 12 = .c (tupN ws) := by rw [keep 12 (by omega), ← hf7, ← hf6]; rfl
  clear keep hf6 hf7
  have e9 := s9 (N := N) hN (f := f8) hm hw y3 y12
  generalize hf9 : sU f8 20 (.c (.tuple (m.words (wfn ws)))) = f9 at e9
  have c9 : Cl ow f9 := by rw [← hf9]; exact c8.set (.inl (by decide))
  have wl := words_len (wfn ws) m
  have hl := hm.len
  have e10 := s10 (N := N) (f := f9) (l := m.words (wfn ws)) words_str (by omega) (by rw [← hf9]; exact x13) (by rw [← hf9]; rfl)
  have e11 := s11 (N := N) (f := f9) (m := m) (w := wfn ws) c9 (by omega) (by rw [← hf9]; exact x13)
  generalize hfA : sU (sU f9 13 (.c (.list (m.words (wfn ws))))) 21 (.c (.bool (m.levB (wfn ws)))) = fA at e11
  have cA : Cl ow fA := by rw [← hfA]; exact (c9.set (.inl (by decide))).set (.inl (by decide))
  have z1 : fA 1 = .h false d3 := by rw [← hfA, ← hf9]; exact y1
  have z3 : fA 3 = .c m.py := by rw [← hfA, ← hf9]; exact y3
  have z4 : fA 4 = .c (.list (namL m)) := by rw [← hfA, ← hf9]; exact y4
  have z9 : fA 9 = .c (tupN m.due) := by rw [← hfA, ← hf9]; exact y9
  have z12 : fA 12 = .c (tupN ws) := by rw [← hfA, ← hf9]; exact y12
  have z21 : fA 21 = .c (.bool (m.levB (wfn ws))) := by rw [← hfA]; rfl
  have e12 := s12 (N := N) hN (f := fA) hm hw z3 z12 z21
  have e13 := s13 (N := N) hN (f := fA) hm hw z3 z12
  have e14 := s14 (N := N) (f := fA) hm cA hw z4 z9 z12 z21
  refine ⟨E 25 fA, ?_, fA, d3, rfl, cA, z1, k3⟩
  unfold law_body
  rw [execs_eq e0, execs_eq e1, execs_eq e2, execs_eq e3, execs_eq e4, execs_eq e5, execs_eq e6, execs_eq e7, execs_eq e8, execs_eq e9, execs_eq e10, execs_eq e11, execs_eq e12, execs_eq e13, execs_one, e14]
theorem pure95 {mm : Nat → Int} (hN : BB < N) (ns : List Int) : ∃ ρ', execs ⟨dfs, callD dfs N 20⟩ N b_law ((List.replicate n_law.length Slot.no).set 1 (.h false (handD mm ns))) = .rt (.c (.bool true)) ρ' := by
  obtain ⟨ρ', e, f, d, rfl, hc, h1, hk⟩ := forL_ix0 (T := .nm 2) (items := (upto 5).map fun (c : Nat) => PyData.int (c : Int)) (b := execs (GL N) N law_body) (fun _ ρ => Turn ρ)
    (fun j x hx ρ ⟨f, d, e, hc, h1, hk⟩ => by
      subst e
      obtain ⟨ρ2, e2, i2⟩ := turn hN ⟨sU f 2 (.c x), d, rfl, hc.set (.inl (by decide)), h1, hk⟩
      exact ⟨_, ρ2, by rw [asgT, E_set], e2, i2⟩)
    (ρ := E 25 (sU (fun _ => .no) 1 (.h false (handD mm ns)))) ⟨_, _, rfl, fun i hi => by
      simp [ow] at hi
      rcases hi with rfl | rfl | rfl <;> rfl, rfl, hand0 ns⟩
  have e0 : (List.replicate n_law.length Slot.no).set 1 (.h false (handD mm ns)) = E 25 (sU (fun _ => .no) 1 (.h false (handD mm ns))) := rfl
  have w2 : Whole (.node 1 (.leaf 0) 2 (.leaf 1)) := ⟨⟨by decide, by decide, by decide, by decide, trivial, trivial⟩, .refl _, by decide⟩
  have w1 : Whole (.node 1 (.leaf 0) 1 (.leaf 1)) := ⟨⟨by decide, by decide, by decide, by decide, trivial, trivial⟩, .refl _, by decide⟩
  have w0 : Whole (.leaf 0) := ⟨trivial, .refl _, by decide⟩
  have l1 : callD dfs N 20 "least_weights" [.tuple [.int 1, .int 0, .int 2, .int 1]] = .ok (.c (.tuple [.int 2, .int 1])) [] := c_least (n := 10) hN w2
  have l2 : callD dfs N 20 "tilts" [.tuple [.int 1, .int 0, .int 1, .int 1], .tuple [.int 3, .int 2]] = .ok (.c (.tuple [.str "left"])) [] := c_tilts (n := 9) hN w1 (ws := [3, 2]) ⟨rfl, fun w hw => by
    rcases List.mem_cons.mp hw with rfl | hw
    · omega
    · rcases List.mem_cons.mp hw with rfl | hw
      · omega
      · cases hw⟩
  have l3 : callD dfs N 20 "least_weights" [.int 0] = .ok (.c (.tuple [.int 1])) [] := c_least (n := 10) hN w0
  have q1 : cmpD .NotEq (.tuple [.int 2, .int 1]) (.tuple [.int 2, .int 1]) = some false := by decide +kernel
  have q2 : cmpD .NotEq (.tuple [.str "left"]) (.tuple [.str "left"]) = some false := by decide +kernel
  have q3 : cmpD .NotEq (.tuple [.int 1]) (.tuple [.int 1]) = some false := by decide +kernel
  rw [e0, b_law_eq]
  refine ⟨E 25 f, ?_⟩
  have p0 : exec (GL N) N law_p0 (E 25 (sU (fun _ => .no) 1 (.h false (handD mm ns)))) = .nx (E 25 (sU (fun _ => .no) 1 (.h false (handD mm ns)))) := by simp [execs, exec, ev.eq_1, ev.eq_2, ev.eq_3, ev.eq_4, ev.eq_5, ev.eq_6, ev.eq_7, ev.eq_8, ev.eq_9, ev.eq_10, ev.eq_11, ev.eq_12, ev.eq_13, ev.eq_14, ev.eq_15, ev.eq_16, ev.eq_17, ev.eq_18, ev.eq_19, ev_lc, evAnd, evOr, evCh, evR, evC, evA, evP, evIf, evT, evO, PL.bind, sb, biR, negR, binR, idxR, sliR, metR, cmpR, truthR, callR, iosOf, derefs, putBack, PL.cold, peeks, peek, gets, ofO, retOf, slotOf, setAll, isHot, subAt, recvOk, isMut, isUpd, recvD, dctR, biD, one, ovS, seq?, isInst, PyData.isInt, PyData.isBool, PyData.isTuple, truthD, PyData.truthy, entry, asgT, asgTs, wipeE, backE, it_lst, it_tpl, it_r1, it_r2, it_r3, it_enum, it_zip, rg1, rg2, ints?, intR, setD, retIs_rt, nxIs_nx, retH_rt, nxH_nx, PyData.isList, PyData.isDict, PyData.isStr, List.range, List.range.loop, sz0, sz1, sz2, sz3, sz4, sz5, sz6, sz7, sz8, sz9, sz10, sz11, sz12, E_get, E_set, sU_eq, sU_ne, sU_sU, sU_comm, notHot_E, cl_no, cl_c, law_p0, df_least_weights, io_least_weights, l1, q1]
  have p1 : exec (GL N) N law_p1 (E 25 (sU (fun _ => .no) 1 (.h false (handD mm ns)))) = .nx (E 25 (sU (fun _ => .no) 1 (.h false (handD mm ns)))) := by simp [execs, exec, ev.eq_1, ev.eq_2, ev.eq_3, ev.eq_4, ev.eq_5, ev.eq_6, ev.eq_7, ev.eq_8, ev.eq_9, ev.eq_10, ev.eq_11, ev.eq_12, ev.eq_13, ev.eq_14, ev.eq_15, ev.eq_16, ev.eq_17, ev.eq_18, ev.eq_19, ev_lc, evAnd, evOr, evCh, evR, evC, evA, evP, evIf, evT, evO, PL.bind, sb, biR, negR, binR, idxR, sliR, metR, cmpR, truthR, callR, iosOf, derefs, putBack, PL.cold, peeks, peek, gets, ofO, retOf, slotOf, setAll, isHot, subAt, recvOk, isMut, isUpd, recvD, dctR, biD, one, ovS, seq?, isInst, PyData.isInt, PyData.isBool, PyData.isTuple, truthD, PyData.truthy, entry, asgT, asgTs, wipeE, backE, it_lst, it_tpl, it_r1, it_r2, it_r3, it_enum, it_zip, rg1, rg2, ints?, intR, setD, retIs_rt, nxIs_nx, retH_rt, nxH_nx, PyData.isList, PyData.isDict, PyData.isStr, List.range, List.range.loop, sz0, sz1, sz2, sz3, sz4, sz5, sz6, sz7, sz8, sz9, sz10, sz11, sz12, E_get, E_set, sU_eq, sU_ne, sU_sU, sU_comm, notHot_E, cl_no, cl_c, law_p1, df_tilts, io_tilts, l2, q2]
  have p2 : exec (GL N) N law_p2 (E 25 (sU (fun _ => .no) 1 (.h false (handD mm ns)))) = .nx (E 25 (sU (fun _ => .no) 1 (.h false (handD mm ns)))) := by simp [execs, exec, ev.eq_1, ev.eq_2, ev.eq_3, ev.eq_4, ev.eq_5, ev.eq_6, ev.eq_7, ev.eq_8, ev.eq_9, ev.eq_10, ev.eq_11, ev.eq_12, ev.eq_13, ev.eq_14, ev.eq_15, ev.eq_16, ev.eq_17, ev.eq_18, ev.eq_19, ev_lc, evAnd, evOr, evCh, evR, evC, evA, evP, evIf, evT, evO, PL.bind, sb, biR, negR, binR, idxR, sliR, metR, cmpR, truthR, callR, iosOf, derefs, putBack, PL.cold, peeks, peek, gets, ofO, retOf, slotOf, setAll, isHot, subAt, recvOk, isMut, isUpd, recvD, dctR, biD, one, ovS, seq?, isInst, PyData.isInt, PyData.isBool, PyData.isTuple, truthD, PyData.truthy, entry, asgT, asgTs, wipeE, backE, it_lst, it_tpl, it_r1, it_r2, it_r3, it_enum, it_zip, rg1, rg2, ints?, intR, setD, retIs_rt, nxIs_nx, retH_rt, nxH_nx, PyData.isList, PyData.isDict, PyData.isStr, List.range, List.range.loop, sz0, sz1, sz2, sz3, sz4, sz5, sz6, sz7, sz8, sz9, sz10, sz11, sz12, E_get, E_set, sU_eq, sU_ne, sU_sU, sU_comm, notHot_E, cl_no, cl_c, law_p2, df_least_weights, io_least_weights, l3, q3]
  rw [execs_eq p0, execs_eq p1, execs_eq p2]
  refine (execs_eq ((exec_frE (ds := [.int 5]) (ρ1 := E 25 (sU (fun _ => .no) 1 (.h false (handD mm ns)))) (by simp [execs, exec, ev.eq_1, ev.eq_2, ev.eq_3, ev.eq_4, ev.eq_5, ev.eq_6, ev.eq_7, ev.eq_8, ev.eq_9, ev.eq_10, ev.eq_11, ev.eq_12, ev.eq_13, ev.eq_14, ev.eq_15, ev.eq_16, ev.eq_17, ev.eq_18, ev.eq_19, ev_lc, evAnd, evOr, evCh, evR, evC, evA, evP, evIf, evT, evO, PL.bind, sb, biR, negR, binR, idxR, sliR, metR, cmpR, truthR, callR, iosOf, derefs, putBack, PL.cold, peeks, peek, gets, ofO, retOf, slotOf, setAll, isHot, subAt, recvOk, isMut, isUpd, recvD, dctR, biD, one, ovS, seq?, isInst, PyData.isInt, PyData.isBool, PyData.isTuple, truthD, PyData.truthy, entry, asgT, asgTs, wipeE, backE, it_lst, it_tpl, it_r1, it_r2, it_r3, it_enum, it_zip, rg1, rg2, ints?, intR, setD, retIs_rt, nxIs_nx, retH_rt, nxH_nx, PyData.isList, PyData.isDict, PyData.isStr, List.range, List.range.loop, sz0, sz1, sz2, sz3, sz4, sz5, sz6, sz7, sz8, sz9, sz10, sz11, sz12, E_get, E_set, sU_eq, sU_ne, sU_sU, sU_comm, notHot_E, cl_no, cl_c]) (it_r1n (k := 5) (by omega))).trans e)).trans ?_
  simp [execs, exec, ev.eq_1, ev.eq_2, ev.eq_3, ev.eq_4, ev.eq_5, ev.eq_6, ev.eq_7, ev.eq_8, ev.eq_9, ev.eq_10, ev.eq_11, ev.eq_12, ev.eq_13, ev.eq_14, ev.eq_15, ev.eq_16, ev.eq_17, ev.eq_18, ev.eq_19, ev_lc, evAnd, evOr, evCh, evR, evC, evA, evP, evIf, evT, evO, PL.bind, sb, biR, negR, binR, idxR, sliR, metR, cmpR, truthR, callR, iosOf, derefs, putBack, PL.cold, peeks, peek, gets, ofO, retOf, slotOf, setAll, isHot, subAt, recvOk, isMut, isUpd, recvD, dctR, biD, one, ovS, seq?, isInst, PyData.isInt, PyData.isBool, PyData.isTuple, truthD, PyData.truthy, entry, asgT, asgTs, wipeE, backE, it_lst, it_tpl, it_r1, it_r2, it_r3, it_enum, it_zip, rg1, rg2, ints?, intR, setD, retIs_rt, nxIs_nx, retH_rt, nxH_nx, PyData.isList, PyData.isDict, PyData.isStr, List.range, List.range.loop, sz0, sz1, sz2, sz3, sz4, sz5, sz6, sz7, sz8, sz9, sz10, sz11, sz12, E_get, E_set, sU_eq, sU_ne, sU_sU, sU_comm, notHot_E, cl_no, cl_c, law_p4]
theorem hr95 : ∀ cells : List PyData, cells.length ≤ 63 → execs ⟨fun _ => none, fun _ _ => .stuck⟩ 0 b_law_hand [.no, .c (.list cells), .no] = .rt (.h false (.list [.list cells, .int 0, .int 0, .int ((fun k => 83 + 5 * (k : Int)) cells.length), .int 0])) [.no, .c (.list cells), .no] := fun cells h => by
  have z : szOk cells.length = true := zw _ (by omega)
  have m5 : ∀ j, mulOk 5 j = true := fun j => mul_l (by decide)
  simp [execs, exec, ev.eq_1, ev.eq_2, ev.eq_3, ev.eq_4, ev.eq_5, ev.eq_6, ev.eq_7, ev.eq_8, ev.eq_9, ev.eq_10, ev.eq_11, ev.eq_12, ev.eq_13, ev.eq_14, ev.eq_15, ev.eq_16, ev.eq_17, ev.eq_18, ev.eq_19, ev_lc, evAnd, evOr, evCh, evR, evC, evA, evP, evIf, evT, evO, PL.bind, sb, biR, negR, binR, idxR, sliR, metR, cmpR, truthR, callR, iosOf, derefs, putBack, PL.cold, peeks, peek, gets, ofO, retOf, slotOf, setAll, isHot, subAt, recvOk, isMut, isUpd, recvD, dctR, biD, one, ovS, seq?, isInst, PyData.isInt, PyData.isBool, PyData.isTuple, truthD, PyData.truthy, entry, asgT, asgTs, wipeE, notHot, backE, it_lst, it_tpl, it_r1, it_r2, it_r3, it_enum, it_zip, rg1, rg2, ints?, intR, setD, retIs_rt, nxIs_nx, retH_rt, nxH_nx, PyData.isList, PyData.isDict, PyData.isStr, List.range, List.range.loop, sz0, sz1, sz2, sz3, sz4, sz5, sz6, sz7, sz8, sz9, sz10, sz11, sz12, b_law_hand, lenD, z, binD, m5]
end
end PL.L

set_option Elab.async false
set_option linter.all false
set_option maxRecDepth 100000
set_option maxHeartbeats 0
/-! the top's run -/
namespace PL.L
open PySem PySem.Spec PyProof.Rows L2
def topH (i : Nat) : Stmt := PySem.Challenge.pw_fewforces_k95_whole_mobiles.main.body.getD i (.Pass ⟨0, 0, 0, 0⟩)
def dd_is_integer : He.DefD := ⟨("is_integer", none), "is_integer", "is_integer", defArgs (topH 1), defBody (topH 1), defScope (topH 1), [], []⟩
def dd_is_within : He.DefD := ⟨("is_within", none), "is_within", "is_within", defArgs (topH 2), defBody (topH 2), defScope (topH 2), [], []⟩
def dd_is_tuple : He.DefD := ⟨("is_tuple", none), "is_tuple", "is_tuple", defArgs (topH 3), defBody (topH 3), defScope (topH 3), [], []⟩
def dd_divisor : He.DefD := ⟨("divisor", none), "divisor", "divisor", defArgs (topH 9), defBody (topH 9), defScope (topH 9), [], []⟩
def dd_reduced : He.DefD := ⟨("reduced", none), "reduced", "reduced", defArgs (topH 10), defBody (topH 10), defScope (topH 10), [], []⟩
def dd_times : He.DefD := ⟨("times", none), "times", "times", defArgs (topH 11), defBody (topH 11), defScope (topH 11), [], []⟩
def dd_as_integers : He.DefD := ⟨("as_integers", none), "as_integers", "as_integers", defArgs (topH 12), defBody (topH 12), defScope (topH 12), [], []⟩
def dd_names_of : He.DefD := ⟨("names_of", none), "names_of", "names_of", defArgs (topH 17), defBody (topH 17), defScope (topH 17), [], []⟩
def dd_check_mobile : He.DefD := ⟨("check_mobile", none), "check_mobile", "check_mobile", defArgs (topH 18), defBody (topH 18), defScope (topH 18), [], []⟩
def dd_parts_of : He.DefD := ⟨("parts_of", none), "parts_of", "parts_of", defArgs (topH 19), defBody (topH 19), defScope (topH 19), [], []⟩
def dd_least_weights : He.DefD := ⟨("least_weights", none), "least_weights", "least_weights", defArgs (topH 20), defBody (topH 20), defScope (topH 20), [], []⟩
def dd_check_weights : He.DefD := ⟨("check_weights", none), "check_weights", "check_weights", defArgs (topH 21), defBody (topH 21), defScope (topH 21), [], []⟩
def dd_weight_of : He.DefD := ⟨("weight_of", none), "weight_of", "weight_of", defArgs (topH 22), defBody (topH 22), defScope (topH 22), [], []⟩
def dd_tilts_of : He.DefD := ⟨("tilts_of", none), "tilts_of", "tilts_of", defArgs (topH 23), defBody (topH 23), defScope (topH 23), [], []⟩
def dd_tilts : He.DefD := ⟨("tilts", none), "tilts", "tilts", defArgs (topH 24), defBody (topH 24), defScope (topH 24), [], []⟩
def dd_is_level : He.DefD := ⟨("is_level", none), "is_level", "is_level", defArgs (topH 25), defBody (topH 25), defScope (topH 25), [], []⟩
def dd_whole_weight : He.DefD := ⟨("whole_weight", none), "whole_weight", "whole_weight", defArgs (topH 26), defBody (topH 26), defScope (topH 26), [], []⟩
def dd_reach_by : He.DefD := ⟨("reach_by", none), "reach_by", "reach_by", defArgs (topH 27), defBody (topH 27), defScope (topH 27), [], []⟩
def dd_reach_of : He.DefD := ⟨("reach_of", none), "reach_of", "reach_of", defArgs (topH 28), defBody (topH 28), defScope (topH 28), [], []⟩
def dd_law_draw : He.DefD := ⟨("_law_draw", none), "_law_draw", "_law_draw", defArgs (topH 31), defBody (topH 31), defScope (topH 31), [], []⟩
def dd_law_low : He.DefD := ⟨("_law_low", none), "_law_low", "_law_low", defArgs (topH 32), defBody (topH 32), defScope (topH 32), [], []⟩
def dd_law_plus : He.DefD := ⟨("_law_plus", none), "_law_plus", "_law_plus", defArgs (topH 33), defBody (topH 33), defScope (topH 33), [], []⟩
def dd_law_times : He.DefD := ⟨("_law_times", none), "_law_times", "_law_times", defArgs (topH 34), defBody (topH 34), defScope (topH 34), [], []⟩
def dd_law_mobile : He.DefD := ⟨("_law_mobile", none), "_law_mobile", "_law_mobile", defArgs (topH 35), defBody (topH 35), defScope (topH 35), [], []⟩
def dd_law_whole : He.DefD := ⟨("_law_whole", none), "_law_whole", "_law_whole", defArgs (topH 36), defBody (topH 36), defScope (topH 36), [], []⟩
def dd_law : He.DefD := ⟨("law", none), "law", "law", defArgs (topH 37), defBody (topH 37), defScope (topH 37), [], []⟩
def dd_law_hand : He.DefD := ⟨("_law_hand", none), "_law_hand", "_law_hand", defArgs (topH 30), defBody (topH 30), defScope (topH 30), [], []⟩
def fnH : List He.DefD := [dd_is_integer, dd_is_within, dd_is_tuple, dd_divisor, dd_reduced, dd_times, dd_as_integers, dd_names_of, dd_check_mobile, dd_parts_of, dd_least_weights, dd_check_weights, dd_weight_of, dd_tilts_of, dd_tilts, dd_is_level, dd_whole_weight, dd_reach_by, dd_reach_of, dd_law_draw, dd_law_low, dd_law_plus, dd_law_times, dd_law_mobile, dd_law_whole, dd_law, dd_law_hand]
def faH : List He.Fa := [.glo "is_integer", .glo "is_within", .glo "is_tuple", .glo "divisor", .glo "reduced", .glo "times", .glo "as_integers", .glo "names_of", .glo "check_mobile", .glo "parts_of", .glo "least_weights", .glo "check_weights", .glo "weight_of", .glo "tilts_of", .glo "tilts", .glo "is_level", .glo "whole_weight", .glo "reach_by", .glo "reach_of", .glo "_law_draw", .glo "_law_low", .glo "_law_plus", .glo "_law_times", .glo "_law_mobile", .glo "_law_whole", .glo "law", .glo "_law_hand", .free "abs", .free "all", .free "any", .free "bool", .free "int", .free "isinstance", .free "len", .free "list", .free "max", .free "range", .free "sorted", .free "sum", .free "tuple", .int "HEAVIEST" (10000), .int "MOST_ARM" (20), .int "MOST_NAMES" (6)]
def loose : List PySem.Str := (["is_integer", "is_within", "is_tuple", "ForceError", "NoWeights", "NoMobile", "divisor", "reduced", "times", "as_integers", "MOST_ARM", "MOST_NAMES", "HEAVIEST", "names_of", "check_mobile", "parts_of", "least_weights", "check_weights", "weight_of", "tilts_of", "tilts", "is_level", "whole_weight", "reach_by", "reach_of", "_law_hand", "_law_draw", "_law_low", "_law_plus", "_law_times"] : List PySem.Str) ++ (["_law_mobile", "_law_whole"] : List PySem.Str)
abbrev RH : PySem.W.OpenRow := PySem.W.OpenLaw.row PySem.Challenge.rw_fewforces_k95_whole_mobiles
abbrev hkH : PySem.W.Hook := He.hookD 4 faH fnH
def obH (s : PySem.W.SharedT) : He.AlD := He.obsDG 4 faH fnH (HandSHeadRun.getT s)
theorem ob_eqH (s : PySem.W.SharedT) : obH s = hkH.obs s.abs := He.obsDG_eq (HandSHeadRun.getT_eq s)
theorem runH (w : World) : HandSHeadRun.RunEq RH (PySem.W.view RH.prog [37]) hkH obH 20000 loose w := by
  intro os
  kernel_rfl
end PL.L

set_option autoImplicit false
set_option linter.all false
set_option Elab.async false
set_option maxRecDepth 100000
set_option maxHeartbeats 0
/-! the defs' facts; the end -/
namespace PL.L
open PySem PySem.Spec PyProof.Rows L2 PL
def defsL : Str → Option Def := fun f => table.lookup f
theorem codeL {K : PySem.W.Frag} {h : Heap} {mg : Str → Option Value} (X : K.In h) (G : h.Ns mainGlobals mg) (c : He.SaysD faH fnH K) : Code K mg bis gls defsL := by
  refine ⟨fun x hx => ?_, fun x d hx => ?_, fun f D hD => ?_⟩
  · simp only [bis, List.mem_cons, List.mem_nil_iff, or_false] at hx
    rcases hx with rfl | rfl | rfl | rfl | rfl | rfl | rfl | rfl | rfl | rfl | rfl | rfl | rfl
    · exact He.free_ok X G (c.fact 27 (f := .free "abs") rfl)
    · exact He.free_ok X G (c.fact 28 (f := .free "all") rfl)
    · exact He.free_ok X G (c.fact 29 (f := .free "any") rfl)
    · exact He.free_ok X G (c.fact 30 (f := .free "bool") rfl)
    · exact He.free_ok X G (c.fact 31 (f := .free "int") rfl)
    · exact He.free_ok X G (c.fact 32 (f := .free "isinstance") rfl)
    · exact He.free_ok X G (c.fact 33 (f := .free "len") rfl)
    · exact He.free_ok X G (c.fact 34 (f := .free "list") rfl)
    · exact He.free_ok X G (c.fact 35 (f := .free "max") rfl)
    · exact He.free_ok X G (c.fact 36 (f := .free "range") rfl)
    · exact He.free_ok X G (c.fact 37 (f := .free "sorted") rfl)
    · exact He.free_ok X G (c.fact 38 (f := .free "sum") rfl)
    · exact He.free_ok X G (c.fact 39 (f := .free "tuple") rfl)
  · simp only [gls, List.mem_cons, List.mem_nil_iff, or_false, Prod.mk.injEq] at hx
    rcases hx with ⟨rfl, rfl⟩ | ⟨rfl, rfl⟩ | ⟨rfl, rfl⟩
    · obtain ⟨t, e⟩ := He.int_ok X G (c.fact 40 (f := .int "HEAVIEST" (10000)) rfl)
      exact ⟨_, .int (10000), e, ⟨t, rfl⟩, fun _ _ => .int (10000)⟩
    · obtain ⟨t, e⟩ := He.int_ok X G (c.fact 41 (f := .int "MOST_ARM" (20)) rfl)
      exact ⟨_, .int (20), e, ⟨t, rfl⟩, fun _ _ => .int (20)⟩
    · obtain ⟨t, e⟩ := He.int_ok X G (c.fact 42 (f := .int "MOST_NAMES" (6)) rfl)
      exact ⟨_, .int (6), e, ⟨t, rfl⟩, fun _ _ => .int (6)⟩
  · have hm := PySem.mem_of_lookup (show table.lookup f = some D from hD)
    simp only [table, List.mem_cons, List.mem_nil_iff, or_false, Prod.mk.injEq] at hm
    rcases hm with ⟨rfl, rfl⟩ | ⟨rfl, rfl⟩ | ⟨rfl, rfl⟩ | ⟨rfl, rfl⟩ | ⟨rfl, rfl⟩ | ⟨rfl, rfl⟩ | ⟨rfl, rfl⟩ | ⟨rfl, rfl⟩ | ⟨rfl, rfl⟩ | ⟨rfl, rfl⟩ | ⟨rfl, rfl⟩ | ⟨rfl, rfl⟩ | ⟨rfl, rfl⟩ | ⟨rfl, rfl⟩ | ⟨rfl, rfl⟩ | ⟨rfl, rfl⟩ | ⟨rfl, rfl⟩ | ⟨rfl, rfl⟩ | ⟨rfl, rfl⟩ | ⟨rfl, rfl⟩ | ⟨rfl, rfl⟩ | ⟨rfl, rfl⟩ | ⟨rfl, rfl⟩ | ⟨rfl, rfl⟩ | ⟨rfl, rfl⟩
    · obtain ⟨fd, F⟩ := c.def_ 0 (d := dd_is_integer) rfl
      exact ⟨n_is_integer, ["thing"], _, _, _, _, fd, F, sc_is_integer, ok_is_integer, rfl, rfl, by decide, He.glo_ok X G (c.fact 0 (f := .glo "is_integer") rfl), F.bindsN fun _ _ _ _ _ _ us hl => match us, hl with | [_], _ => rfl⟩
    · obtain ⟨fd, F⟩ := c.def_ 1 (d := dd_is_within) rfl
      exact ⟨n_is_within, ["thing", "low", "high"], _, _, _, _, fd, F, sc_is_within, ok_is_within, rfl, rfl, by decide, He.glo_ok X G (c.fact 1 (f := .glo "is_within") rfl), F.bindsN fun _ _ _ _ _ _ us hl => match us, hl with | [_, _, _], _ => rfl⟩
    · obtain ⟨fd, F⟩ := c.def_ 2 (d := dd_is_tuple) rfl
      exact ⟨n_is_tuple, ["thing", "least", "most"], _, _, _, _, fd, F, sc_is_tuple, ok_is_tuple, rfl, rfl, by decide, He.glo_ok X G (c.fact 2 (f := .glo "is_tuple") rfl), F.bindsN fun _ _ _ _ _ _ us hl => match us, hl with | [_, _, _], _ => rfl⟩
    · obtain ⟨fd, F⟩ := c.def_ 3 (d := dd_divisor) rfl
      exact ⟨n_divisor, ["one", "other"], _, _, _, _, fd, F, sc_divisor, ok_divisor, rfl, rfl, by decide, He.glo_ok X G (c.fact 3 (f := .glo "divisor") rfl), F.bindsN fun _ _ _ _ _ _ us hl => match us, hl with | [_, _], _ => rfl⟩
    · obtain ⟨fd, F⟩ := c.def_ 4 (d := dd_reduced) rfl
      exact ⟨n_reduced, ["top", "bottom"], _, _, _, _, fd, F, sc_reduced, ok_reduced, rfl, rfl, by decide, He.glo_ok X G (c.fact 4 (f := .glo "reduced") rfl), F.bindsN fun _ _ _ _ _ _ us hl => match us, hl with | [_, _], _ => rfl⟩
    · obtain ⟨fd, F⟩ := c.def_ 5 (d := dd_times) rfl
      exact ⟨n_times, ["one", "other"], _, _, _, _, fd, F, sc_times, ok_times, rfl, rfl, by decide, He.glo_ok X G (c.fact 5 (f := .glo "times") rfl), F.bindsN fun _ _ _ _ _ _ us hl => match us, hl with | [_, _], _ => rfl⟩
    · obtain ⟨fd, F⟩ := c.def_ 6 (d := dd_as_integers) rfl
      exact ⟨n_as_integers, ["line"], _, _, _, _, fd, F, sc_as_integers, ok_as_integers, rfl, rfl, by decide, He.glo_ok X G (c.fact 6 (f := .glo "as_integers") rfl), F.bindsN fun _ _ _ _ _ _ us hl => match us, hl with | [_], _ => rfl⟩
    · obtain ⟨fd, F⟩ := c.def_ 7 (d := dd_names_of) rfl
      exact ⟨n_names_of, ["thing"], _, _, _, _, fd, F, sc_names_of, ok_names_of, rfl, rfl, by decide, He.glo_ok X G (c.fact 7 (f := .glo "names_of") rfl), F.bindsN fun _ _ _ _ _ _ us hl => match us, hl with | [_], _ => rfl⟩
    · obtain ⟨fd, F⟩ := c.def_ 8 (d := dd_check_mobile) rfl
      exact ⟨n_check_mobile, ["mobile"], _, _, _, _, fd, F, sc_check_mobile, ok_check_mobile, rfl, rfl, by decide, He.glo_ok X G (c.fact 8 (f := .glo "check_mobile") rfl), F.bindsN fun _ _ _ _ _ _ us hl => match us, hl with | [_], _ => rfl⟩
    · obtain ⟨fd, F⟩ := c.def_ 9 (d := dd_parts_of) rfl
      exact ⟨n_parts_of, ["mobile"], _, _, _, _, fd, F, sc_parts_of, ok_parts_of, rfl, rfl, by decide, He.glo_ok X G (c.fact 9 (f := .glo "parts_of") rfl), F.bindsN fun _ _ _ _ _ _ us hl => match us, hl with | [_], _ => rfl⟩
    · obtain ⟨fd, F⟩ := c.def_ 10 (d := dd_least_weights) rfl
      exact ⟨n_least_weights, ["mobile"], _, _, _, _, fd, F, sc_least_weights, ok_least_weights, rfl, rfl, by decide, He.glo_ok X G (c.fact 10 (f := .glo "least_weights") rfl), F.bindsN fun _ _ _ _ _ _ us hl => match us, hl with | [_], _ => rfl⟩
    · obtain ⟨fd, F⟩ := c.def_ 11 (d := dd_check_weights) rfl
      exact ⟨n_check_weights, ["mobile", "weights"], _, _, _, _, fd, F, sc_check_weights, ok_check_weights, rfl, rfl, by decide, He.glo_ok X G (c.fact 11 (f := .glo "check_weights") rfl), F.bindsN fun _ _ _ _ _ _ us hl => match us, hl with | [_, _], _ => rfl⟩
    · obtain ⟨fd, F⟩ := c.def_ 12 (d := dd_weight_of) rfl
      exact ⟨n_weight_of, ["mobile", "weights"], _, _, _, _, fd, F, sc_weight_of, ok_weight_of, rfl, rfl, by decide, He.glo_ok X G (c.fact 12 (f := .glo "weight_of") rfl), F.bindsN fun _ _ _ _ _ _ us hl => match us, hl with | [_, _], _ => rfl⟩
    · obtain ⟨fd, F⟩ := c.def_ 13 (d := dd_tilts_of) rfl
      exact ⟨n_tilts_of, ["mobile", "weights"], _, _, _, _, fd, F, sc_tilts_of, ok_tilts_of, rfl, rfl, by decide, He.glo_ok X G (c.fact 13 (f := .glo "tilts_of") rfl), F.bindsN fun _ _ _ _ _ _ us hl => match us, hl with | [_, _], _ => rfl⟩
    · obtain ⟨fd, F⟩ := c.def_ 14 (d := dd_tilts) rfl
      exact ⟨n_tilts, ["mobile", "weights"], _, _, _, _, fd, F, sc_tilts, ok_tilts, rfl, rfl, by decide, He.glo_ok X G (c.fact 14 (f := .glo "tilts") rfl), F.bindsN fun _ _ _ _ _ _ us hl => match us, hl with | [_, _], _ => rfl⟩
    · obtain ⟨fd, F⟩ := c.def_ 15 (d := dd_is_level) rfl
      exact ⟨n_is_level, ["mobile", "weights"], _, _, _, _, fd, F, sc_is_level, ok_is_level, rfl, rfl, by decide, He.glo_ok X G (c.fact 15 (f := .glo "is_level") rfl), F.bindsN fun _ _ _ _ _ _ us hl => match us, hl with | [_, _], _ => rfl⟩
    · obtain ⟨fd, F⟩ := c.def_ 16 (d := dd_whole_weight) rfl
      exact ⟨n_whole_weight, ["mobile", "weights"], _, _, _, _, fd, F, sc_whole_weight, ok_whole_weight, rfl, rfl, by decide, He.glo_ok X G (c.fact 16 (f := .glo "whole_weight") rfl), F.bindsN fun _ _ _ _ _ _ us hl => match us, hl with | [_, _], _ => rfl⟩
    · obtain ⟨fd, F⟩ := c.def_ 17 (d := dd_reach_by) rfl
      exact ⟨n_reach_by, ["mobile"], _, _, _, _, fd, F, sc_reach_by, ok_reach_by, rfl, rfl, by decide, He.glo_ok X G (c.fact 17 (f := .glo "reach_by") rfl), F.bindsN fun _ _ _ _ _ _ us hl => match us, hl with | [_], _ => rfl⟩
    · obtain ⟨fd, F⟩ := c.def_ 18 (d := dd_reach_of) rfl
      exact ⟨n_reach_of, ["mobile"], _, _, _, _, fd, F, sc_reach_of, ok_reach_of, rfl, rfl, by decide, He.glo_ok X G (c.fact 18 (f := .glo "reach_of") rfl), F.bindsN fun _ _ _ _ _ _ us hl => match us, hl with | [_], _ => rfl⟩
    · obtain ⟨fd, F⟩ := c.def_ 19 (d := dd_law_draw) rfl
      exact ⟨n_law_draw, ["hand", "many"], _, _, _, _, fd, F, sc_law_draw, ok_law_draw, rfl, rfl, by decide, He.glo_ok X G (c.fact 19 (f := .glo "_law_draw") rfl), F.bindsN fun _ _ _ _ _ _ us hl => match us, hl with | [_, _], _ => rfl⟩
    · obtain ⟨fd, F⟩ := c.def_ 20 (d := dd_law_low) rfl
      exact ⟨n_law_low, ["top", "bottom"], _, _, _, _, fd, F, sc_law_low, ok_law_low, rfl, rfl, by decide, He.glo_ok X G (c.fact 20 (f := .glo "_law_low") rfl), F.bindsN fun _ _ _ _ _ _ us hl => match us, hl with | [_, _], _ => rfl⟩
    · obtain ⟨fd, F⟩ := c.def_ 21 (d := dd_law_plus) rfl
      exact ⟨n_law_plus, ["one", "other"], _, _, _, _, fd, F, sc_law_plus, ok_law_plus, rfl, rfl, by decide, He.glo_ok X G (c.fact 21 (f := .glo "_law_plus") rfl), F.bindsN fun _ _ _ _ _ _ us hl => match us, hl with | [_, _], _ => rfl⟩
    · obtain ⟨fd, F⟩ := c.def_ 22 (d := dd_law_times) rfl
      exact ⟨n_law_times, ["one", "other"], _, _, _, _, fd, F, sc_law_times, ok_law_times, rfl, rfl, by decide, He.glo_ok X G (c.fact 22 (f := .glo "_law_times") rfl), F.bindsN fun _ _ _ _ _ _ us hl => match us, hl with | [_, _], _ => rfl⟩
    · obtain ⟨fd, F⟩ := c.def_ 23 (d := dd_law_mobile) rfl
      exact ⟨n_law_mobile, ["hand"], _, _, _, _, fd, F, sc_law_mobile, ok_law_mobile, rfl, rfl, by decide, He.glo_ok X G (c.fact 23 (f := .glo "_law_mobile") rfl), F.bindsN fun _ _ _ _ _ _ us hl => match us, hl with | [_], _ => rfl⟩
    · obtain ⟨fd, F⟩ := c.def_ 24 (d := dd_law_whole) rfl
      exact ⟨n_law_whole, ["fractions"], _, _, _, _, fd, F, sc_law_whole, ok_law_whole, rfl, rfl, by decide, He.glo_ok X G (c.fact 24 (f := .glo "_law_whole") rfl), F.bindsN fun _ _ _ _ _ _ us hl => match us, hl with | [_], _ => rfl⟩
theorem factsL {m : Nat → Int} {N n : Nat} (hn : 1 ≤ n) (hr : ∀ cells : List PyData, cells.length ≤ 63 → execs ⟨fun _ => none, fun _ _ => .stuck⟩ 0 b_law_hand [.no, .c (.list cells), .no] = .rt (.h false (.list [.list cells, .int 0, .int 0, .int (m cells.length), .int 0])) [.no, .c (.list cells), .no])
    (pure : ∀ ns : List Int, ns.length ≤ 63 → ∃ ρ', execs ⟨defsL, callD defsL N n⟩ N b_law ((List.replicate n_law.length Slot.no).set 1 (.h false (handD m ns))) = .rt (.c (.bool true)) ρ')
    {P : Program} {w : World} {K : PySem.W.Frag} {h : Heap} {mg : Str → Option Value} {f : Addr} (X : K.In h) (G : h.Ns mainGlobals mg) (hfa : mg ("law" : Str) = some (.ref f)) (c : He.SaysD faH fnH K) :
    ∃ fd : FuncData, (∀ (s : Shared) (v : Value), BindsTo s fd ⟨[v], []⟩ [("script", v)]) ∧ ∀ base : Heap, K.In base → base.Ns mainGlobals mg → FnOk P w K mg base CX0 (n + 1) f fd ["script"] (spLaw K) := by
  have C := codeL X G c
  obtain ⟨fdH, FH⟩ := c.def_ 26 (d := dd_law_hand) rfl
  obtain ⟨fd, F⟩ := c.def_ 25 (d := dd_law) rfl
  have e := hfa.symm.trans (He.glo_ok X G (c.fact 25 (f := .glo "law") rfl))
  cases e
  have b := FunD.bindsA (ps := ["script"]) F fun _ _ _ _ _ _ us hl => match us, hl with | [_], _ => rfl
  refine ⟨fd, fun s v => b s [v] rfl, fun base _ _ => ?_⟩
  exact _root_.PL.ok_law C F sc_law PL.L.ok_law (by decide) (ok_hand FH sc_law_hand ok_law_hand (by decide) C.nbi C.ngl hr) (He.glo_ok X G (c.fact 26 (f := .glo "_law_hand") rfl)) FH.kp (FH.bindsN fun _ _ _ _ _ _ us hl => match us, hl with | [_], _ => rfl) hn pure
end PL.L
open PySem PySem.W PySem.Calls PyProof.Rows in
theorem PL.L.holds {m : Nat → Int} {N : Nat} (hr : ∀ cells : List PyData, cells.length ≤ 63 → PL.execs ⟨fun _ => none, fun _ _ => .stuck⟩ 0 PL.L.b_law_hand [.no, .c (.list cells), .no] = .rt (.h false (.list [.list cells, .int 0, .int 0, .int (m cells.length), .int 0])) [.no, .c (.list cells), .no])
    (pure : ∀ ns : List Int, ns.length ≤ 63 → ∃ ρ', PL.execs ⟨PL.L.defsL, PL.callD PL.L.defsL N 20⟩ N PL.L.b_law ((List.replicate PL.L.n_law.length PL.Slot.no).set 1 (.h false (PL.handD m ns))) = .rt (.c (.bool true)) ρ') : PySem.Challenge.rw_fewforces_k95_whole_mobiles.Holds := by
  w_on; o_law
  refine HandSHeadRun.head_any (r := OpenLaw.row PySem.Challenge.rw_fewforces_k95_whole_mobiles) (q := view (OpenLaw.row PySem.Challenge.rw_fewforces_k95_whole_mobiles).prog [37]) (H := PL.L.hkH) (ob := PL.L.obH) (M := 20000) (loose := PL.L.loose) (d := HandSHeadRun.topDef (OpenLaw.row PySem.Challenge.rw_fewforces_k95_whole_mobiles).prog 37) (kwd := []) PL.L.ob_eqH
    (by kernel_rfl) (fun s => by kernel_rfl) PL.L.runH (by kernel_rfl) (by kernel_rfl) (by kernel_rfl) (by rfl) (by first | assumption | decide +kernel) (by decide +kernel) ⟨rfl, rfl, rfl, rfl, rfl, by decide +kernel⟩ ?hw ?hc
  case hw => w_witness2
  case hc =>
    refine L2.walk_ofE (l := PySem.Challenge.rw_fewforces_k95_whole_mobiles) (n := 63) (k := 21) (x := "script") (CX := L2.CX0) rfl (by decide) (by kernel_rfl) ⟨rfl, by decide, by decide⟩ ?F (fun _ _ _ _ z => z)
    intro w mg fa h Y G hmg0
    obtain ⟨K, KX, c⟩ := Y
    have hmg : mg ("law" : PySem.Str) = some (.ref fa) := by
      have e : (HandSHeadRun.topDef (OpenLaw.row PySem.Challenge.rw_fewforces_k95_whole_mobiles).prog 37).name = ("law" : PySem.Str) := by kernel_rfl
      rw [← e]
      exact hmg0
    obtain ⟨fd, hb, hF⟩ := PL.L.factsL (n := 20) (by decide) hr pure (P := (PySem.Challenge.rw_fewforces_k95_whole_mobiles).prog) (w := w) KX G hmg c
    exact ⟨K, fd, PL.spLaw K, KX, hb, fun H a ns hl _ hS => ⟨a, ns, rfl, hS, hl, fun _ => rfl⟩, hF⟩

set_option autoImplicit false
set_option linter.all false
set_option Elab.async false
theorem PL.L.ends95 : PySem.Challenge.rw_fewforces_k95_whole_mobiles.Holds := PL.L.holds (m := fun k => 83 + 5 * (k : Int)) (N := PL.L.BB + 1) PL.L.hr95 fun ns _ => PL.L.pure95 (Nat.lt_succ_self _) ns

theorem PySem.Challenge.cw_fewforces_k95_whole_mobiles_holds : PySem.Challenge.rw_fewforces_k95_whole_mobiles.Holds := by
  exact PL.L.ends95
