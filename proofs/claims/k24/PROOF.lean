import PyProof.Rows.All
import Wide.All
import OpenK.AllK
import Wide.FinOn
import PySem.Syntax
import PyProof.ReprReads
import KE.SortKeyHeap
import HandS.Exc
import HandS.Style
import KE.KExcSuper
import HandS.ForMost
import HandS.Flow
import HandS.Nested
import HandS.NestedK
import HandS.Lambda
import PyProof.Rows.EqDataRows
import PyProof.ReprRoads
import HandS.Star
import HandS.TupAny
import HandS.IsInst
import HandS.ExcValue
import KE.KExcIs
import HandS.Zip
import HandS.Iter
import HandS.TupSets
import HandS.TupMul
import HandS.SetFor
import HandS.Strs
import HandS.DictComp
import HandS.Conv
import HandS.Dict
import HandS.EndTab
import HandS.HeadWalk
import HandS.HeadHook4
import HandS.Defaults
import PyProof.ReprText
import HandS.Head0
import HandS.Head1
import HandS.Head2
import HandS.HeadEnd
import KE.KStateDown
import PySem.Challenge.RW_siteladders_k24_families_made_and_refuse
section
set_option Elab.async false
/-! DV0: values as trees, a small tree of expressions and statements, its evaluator. Plain functions, no heap. -/
namespace DV

inductive Ty where
  | int | bool | str | list | tuple | dict | set
  deriving DecidableEq, Repr

inductive D where
  | non | bl (b : Bool) | int (i : Int) | str (s : List Nat)
  | tup (l : List D) | lst (l : List D) | dct (ks vs : List D) | set (l : List D)
  | ty (t : Ty) | fn (f : Nat) | cls (c : Nat) | lam (f : Nat) (caps : List D)
  | ins (c : Nat) (fs : List D) | cell (n : Nat) | scr
  deriving Repr, Inhabited

/-- an item of a def's frame: unbound, a value, a list of its own, a dict of its own -/
inductive En where
  | un | fz (d : D) | ow (l : List D) | od (ks vs : List D) | lk (d : D)
  deriving Repr, Inhabited

/-- a thing that may change, by number -/
inductive Co where
  | lst (l : List D) | ins (c : Nat) (fs : List (Nat × D)) | dct (ks vs : List D) | gone
  deriving Repr, Inhabited

abbrev Ev := List En
abbrev Mem := List Co

inductive Op where
  | add | sub | mul | fdiv | mod | pow
  deriving DecidableEq, Repr
inductive Cm where
  | eq | ne | lt | le | gt | ge | is | isnot | isin | notin
  deriving DecidableEq, Repr
inductive Bi where
  | len | abs | all | any | sum | min | max | int | bool | str | repr | tuple | list | set | sorted | dict | isi
  deriving DecidableEq, Repr
inductive Me where
  | get | join | split | count | index | values | opaq (n : Nat)
  deriving DecidableEq, Repr

/-- a target of an assignment -/
inductive Tg where
  | nm (i : Nat) | tu (l : List Tg)
  deriving Repr, Inhabited

inductive E where
  | var (i : Nat) | lit (d : D) | tup (es : List E) | lst (es : List E) | star (e : E)
  | neg (a : E) | not (a : E) | bin (o : Op) (a b : E) | and (a b : E) | or (a b : E)
  | cmp (o : Cm) (a b : E) | chain (o o' : Cm) (a b c : E) | ife (t a b : E)
  | idx (a i : E) | sl (a lo hi : E) | rev (a : E)
  | call (f : Nat) (es : List E) | callv (i : Nat) (es : List E) | mk (c : Nat) (es : List E) | bi (b : Bi) (es : List E)
  | meth (m : Me) (a : E) (es : List E) | attr (a : E) (k : Nat)
  | cp (el : E) (t : Tg) (it c : E) | cp2 (el : E) (t : Tg) (it c : E) (t' : Tg) (it' c' : E)
  | dcp (k v : E) (t : Tg) (it c : E) | scp (el : E) (t : Tg) (it c : E)
  | lam (f : Nat) (caps : List Nat) | sortk (a k : E) (r : Bool) | mink (a k : E)
  | range (es : List E) | zip (a b : E) | enum (a : E) | items (a : E)
  | dict (ks vs : List E) | cell (es : List E) | listI (it : E) | no
  | callp (f : Nat) (es : List E) (ps : List Nat)
  | sset (a : E) | ldk (k v : E) (t : Tg) (it c : E)
  deriving Repr, Inhabited

inductive S where
  | asg (t : Tg) (e : E) | par (is : List Nat) (es : List E) | seti (a i e : E) | seta (a : E) (k : Nat) (e : E)
  | app (x : Nat) (e : E) | ext (x : Nat) (e : E) | ex (e : E)
  | ife (t : E) (a b : List S) | for (t : Tg) (it : E) (b : List S) | whl (t : E) (b : List S)
  | ret (e : E) | pass | brk | cnt | raise (c : Nat) (es : List E) | bad
  | tryas (b : List S) (c : Nat) (x : Option Nat) (h : List S)
  deriving Repr, Inhabited

/-! ### values -/
def LINE : Nat := 16777216
def fit (l : List D) : Bool := decide (l.length ≤ LINE)
def lamless : D → Bool
  | .lam _ _ => false
  | _ => true
def num : D → Option Int
  | .bl b => some (if b then 1 else 0)
  | .int i => some i
  | _ => none

mutual
def D.beq : D → D → Bool
  | .non, .non => true
  | .bl a, .bl b => a == b
  | .int a, .int b => a == b
  | .str a, .str b => a == b
  | .tup a, .tup b => D.beqs a b
  | .lst a, .lst b => D.beqs a b
  | .dct a b, .dct c d => D.beqs a c && D.beqs b d
  | .set a, .set b => D.beqs a b
  | .ty a, .ty b => decide (a = b)
  | .fn a, .fn b => a == b
  | .cls a, .cls b => a == b
  | .lam a b, .lam c d => a == c && D.beqs b d
  | .ins a b, .ins c d => a == c && D.beqs b d
  | .cell a, .cell b => a == b
  | .scr, .scr => true
  | _, _ => false
def D.beqs : List D → List D → Bool
  | [], [] => true
  | a :: l, b :: m => D.beq a b && D.beqs l m
  | _, _ => false
end

-- data that == tells by its parts: no instances, no dicts, no sets
mutual
def D.plain : D → Bool
  | .non | .bl _ | .int _ => true
  | .str s => s.all fun c => decide (c < 128)
  | .tup l | .lst l => D.plains l
  | _ => false
def D.plains : List D → Bool
  | [] => true
  | a :: l => D.plain a && D.plains l
end
-- how deep
mutual
def D.dep : D → Nat
  | .tup l | .lst l => D.deps l + 1
  | _ => 0
def D.deps : List D → Nat
  | [] => 0
  | a :: l => max (D.dep a) (D.deps l)
end
def easy (d : D) : Bool := D.plain d && decide (D.dep d ≤ 40)
-- == on plain data: a bool is the int 0 or 1
mutual
def D.eq : D → D → Bool
  | .non, .non => true
  | .bl a, .bl b => a == b
  | .bl a, .int b => (if a then 1 else 0) == b
  | .int a, .bl b => a == (if b then 1 else 0)
  | .int a, .int b => a == b
  | .str a, .str b => a == b
  | .tup a, .tup b => D.eqs a b
  | .lst a, .lst b => D.eqs a b
  | _, _ => false
def D.eqs : List D → List D → Bool
  | [], [] => true
  | a :: l, b :: m => D.eq a b && D.eqs l m
  | _, _ => false
end
/-- < on ints, texts, tuples of such: none where it is not told here -/
def ltL : List Nat → List Nat → Bool
  | [], [] => false
  | [], _ :: _ => true
  | _ :: _, [] => false
  | a :: l, b :: m => if a == b then ltL l m else a < b
mutual
def D.lt : D → D → Option Bool
  | .int a, .int b => some (decide (a < b))
  | .str a, .str b => some (ltL a b)
  | .tup a, .tup b => D.lts a b
  | _, _ => none
def D.lts : List D → List D → Option Bool
  | [], [] => some false
  | [], _ :: _ => some true
  | _ :: _, [] => some false
  | a :: l, b :: m => if D.eq a b then D.lts l m else D.lt a b
end

def okTxt (i : Int) : Bool := decide (i.natAbs.log2 < 1920)
def intTxt (i : Int) : List Nat := (PySem.Str.ofString (toString i)).cps.toList
-- the library's own data
mutual
def toPy : D → PySem.PyData
  | .bl b => .bool b
  | .int i => .int i
  | .str s => .str ⟨s.toArray⟩
  | .tup l => .tuple (toPys l)
  | .lst l => .list (toPys l)
  | _ => .none
def toPys : List D → List PySem.PyData
  | [] => []
  | a :: l => toPy a :: toPys l
end
def D.show (d : D) : Option (List Nat) :=
  if easy d && (toPy d).showable && decide ((toPy d).shown.cps.toList.length ≤ LINE) then some (toPy d).shown.cps.toList else none

/-! ### sorting, by the kit's own order of data -/
def isNon : D → Bool
  | .non => true
  | _ => false
def sortOk (ks : List D) : Bool := ks.all easy && (ks.all fun a => ks.all fun b => PySem.W.alike (toPy a) (toPy b)) && ks.all fun k => !isNon k
def leK (p q : D × D) : Bool := !PySem.W.dataLt (toPy q.1) (toPy p.1)
def sortK (ks l : List D) : Option (List D) := if sortOk ks && decide (ks.length = l.length) && decide (l.length ≤ LINE) && l.all lamless then some (((ks.zip l).mergeSort leK).map (·.2)) else none
/-- each once -/
def nub {α : Type} [DecidableEq α] : List α → List α
  | [] => []
  | a :: l => if a ∈ nub l then nub l else a :: nub l
/-- each once, as first met -/
def nubF {α : Type} [DecidableEq α] : List α → List α → List α
  | acc, [] => acc
  | acc, a :: l => if a ∈ acc then nubF acc l else nubF (acc ++ [a]) l
def tupD (t : List Int) : D := .tup (t.map .int)
def intsOf : List D → Option (List Int)
  | [] => some []
  | .int b :: l => (intsOf l).map (b :: ·)
  | _ => none
def tupsOf : List D → Option (List (List Int))
  | [] => some []
  | .tup t :: l => (intsOf t).bind fun t => (tupsOf l).map (t :: ·)
  | _ => none
def sortI (l : List Int) : List D := ((nub l).mergeSort fun a b => decide (a ≤ b)).map .int
def sortT (l : List (List Int)) : List D := ((nub l).mergeSort fun a b => decide (a ≤ b)).map tupD
def sortSet (l : List D) : Option (List D) := if decide (l.length < 64) then
    match intsOf l with
    | some is => some (sortI is)
    | none => (tupsOf l).map sortT
  else none
def ssetD : D → Option (List D)
  | .lst l => sortSet l
  | .tup l => if decide (l.length < 64) then (intsOf l).map sortI else none
  | _ => none
def tru : D → Option Bool
  | .non => some false
  | .bl b => some b
  | .int i => some (i != 0)
  | .str s => if decide (s.length ≤ LINE) then some (!s.isEmpty) else none
  | .tup l | .lst l => some (!l.isEmpty)
  | _ => none

def addD : D → D → Option D
  | .int a, .int b => some (.int (a + b))
  | .str a, .str b => if decide (a.length + b.length ≤ LINE) then some (.str (a ++ b)) else none
  | .tup a, .tup b => if decide (a.length + b.length ≤ LINE) then some (.tup (a ++ b)) else none
  | .lst a, .lst b => if decide (a.length + b.length ≤ LINE) then some (.lst (a ++ b)) else none
  | _, _ => none
def BIG : Int := 18446744073709551616
def small64 (i : Int) : Bool := decide (-BIG < i) && decide (i < BIG)
def repeatL (l : List D) : Nat → List D
  | 0 => []
  | n + 1 => l ++ repeatL l n
def mulD : D → D → Option D
  | .int a, .int b => if small64 a || small64 b then some (.int (a * b)) else none
  | .tup a, .int b => if !a.isEmpty && decide (2 ≤ b) && decide (b ≤ 1000) && decide (a.length ≤ 1000) then some (.tup (repeatL a b.toNat)) else none
  | .lst a, .int b => if decide (-9223372036854775808 ≤ b) && decide (b < 9223372036854775808) && decide (a.length * b.toNat ≤ LINE) then some (.lst (repeatL a b.toNat)) else none
  | _, _ => none
def opD : Op → D → D → Option D
  | .add, a, b => addD a b
  | .sub, .int a, .int b => some (.int (a - b))
  | .mul, a, b => mulD a b
  | .fdiv, .int a, .int b => if decide (0 < b) && decide (b < 1073741824) then some (.int (a / b)) else none
  | .mod, .int a, .int b => if decide (0 < b) then some (.int (a % b)) else none
  | .pow, .int a, .int b => if decide (0 ≤ b) && decide (b ≤ 1000000) && small64 a then some (.int (a ^ b.toNat)) else none
  | _, _, _ => none

def isIn (x : D) : List D → Bool
  | [] => false
  | a :: l => D.eq a x || isIn x l
/-- where a written run of signs stands in a text -/
def pre : List Nat → List Nat → Bool
  | [], _ => true
  | _ :: _, [] => false
  | a :: l, b :: m => a == b && pre l m
def inTxt (x : List Nat) : List Nat → Bool
  | [] => pre x []
  | c :: l => pre x (c :: l) || inTxt x l
def flatD : D → Bool
  | .non | .bl _ | .int _ | .str _ => true
  | _ => false
/-- what in looks through -/
def inD (x : D) : D → Option Bool
  | .tup l | .lst l => if flatD x && l.all flatD then some (isIn x l) else if easy x && l.all easy then some (isIn x l) else none
  | _ => none
def isD : D → D → Option Bool
  | .bl a, .bl b => some (a == b)
  | .non, .non => some true
  | _, .non => some false
  | _, _ => none
def cmD : Cm → D → D → Option Bool
  | .eq, a, b => if easy a && easy b then some (D.eq a b) else none
  | .ne, a, b => if easy a && easy b then some (!D.eq a b) else none
  | .lt, .int a, .int b => some (decide (a < b))
  | .le, .int a, .int b => some (decide (a ≤ b))
  | .gt, .int a, .int b => some (decide (b < a))
  | .ge, .int a, .int b => some (decide (b ≤ a))
  | .is, a, b => isD a b
  | .isnot, a, b => (isD a b).map (!·)
  | .isin, a, b => inD a b
  | .notin, a, b => (inD a b).map (!·)
  | _, _, _ => none

def place (i : Int) (n : Nat) : Option Nat :=
  if decide (0 ≤ i) then (if decide (i < n) then some i.toNat else none)
  else if decide (0 ≤ i + n) then some (i + n).toNat else none
def find (k : D) : List D → List D → Option D
  | a :: ks, v :: vs => if D.beq a k then some v else find k ks vs
  | _, _ => none
def idxD : D → D → Option D
  | .tup l, .int i | .lst l, .int i => (place i l.length).bind fun k => l[k]?
  | .str s, .int i => if decide (s.length ≤ LINE) then (place i s.length).bind fun k => (s[k]?).map fun c => .str [c] else none
  | _, _ => none
/-- an end of a slice, cut to 0 .. n -/
def cutE (n : Nat) : D → Nat → Option Nat
  | .non, d => some d
  | .int i, _ => some (if decide (0 ≤ i) then min i.toNat n else (i + n).toNat)
  | _, _ => none
def slD : D → D → D → Option D
  | .tup l, lo, hi => do
    let a ← cutE l.length lo 0
    let b ← cutE l.length hi l.length
    return .tup ((l.take b).drop a)
  | .lst l, lo, hi => do
    let a ← cutE l.length lo 0
    let b ← cutE l.length hi l.length
    return .lst ((l.take b).drop a)
  | _, _, _ => none

/-- a field of an instance: its name's number -/
def attrD (fl : List (List Nat)) : D → Nat → Option D
  | .ins c fs, k => match fl[c]? with
    | some l => if l.contains k then fs[l.idxOf k]? else none
    | none => none
  | _, _ => none
/-- keywords in another order -/
def permD : List Nat → List D → Option (List D)
  | [], _ => some []
  | i :: is, ds => match ds[i]?, permD is ds with
    | some d, some l => some (d :: l)
    | _, _ => none
/-- what a for walks over -/
def iterD : D → Option (List D)
  | .tup l | .lst l => some l
  | .str s => some (s.map fun c => .str [c])
  | _ => none
def seqD : D → Option (List D)
  | .tup l | .lst l => some l
  | _ => none
def boolsD : List D → Option (List Bool)
  | [] => some []
  | .bl b :: l => (boolsD l).map (b :: ·)
  | _ => none
def intsD : List D → Option (List Int)
  | [] => some []
  | .int b :: l => (intsD l).map (b :: ·)
  | _ => none
/-- each once, as first met -/
def dedup : List D → List D → List D
  | acc, [] => acc.reverse
  | acc, a :: l => if isIn a acc then dedup acc l else dedup (a :: acc) l
/-- put in behind all that are not greater: stable -/
def insD (lt : D → D → Option Bool) (x : D × D) : List (D × D) → Option (List (D × D))
  | [] => some [x]
  | y :: l => do
    let b ← lt x.1 y.1
    if b then return x :: y :: l
    let m ← insD lt x l
    return y :: m
def sortP : List (D × D) → List (D × D) → Option (List (D × D))
  | acc, [] => some acc
  | acc, x :: l => do
    let a ← insD D.lt x acc
    sortP a l
def sortD (l : List D) : Option (List D) := (sortP [] (l.map fun x => (x, x))).map fun m => m.map (·.2)
def leastD : D → List D → Option D
  | x, [] => some x
  | x, a :: l => do
    let b ← D.lt a x
    leastD (if b then a else x) l
def greatestD : D → List D → Option D
  | x, [] => some x
  | x, a :: l => do
    let b ← D.lt x a
    greatestD (if b then a else x) l
def pairsD : List D → Option (List D × List D)
  | [] => some ([], [])
  | .tup [k, v] :: l => do
    let (ks, vs) ← pairsD l
    return (k :: ks, v :: vs)
  | _ => none
def putD (k v : D) : List D → List D → List D × List D
  | a :: ks, b :: vs => if D.beq a k then (a :: ks, v :: vs) else let (p, q) := putD k v ks vs; (a :: p, b :: q)
  | _, _ => ([k], [v])
def dictOfD : List D → List D → List D → List D → List D × List D
  | aks, avs, k :: ks, v :: vs => let (p, q) := putD k v aks avs; dictOfD p q ks vs
  | aks, avs, _, _ => (aks, avs)

/-- classes: the class of number c has these classes above it, itself too -/
abbrev Cls := List (List Nat)
def isTy : D → Ty → Option Bool
  | .bl _, .bool | .bl _, .int | .int _, .int | .str _, .str | .tup _, .tuple | .lst _, .list | .dct _ _, .dict => some true
  | .non, _ | .bl _, _ | .int _, _ | .str _, _ | .tup _, _ | .lst _, _ | .dct _ _, _ => some false
  | _, _ => none
def below (K : Cls) (k c : Nat) : Bool := match K[k]? with
  | some l => l.contains c
  | none => false
def isOne (K : Cls) (x : D) : D → Option Bool
  | .ty t => isTy x t
  | .cls c => match x with
    | .ins k _ => some (below K k c)
    | _ => none
  | _ => none
def isTyD (x : D) : D → Option Bool
  | .ty t => isTy x t
  | _ => none
def isAny (K : Cls) (x : D) : List D → Option Bool
  | [] => some false
  | a :: l => match isTyD x a, isAny K x l with
    | some b, some r => some (b || r)
    | _, _ => none

def biD (K : Cls) : Bi → List D → Option D
  | .len, [d] => match d with
    | .tup l | .lst l => some (.int l.length)
    | .str s => if decide (s.length ≤ LINE) then some (.int s.length) else none
    | _ => none
  | .abs, [.int i] => some (.int (if i < 0 then -i else i))
  | .all, [.lst l] => (boolsD l).map fun l => .bl (l.all id)
  | .any, [.lst l] => (boolsD l).map fun l => .bl (l.any id)
  | .sum, [.lst l] => (intsD l).map fun l => .int l.sum
  | .min, [.int a, .int b] => some (.int (if b < a then b else a))
  | .max, [.int a, .int b] => some (.int (if b > a then b else a))
  | .int, [.int i] => some (.int i)
  | .int, [.bl b] => some (.int (if b then 1 else 0))
  | .bool, [.int i] => some (.bl (i != 0))
  | .bool, [.bl b] => some (.bl b)
  | .str, [.int i] => if okTxt i then some (.str (intTxt i)) else none
  | .repr, [d] => (D.show d).map .str
  | .tuple, [d] => (seqD d).map .tup
  | .list, [d] => (seqD d).map .lst
  | .set, [d] => (seqD d).bind fun l => if D.plains l then some (.set (dedup [] l)) else none
  | .sorted, [d] => match d with
    | .set l => (sortD l).map .lst
    | _ => none
  | .isi, [x, t] => match t with
    | .tup (a :: l) => (isAny K x (a :: l)).map .bl
    | t => (isOne K x t).map .bl
  | _, _ => none

/-! ### the evaluator -/
inductive O (α : Type) where
  | ok (a : α) (ρ : Ev) (M : Mem) | exc (x : D) (ρ : Ev) (M : Mem)
  deriving Repr
abbrev R (α : Type) := Option (O α)
def R.bind {α β : Type} (x : R α) (f : α → Ev → Mem → R β) : R β :=
  match x with
  | some (.ok a ρ M) => f a ρ M
  | some (.exc e ρ M) => some (.exc e ρ M)
  | none => none
def okE {α : Type} (ρ : Ev) (M : Mem) (a : α) : R α := some (.ok a ρ M)
def lift {α : Type} (x : Option α) (ρ : Ev) (M : Mem) : R α :=
  match x with
  | some a => some (.ok a ρ M)
  | none => none

/-- a call: a def (a lambda: its captured values first) at values -/
inductive Ca where
  | ok (d : D) (M : Mem) | exc (x : D) (M : Mem)
  deriving Repr
abbrev Phi := Nat → List D → Mem → Option Ca
mutual
def bindT : Tg → D → Ev → Option Ev
  | .nm i, d, ρ => some (ρ.set i (.fz d))
  | .tu l, .tup ds, ρ => bindTs l ds ρ
  | _, _, _ => none
def bindTs : List Tg → List D → Ev → Option Ev
  | [], [], ρ => some ρ
  | t :: ts, d :: ds, ρ => (bindT t d ρ).bind fun ρ' => bindTs ts ds ρ'
  | _, _, _ => none
end

/-- a thing's list as it stands, for reading -/
def deref (M : Mem) : D → Option D
  | .cell n => match M[n]? with
    | some (.lst l) => some (.lst l)
    | some (.dct ks vs) => some (.dct ks vs)
    | _ => none
  | d => some d
def viewD (ρ : Ev) (i : Nat) : Option D :=
  match ρ[i]? with
  | some (.fz d) => some d
  | some (.ow l) => some (.lst l)
  | some (.od ks vs) => some (.dct ks vs)
  | some (.lk d) => some d
  | _ => none
/-- a name is read for good: a list of the frame's own never changes from then on -/
def takeD (ρ : Ev) (i : Nat) : Option (D × Ev) :=
  match ρ[i]? with
  | some (.fz d) => some (d, ρ)
  | some (.ow l) => some (.lst l, ρ.set i (.fz (.lst l)))
  | some (.od ks vs) => some (.dct ks vs, ρ.set i (.fz (.dct ks vs)))
  | _ => none
def capsOf : Ev → List Nat → Option (List D × Ev)
  | ρ, [] => some ([], ρ)
  | ρ, i :: is => (takeD ρ i).bind fun p => if lamless p.1 then (capsOf p.2 is).map fun q => (p.1 :: q.1, q.2) else none
/-- within a comprehension: the frame's own lists are lent alone -/
def lock1 : En → En
  | .ow l => .lk (.lst l)
  | .od ks vs => .lk (.dct ks vs)
  | e => e
mutual
def slots : Tg → List Nat
  | .nm i => [i]
  | .tu l => slotsL l
def slotsL : List Tg → List Nat
  | [] => []
  | t :: l => slots t ++ slotsL l
end
def isOwn : En → Bool
  | .ow _ | .od _ _ | .lk _ => true
  | _ => false
/-- the block of a comprehension, its own names not yet bound: none where one of them is a list of the frame's own -/
def clear : List Nat → Ev → Option Ev
  | [], ρ => some ρ
  | i :: is, ρ => match ρ[i]? with
    | some e => if isOwn e then none else clear is (ρ.set i .un)
    | none => none
def lock (vs : List Nat) (ρ : Ev) : Option Ev := clear vs (ρ.map lock1)
/-- the names of the inner for of a comprehension -/
def reset : List Nat → Ev → Ev
  | [], ρ => ρ
  | i :: is, ρ => reset is (ρ.set i .un)

structure Cfg where
  cls : Cls := []
  fl : List (List Nat) := []
  loops : Nat := 1000000
  ns : List Int := []

/-- the turns of a comprehension: what each one gives, none where the if says no -/
def compL (turn : D → Mem → R (Option (List D))) : List D → List D → Mem → Option (List D × Mem)
  | acc, [], M => some (acc, M)
  | acc, x :: xs, M => match turn x M with
    | some (.ok (some d) _ M') => compL turn (acc ++ d) xs M'
    | some (.ok none _ M') => compL turn acc xs M'
    | _ => none

def rangeD : List D → Option (List D)
  | [.int n] => if decide (-4611686018427387904 ≤ n) && decide (n < 4611686018427387904) then some ((List.range n.toNat).map fun (k : Nat) => .int k) else none
  | [.int a, .int b] => if decide (-4611686018427387904 ≤ a) && decide (a < 4611686018427387904) && decide (-4611686018427387904 ≤ b) && decide (b < 4611686018427387904) then some ((List.range (b - a).toNat).map fun (k : Nat) => .int (a + k)) else none
  | [.int a, .int b, .int (-1)] => if decide (-4611686018427387904 ≤ a) && decide (a < 4611686018427387904) && decide (-4611686018427387904 ≤ b) && decide (b < 4611686018427387904) then some ((List.range (a - b).toNat).map fun (k : Nat) => .int (a - k)) else none
  | _ => none
def zipD : List D → List D → List D
  | a :: l, b :: m => .tup [a, b] :: zipD l m
  | _, _ => []
def enumD : Nat → List D → List D
  | _, [] => []
  | n, a :: l => .tup [.int n, a] :: enumD (n + 1) l
def zipV : D → D → Option (List D)
  | .lst l, .lst k => some (zipD l k)
  | .tup l, .tup k => some (zipD l k)
  | _, _ => none
def enumV : D → Option (List D)
  | .lst l => some (enumD 0 l)
  | _ => none
def callD (φ : Phi) : D → List D → Mem → Option Ca
  | .fn f, ds, M => φ f ds M
  | .lam f caps, ds, M => φ f (ds ++ caps) M
  | _, _, _ => none
def keysOf (φ : Phi) (k : D) : List D → Mem → Option (List D × Mem)
  | [], M => some ([], M)
  | a :: l, M => match callD φ k [a] M with
    | some (.ok d M') => (keysOf φ k l M').map fun p => (d :: p.1, p.2)
    | _ => none
def leastP : D × D → List (D × D) → Option (D × D)
  | x, [] => some x
  | x, a :: l => do
    let b ← D.lt a.1 x.1
    leastP (if b then a else x) l

/-- how a value is wanted: for good, lent, its truth, its items -/
inductive Md where
  | v | b | t | i | k | n
  deriving DecidableEq, Repr
def fin (m : Md) (d : D) (ρ : Ev) (M : Mem) : R D :=
  match m with
  | .v => okE ρ M d
  | .b => okE ρ M d
  | .n => okE ρ M d
  | .t => lift ((tru d).map .bl) ρ M
  | .i => lift ((iterD d).map .lst) ρ M
  | .k => lift ((iterD d).map .lst) ρ M
/-- the script as a list -/
def see (ns : List Int) : D → D
  | .scr => .lst (ns.map .int)
  | d => d
def onInt (d : D) (ρ : Ev) (M : Mem) : R D :=
  match d with
  | .int i => okE ρ M (.int i)
  | _ => none
def mkL (l : List D) : Option D := if fit l && l.all lamless then some (.lst l) else none
def mkT (l : List D) : Option D := if fit l && l.all lamless then some (.tup l) else none
def ansO (x : Option Ca) (ρ : Ev) (f : D → Ev → Mem → R D) : R D :=
  match x with
  | some (.ok d M) => f d ρ M
  | some (.exc e M) => some (.exc e ρ M)
  | none => none

/-- a turn of a comprehension, by its test and what it gives -/
def turnF (fc : Ev → Mem → R D) (fe : Ev → Mem → R (List D)) (t : Tg) (ρ : Ev) (x : D) (M : Mem) : R (Option (List D)) :=
  match bindT t x ρ with
  | some ρ' => (fc ρ' M).bind fun b _ M => match b with
    | .bl true => (fe ρ' M).bind fun d _ M => okE ρ' M (some d)
    | .bl false => okE ρ' M none
    | _ => none
  | none => none

section
variable (g : Cfg) (φ : Phi)
mutual
def ev : Md → E → Ev → Mem → R D
  | m, .var i, ρ, M => match m with
    | .v => match takeD ρ i with
      | some (d, ρ') => okE ρ' M d
      | none => none
    | .k => match takeD ρ i with
      | some (d, ρ') => fin .k d ρ' M
      | none => none
    | m => match viewD ρ i with
      | some d => if lamless d then fin m d ρ M else none
      | none => none
  | m, .lit d, ρ, M => fin m d ρ M
  | m, .tup es, ρ, M => (evs .v es ρ M).bind fun ds ρ M => match mkT ds with
    | some d => fin m d ρ M
    | none => none
  | m, .lst es, ρ, M => (evs .v es ρ M).bind fun ds ρ M => match mkL ds with
    | some d => fin m d ρ M
    | none => none
  | m, .cell es, ρ, M => (evs .v es ρ M).bind fun ds ρ M => match mkL ds with
    | some _ => fin m (.cell M.length) ρ (M ++ [.lst ds])
    | none => none
  | m, .neg a, ρ, M => (ev .v a ρ M).bind fun d ρ M => match d with
    | .int i => fin m (.int (-i)) ρ M
    | _ => none
  | m, .not a, ρ, M => match m with
    | .t => (ev .t a ρ M).bind fun d ρ M => match d with
      | .bl b => okE ρ M (.bl (!b))
      | _ => none
    | m => (ev .b a ρ M).bind fun d ρ M => match tru d with
      | some b => fin m (.bl (!b)) ρ M
      | none => none
  | m, .bin o a b, ρ, M => (ev .b a ρ M).bind fun x ρ M => (ev .b b ρ M).bind fun y ρ M => match opD o x y with
    | some d => fin m d ρ M
    | none => none
  | m, .and a b, ρ, M => match m with
    | .t => (ev .t a ρ M).bind fun x ρ M => match x with
      | .bl true => ev .t b ρ M
      | .bl false => okE ρ M (.bl false)
      | _ => none
    | .i => none
    | .k => none
    | m => (ev m a ρ M).bind fun x ρ M => match tru x with
      | some true => ev m b ρ M
      | some false => okE ρ M x
      | none => none
  | m, .or a b, ρ, M => match m with
    | .t => (ev .t a ρ M).bind fun x ρ M => match x with
      | .bl false => ev .t b ρ M
      | .bl true => okE ρ M (.bl true)
      | _ => none
    | .i => none
    | .k => none
    | m => (ev m a ρ M).bind fun x ρ M => match tru x with
      | some false => ev m b ρ M
      | some true => okE ρ M x
      | none => none
  | m, .cmp o a b, ρ, M => (ev .b a ρ M).bind fun x ρ M => (ev .b b ρ M).bind fun y ρ M => match cmD o x y with
    | some c => fin m (.bl c) ρ M
    | none => none
  | m, .chain o o' a b c, ρ, M => (ev .b a ρ M).bind fun x ρ M => (ev .b b ρ M).bind fun y ρ M => match cmD o x y with
    | some true => (ev .b c ρ M).bind fun z ρ M => match cmD o' y z with
      | some k => fin m (.bl k) ρ M
      | none => none
    | some false => fin m (.bl false) ρ M
    | none => none
  | m, .ife t a b, ρ, M => match m with
    | .i => none
    | .k => none
    | m => (ev .t t ρ M).bind fun c ρ M => match c with
      | .bl true => ev m a ρ M
      | .bl false => ev m b ρ M
      | _ => none
  | m, .idx a i, ρ, M => (ev .b a ρ M).bind fun x ρ M => (ev .v i ρ M).bind fun y ρ M => match (deref M x).bind fun x => idxD x y with
    | some d => fin m d ρ M
    | none => none
  | m, .sl a lo hi, ρ, M => (ev .b a ρ M).bind fun x ρ M => (match lo with
      | .no => okE ρ M D.non
      | lo => (ev .v lo ρ M).bind fun y ρ M => onInt y ρ M).bind fun y ρ M => (match hi with
      | .no => okE ρ M D.non
      | hi => (ev .v hi ρ M).bind fun z ρ M => onInt z ρ M).bind fun z ρ M => match slD (see g.ns x) y z with
    | some d => fin m d ρ M
    | none => none
  | m, .rev a, ρ, M => (ev .b a ρ M).bind fun x ρ M => match x with
    | .lst l => fin m (.lst l.reverse) ρ M
    | _ => none
  | m, .call f es, ρ, M => (evs .v es ρ M).bind fun ds ρ M => ansO (φ f ds M) ρ (fin m)
  | m, .callv i es, ρ, M => match ρ[i]? with
    | some (.fz (.lam f caps)) => (evs .v es ρ M).bind fun ds ρ M => ansO (φ f (ds ++ caps) M) ρ (fin m)
    | _ => none
  | m, .attr a k, ρ, M => (ev .b a ρ M).bind fun d ρ M => match attrD g.fl d k with
    | some d => fin m d ρ M
    | none => none
  | m, .callp f es ps, ρ, M => (evs .v es ρ M).bind fun ds ρ M => match permD ps ds with
    | some ds => ansO (φ f ds M) ρ (fin m)
    | none => none
  | m, .bi b es, ρ, M => (evs .b es ρ M).bind fun ds ρ M => match biD g.cls b ds with
    | some d => fin m d ρ M
    | none => none
  | m, .listI it, ρ, M => (ev .i it ρ M).bind fun x ρ M => match x with
    | .lst l => fin m (.lst l) ρ M
    | _ => none
  | m, .cp el t it c, ρ, M => (ev .i it ρ M).bind fun xs ρ M => match xs with
    | .lst xs => match lock (slots t) ρ with
      | none => none
      | some ρ' => match compL (turnF (fun ρ M => ev .t c ρ M) (fun ρ M => (ev .v el ρ M).bind fun d ρ M => okE ρ M [d]) t ρ') [] xs M with
      | some (ds, M') => match mkL ds with
        | some d => fin m d ρ M'
        | none => none
      | none => none
    | _ => none
  | m, .cp2 el t it c t' it' c', ρ, M => (ev .i it ρ M).bind fun xs ρ M => match xs with
    | .lst xs => match lock (slots t ++ slots t') ρ with
      | none => none
      | some ρ' => match compL (turnF (fun ρ M => ev .t c ρ M) (fun ρ M => (ev .k it' ρ M).bind fun ys _ M => match ys with
        | .lst ys => match compL (turnF (fun ρ M => ev .t c' ρ M) (fun ρ M => (ev .v el ρ M).bind fun d ρ M => okE ρ M [d]) t' (reset (slots t') ρ)) [] ys M with
          | some (ds, M') => okE ρ M' ds
          | none => none
        | _ => none) t ρ') [] xs M with
      | some (ds, M') => match mkL ds with
        | some d => fin m d ρ M'
        | none => none
      | none => none
    | _ => none
  | m, .dcp k v t it c, ρ, M => (ev .i it ρ M).bind fun xs ρ M => match xs with
    | .lst xs => match lock (slots t) ρ with
      | none => none
      | some ρ' => match compL (turnF (fun ρ M => ev .t c ρ M) (fun ρ M => (ev .v k ρ M).bind fun a ρ M => (ev .v v ρ M).bind fun d ρ M => okE ρ M [.tup [a, d]]) t ρ') [] xs M with
      | some (ds, M') => match pairsD ds with
        | some q => fin m (.dct (dictOfD [] [] q.1 q.2).1 (dictOfD [] [] q.1 q.2).2) ρ M'
        | none => none
      | none => none
    | _ => none
  | m, .scp el t it c, ρ, M => (ev .i it ρ M).bind fun xs ρ M => match xs with
    | .lst xs => match lock (slots t) ρ with
      | none => none
      | some ρ' => match compL (turnF (fun ρ M => ev .t c ρ M) (fun ρ M => (ev .v el ρ M).bind fun d ρ M => okE ρ M [d]) t ρ') [] xs M with
      | some (ds, M') => if D.plains ds then fin m (.set (dedup [] ds)) ρ M' else none
      | none => none
    | _ => none
  | m, .lam f caps, ρ, M => match m, capsOf ρ caps with
    | .v, some (ds, ρ') => okE ρ' M (.lam f ds)
    | _, _ => none
  | m, .sortk a k _, ρ, M => (ev .b a ρ M).bind fun x ρ M => (ev .v k ρ M).bind fun kf ρ M => match x with
    | .lst l => match keysOf φ kf l M with
      | some (ks, M') => match sortK ks l with
        | some p => fin m (.lst p) ρ M'
        | none => none
      | none => none
    | _ => none
  | m, .sset a, ρ, M => (ev .b a ρ M).bind fun x ρ M => match ssetD x with
    | some l => fin m (.lst l) ρ M
    | none => none
  | m, .ldk k v t it c, ρ, M => (ev .i it ρ M).bind fun xs ρ M => match xs with
    | .lst xs => match lock (slots t) ρ with
      | none => none
      | some ρ' => match compL (turnF (fun ρ M => ev .t c ρ M) (fun ρ M => (ev .v k ρ M).bind fun a ρ M => (ev .v v ρ M).bind fun b ρ M => if lamless b then okE ρ M [a] else none) t ρ') [] xs M with
        | some (ds, M') => match tupsOf ds with
          | some ts => if fit ds then fin m (.lst ((nubF [] ts).map tupD)) ρ M' else none
          | none => none
        | none => none
    | _ => none
  | m, .mink a k, ρ, M => (ev .i a ρ M).bind fun x ρ M => (ev .v k ρ M).bind fun kf ρ M => match x with
    | .lst l => match keysOf φ kf l M with
      | some (ks, M') => match ks.zip l with
        | p :: ps => match leastP p ps with
          | some q => fin m q.2 ρ M'
          | none => none
        | [] => none
      | none => none
    | _ => none
  | m, .range es, ρ, M => (evs .v es ρ M).bind fun ds ρ M => match m, rangeD ds with
    | .i, some l => okE ρ M (.lst l)
    | .k, some l => okE ρ M (.lst l)
    | _, _ => none
  | m, .zip a b, ρ, M => match m with
    | .i => (ev .b a ρ M).bind fun x ρ M => (ev .b b ρ M).bind fun y ρ M => lift ((zipV x y).map .lst) ρ M
    | .k => (ev .v a ρ M).bind fun x ρ M => (ev .v b ρ M).bind fun y ρ M => lift ((zipV x y).map .lst) ρ M
    | _ => none
  | m, .enum a, ρ, M => match m with
    | .i => (ev .b a ρ M).bind fun x ρ M => lift ((enumV x).map .lst) ρ M
    | .k => (ev .v a ρ M).bind fun x ρ M => lift ((enumV x).map .lst) ρ M
    | _ => none
  | m, .items a, ρ, M => match m with
    | .i => (ev .b a ρ M).bind fun x ρ M => match x with
      | .dct ks vs => okE ρ M (.lst (zipD ks vs))
      | _ => none
    | .k => (ev .v a ρ M).bind fun x ρ M => match x with
      | .dct ks vs => okE ρ M (.lst (zipD ks vs))
      | _ => none
    | _ => none
  | m, .dict ks vs, ρ, M => match ks, vs with
    | [], [] => fin m (.dct [] []) ρ M
    | _, _ => none
  | _, _, _, _ => none
termination_by structural _ e => e
def evs : Md → List E → Ev → Mem → R (List D)
  | _, [], ρ, M => okE ρ M []
  | m, .star e :: es, ρ, M => (ev .b e ρ M).bind fun x ρ M => match seqD x with
    | some l => (evs m es ρ M).bind fun ds ρ M => okE ρ M (l ++ ds)
    | none => none
  | m, e :: es, ρ, M => (ev m e ρ M).bind fun d ρ M => (evs m es ρ M).bind fun ds ρ M => okE ρ M (d :: ds)
termination_by structural _ es => es
end
end

/-! ### statements -/
inductive Fl where
  | nx | rt (d : D) | bk | ct
  deriving Repr
/-- what gives a new list, a new dict -/
def maker : E → Bool
  | .lst _ | .cp .. | .cp2 .. | .dcp .. | .sortk .. | .sset _ | .ldk .. | .bi .list _ | .bi .sorted _ | .bin .add _ _ | .bin .mul _ _ | .sl .. | .rev _ | .bi .dict _ => true
  | _ => false
def mine (mk : Bool) : D → Option En
  | .lst l => some (if mk then .ow l else .fz (.lst l))
  | .lam _ _ => none
  | .set _ => none
  | d => some (.fz d)
def modeOf (mk : Bool) : Md := if mk then .n else .v

def forL (body : Ev → Mem → R Fl) (t : Tg) : List D → Ev → Mem → R Fl
  | [], ρ, M => okE ρ M .nx
  | x :: xs, ρ, M => match bindT t x ρ with
    | some ρ' => (body ρ' M).bind fun f ρ M => match f with
      | .nx => forL body t xs ρ M
      | .ct => forL body t xs ρ M
      | .bk => okE ρ M .nx
      | .rt d => okE ρ M (.rt d)
    | none => none
def whlL (test : Ev → Mem → R D) (body : Ev → Mem → R Fl) : Nat → Ev → Mem → R Fl
  | 0, _, _ => none
  | n + 1, ρ, M => (test ρ M).bind fun b ρ M => match b with
    | .bl true => (body ρ M).bind fun f ρ M => match f with
      | .nx => whlL test body n ρ M
      | .ct => whlL test body n ρ M
      | .bk => okE ρ M .nx
      | .rt d => okE ρ M (.rt d)
    | .bl false => okE ρ M .nx
    | _ => none
/-- the modes of parallel values, and what the names hold -/
def setAll : List Nat → List En → Ev → Ev
  | i :: is, e :: es, ρ => setAll is es (ρ.set i e)
  | _, _, ρ => ρ
section
variable (g : Cfg) (φ : Phi)
def evPar : List E → Ev → Mem → R (List En)
  | [], ρ, M => okE ρ M []
  | e :: es, ρ, M => (ev g φ (modeOf (maker e)) e ρ M).bind fun d ρ M => match mine (maker e) d with
    | some x => (evPar es ρ M).bind fun xs ρ M => okE ρ M (x :: xs)
    | none => none
mutual
def st : S → Ev → Mem → R Fl
  | .asg t e, ρ, M => match t with
    | .nm i => (ev g φ (modeOf (maker e)) e ρ M).bind fun d ρ M => match mine (maker e) d with
      | some x => okE (ρ.set i x) M .nx
      | none => none
    | t => (ev g φ .b e ρ M).bind fun d ρ M => match bindT t d ρ with
      | some ρ => okE ρ M .nx
      | none => none
  | .par is es, ρ, M => (evPar g φ es ρ M).bind fun xs ρ M => okE (setAll is xs ρ) M .nx
  | .seti a i e, ρ, M => (ev g φ .v e ρ M).bind fun d ρ M => (ev g φ .b a ρ M).bind fun x ρ M => (ev g φ .v i ρ M).bind fun y ρ M => match x, y with
    | .cell n, .int k => match M[n]? with
      | some (.lst l) => match place k l.length, lamless d with
        | some p, true => okE ρ (M.set n (.lst (l.set p d))) .nx
        | _, _ => none
      | _ => none
    | _, _ => none
  | .app x e, ρ, M => match ρ[x]? with
    | some (.ow _) => (ev g φ .v e ρ M).bind fun d ρ M => match ρ[x]? with
      | some (.ow l) => if fit (l ++ [d]) && lamless d then okE (ρ.set x (.ow (l ++ [d]))) M .nx else none
      | _ => none
    | _ => none
  | .ext x e, ρ, M => match ρ[x]? with
    | some (.ow _) => (ev g φ .b e ρ M).bind fun d ρ M => match ρ[x]?, d with
      | some (.ow l), .lst k => if fit (l ++ k) then okE (ρ.set x (.ow (l ++ k))) M .nx else none
      | _, _ => none
    | _ => none
  | .ex e, ρ, M => (ev g φ .b e ρ M).bind fun _ ρ M => okE ρ M .nx
  | .ife t a b, ρ, M => (ev g φ .t t ρ M).bind fun c ρ M => match c with
    | .bl true => sts a ρ M
    | .bl false => sts b ρ M
    | _ => none
  | .for t it b, ρ, M => (ev g φ .k it ρ M).bind fun xs ρ M => match xs with
    | .lst xs => forL (fun ρ M => sts b ρ M) t xs ρ M
    | _ => none
  | .whl t b, ρ, M => whlL (fun ρ M => ev g φ .t t ρ M) (fun ρ M => sts b ρ M) g.loops ρ M
  | .ret e, ρ, M => (ev g φ .v e ρ M).bind fun d ρ M => okE ρ M (.rt d)
  | .pass, ρ, M => okE ρ M .nx
  | .brk, ρ, M => okE ρ M .bk
  | .cnt, ρ, M => okE ρ M .ct
  | .raise c es, ρ, M => (evs g φ .v es ρ M).bind fun ds ρ M => if ds.all lamless then some (.exc (.ins c ds) ρ M) else none
  | .tryas b c x h, ρ, M => match sts b ρ M with
    | some (.exc (.ins k fs) ρ M) => if below g.cls k c then
        (sts h (match x with | some i => ρ.set i (.fz (.ins k fs)) | none => ρ) M).bind fun f ρ M => okE (match x with | some i => ρ.set i .un | none => ρ) M f
      else some (.exc (.ins k fs) ρ M)
    | r => r
  | .seta .., _, _ => none
  | .bad, _, _ => none
termination_by structural s => s
def sts : List S → Ev → Mem → R Fl
  | [], ρ, M => okE ρ M .nx
  | s :: r, ρ, M => (st s ρ M).bind fun f ρ M => match f with
    | .nx => sts r ρ M
    | f => okE ρ M f
termination_by structural ss => ss
end
end

/-- a def, a lambda: how many parameters (a lambda's captured values first), how many names, its statements -/
structure Fn where
  ps : Nat
  n : Nat
  body : List S
  deriving Repr, Inhabited
def startE (ds : List D) (n : Nat) : Ev := ds.map .fz ++ List.replicate (n - ds.length) .un
def callF (g : Cfg) (T : List Fn) : Nat → Phi
  | 0 => fun _ _ _ => none
  | n + 1 => fun f ds M => match T[f]? with
    | some F => if ds.length = F.ps then match sts g (callF g T n) F.body (startE ds F.n) M with
        | some (.ok .nx _ M) => some (.ok .non M)
        | some (.ok (.rt d) _ M) => if lamless d then some (.ok d M) else none
        | some (.exc x _ M) => some (.exc x M)
        | _ => none
      else none
    | none => none
end DV
end
section
set_option Elab.async false
set_option linter.all false
set_option maxRecDepth 100000
set_option maxHeartbeats 2000000
/-! DV50: an own error whose __init__ says super().__init__('..') and then self.x = x: made. -/
namespace PySem
namespace DVE
open PySem.W PySem.Calls PyProof.Rows PySem.HandSPX
def iA (x : Str) (p1 p2 : Pos) : Arguments := { posonlyargs := [], args := [{ arg := "self", annotation := none, pos := p1 }, { arg := x, annotation := none, pos := p2 }], vararg := none, kwonlyargs := [], kw_defaults := [], kwarg := none, defaults := [] }
/-- the positions of __init__'s text -/
structure Ps where
  a1 : Pos
  a2 : Pos
  a3 : Pos
  a4 : Pos
  a5 : Pos
  b1 : Pos
  b2 : Pos
  b3 : Pos
  b4 : Pos
  a6 : Pos
def st1 (lit : Str) (kd : Nat) (p : Ps) : Stmt := .Expr (.Call (.Attribute (.Call (.Name "super" p.a1) [] [] p.a2) "__init__" p.a3) [.Constant (.str lit) kd p.a4] [] p.a5) p.a6
def st2 (x : Str) (p : Ps) : Stmt := .Assign [.Attribute (.Name "self" p.b1) x p.b2] (.Name x p.b3) p.b4
structure IniT (x : Str) (sc : Scope) : Prop where
  self : sc.names.lookup ("self" : Str) = some .local
  arg : sc.names.lookup x = some .local
  sup : sc.names.lookup ("super" : Str) = some .globalImplicit
  cls : sc.names.lookup ("__class__" : Str) = some .free
  nocell : ∀ y ∈ sc.names, y.2 ≠ .cell
  kind : sc.kind = .function
  co : sc.isCoroutine = false
  gen : sc.isGenerator = false
/-- what the written part says of the error's class at C -/
structure ErT (P : Program) (K : Frag) (C : Addr) (x : Str) : Prop where
  cls : ∃ nm q N bs bm sn sub ab col dd k0 k1 k2 k3 k5, K.lookup C = some (excClassObj nm q C N bs bm true sn sub ab col dd k0 k1 k2 k3 k5 "ValueError.__new__") ∧ refsVE bm = true ∧ alongIn K "__init__" bm = some (some (.builtin "ValueError.__init__")) ∧ bm.contains (.ref C) = false
  sa : findIn K (.ref C) "__setattr__" = some (some (.builtin "object.__setattr__"))
  ga : findIn K (.ref C) "__getattribute__" = some (some (.builtin "BaseException.__getattribute__"))
  gg : findIn K (.ref C) "__getattr__" = some none
  noN : findIn K (.ref C) x = some none
  kC : keepIn K (.ref C) = true
  exC : subIn K (.ref C) (.type "BaseException") = some true
  veC : subIn K (.ref C) (.type "ValueError") = some true
  meC : mroIn K C (.ref C) = some true
  tyC : typeIn K (.ref C) = some (.type "type")
  hdC : hasDictIn K C = true
  tp : nsIn K cStatics "thirdparty.any" = some none
  htop : (P.main.scope.names.lookup ("super" : Str)).isSome = false
  ns : (x == ("self" : Str)) = false
  nd : (x == ("__debug__" : Str)) = false
  fn : ∃ (fI cc cda : Addr) (oc : Value) (od : Option Addr) (qual : Str) (sc : Scope) (doc pm : Value) (an : Option Addr) (ct : Value) (osl : Array (Option Value)) (lit : Str) (kd : Nat) (p1 p2 : Pos) (p : Ps), (p.a3.endLine == p.a5.line) = true ∧
    findIn K (.ref C) "__init__" = some (some (.ref fI)) ∧ typeIn K (.ref fI) = some (.type "function") ∧
    K.lookup fI = some ⟨oc, od, .func (ksFn "__init__" qual (iA x p1 p2) [st1 lit kd p, st2 x p] sc .none .none doc pm an (.ref cda) ct cc), osl⟩ ∧ codeIn K (.ref cda) qual = true ∧ IniT x sc ∧
    (∀ (s : Shared) (a v : Value), BindsTo s (ksFn "__init__" qual (iA x p1 p2) [st1 lit kd p, st2 x p] sc .none .none doc pm an (.ref cda) ct cc) ⟨[a, v], []⟩ [("self", a), (x, v)]) ∧
    (∃ ccl cdd vs ccs file tf, K.lookup cda = some ⟨ccl, cdd, .fields vs, ccs⟩ ∧ vs[2]? = some (.str file tf) ∧ ((P.main.file : Str) == file) = true) ∧
    ∃ cl cld csl, K.lookup cc = some ⟨cl, cld, .cell (some (.ref C)), csl⟩
/-- what its field asks -/
structure ErA (K : Frag) (C : Addr) (x : Str) : Prop where
  ga : findIn K (.ref C) "__getattribute__" = some (some (.builtin "BaseException.__getattribute__"))
  gg : findIn K (.ref C) "__getattr__" = some none
  noN : findIn K (.ref C) x = some none
  exC : subIn K (.ref C) (.type "BaseException") = some true
  hdC : hasDictIn K C = true
/-- what isinstance asks of the class -/
structure ErI (K : Frag) (C : Addr) : Prop where
  cl : (clsIn K C).isSome = true
  ga : findIn K (.ref C) "__getattribute__" = some (some (.builtin "BaseException.__getattribute__"))
  gg : findIn K (.ref C) "__getattr__" = some none
  exC : subIn K (.ref C) (.type "BaseException") = some true
  ha : findIn K (.ref C) "__class__" = some (some (.builtin "object.__class__"))
  hn : specialIn K (.builtin "object.__class__") "__get__" = some (some (.builtin "getset_descriptor.__get__"))
  tk : takesIn K (.builtin "object.__class__") = some true
  mo : mroIn K C (.type "object") = some true
/-- what __init__ leaves of a fresh exception at y -/
structure InitEnd (h h' : Heap) (y C dx t1 : Addr) (x : Str) (v : Value) : Prop where
  keep : ∀ b o, b ≠ y → h.get? b = some o → h'.get? b = some o
  obj : h'.get? y = some { cls := .ref C, dict := some dx, data := .fields #[.ref t1, .none, .none, .none, .bool false, .none] }
  dbig : h.objs.size ≤ dx
  dne : dx ≠ y
  ns : h'.Ns1 dx (fun z => if z = x then some v else none)
structure Made (h h' : Heap) (e C d : Addr) (x : Str) (v : Value) : Prop where
  keep : ∀ b o, h.get? b = some o → h'.get? b = some o
  new : h.objs.size ≤ e
  obj : ∃ oe vs, h'.get? e = some oe ∧ oe.cls = .ref C ∧ oe.dict = some d ∧ oe.data = .fields vs ∧ vs[1]? = some .none
  dbig : h.objs.size ≤ d
  dne : d ≠ e
  ns : h'.Ns1 d (fun z => if z = x then some v else none)
section
variable {prog : Program} {w : World} {A : Around} {E : Value → Shared → Prop} {h : Heap} {g : Array GenState} {d : Drawn} {t : Nat} {os : OsState}
variable {nm q : Str} {C N : Addr} {bs bm : List Value} {hdct : Bool} {sn : List Str} {sub : List Value} {ab : Bool} {col : Option Bool} {dd : Option Addr} {k0 k1 k2 k3 k5 : Option Value}
/-- the bound ValueError.__init__, called -/
theorem call_mw {u e t0 : Addr} {rest : List Value} {Q : Value → Shared → Prop}
    (hC : h.get? C = some (excClassObj nm q C N bs bm hdct sn sub ab col dd k0 k1 k2 k3 k5 "ValueError.__new__")) (he : h.get? e = some (excO C t0)) (hu : h.get? u = some (kxs_mw "ValueError.__init__" e)) (hrest : rest.length ≤ sizeLine)
    (hq : ∀ h' t1, (∀ b o, b ≠ e → h.get? b = some o → h'.get? b = some o) → h'.get? e = some (excO C t1) → Q .none ⟨h', g, d, t, os⟩) :
    wpAny (model prog w) A (call (.ref u) rest) Q E ⟨h, g, d, t, os⟩ := by
  refine wpAny_call (codeAny_of_tree ?_)
  show wpAny _ A.in1 (callAny (.ref u) ⟨rest, []⟩) _ _ _
  simp only [callAny]
  refine wpAny_bind (wpAny_load hu ?_)
  simp only [kxs_mw, show (Value.type "method-wrapper" == Value.type "method" || Value.type "method-wrapper" == Value.type "builtin_function_or_method" || Value.type "method-wrapper" == Value.type "method-wrapper") = true by decide, if_true]
  refine W.KFB.if_so (by decide) ?_
  refine wpAny_bind (check_bound_init PySem.F.excBase_ValueError.toExcCallFacts hC he rfl ?_)
  refine wpAny_bind (wpAny_pure (wpAny_pure ?_))
  refine ⟨plainId_quiet PySem.F.excBase_ValueError.init.plain _, codeAny_builtin PySem.F.excBase_ValueError.initEntry ?_⟩
  exact exc_init_tree (cls := .ref C) (t0 := t0) (dv := none) (c2 := .none) (c3 := .none) (b4 := .bool false) he hrest fun h' k1 k2 _ => hq h' _ k1 k2
end
theorem one_size (v : Value) : [v].length ≤ sizeLine := by
  rw [sizeLine_eq]
  exact (by decide : 1 ≤ 16777216)
theorem he_of {o : Expr} {name : Str} {apos pos : Pos} {e : Expr} {env : Env} (hline : (apos.endLine == pos.line) = true) (hs : starEach [e] env = (false, eval e env) :: starEach [] env) : eval (.Call (.Attribute o name apos) [e] [] pos) env = (do
      let ov ← attributeBase o name env (eval o env)
      standAt apos.atName
      let (f, first) ← holding [ov] (getMethod ov name (do return (← importBound o env).getD true))
      callWith pos f first (backTo pos (starEach [e] env)) []) := by
  rw [arm_eval_Call]
  have hform : methodCallForm ([e].length + ([] : List Keyword).length) (backTo pos (starEach [e] env)) (backToKw pos (keywordEach [] env)) = true := by
    rw [hs]
    rfl
  have hpos : methodCallPos true o env apos pos = pure pos := by unfold methodCallPos; simp [hline]
  unfold methodCall
  rw [hform, hpos]
  rfl
section
variable {prog : Program} {w : World} {A : Around} {E : Value → Shared → Prop} {R : Result → Shared → Prop} {s : Shared} {K : Frag} {mg mb : Str → Option Value} {C : Addr} {x : Str}
theorem er_init (T : ErT prog K C x) {fI y t0 : Addr} {v : Value} (hfI : findIn K (.ref C) "__init__" = some (some (.ref fI))) (X : K.In s.heap) (hg : s.heap.Ns mainGlobals mg) (hmg : mg "super" = none) (hb : s.heap.Ns builtinsNs mb) (hbs : mb "super" = bootBuiltins "super") (hlim : s.heap.NoLimit) (hx : s.heap.get? y = some (excO C t0)) (hnx : K.lookup y = none) (hroom : A.depth < recursionLimit)
    (hq : ∀ h' tk dx t1, InitEnd s.heap h' y C dx t1 x v → R (.ok (.ret .none)) { s with heap := h', toks := tk }) :
    codeAny (model prog w) A (.call (.ref fI) ⟨[.ref y, v], []⟩) R s := by
  obtain ⟨fI', cc, cda, oc, od, qual, sc, doc, pm, an, ct, osl, lit, kd, p1, p2, p, hline, hf', tC, ho, hcd, ti, bd, ⟨ccl, cdd, vs, ccs, file, tf, hcode, hvs, hfile⟩, cl, cld, csl, hcell⟩ := T.fn
  rw [hfI] at hf'
  cases hf'
  obtain ⟨nm, q, N, bs, bm, sn, sub, ab, col, dd, k0, k1, k2, k3, k5, hC, hbm, hal, hnc⟩ := T.cls
  have hcl : clsIn K C = some { name := nm, bases := bs, mro := .ref C :: bm, ns := N, qualname := q, hasDict := true, slotNames := sn, subclasses := sub, abstract := ab, collection := col, hasDel := false } := by unfold clsIn; rw [hC] <;> rfl
  have nsx : ¬ x = ("self" : Str) := fun z => by
    have := T.ns
    rw [z, beq_self_eq_true] at this
    cases this
  refine ks_codeAny_call_defAt hroom (X _ _ ho) rfl hlim (codeRec_of X hcd) rfl (bd s _ _) ti.nocell (fun z hz => ?_) (fun h₁ hns k => ?_) ti.co ti.gen ti.kind
  · rcases List.mem_cons.mp hz with rfl | hz
    · exact ti.self
    · rcases List.mem_cons.mp hz with rfl | hz
      · exact ti.arg
      · cases hz
  · have X₁ : K.In h₁ := X.keeps k
    have hx₁ := k _ _ hx
    have ms : (fun z => ([(("self" : Str), Value.ref y), (x, v)] : List (Str × Value)).reverse.lookup z) "self" = some (.ref y) := by
      show ([(x, v), (("self" : Str), Value.ref y)] : List (Str × Value)).lookup ("self" : Str) = _
      have : (("self" : Str) == x) = false := by
        exact beq_false_of_ne fun z => nsx z.symm
      simp only [List.lookup, this, beq_self_eq_true]
    have mx : (fun z => ([(("self" : Str), Value.ref y), (x, v)] : List (Str × Value)).reverse.lookup z) x = some v := by
      show ([(x, v), (("self" : Str), Value.ref y)] : List (Str × Value)).lookup x = _
      simp only [List.lookup, beq_self_eq_true]
    refine ks_wpAt_execs_cons (ks_wpAt_Expr_any (ks_wpAt_MethodCall ?_ (he_of hline rfl)) (by show interactive (ksEnv qual sc s.heap.objs.size fI (.ref cda) cc) = false; simp [interactive, ti.kind]))
    refine ks_wpAt_super_base (env := ksEnv qual sc s.heap.objs.size fI (.ref cda) cc) ti.sup ti.cls rfl rfl (X₁ _ _ ho) rfl rfl rfl (X₁ _ _ hcode) rfl hvs hfile T.htop ?_
    refine ks_loadName_global ti.kind ti.sup (loadGlobal_builtin (hg.keeps k) hmg (hb.keeps k) (hbs.trans (by first | boot_by_name | rfl | kernel_rfl)) ⟨rfl, ?_⟩)
    refine wpAny_loadName_free ti.kind ti.cls rfl ⟨_, X₁ _ _ hcell, rfl⟩ ?_
    refine wpAny_loadName_local ti.kind ti.self hns ms ?_
    refine ks_wpAny_isType_cls (X₁ _ _ hC) rfl ⟨rfl, ?_⟩
    have I₁ : W.InstAt h₁ y (excO C t0) C none := ⟨hx₁, rfl, rfl, trivial⟩
    refine ks_wpAny_call_super (X₁ _ _ hC) rfl hx₁ rfl (fun c z => nomatch z) (looks_mroIn X₁ T.meC) (fun h₂ hso k₂ => ?_)
    have X₂ : K.In h₂ := X₁.keeps k₂
    have hx₂ := k₂ _ _ hx₁
    have I₂ : W.InstAt h₂ y (excO C t0) C none := ⟨hx₂, rfl, rfl, trivial⟩
    have hmro : W.Looks (model prog w) h₂ (mroOf (.ref C)) (.ref C :: bm) := fun A Q E s k q => wpAny_bind ((looks_clsIn X₂ hcl) A _ E s k (wpAny_pure q))
    have hI : W.Looks (model prog w) h₂ (isInstance (.ref y) (.type "ValueError")) true := I₂.type.andThen (looks_subIn X₂ T.veC)
    have hyC : y ≠ C := ks_ne X₂ I₂ hcl
    refine kxs_getMethod kxs_ValueError hso (looks_opaque X₂ T.tp) hmro (l := bm) ?_ X₂ hal hI hyC rfl ?_
    · simp [List.dropWhile_cons]
    · have hx₃ : (h₂.push (kxs_mw "ValueError.__init__" y)).get? y = some (excO C t0) := Heap.get?_push_of_some _ hx₂
      have hu₃ : (h₂.push (kxs_mw "ValueError.__init__" y)).get? h₂.objs.size = some (kxs_mw "ValueError.__init__" y) := Heap.get?_push_at rfl rfl
      have k₃ : ∀ b o, s.heap.get? b = some o → (h₂.push (kxs_mw "ValueError.__init__" y)).get? b = some o := fun b o z => Heap.get?_push_of_some _ (k₂ b o (k b o z))
      show wpAny _ _ (callWith p.a5 (.ref h₂.objs.size) [] _ []) _ _ _
      refine kxs_callWith (i := "ValueError.__init__") (x := y) rfl ?_
      refine evalArgs_plain (spliced_more (e := .Constant (.str lit) kd p.a4) (rest := []) (wpAny_Constant_str (spliced_none ⟨hu₃, ?_⟩)))
      obtain ⟨z1, z2, z3, z4, z5⟩ := s
      refine call_mw (k₃ _ _ (X _ _ hC)) hx₃ hu₃ (one_size _) (fun h₄ t1 k₄ hx₄ => ?_)
      have nL : z1.objs.size ≠ y := Nat.ne_of_gt (Heap.lt_size hx)
      have k0 : ∀ b o, b ≠ y → z1.get? b = some o → h₄.get? b = some o := fun b o hb z => k₄ b o hb (k₃ b o z)
      have X₄ : K.In h₄ := fun a o e => k0 a o (fun z => by rw [z] at e; rw [hnx] at e; cases e) (X a o e)
      have hns₄ : h₄.Ns z1.objs.size (fun z => ([(("self" : Str), Value.ref y), (x, v)] : List (Str × Value)).reverse.lookup z) := by
        obtain ⟨oL, es, ep, hL, r⟩ := hns
        exact ⟨oL, es, ep, k₄ _ _ nL (Heap.get?_push_of_some _ (k₂ _ _ hL)), r⟩
      refine wpAt_of_wpAny ?_
      show wpAny _ _ (execs [st2 x p] _) _ _ _
      refine wpAny_execs_cons (plainObj_wpAny_Assign_Attribute ?_)
      have ld : ∀ {m : Str → Option Value} {s' : Shared} {z : Str} {pos : Pos} {u : Value} {Q : Value → Shared → Prop} {E : Value → Shared → Prop}, s'.heap.Ns z1.objs.size m → m z = some u → sc.names.lookup z = some .local → (z == ("__debug__" : Str)) = false → Q u s' → wpAny (model prog w) (A.deeper (ksEnv qual sc z1.objs.size fI (.ref cda) cc)) (eval (.Name z pos) (ksEnv qual sc z1.objs.size fI (.ref cda) cc)) Q E s' := fun hn hv hl hd h => wpAny_Name (wpAny_loadName_local ti.kind hl hn hv h) hd
      refine ld hns₄ mx ti.arg T.nd (ld hns₄ ms ti.self (by decide) ?_)
      refine set_plain X₄ (ox := excO C t1) (od := none) ⟨hx₄, rfl, rfl, trivial⟩ T.sa ?_
      refine exc_osa X₄ hx₄ hcl (show refsVE (.ref C :: bm) = true from hbm) rfl T.noN (fun h₅ tk₅ dx k₅ dn dne hx₅ hn₅ => ?_)
      show wpAny _ _ (execs [] _) _ _ _
      have lt : z1.objs.size ≤ h₄.objs.size := Nat.le_of_lt hns₄.lt
      exact wpAny_execs_nil (hq h₅ tk₅ dx t1 ⟨fun b o hb e => k₅ b o hb (k0 b o hb e), hx₅, Nat.le_trans lt dn, dne, hn₅⟩)
/-- C(v) -/
theorem er_made (T : ErT prog K C x) {v : Value} (X : K.In s.heap) (hg : s.heap.Ns mainGlobals mg) (hmg : mg "super" = none) (hb : s.heap.Ns builtinsNs mb) (hbs : mb "super" = bootBuiltins "super") (hlim : s.heap.NoLimit) (hroom : A.depth + 1 < recursionLimit)
    (hq : ∀ h' tk e d, Made s.heap h' e C d x v → R (.ok (.ret (.ref e))) { s with heap := h', toks := tk }) :
    codeAny (model prog w) A (.call (.ref C) ⟨[v], []⟩) R s := by
  obtain ⟨fI, hfI, tI⟩ : ∃ fI, findIn K (.ref C) "__init__" = some (some (.ref fI)) ∧ typeIn K (.ref fI) = some (.type "function") := by
    obtain ⟨fI, cc, cda, oc, od, qual, sc, doc, pm, an, ct, osl, lit, kd, p1, p2, p, hline, h1, h2, _⟩ := T.fn
    exact ⟨fI, h1, h2⟩
  obtain ⟨nm, q, N, bs, bm, sn, sub, ab, col, dd, k0, k1, k2, k3, k5, hC, hbm, hal, hnc⟩ := T.cls
  obtain ⟨hp, g, dr, tk, os⟩ := s
  have k : ∀ b o, hp.get? b = some o → ((hp.push (kdv_tup [v])).push (excO C hp.objs.size)).get? b = some o := fun b o e => Heap.get?_push_of_some _ (Heap.get?_push_of_some _ e)
  have hget : ((hp.push (kdv_tup [v])).push (excO C hp.objs.size)).get? (hp.objs.size + 1) = some (excO C hp.objs.size) := by heap_get
  have hnx : K.lookup (hp.objs.size + 1) = none := by
    cases e : K.lookup (hp.objs.size + 1) with
    | none => rfl
    | some o =>
      have z : hp.get? (hp.objs.size + 1) = some o := X _ _ e
      exact absurd (Nat.lt_of_succ_lt (Heap.lt_size z)) (Nat.lt_irrefl _)
  refine call_own PySem.F.excBase_ValueError (fun X => refsVE_contains X bm hbm) (X _ _ hC) (looks_findIn X hfI) (fun self => bind_fn X self tI) (one_size v) ?_
  refine er_init (s := ⟨(hp.push (kdv_tup [v])).push (excO C hp.objs.size), g, dr, tk, os⟩) T hfI (X.keeps k) (hg.keeps k) hmg (hb.keeps k) hbs (hlim.keeps k) hget hnx ?_ fun h' tk' dx t1 ⟨k', hx, dn, dne, hns⟩ => ?_
  · show A.depth + 1 < recursionLimit
    exact hroom
  · have old : ∀ b o, hp.get? b = some o → h'.get? b = some o := fun b o e => k' b o (Nat.ne_of_lt (Nat.lt_succ_of_lt (Heap.lt_size e))) (k b o e)
    have z : hp.objs.size + 1 + 1 ≤ dx := by
      first
        | (simpa only [Heap.size_push] using dn)
        | exact dn
        | (have q := dn; rw [Heap.size_push, Heap.size_push] at q; exact q)
    exact ⟨rfl, hq h' tk' (hp.objs.size + 1) dx ⟨old, Nat.le_succ _, ⟨_, _, hx, rfl, rfl, rfl, rfl⟩, Nat.le_trans (Nat.le_trans (Nat.le_succ _) (Nat.le_succ _)) z, dne, hns⟩⟩
end
end DVE
end PySem
end
section
set_option Elab.async false
set_option linter.all false
set_option maxRecDepth 100000
set_option maxHeartbeats 1000000
/-! DV1: how values as trees stand in the abstract heap. -/
namespace DV
open PySem PySem.Spec PyProof.Rows L2
abbrev NT := List (Addr × Str)

def toStr (s : List Nat) : Str := ⟨s.toArray⟩
theorem toStr_inj {a b : List Nat} (h : toStr a = toStr b) : a = b := congrArg (fun x : Str => x.cps.toList) h
def tyName : Ty → String
  | .int => "int" | .bool => "bool" | .str => "str" | .list => "list" | .tuple => "tuple" | .dict => "dict" | .set => "set"
/-- what is frozen where -/
abbrev Fz := Addr → Option D
def Ex (F F' : Fz) : Prop := ∀ a d, F a = some d → F' a = some d
theorem Ex.refl (F : Fz) : Ex F F := fun _ _ h => h
theorem Ex.trans {F F1 F2 : Fz} (a : Ex F F1) (b : Ex F1 F2) : Ex F F2 := fun x d h => b x d (a x d h)
def fput (F : Fz) (a : Addr) (d : D) : Fz := fun b => if b = a then some d else F b
theorem fput_same {F : Fz} {a : Addr} {d : D} : fput F a d a = some d := if_pos rfl
theorem fput_ne {F : Fz} {a b : Addr} {d : D} (h : b ≠ a) : fput F a d b = F b := if_neg h
theorem Ex.put {F : Fz} {a : Addr} {d : D} (h : F a = none) : Ex F (fput F a d) := fun b e q => by
  rw [fput_ne]
  · exact q
  · rintro rfl
    rw [h] at q
    cases q

/-- a lambda of the text: how it is written, the names that it captures -/
structure LamI where
  params : Arguments
  body : Expr
  scope : Scope
  qual : Str
  fr : List Str
/-- where the defs and the classes of the text stand; the script's ints -/
structure Gb where
  fa : Nat → Option Addr
  ca : Nat → Option Addr
  ns : List Int
  sa : Addr
  T : NT
  lam : Nat → Option LamI
  fld : Nat → List Str := fun _ => []

/-- a value that is a tree (no lambda) -/
def Rv (G : Gb) (F : Fz) (κ : List Addr) (v : V) : D → Prop
  | .non => v = .non
  | .bl b => v = .bl b
  | .int i => v = .int i
  | .str s => v = .str (toStr s)
  | .ty t => v = .ty (tyName t)
  | .fn f => ∃ a, G.fa f = some a ∧ v = .ref a
  | .cls c => ∃ a, G.ca c = some a ∧ v = .ref a
  | .cell n => ∃ a, κ[n]? = some a ∧ v = .ref a
  | .lam _ _ => False
  | .scr => v = .ref G.sa
  | d => ∃ a, v = .ref a ∧ F a = some d
/-- one more list of cells -/
def Px (κ κ' : List Addr) : Prop := ∃ r, κ' = κ ++ r
theorem Px.refl (κ : List Addr) : Px κ κ := ⟨[], (List.append_nil _).symm⟩
theorem Px.trans {a b c : List Addr} (h : Px a b) (k : Px b c) : Px a c := by
  obtain ⟨r, rfl⟩ := h
  obtain ⟨q, rfl⟩ := k
  exact ⟨r ++ q, List.append_assoc ..⟩
theorem Px.get {κ κ' : List Addr} {n : Nat} {a : Addr} (h : Px κ κ') (e : κ[n]? = some a) : κ'[n]? = some a := by
  obtain ⟨r, rfl⟩ := h
  rw [List.getElem?_append_left]
  · exact e
  · exact (List.getElem?_eq_some_iff.mp e).1
theorem Px.mem {κ κ' : List Addr} {a : Addr} (h : Px κ κ') (e : a ∈ κ) : a ∈ κ' := by
  obtain ⟨r, rfl⟩ := h
  exact List.mem_append_left _ e
section
variable {G : Gb} {F F' : Fz} {κ κ' : List Addr}
theorem Rv.mono {v : V} {d : D} (h : Rv G F κ v d) (e : Ex F F') (k : Px κ κ') : Rv G F' κ' v d := by
  cases d with
  | cell n => obtain ⟨a, h1, h2⟩ := h; exact ⟨a, k.get h1, h2⟩
  | tup l => obtain ⟨a, h1, h2⟩ := h; exact ⟨a, h1, e _ _ h2⟩
  | lst l => obtain ⟨a, h1, h2⟩ := h; exact ⟨a, h1, e _ _ h2⟩
  | dct l m => obtain ⟨a, h1, h2⟩ := h; exact ⟨a, h1, e _ _ h2⟩
  | set l => obtain ⟨a, h1, h2⟩ := h; exact ⟨a, h1, e _ _ h2⟩
  | ins c l => obtain ⟨a, h1, h2⟩ := h; exact ⟨a, h1, e _ _ h2⟩
  | lam f l => exact h
  | _ => exact h
abbrev Rvs (G : Gb) (F : Fz) (κ : List Addr) : List V → List D → Prop := Paired (Rv G F κ)
theorem Rvs.mono {vs : List V} {ds : List D} (h : Rvs G F κ vs ds) (e : Ex F F') (k : Px κ κ') : Rvs G F' κ' vs ds := Paired.mapP h fun _ _ q => q.mono e k
end


/-- the object oe, at a -/
def ExT (a : Addr) (oe : Obj) : HO := .frz oe (.own a)
/-- the object of a frozen tree -/
def Shape (G : Gb) (F : Fz) (κ : List Addr) (H : Hp) (a : Addr) : D → Prop
  | .tup l => ∃ vs, H a = some (.tup vs) ∧ Rvs G F κ vs l
  | .lst l => ∃ vs, H a = some (.lst vs) ∧ Rvs G F κ vs l
  | .lam f _ => ∃ L, G.lam f = some L ∧ H a = some (LamX.CodeO a L.qual)
  | .dct ks vs => H a = some (.dK []) ∧ ks = [] ∧ vs = []
  | .ins c fs => ∃ C dx nfs oe vs, G.ca c = some C ∧ H a = some (ExT a oe) ∧ oe.cls = .ref C ∧ oe.dict = some dx ∧ oe.data = .fields vs ∧ H dx = some (.xd nfs) ∧ (nfs.map (·.1) = G.fld c ∧ nfs ≠ []) ∧ Rvs G F κ (nfs.map (·.2)) fs
  | _ => False
def CoAt (G : Gb) (F : Fz) (κ : List Addr) (H : Hp) (a : Addr) : Co → Prop
  | .lst l => ∃ vs, H a = some (.lst vs) ∧ Rvs G F κ vs l
  | _ => False
/-- nothing is tracked here but, it may be, a table -/
def Vt (H : Hp) (a : Addr) : Prop := ∀ o, H a = some o → ∃ ps, o = .tbl ps
theorem Vt.of {H : Hp} {a : Addr} (h : H a = none) : Vt H a := fun o e => by
  rw [h] at e
  cases e
theorem Vt.no {H : Hp} {a : Addr} {o : HO} (n : Vt H a) (e : H a = some o) (t : ∀ ps, o ≠ .tbl ps := by intro _ z; cases z) : False := by
  obtain ⟨ps, z⟩ := n o e
  exact t ps z
/-- a list -/
def Fm (o : HO) : Prop := ∃ vs, o = .lst vs
theorem Fm.nt {o : HO} (h : Fm o) : ∀ ps, o ≠ .tbl ps := fun ps z => by
  obtain ⟨vs, rfl⟩ := h
  cases z
/-- no list is tracked here -/
def Nol (H : Hp) (a : Addr) : Prop := ∀ o, H a = some o → ¬ Fm o
theorem Nol.of {H : Hp} {a : Addr} (h : H a = none) : Nol H a := fun o e => by
  rw [h] at e
  cases e
theorem Vt.w {H : Hp} {a : Addr} (n : Vt H a) : Nol H a := fun o e t => n.no e t.nt
/-- kept: all but the things that change and the tables -/
structure Kp (κ : List Addr) (H H' : Hp) : Prop where
  all : ∀ a o, H a = some o → a ∉ κ → (∀ ps, o ≠ .tbl ps) → H' a = some o
  cel : ∀ a o, H a = some o → a ∈ κ → (∀ ps, o ≠ .tbl ps) → ∃ o', H' a = some o' ∧ (∀ ps, o' ≠ .tbl ps) ∧ (Fm o → Fm o')
theorem Kp.refl (κ : List Addr) (H : Hp) : Kp κ H H := ⟨fun _ _ h _ _ => h, fun _ o h _ t => ⟨o, h, t, id⟩⟩
theorem Kp.back {κ : List Addr} {H H' : Hp} (k : Kp κ H H') {a : Addr} (h : Vt H' a) : Vt H a := fun o e => by
  by_cases t : ∃ ps, o = .tbl ps
  · exact t
  · have t' : ∀ ps, o ≠ .tbl ps := fun ps q => t ⟨ps, q⟩
    by_cases m : a ∈ κ
    · obtain ⟨o', z, z2, _⟩ := k.cel a o e m t'
      exact (h.no z z2).elim
    · exact (h.no (k.all a o e m t') t').elim
theorem Kp.backW {κ : List Addr} {H H' : Hp} (k : Kp κ H H') {a : Addr} (h : Nol H' a) : Nol H a := fun o e t => by
  by_cases m : a ∈ κ
  · obtain ⟨o', z, z2, z3⟩ := k.cel a o e m t.nt
    exact h o' z (z3 t)
  · exact h o (k.all a o e m t.nt) t
/-- from one state to a later one -/
structure Go (F : Fz) (κ : List Addr) (H : Hp) (F' : Fz) (κ' : List Addr) (H' : Hp) : Prop where
  ex : Ex F F'
  px : Px κ κ'
  kf : ∀ a ∈ κ', a ∈ κ ∨ Vt H a
  kp : Kp κ H H'
theorem Go.refl (F : Fz) (κ : List Addr) (H : Hp) : Go F κ H F κ H := ⟨Ex.refl F, Px.refl κ, fun _ h => .inl h, Kp.refl κ H⟩
theorem Go.trans {F F1 F2 : Fz} {κ κ1 κ2 : List Addr} {H H1 H2 : Hp} (a : Go F κ H F1 κ1 H1) (b : Go F1 κ1 H1 F2 κ2 H2) : Go F κ H F2 κ2 H2 := by
  refine ⟨a.ex.trans b.ex, a.px.trans b.px, fun x m => ?_, fun x o e m t => ?_, fun x o e m t => ?_⟩
  · rcases b.kf x m with z | z
    · exact a.kf x z
    · exact .inr (a.kp.back z)
  · refine b.kp.all x o (a.kp.all x o e m t) (fun z => ?_) t
    rcases a.kf x z with w | w
    · exact m w
    · exact w.no e t
  · obtain ⟨o', z, z2, z3⟩ := a.kp.cel x o e m t
    obtain ⟨o2, w, w2, w3⟩ := b.kp.cel x o' z (a.px.mem m) z2
    exact ⟨o2, w, w2, fun q => w3 (z3 q)⟩

/-- what stands: frozen trees, things that change, the tables -/
structure RM (K : PySem.W.Frag) (G : Gb) (F : Fz) (κ : List Addr) (M : Mem) (H : Hp) : Prop where
  fz : ∀ a d, F a = some d → Shape G F κ H a d
  len : κ.length = M.length
  nd : κ.Nodup
  co : ∀ (n : Nat) (a : Addr) (c : Co), κ[n]? = some a → M[n]? = some c → F a = none ∧ CoAt G F κ H a c
  tb : LamX.Tabs G.T H
  scr : SqL K H G.sa (G.ns.map V.int)
  scn : G.sa ∉ κ ∨ ∀ H, SqL K H G.sa (G.ns.map V.int)
section
variable {K : PySem.W.Frag} {G : Gb} {F F' : Fz} {κ κ' : List Addr} {M M' : Mem} {H H' : Hp}
theorem Shape.some {a : Addr} {d : D} (h : Shape G F κ H a d) : ∃ o, H a = some o ∧ ∀ ps, o ≠ .tbl ps := by
  cases d with
  | tup l => obtain ⟨vs, e, _⟩ := h; exact ⟨_, e, fun _ z => nomatch z⟩
  | lst l => obtain ⟨vs, e, _⟩ := h; exact ⟨_, e, fun _ z => nomatch z⟩
  | lam f l => obtain ⟨L, _, e⟩ := h; exact ⟨_, e, fun _ z => nomatch z⟩
  | ins c l => obtain ⟨C, dx, nfs, oe, vs, _, e, _⟩ := h; exact ⟨_, e, fun _ z => nomatch z⟩
  | dct l m => exact ⟨_, h.1, fun _ z => nomatch z⟩
  | _ => exact h.elim
theorem CoAt.some {a : Addr} {c : Co} (h : CoAt G F κ H a c) : ∃ o, H a = some o ∧ ∀ ps, o ≠ .tbl ps := by
  cases c with
  | lst l => obtain ⟨vs, e, _⟩ := h; exact ⟨_, e, fun _ z => nomatch z⟩
  | _ => exact h.elim
theorem RM.cell (R : RM K G F κ M H) {a : Addr} (m : a ∈ κ) : ∃ (n : Nat) (c : Co), κ[n]? = some a ∧ M[n]? = some c ∧ F a = none ∧ CoAt G F κ H a c := by
  obtain ⟨n, hn, e⟩ := List.mem_iff_getElem.mp m
  have q : κ[n]? = some a := by rw [List.getElem?_eq_getElem hn, e]
  have hm : n < M.length := by rw [← R.len]; exact hn
  obtain ⟨h1, h2⟩ := R.co n a M[n] q (List.getElem?_eq_getElem hm)
  exact ⟨n, _, q, List.getElem?_eq_getElem hm, h1, h2⟩
theorem RM.fnone (R : RM K G F κ M H) {a : Addr} (h : H a = none) : F a = none := by
  cases e : F a with
  | none => rfl
  | some d =>
    obtain ⟨o, q, _⟩ := (R.fz a d e).some
    rw [h] at q
    cases q
theorem RM.cnone (R : RM K G F κ M H) {a : Addr} (h : H a = none) : a ∉ κ := fun m => by
  obtain ⟨n, c, _, _, _, q⟩ := R.cell m
  obtain ⟨o, e, _⟩ := q.some
  rw [h] at e
  cases e
theorem RM.fcell (R : RM K G F κ M H) {a : Addr} {d : D} (e : F a = some d) : a ∉ κ := fun m => by
  obtain ⟨n, c, _, _, h, _⟩ := R.cell m
  rw [h] at e
  cases e
theorem RM.xdc (R : RM K G F κ M H) {b : Addr} {fs : List (Str × V)} (h : H b = some (.xd fs)) : b ∉ κ := fun m => by
  obtain ⟨n, c, _, _, _, q⟩ := R.cell m
  cases c with
  | lst l =>
    obtain ⟨vs, e, _⟩ := q
    rw [h] at e
    cases e
  | _ => exact q
theorem SqL.go {a : Addr} {xs : List V} (h : SqL K H a xs) (k : Kp κ H H') (n : a ∉ κ ∨ ∀ H, SqL K H a xs) : SqL K H' a xs := by
  rcases n with n | n
  rotate_left
  · exact n H'
  rcases h with (h | ⟨o, h⟩) | h
  · exact .inl (.inl (k.all _ _ h n fun _ z => nomatch z))
  · exact .inl (.inr ⟨o, k.all _ _ h n fun _ z => nomatch z⟩)
  · exact .inr h
theorem SqT.go {a : Addr} {xs : List V} (h : SqT K H a xs) (k : Kp κ H H') (n : a ∉ κ) : SqT K H' a xs := by
  rcases h with (h | ⟨o, h⟩) | h
  · exact .inl (.inl (k.all _ _ h n fun _ z => nomatch z))
  · exact .inl (.inr ⟨o, k.all _ _ h n fun _ z => nomatch z⟩)
  · exact .inr h
theorem Shape.go {a : Addr} {d : D} (h : Shape G F κ H a d) (e : Ex F F') (p : Px κ κ') (k : Kp κ H H') (n : a ∉ κ) (x : ∀ (b : Addr) (fs : List (Str × V)), H b = Option.some (HO.xd fs) → b ∉ κ) : Shape G F' κ' H' a d := by
  cases d with
  | tup l => obtain ⟨vs, q, r⟩ := h; exact ⟨vs, k.all _ _ q n (fun _ z => nomatch z), r.mono e p⟩
  | lst l => obtain ⟨vs, q, r⟩ := h; exact ⟨vs, k.all _ _ q n (fun _ z => nomatch z), r.mono e p⟩
  | lam f l => obtain ⟨L, q, r⟩ := h; exact ⟨L, q, k.all _ _ r n (fun _ z => nomatch z)⟩
  | dct l m => exact ⟨k.all _ _ h.1 n (fun _ z => nomatch z), h.2⟩
  | ins c l => obtain ⟨C, dx, nfs, oe, vs, q1, q2, q3, q4, q5, q6, q7, q8⟩ := h; exact ⟨C, dx, nfs, oe, vs, q1, k.all _ _ q2 n (fun _ z => nomatch z), q3, q4, q5, k.all _ _ q6 (x _ _ q6) (fun _ z => nomatch z), q7, q8.mono e p⟩
  | _ => exact h.elim
/-- a new object is tracked -/
theorem Kp.new {p : Addr} {o : HO} (h : H p = none) : Kp κ H (upd H p o) := by
  have ne : ∀ a u, H a = some u → a ≠ p := fun a u e z => by
    rw [z, h] at e
    cases e
  exact ⟨fun a u e _ _ => by rw [upd_ne (ne a u e)]; exact e, fun a u e _ t => ⟨u, by rw [upd_ne (ne a u e)]; exact e, t, id⟩⟩
theorem Go.new {p : Addr} {o : HO} (h : H p = none) : Go F κ H F κ (upd H p o) := ⟨Ex.refl F, Px.refl κ, fun _ m => .inl m, Kp.new h⟩
theorem CoAt.keep {a : Addr} {c : Co} (h : CoAt G F κ H a c) (e : Ex F F') (p : Px κ κ') (k : H' a = H a) : CoAt G F' κ' H' a c := by
  cases c with
  | lst l => obtain ⟨vs, q, r⟩ := h; exact ⟨vs, k.trans q, r.mono e p⟩
  | _ => exact h.elim
theorem RM.new (R : RM K G F κ M H) {p : Addr} {o : HO} (h : H p = none) (ho : ∀ ps, o ≠ .tbl ps := by intro _ z; cases z) : RM K G F κ M (upd H p o) := by
  have ne : ∀ a u, H a = some u → a ≠ p := fun a u e z => by
    rw [z, h] at e
    cases e
  refine ⟨fun a d e => (R.fz a d e).go (Ex.refl F) (Px.refl κ) (Kp.new h) (R.fcell e) fun b fs z => R.xdc z, R.len, R.nd, fun n a c e1 e2 => ?_, ?_, SqL.go R.scr (Kp.new h) R.scn, R.scn⟩
  · obtain ⟨q1, q2⟩ := R.co n a c e1 e2
    obtain ⟨u, q3, _⟩ := q2.some
    exact ⟨q1, q2.keep (Ex.refl F) (Px.refl κ) (upd_ne (ne a u q3))⟩
  · exact R.tb.ext fun b u e => by rw [upd_ne (ne b u e)]; exact e
/-- an object is frozen -/
theorem RM.freeze (R : RM K G F κ M H) {p : Addr} {d : D} (h : F p = none) (n : p ∉ κ) (s : Shape G (fput F p d) κ H p d) : RM K G (fput F p d) κ M H := by
  have e : Ex F (fput F p d) := Ex.put h
  refine ⟨fun a x q => ?_, R.len, R.nd, fun m a c e1 e2 => ?_, R.tb, R.scr, R.scn⟩
  · by_cases z : a = p
    · subst z
      rw [fput_same] at q
      cases q
      exact s
    · rw [fput_ne z] at q
      exact (R.fz a x q).go e (Px.refl κ) (Kp.refl κ H) (R.fcell q) fun b fs z => R.xdc z
  · obtain ⟨q1, q2⟩ := R.co m a c e1 e2
    refine ⟨?_, q2.keep e (Px.refl κ) rfl⟩
    rw [fput_ne]
    · exact q1
    · rintro rfl
      exact n (List.mem_of_getElem? e1)
end

/-- the lambda L at v, over the ground B: what its captured names hold -/
def LamAt (G : Gb) (F : Fz) (B : Heap) (L : LamI) (v : V) (cs : List V) : Prop :=
  ∃ (a : Addr) (cl : List (Str × Addr)) (pm : Value) (c' : Addr) (ctv : Value), v = .ref a ∧ B.get? a = some (PySem.W.kla_obj "<lambda>" L.qual L.params L.body L.scope cl pm c' ctv) ∧ (∃ f' l' L', F c' = some (.lam f' l') ∧ G.lam f' = some L' ∧ L'.qual = L.qual) ∧ cs.length = L.fr.length ∧
    (∀ y c, cl.lookup y = some c → ∃ v, B.IsCell c v) ∧ (∀ x y c, cl.lookup x = some c → cl.lookup y = some c → x = y) ∧
    ∀ (i : Nat) (y : Str), L.fr[i]? = some y → ∃ c u w, cl.lookup y = some c ∧ cs[i]? = some w ∧ RelV w u ∧ B.IsCell c (some u)
/-- a value that is a tree, or a lambda -/
def Rvl (G : Gb) (B : Heap) (F : Fz) (κ : List Addr) (v : V) : D → Prop
  | .lam f caps => ∃ L cs, G.lam f = some L ∧ LamAt G F B L v cs ∧ Rvs G F κ cs caps
  | d => Rv G F κ v d
section
variable {G : Gb} {B : Heap} {F F' : Fz} {κ κ' : List Addr}
theorem Rv.l {v : V} {d : D} (h : Rv G F κ v d) : Rvl G B F κ v d := by
  cases d with
  | lam f c => exact h.elim
  | _ => exact h
theorem Rvl.less {v : V} {d : D} (h : Rvl G B F κ v d) (n : lamless d = true) : Rv G F κ v d := by
  cases d with
  | lam f c => cases n
  | _ => exact h
theorem Rvl.mono {v : V} {d : D} (h : Rvl G B F κ v d) (e : Ex F F') (k : Px κ κ') : Rvl G B F' κ' v d := by
  cases d with
  | lam f c =>
    obtain ⟨L, cs, h1, ⟨a, cl, pm, c', ctv, q1, q2, ⟨f', l', L', q3, q4, q5⟩, q6⟩, h3⟩ := h
    exact ⟨L, cs, h1, ⟨a, cl, pm, c', ctv, q1, q2, ⟨f', l', L', e _ _ q3, q4, q5⟩, q6⟩, h3.mono e k⟩
  | _ => exact Rv.l (Rv.mono (Rvl.less h rfl) e k)
end
/-- a list as it stands: frozen, or lent -/
def Lw (K : PySem.W.Frag) (G : Gb) (F : Fz) (κ : List Addr) (H : Hp) (v : V) (l : List D) : Prop := ∃ a vs, v = .ref a ∧ H a = some (.lst vs) ∧ Rvs G F κ vs l ∧ a ∉ κ
/-- a value as it stands: a tree, or a list that is lent -/
def Bv (K : PySem.W.Frag) (G : Gb) (F : Fz) (κ : List Addr) (H : Hp) (v : V) : D → Prop
  | .lst l => Lw K G F κ H v l
  | d => Rv G F κ v d
theorem ints_rvs (G : Gb) (F : Fz) (κ : List Addr) : ∀ ns : List Int, Rvs G F κ (ns.map V.int) (ns.map D.int)
  | [] => .nil
  | n :: r => .cons (show Rv G F κ (V.int n) (.int n) from rfl) (ints_rvs G F κ r)
section
variable {K : PySem.W.Frag} {G : Gb} {F F' : Fz} {κ κ' : List Addr} {M : Mem} {H H' : Hp} {v : V} {d : D}
theorem Rv.b (h : Rv G F κ v d) (R : RM K G F κ M H) : Bv K G F κ H v d := by
  cases d with
  | lst l =>
    obtain ⟨a, rfl, e⟩ := h
    obtain ⟨vs, q, r⟩ := R.fz a _ e
    exact ⟨a, vs, rfl, q, r, R.fcell e⟩
  | _ => exact h
theorem Lw.go {l : List D} (h : Lw K G F κ H v l) (R : RM K G F κ M H) (g : Go F κ H F' κ' H') : Lw K G F' κ' H' v l := by
  obtain ⟨a, vs, e, q, r, c⟩ := h
  refine ⟨a, vs, e, g.kp.all _ _ q c (fun _ z => nomatch z), r.mono g.ex g.px, fun m => ?_⟩
  rcases g.kf a m with z | z
  · exact c z
  · exact z.no q
theorem Bv.go (h : Bv K G F κ H v d) (R : RM K G F κ M H) (g : Go F κ H F' κ' H') : Bv K G F' κ' H' v d := by
  cases d with
  | lst l => exact Lw.go h R g
  | non => exact Rv.mono (G := G) (d := .non) h g.ex g.px
  | bl b => exact Rv.mono (G := G) (d := .bl b) h g.ex g.px
  | int i => exact Rv.mono (G := G) (d := .int i) h g.ex g.px
  | str s => exact Rv.mono (G := G) (d := .str s) h g.ex g.px
  | tup l => exact Rv.mono (G := G) (d := .tup l) h g.ex g.px
  | dct l m => exact Rv.mono (G := G) (d := .dct l m) h g.ex g.px
  | set l => exact Rv.mono (G := G) (d := .set l) h g.ex g.px
  | ty t => exact Rv.mono (G := G) (d := .ty t) h g.ex g.px
  | fn f => exact Rv.mono (G := G) (d := .fn f) h g.ex g.px
  | cls c => exact Rv.mono (G := G) (d := .cls c) h g.ex g.px
  | lam f l => exact h.elim
  | ins c l => exact Rv.mono (G := G) (d := .ins c l) h g.ex g.px
  | cell n => exact Rv.mono (G := G) (d := .cell n) h g.ex g.px
  | scr => exact Rv.mono (G := G) (d := .scr) h g.ex g.px
end

/-- a list that is not the script's is written -/
theorem SqL.put {K : PySem.W.Frag} {H0 H : Hp} {a D : Addr} {xs : List V} {o : HO} (h0 : SqL K H0 a xs) (n : Vt H0 D) (h : SqL K H a xs) : SqL K (upd H D o) a xs := by
  have ne : ∀ {u}, H0 a = some u → (∀ ps, u ≠ .tbl ps) → a ≠ D := fun e t z => by
    subst z
    exact n.no e t
  rcases h0 with (z | ⟨u, z⟩) | z
  · rcases h with (y | ⟨w, y⟩) | y
    · exact .inl (.inl (by rw [upd_ne (ne z fun _ z => nomatch z)]; exact y))
    · exact .inl (.inr ⟨w, by rw [upd_ne (ne z fun _ z => nomatch z)]; exact y⟩)
    · exact .inr y
  · rcases h with (y | ⟨w, y⟩) | y
    · exact .inl (.inl (by rw [upd_ne (ne z fun _ z => nomatch z)]; exact y))
    · exact .inl (.inr ⟨w, by rw [upd_ne (ne z fun _ z => nomatch z)]; exact y⟩)
    · exact .inr y
  · exact .inr z

/-! ### a frame -/
/-- an item of the frame, at its slot -/
def EnAt (K : PySem.W.Frag) (G : Gb) (B : Heap) (F : Fz) (κ : List Addr) (H H0 : Hp) (x : Option (Option V)) : En → Prop
  | .un => True
  | .fz d => ∃ v, x = some (some v) ∧ Rvl G B F κ v d
  | .ow l => ∃ a vs, x = some (some (.ref a)) ∧ H a = some (.lst vs) ∧ Rvs G F κ vs l ∧ F a = none ∧ a ∉ κ ∧ Vt H0 a
  | .lk (.lst l) => ∃ a vs, x = some (some (.ref a)) ∧ H a = some (.lst vs) ∧ Rvs G F κ vs l ∧ a ∉ κ
  | _ => False
def own1 : En → Bool
  | .ow _ | .od _ _ => true
  | _ => false
def own2 : En → Bool
  | .ow _ | .od _ _ | .lk _ => true
  | _ => false
theorem own2_of {e : En} (h : own1 e = true) : own2 e = true := by cases e <;> first | rfl | cases h
/-- what is frozen anew is new -/
def Nf (F : Fz) (H : Hp) (F' : Fz) : Prop := ∀ a d, F' a = some d → F a = some d ∨ Nol H a
theorem Nf.refl (F : Fz) (H : Hp) : Nf F H F := fun _ _ h => .inl h
theorem Nf.trans {F F1 F2 : Fz} {κ κ1 : List Addr} {H H1 : Hp} (a : Nf F H F1) (g : Go F κ H F1 κ1 H1) (b : Nf F1 H1 F2) : Nf F H F2 := fun x d e => by
  rcases b x d e with z | z
  · exact a x d z
  · exact .inr (g.kp.backW z)
theorem Nf.keep {F F' : Fz} {H : Hp} {a : Addr} (n : Nf F H F') {o : HO} (h : H a = some o) (f : F a = none) (t : Fm o := by exact ⟨_, rfl⟩) : F' a = none := by
  cases e : F' a with
  | none => rfl
  | some d =>
    rcases n a d e with z | z
    · rw [f] at z
      cases z
    · exact (z _ h t).elim
/-- where the state stands in a body: F0, κ0, H0 at its entry -/
structure RS (K : PySem.W.Frag) (G : Gb) (B : Heap) (F0 : Fz) (κ0 : List Addr) (H0 : Hp) (gs : List Addr) (F : Fz) (κ : List Addr) (ρ : Ev) (M : Mem) (σ : L2.St) (H : Hp) : Prop where
  m : RM K G F κ M H
  go : Go F0 κ0 H0 F κ H
  nf : Nf F0 H0 F
  s0 : SqL K H0 G.sa (G.ns.map V.int)
  len : ρ.length = σ.length
  sl : ∀ (i : Nat) (e : En), ρ[i]? = some e → EnAt K G B F κ H H0 σ[i]? e
  own : ∀ (i j : Nat) (a : Addr) (e e' : En), ρ[i]? = some e → own1 e = true → σ[i]? = some (some (.ref a)) → ρ[j]? = some e' → own2 e' = true → σ[j]? = some (some (.ref a)) → i = j
  gh : ∀ a ∈ gs, F a = none ∧ a ∉ κ ∧ (∃ vs, H a = some (.lst vs)) ∧ Vt H0 a ∧ ∀ (j : Nat) (e : En), ρ[j]? = some e → own2 e = true → σ[j]? ≠ some (some (.ref a))
section
variable {K : PySem.W.Frag} {G : Gb} {B : Heap} {F0 F F' : Fz} {κ0 κ κ' : List Addr} {ρ : Ev} {M M' : Mem} {σ : L2.St} {H0 H H' : Hp} {gs : List Addr}
theorem EnAt.go {x : Option (Option V)} {e : En} (h : EnAt K G B F κ H H0 x e) (g : Go F κ H F' κ' H') (n : Nf F H F') : EnAt K G B F' κ' H' H0 x e := by
  have st : ∀ {a : Addr} {vs : List V}, H a = some (.lst vs) → a ∉ κ → H' a = some (.lst vs) ∧ a ∉ κ' := fun {a vs} q2 q5 => by
    refine ⟨g.kp.all _ _ q2 q5 (fun _ z => nomatch z), fun m => ?_⟩
    rcases g.kf a m with z | z
    · exact q5 z
    · exact z.no q2
  cases e with
  | un => trivial
  | fz d => obtain ⟨v, q, r⟩ := h; exact ⟨v, q, r.mono g.ex g.px⟩
  | ow l =>
    obtain ⟨a, vs, q1, q2, q3, q4, q5, q6⟩ := h
    exact ⟨a, vs, q1, (st q2 q5).1, q3.mono g.ex g.px, n.keep q2 q4, (st q2 q5).2, q6⟩
  | od _ _ => exact h.elim
  | lk d =>
    cases d with
    | lst l =>
      obtain ⟨a, vs, q1, q2, q3, q5⟩ := h
      exact ⟨a, vs, q1, (st q2 q5).1, q3.mono g.ex g.px, (st q2 q5).2⟩
    | _ => exact h.elim
/-- behind a step that froze nothing of the frame's own -/
theorem RS.step (R : RS K G B F0 κ0 H0 gs F κ ρ M σ H) (g : Go F κ H F' κ' H') (m : RM K G F' κ' M' H') (n : Nf F H F') : RS K G B F0 κ0 H0 gs F' κ' ρ M' σ H' :=
  ⟨m, R.go.trans g, R.nf.trans R.go n, R.s0, R.len, fun i e q => (R.sl i e q).go g n, R.own, fun a ha => by
    obtain ⟨h1, h2, ⟨vs, h3⟩, h4, h5⟩ := R.gh a ha
    refine ⟨n.keep h3 h1, fun z => ?_, ⟨vs, g.kp.all _ _ h3 h2 (fun _ z => nomatch z)⟩, h4, h5⟩
    rcases g.kf a z with w | w
    · exact h2 w
    · exact w.no h3⟩
/-- a new object -/
theorem RS.new (R : RS K G B F0 κ0 H0 gs F κ ρ M σ H) {p : Addr} {o : HO} (h : H p = none) (ho : ∀ ps, o ≠ .tbl ps := by intro _ z; cases z) : RS K G B F0 κ0 H0 gs F κ ρ M σ (upd H p o) :=
  R.step (Go.new h) (R.m.new h ho) (Nf.refl F H)
theorem Nf.put {p : Addr} {d : D} (h : H p = none) : Nf F H (fput F p d) := fun a e q => by
  by_cases z : a = p
  · subst z
    exact .inr (.of h)
  · rw [fput_ne z] at q
    exact .inl q
/-- a new tree: its object, frozen at once -/
theorem RS.tree (R : RS K G B F0 κ0 H0 gs F κ ρ M σ H) {p : Addr} {o : HO} {d : D} (h : H p = none) (s : ∀ F', Ex F F' → Shape G F' κ (upd H p o) p d) (ho : ∀ ps, o ≠ .tbl ps := by intro _ z; cases z) :
    Go F κ H (fput F p d) κ (upd H p o) ∧ RS K G B F0 κ0 H0 gs (fput F p d) κ ρ M σ (upd H p o) := by
  have fn := R.m.fnone h
  have ex : Ex F (fput F p d) := Ex.put fn
  have g : Go F κ H (fput F p d) κ (upd H p o) := ⟨ex, Px.refl κ, fun _ m => .inl m, Kp.new h⟩
  exact ⟨g, R.step g ((R.m.new h ho).freeze fn (R.m.cnone h) (s _ ex)) (Nf.put h)⟩
end
end DV
end
section
set_option Elab.async false
set_option linter.all false
set_option maxRecDepth 100000
set_option maxHeartbeats 1000000
/-! DV2: what the evaluator says, as readings of the hand layer. -/
namespace DV
open PySem PySem.Spec PyProof.Rows L2

/-- an error of the text in the air: its class, its own dict -/
def XAt (G : Gb) (F : Fz) (κ : List Addr) (H : Hp) (cls : Value) (dx : Option Addr) : D → Prop
  | .ins c fs => ∃ a x nfs, G.ca c = some a ∧ cls = .ref a ∧ dx = some x ∧ H x = some (.xd nfs) ∧ (nfs.map (·.1) = G.fld c ∧ nfs ≠ []) ∧ Rvs G F κ (nfs.map (·.2)) fs
  | _ => False

/-- the frame of a body, its entry, the wish about errors -/
structure Fr0 where
  K : PySem.W.Frag
  G : Gb
  B : Heap
  F0 : Fz
  κ0 : List Addr
  H0 : Hp
  gs : List Addr := []
  W : L2.WX
abbrev Fr0.RS (f : Fr0) := DV.RS f.K f.G f.B f.F0 f.κ0 f.H0 f.gs

/-- behind an evaluation -/
def Aft (f : Fr0) (F : Fz) (κ : List Addr) (H : Hp) (σ : L2.St) {α : Type} (Qk : Fz → List Addr → Ev → Mem → Hp → α → Prop) : R α → Prop
  | some (.ok d ρ' M') => ∀ F' κ' H', Go F κ H F' κ' H' → f.RS F' κ' ρ' M' σ H' → Qk F' κ' ρ' M' H' d
  | some (.exc x ρ' M') => ∀ F' κ' H' cls dx, Go F κ H F' κ' H' → f.RS F' κ' ρ' M' σ H' → XAt f.G F' κ' H' cls dx x → f.W cls dx σ H'
  | none => False
theorem Aft.bind {f : Fr0} {F : Fz} {κ : List Addr} {H : Hp} {σ : L2.St} {α β : Type} {Qk : Fz → List Addr → Ev → Mem → Hp → β → Prop} {x : R α} {k : α → Ev → Mem → R β}
    (h : Aft f F κ H σ Qk (x.bind k)) : Aft f F κ H σ (fun F' κ' ρ' M' H' d => f.RS F' κ' ρ' M' σ H' ∧ Aft f F' κ' H' σ Qk (k d ρ' M')) x := by
  cases x with
  | none => exact h
  | some o =>
    cases o with
    | ok d ρ' M' =>
      intro F' κ' H' g R
      refine ⟨R, ?_⟩
      have h : Aft f F κ H σ Qk (k d ρ' M') := h
      cases e : k d ρ' M' with
      | none => rw [e] at h; exact h
      | some o =>
        rw [e] at h
        cases o with
        | ok d2 ρ2 M2 => exact fun F2 κ2 H2 g2 R2 => h F2 κ2 H2 (g.trans g2) R2
        | exc x2 ρ2 M2 => exact fun F2 κ2 H2 cls dx g2 R2 X2 => h F2 κ2 H2 cls dx (g.trans g2) R2 X2
    | exc x ρ' M' => exact h
theorem Aft.imp {f : Fr0} {F : Fz} {κ : List Addr} {H : Hp} {σ : L2.St} {α : Type} {Q1 Q2 : Fz → List Addr → Ev → Mem → Hp → α → Prop} {x : R α}
    (h : Aft f F κ H σ Q1 x) (q : ∀ F' κ' ρ' M' H' d, Go F κ H F' κ' H' → f.RS F' κ' ρ' M' σ H' → Q1 F' κ' ρ' M' H' d → Q2 F' κ' ρ' M' H' d) : Aft f F κ H σ Q2 x := by
  cases x with
  | none => exact h
  | some o =>
    cases o with
    | ok d ρ' M' => exact fun F' κ' H' g R => q F' κ' ρ' M' H' d g R (h F' κ' H' g R)
    | exc x ρ' M' => exact h
/-- nothing happens: the state as it is -/
theorem Aft.here {f : Fr0} {F : Fz} {κ : List Addr} {H : Hp} {σ : L2.St} {ρ : Ev} {M : Mem} {α : Type} {Qk : Fz → List Addr → Ev → Mem → Hp → α → Prop} {d : α}
    (h : Aft f F κ H σ Qk (okE ρ M d)) (R : f.RS F κ ρ M σ H) : Qk F κ ρ M H d := h F κ H (Go.refl F κ H) R

/-- how a value stands, by the way it is wanted -/
def Rel (f : Fr0) : Md → Fz → List Addr → Hp → V → D → Prop
  | .v, F, κ, _, v, d => Rvl f.G f.B F κ v d
  | _, F, κ, H, v, d => Bv f.K f.G F κ H v d
/-- a value that was just made: a list is not yet frozen -/
def Nw (f : Fr0) (F : Fz) (κ : List Addr) (ρ : Ev) (σ : L2.St) (H : Hp) (v : V) : D → Prop
  | .lst l => ∃ a vs, v = .ref a ∧ H a = some (.lst vs) ∧ Rvs f.G F κ vs l ∧ F a = none ∧ a ∉ κ ∧ Vt f.H0 a ∧ (∀ (j : Nat) (e : En), ρ[j]? = some e → own2 e = true → σ[j]? ≠ some (some (.ref a))) ∧ a ∉ f.gs
  | d => Rv f.G F κ v d
def RelQ (f : Fr0) : Md → Fz → List Addr → Ev → L2.St → Hp → V → D → Prop
  | .v, F, κ, _, _, _, v, d => Rvl f.G f.B F κ v d
  | .n, F, κ, ρ, σ, H, v, d => Nw f F κ ρ σ H v d
  | _, F, κ, _, _, H, v, d => Bv f.K f.G F κ H v d
/-- the reading of an expression -/
def dE (f : Fr0) (m : Md) (x : Ev → Mem → R D) : TE := fun σ H Q => ∃ F κ ρ M, f.RS F κ ρ M σ H ∧ Aft f F κ H σ (fun F' κ' ρ' M' H' d => ∀ v, RelQ f m F' κ' ρ' σ H' v d → Q v H') (x ρ M)
/-- the reading of a test -/
def dT (f : Fr0) (x : Ev → Mem → R D) : TT := fun σ H Q => ∃ F κ ρ M, f.RS F κ ρ M σ H ∧ Aft f F κ H σ (fun F' κ' ρ' M' H' d => ∃ b, d = .bl b ∧ Q b H') (x ρ M)
/-- the reading of a row of expressions -/
def dA (f : Fr0) (m : Md) (x : Ev → Mem → R (List D)) : TA := fun σ H Q => ∃ F κ ρ M, f.RS F κ ρ M σ H ∧ Aft f F κ H σ (fun F' κ' ρ' M' H' ds => ∀ vs, Paired (Rel f m F' κ' H') vs ds → Q vs H') (x ρ M)

/-! ### what is known where a body is read -/
/-- how a call looks: the entry, its name, the positional arguments, the keywords, the defaults that fill up -/
structure Shp where
  i : Nat
  x : Str
  p : Nat
  ks : List Str
  dd : List D
  pm : List Nat := []
/-- keywords in the parameters' order -/
def permV {α : Type} : List Nat → List α → List α
  | [], ws => ws
  | i :: is, ws => (i :: is).filterMap fun j => ws[j]?
theorem permV_nil {α : Type} : ∀ pm : List Nat, permV pm ([] : List α) = []
  | [] => rfl
  | i :: is => by
    have : ∀ l : List Nat, (l.filterMap fun j => ([] : List α)[j]?) = [] := fun l => by
      induction l with
      | nil => rfl
      | cons a l ih => rw [List.filterMap_cons]; exact ih
    exact this (i :: is)
structure Ct where
  sc : Scope
  N : List Str
  fnm : List Str
  cnm : List Str
  cst : List (Str × D)
  bi : List Str
  fnb : Str → Bool
  shp : List Shp
  maker : Bool := false
  qual : Str := ""
  lam : Nat → Option LamI := fun _ => none
  ers : List (Nat × Str) := []
  cat : List Nat := []
  cls : Cls := []
  fl : List (List Nat) := []
  anm : List Str := []
/-- plain data that needs no object -/
def atom : D → Option V
  | .non => some .non
  | .bl b => some (.bl b)
  | .int i => some (.int i)
  | .str s => some (.str (toStr s))
  | .ty t => some (.ty (tyName t))
  | _ => none
theorem atom_rv {G : Gb} {F : Fz} {κ : List Addr} {d : D} {v : V} (h : atom d = some v) : Rv G F κ v d := by
  cases d <;> simp only [atom, Option.some.injEq, reduceCtorEq] at h <;> subst h <;> rfl
/-- what a def must have that makes lambdas -/
structure Mk (f : Fr0) (X : Cx) : Prop where
  ex : ∃ cc P, X.env.code = .ref cc ∧ LamX.TabB X.base X.mg cc P ∧ (P, X.env.qual ++ "<lambda>") ∈ f.G.T ∧ ∀ p ∈ f.G.T, p.1 = P → p.2 = X.env.qual ++ "<lambda>"
/-- what is known of the errors' classes: those that are raised, by number, with their field -/
structure Ek (G : Gb) (ers : List (Nat × Str)) (cat : List Nat) (cls : Cls) (fl : List (List Nat)) (anm : List Str) (P : Program) (K : PySem.W.Frag) (mg : Str → Option Value) : Prop where
  sup : ers ≠ [] → mg "super" = none
  er : ∀ k x, (k, x) ∈ ers → ∃ C, G.ca k = some C ∧ PySem.DVE.ErT P K C x ∧ G.fld k = [x]
  ea : ∀ k C x, G.ca k = some C → x ∈ G.fld k → PySem.DVE.ErA K C x
  fl : ∀ k, G.fld k = (fl.getD k []).map fun j => anm.getD j ""
  nd : anm.Nodup
  exm : ∀ k j C D, G.fld k ≠ [] → j ∈ cat → G.ca k = some C → G.ca j = some D → PySem.W.exmOne K (.ref C) (.ref D) = some (below cls k j)
  isi : ∀ k j C D, G.fld k ≠ [] → G.ca k = some C → G.ca j = some D → PySem.DVE.ErI K C ∧ PySem.W.kitOne K (.ref C) (.ref D) = some (below cls k j)
structure GX (f : Fr0) (c : Ct) (X : Cx) : Prop where
  K : X.K = f.K
  B : X.base = f.B
  sc : X.env.scope = c.sc
  N : X.N = c.N
  nd : X.N.Nodup
  calm : X.calm = true
  gd : X.A.guards = some []
  fa : ∀ (i : Nat) (x : Str), c.fnm[i]? = some x → x ≠ "" → ∃ a, f.G.fa i = some a ∧ X.mg x = some (.ref a) ∧ PySem.W.keepIn X.K (.ref a) = true
  ca : ∀ (i : Nat) (x : Str), c.cnm[i]? = some x → ∃ a, f.G.ca i = some a ∧ X.mg x = some (.ref a)
  cst : ∀ (x : Str) (d : D), (x, d) ∈ c.cst → ∃ v u, atom d = some v ∧ X.mg x = some u ∧ RelV v u
  bi : ∀ x ∈ c.bi, X.mg x = none
  takes : L2.Takes X f.W
  fn : ∀ x, c.fnb x = true → X.fn x = true
  un : X.A.units + 64 < cLine
  lam : c.lam = f.G.lam
  ek : Ek f.G c.ers c.cat c.cls c.fl c.anm X.prog X.K X.mg
  mkr : c.maker = true → Mk f X ∧ X.env.qual = c.qual ∧ ∀ x, X.fn x = true
end DV
end
section
set_option Elab.async false
set_option linter.all false
set_option maxRecDepth 100000
set_option maxHeartbeats 1000000
/-! DV3: expressions, node by node. -/
namespace DV
open PySem PySem.Spec PyProof.Rows L2

theorem PE.imp {X : Cx} {e : Expr} {t t' : TE} (h : PE X e t) (k : ∀ σ H Q, t' σ H Q → t σ H Q) : PE X e t' := ⟨fun pins s σ H Q I q => h.run pins s σ H Q I (k σ H Q q)⟩
theorem PT.imp {X : Cx} {e : Expr} {t t' : TT} (h : PT X e t) (k : ∀ σ H Q, t' σ H Q → t σ H Q) : PT X e t' := ⟨fun pins s σ H Q I q => h.run pins s σ H Q I (k σ H Q q)⟩
theorem PW.imp {X : Cx} {e : Expr} {t t' : TT} (h : PW X e t) (k : ∀ σ H Q, t' σ H Q → t σ H Q) : PW X e t' := ⟨fun wh pins s σ H Q I q => h.run wh pins s σ H Q I (k σ H Q q)⟩
theorem PA.imp {X : Cx} {e : List Expr} {t t' : TA} (h : PA X e t) (k : ∀ σ H Q, t' σ H Q → t σ H Q) : PA X e t' := ⟨fun p pins s σ H Q I q => h.run p pins s σ H Q I (k σ H Q q)⟩

section
variable {K : PySem.W.Frag} {G : Gb} {B : Heap} {F0 F F' : Fz} {κ0 κ κ' : List Addr} {ρ : Ev} {M M' : Mem} {σ : L2.St} {H0 H H' : Hp} {gs : List Addr}
theorem get_set {α : Type} {l : List α} {i j : Nat} {a b : α} (h : (l.set i a)[j]? = some b) : (i = j ∧ b = a) ∨ (i ≠ j ∧ l[j]? = some b) := by
  by_cases e : i = j
  · subst e
    by_cases q : i < l.length
    · rw [List.getElem?_set_self q] at h
      cases h
      exact .inl ⟨rfl, rfl⟩
    · rw [List.getElem?_eq_none (by rw [List.length_set]; omega)] at h
      cases h
  · rw [List.getElem?_set_ne e] at h
    exact .inr ⟨e, h⟩
/-- a list of the frame's own is given away -/
theorem RS.take (R : DV.RS K G B F0 κ0 H0 gs F κ ρ M σ H) {i : Nat} {l : List D} (h : ρ[i]? = some (.ow l)) :
    ∃ a, σ[i]? = some (some (.ref a)) ∧ Go F κ H (fput F a (.lst l)) κ H ∧ DV.RS K G B F0 κ0 H0 gs (fput F a (.lst l)) κ (ρ.set i (.fz (.lst l))) M σ H := by
  obtain ⟨a, vs, q1, q2, q3, q4, q5, q6⟩ := R.sl i _ h
  have ex : Ex F (fput F a (.lst l)) := Ex.put q4
  have g : Go F κ H (fput F a (.lst l)) κ H := ⟨ex, Px.refl κ, fun _ m => .inl m, Kp.refl κ H⟩
  refine ⟨a, q1, g, (R.m.freeze q4 q5 ⟨vs, q2, q3.mono ex (Px.refl κ)⟩), R.go.trans g, fun b x e => ?_, ?_, by rw [List.length_set]; exact R.len, fun j e hj => ?_, fun j k b e e' h1 h2 h3 h4 h5 h6 => ?_, fun b hb => ?_⟩
  · by_cases z : b = a
    · subst z
      exact .inr q6.w
    · rw [fput_ne z] at e
      exact R.nf b x e
  · exact R.s0
  · rcases get_set hj with ⟨rfl, rfl⟩ | ⟨ne, hj⟩
    · exact ⟨_, q1, ⟨a, rfl, fput_same⟩⟩
    · have z := R.sl j e hj
      cases e with
      | un => trivial
      | fz d => obtain ⟨v, w1, w2⟩ := z; exact ⟨v, w1, w2.mono ex (Px.refl κ)⟩
      | ow k =>
        obtain ⟨b, ws, w1, w2, w3, w4, w5, w6⟩ := z
        refine ⟨b, ws, w1, w2, w3.mono ex (Px.refl κ), ?_, w5, w6⟩
        rw [fput_ne]
        · exact w4
        · rintro rfl
          exact ne (R.own i j b _ _ h rfl q1 hj rfl w1)
      | od _ _ => exact z.elim
      | lk d =>
        cases d with
        | lst k =>
          obtain ⟨b, ws, w1, w2, w3, w5⟩ := z
          exact ⟨b, ws, w1, w2, w3.mono ex (Px.refl κ), w5⟩
        | _ => exact z.elim
  · rcases get_set h1 with ⟨rfl, rfl⟩ | ⟨n1, h1⟩
    · cases h2
    · rcases get_set h4 with ⟨rfl, rfl⟩ | ⟨n2, h4⟩
      · cases h5
      · exact R.own j k b e e' h1 h2 h3 h4 h5 h6
  · obtain ⟨y1, y2, y3, y4, y5⟩ := R.gh b hb
    refine ⟨?_, y2, y3, y4, fun j e hj he => ?_⟩
    · rw [fput_ne]
      · exact y1
      · rintro rfl
        exact y5 i _ h rfl q1
    · rcases get_set hj with ⟨rfl, rfl⟩ | ⟨ne, hj⟩
      · cases he
      · exact y5 j e hj he
/-- a name gets a value -/
theorem RS.put (R : DV.RS K G B F0 κ0 H0 gs F κ ρ M σ H) {i : Nat} {v : V} {d : D} (h : Rvl G B F κ v d) : DV.RS K G B F0 κ0 H0 gs F κ (ρ.set i (.fz d)) M (σ.set i (some v)) H := by
  refine ⟨R.m, R.go, R.nf, R.s0, by rw [List.length_set, List.length_set]; exact R.len, fun j e hj => ?_, fun j k b e e' h1 h2 h3 h4 h5 h6 => ?_, fun b hb => ?_⟩
  · rcases get_set hj with ⟨rfl, rfl⟩ | ⟨ne, hj⟩
    · have hi : i < σ.length := by
        rw [← R.len]
        have := (List.getElem?_eq_some_iff.mp hj).1
        rw [List.length_set] at this
        exact this
      exact ⟨v, List.getElem?_set_self hi, h⟩
    · rw [List.getElem?_set_ne ne]
      exact R.sl j e hj
  · rcases get_set h1 with ⟨rfl, rfl⟩ | ⟨n1, h1⟩
    · cases h2
    · rcases get_set h4 with ⟨rfl, rfl⟩ | ⟨n2, h4⟩
      · cases h5
      · rw [List.getElem?_set_ne n1] at h3
        rw [List.getElem?_set_ne n2] at h6
        exact R.own j k b e e' h1 h2 h3 h4 h5 h6
  · obtain ⟨y1, y2, y3, y4, y5⟩ := R.gh b hb
    refine ⟨y1, y2, y3, y4, fun j e hj he => ?_⟩
    rcases get_set hj with ⟨rfl, rfl⟩ | ⟨ne, hj⟩
    · cases he
    · rw [List.getElem?_set_ne ne]
      exact y5 j e hj he
end

section
variable {f : Fr0} {c : Ct} {X : Cx} {g : Cfg} {φ : Phi}
theorem Aft.none {F : Fz} {κ : List Addr} {H : Hp} {σ : L2.St} {α : Type} {Qk : Fz → List Addr → Ev → Mem → Hp → α → Prop} {x : R α} (h : Aft f F κ H σ Qk x) (e : x = none) : False := by
  rw [e] at h
  exact h
theorem s_varV (G : GX f c X) {i : Nat} {x : Str} {pos : Pos} (hN : c.N[i]? = some x) (hv : Vis c.sc x) (hd : (x == ("__debug__" : Str)) = false) (hcd : (x == ("__classdict__" : Str)) = false) :
    PE X (.Name x pos) (dE f .v (ev g φ .v (.var i))) := by
  refine PE.imp (pe_var (i := i) (by rw [G.N]; exact hN) (by rw [G.sc]; exact hv) hd hcd) fun σ H Q ⟨F, κ, ρ, M, R, h⟩ => ?_
  simp only [ev] at h
  unfold takeD at h
  cases e : ρ[i]? with
  | none => rw [e] at h; exact h.elim
  | some en =>
    rw [e] at h
    cases en with
    | fz d =>
      obtain ⟨v, q, r⟩ := R.sl i _ e
      exact ⟨v, q, Aft.here h R v r⟩
    | ow l =>
      obtain ⟨a, q, gg, R'⟩ := RS.take R e
      exact ⟨_, q, h _ _ _ gg R' _ ⟨a, rfl, fput_same⟩⟩
    | od ks vs => exact (R.sl i _ e).elim
    | un => exact h.elim
    | lk d => exact h.elim
/-- a name that is lent -/
theorem view_at {F0 F : Fz} {κ0 κ : List Addr} {ρ : Ev} {M : Mem} {σ : L2.St} {H0 H : Hp} {K : PySem.W.Frag} {G : Gb} {B : Heap} {gs : List Addr} (R : DV.RS K G B F0 κ0 H0 gs F κ ρ M σ H) {i : Nat} {d : D} (e : viewD ρ i = some d) (l : lamless d = true) :
    ∃ v, σ[i]? = some (some v) ∧ Bv K G F κ H v d := by
  unfold viewD at e
  cases q : ρ[i]? with
  | none => rw [q] at e; cases e
  | some en =>
    rw [q] at e
    have z := R.sl i _ q
    cases en with
    | fz d' =>
      cases e
      obtain ⟨v, q1, r⟩ := z
      exact ⟨v, q1, (r.less l).b R.m⟩
    | ow l => cases e; obtain ⟨a, vs, q1, q2, q3, q4, q5, q6⟩ := z; exact ⟨_, q1, a, vs, rfl, q2, q3, q5⟩
    | od ks vs => exact z.elim
    | un => cases e
    | lk d' =>
      cases e
      cases d with
      | lst l => obtain ⟨a, vs, q1, q2, q3, q5⟩ := z; exact ⟨_, q1, a, vs, rfl, q2, q3, q5⟩
      | _ => exact z.elim
theorem s_varB (G : GX f c X) {i : Nat} {x : Str} {pos : Pos} (hN : c.N[i]? = some x) (hv : Vis c.sc x) (hd : (x == ("__debug__" : Str)) = false) (hcd : (x == ("__classdict__" : Str)) = false) :
    PE X (.Name x pos) (dE f .b (ev g φ .b (.var i))) := by
  refine PE.imp (pe_var (i := i) (by rw [G.N]; exact hN) (by rw [G.sc]; exact hv) hd hcd) fun σ H Q ⟨F, κ, ρ, M, R, h⟩ => ?_
  simp only [ev] at h
  cases e : viewD ρ i with
  | none => rw [e] at h; exact h.elim
  | some d =>
    rw [e] at h
    by_cases l : lamless d = true
    · simp only [l, if_true, fin] at h
      obtain ⟨v, q, r⟩ := view_at R e l
      exact ⟨v, q, Aft.here h R v r⟩
    · simp only [l] at h
      exact h.elim
theorem s_atom (G : GX f c X) {d : D} {v : V} {x : Expr} (ha : atom d = some v) (hx : PE X x (tC v)) (m : Md) (hm : m = .v ∨ m = .b) : PE X x (dE f m (ev g φ m (.lit d))) := by
  refine PE.imp hx fun σ H Q ⟨F, κ, ρ, M, R, h⟩ => ?_
  have q : Rv f.G F κ v d := atom_rv ha
  rcases hm with rfl | rfl
  · have h' : Aft f F κ H σ (fun F' κ' ρ' M' H' d => ∀ v, RelQ f .v F' κ' ρ' σ H' v d → Q v H') (okE ρ M d) := by simpa only [ev, fin] using h
    exact Aft.here h' R v q.l
  · have h' : Aft f F κ H σ (fun F' κ' ρ' M' H' d => ∀ v, RelQ f .b F' κ' ρ' σ H' v d → Q v H') (okE ρ M d) := by simpa only [ev, fin] using h
    exact Aft.here h' R v (q.b R.m)
end
end DV
end
section
set_option Elab.async false
set_option linter.all false
set_option maxRecDepth 100000
set_option maxHeartbeats 1000000
/-! DV4: plain data: ==, repr. -/
namespace DV
open PySem PySem.Spec PyProof.Rows L2 PySem.SeqAt

mutual
theorem eq_py : ∀ (a b : D), D.plain a = true → D.plain b = true → PyData.eqv (toPy a) (toPy b) = D.eq a b
  | .non, b, _, h => by cases b <;> simp_all [toPy, PyData.eqv, D.eq, D.plain]
  | .bl x, b, _, h => by cases b <;> simp_all [toPy, PyData.eqv, D.eq, D.plain]
  | .int x, b, _, h => by cases b <;> simp_all [toPy, PyData.eqv, D.eq, D.plain]
  | .str x, b, _, h => by
    cases b with
    | str y =>
      simp only [toPy, PyData.eqv, D.eq]
      by_cases e : x = y
      · subst e; simp
      · have e1 : (x == y) = false := by simpa using e
        rw [e1, beq_eq_false_iff_ne]
        intro q
        exact e (congrArg (fun z : Str => z.cps.toList) q)
    | _ => simp_all [toPy, PyData.eqv, D.eq, D.plain]
  | .tup x, b, ha, hb => by
    cases b with
    | tup y =>
      simp only [toPy, PyData.eqv, D.eq]
      exact eqs_py x y (by simpa [D.plain] using ha) (by simpa [D.plain] using hb)
    | _ => simp_all [toPy, PyData.eqv, D.eq, D.plain]
  | .lst x, b, ha, hb => by
    cases b with
    | lst y =>
      simp only [toPy, PyData.eqv, D.eq]
      exact eqs_py x y (by simpa [D.plain] using ha) (by simpa [D.plain] using hb)
    | _ => simp_all [toPy, PyData.eqv, D.eq, D.plain]
  | .dct _ _, _, h, _ => by simp [D.plain] at h
  | .set _, _, h, _ => by simp [D.plain] at h
  | .ty _, _, h, _ => by simp [D.plain] at h
  | .fn _, _, h, _ => by simp [D.plain] at h
  | .cls _, _, h, _ => by simp [D.plain] at h
  | .lam _ _, _, h, _ => by simp [D.plain] at h
  | .ins _ _, _, h, _ => by simp [D.plain] at h
  | .cell _, _, h, _ => by simp [D.plain] at h
  | .scr, _, h, _ => by simp [D.plain] at h
theorem eqs_py : ∀ (a b : List D), D.plains a = true → D.plains b = true → PyData.eqvAll (toPys a) (toPys b) = D.eqs a b
  | [], b, _, _ => by cases b <;> simp [toPys, PyData.eqvAll, D.eqs]
  | x :: a, [], _, _ => by simp [toPys, PyData.eqvAll, D.eqs]
  | x :: a, y :: b, ha, hb => by
    simp only [D.plains, Bool.and_eq_true] at ha hb
    simp only [toPys, PyData.eqvAll, D.eqs]
    rw [eq_py x y ha.1 hb.1, eqs_py a b ha.2 hb.2]
end
mutual
theorem lay_py : ∀ d : D, D.plain d = true → (toPy d).canLay0 = true
  | .non, _ | .bl _, _ | .int _, _ => by simp [toPy, PyData.canLay0]
  | .str s, h => by
    simp only [D.plain, List.all_eq_true, decide_eq_true_eq] at h
    simp only [toPy, PyData.canLay0, PyData.strOk, Array.all_eq_true]
    intro i hi
    have hm : s.toArray[i] ∈ s := by simp
    have := h _ hm
    simp only [decide_eq_true_eq]
    omega
  | .tup l, h => by simp only [toPy, PyData.canLay0]; exact lays_py l (by simpa [D.plain] using h)
  | .lst l, h => by simp only [toPy, PyData.canLay0]; exact lays_py l (by simpa [D.plain] using h)
  | .dct _ _, h => by simp [D.plain] at h
  | .set _, h => by simp [D.plain] at h
  | .ty _, h => by simp [D.plain] at h
  | .fn _, h => by simp [D.plain] at h
  | .cls _, h => by simp [D.plain] at h
  | .lam _ _, h => by simp [D.plain] at h
  | .ins _ _, h => by simp [D.plain] at h
  | .cell _, h => by simp [D.plain] at h
  | .scr, h => by simp [D.plain] at h
theorem lays_py : ∀ l : List D, D.plains l = true → PyData.canLayAll0 (toPys l) = true
  | [], _ => by simp [toPys, PyData.canLayAll0]
  | x :: l, h => by
    simp only [D.plains, Bool.and_eq_true] at h
    simp only [toPys, PyData.canLayAll0, Bool.and_eq_true]
    exact ⟨lay_py x h.1, lays_py l h.2⟩
end
mutual
theorem dep_py : ∀ d : D, (toPy d).depth = D.dep d
  | .tup l => by simp only [toPy, PyData.depth, D.dep]; rw [deps_py l]
  | .lst l => by simp only [toPy, PyData.depth, D.dep]; rw [deps_py l]
  | .non | .bl _ | .int _ | .str _ | .dct _ _ | .set _ | .ty _ | .fn _ | .cls _ | .lam _ _ | .ins _ _ | .cell _ | .scr => by simp [toPy, PyData.depth, D.dep]
theorem deps_py : ∀ l : List D, PyData.depthAll (toPys l) = D.deps l
  | [] => by simp [toPys, PyData.depthAll, D.deps]
  | x :: l => by simp only [toPys, PyData.depthAll, D.deps]; rw [dep_py x, deps_py l]
end
theorem easy_shaped {d : D} (h : easy d = true) : shaped (toPy d) = true := by
  simp only [easy, Bool.and_eq_true, decide_eq_true_eq] at h
  simp only [shaped, Bool.and_eq_true, decide_eq_true_eq]
  exact ⟨lay_py d h.1, by rw [dep_py]; omega⟩

section
variable {X : Cx} {G : Gb} {F : Fz} {κ : List Addr} {M : Mem} {pins : List (Addr × Obj)} {σ : L2.St} {H : Hp} {s : Shared}
mutual
theorem reads_rv (I : Inv X pins σ H s) (R : RM X.K G F κ M H) : ∀ (d : D) (v : V) (u : Value), D.plain d = true → Rv G F κ v d → RelV v u → ∃ as, Reads s.heap u (toPy d) as
  | .non, v, u, _, h, r => by
    obtain rfl : v = .non := h
    obtain rfl : u = .none := r
    exact ⟨[], .none⟩
  | .bl b, v, u, _, h, r => by
    obtain rfl : v = .bl b := h
    obtain rfl : u = .bool b := r
    exact ⟨[], .bool b⟩
  | .int i, v, u, _, h, r => by
    obtain rfl : v = .int i := h
    obtain ⟨t, rfl⟩ : ∃ t, u = .int i t := r
    exact ⟨[], .int i t⟩
  | .str x, v, u, _, h, r => by
    obtain rfl : v = .str (toStr x) := h
    obtain ⟨t, rfl⟩ : ∃ t, u = .str (toStr x) t := r
    exact ⟨[], .str _ t⟩
  | .tup l, v, u, p, h, r => by
    obtain ⟨a, rfl, e⟩ := h
    obtain rfl : u = .ref a := r
    obtain ⟨vs, q, rs⟩ := R.fz a _ e
    obtain ⟨its, rv, ⟨o, h1, h2, n, h3⟩, _⟩ := I.tuple (SqT.of q)
    obtain ⟨as, ra⟩ := reads_rvs I R l vs its (by simpa [D.plain] using p) rs rv
    refine ⟨as, ?_⟩
    simp only [toPy]
    exact .tuple h1 h2 h3 (by simpa using ra)
  | .lst l, v, u, p, h, r => by
    obtain ⟨a, rfl, e⟩ := h
    obtain rfl : u = .ref a := r
    obtain ⟨vs, q, rs⟩ := R.fz a _ e
    obtain ⟨its, rv, pl, _⟩ := I.list (SqL.of q)
    obtain ⟨o, h1, h2, n, h3⟩ := pl.isList
    obtain ⟨as, ra⟩ := reads_rvs I R l vs its (by simpa [D.plain] using p) rs rv
    refine ⟨a :: as, ?_⟩
    simp only [toPy]
    exact .list h1 h2 h3 (by simpa using ra)
  | .dct _ _, _, _, h, _, _ => by simp [D.plain] at h
  | .set _, _, _, h, _, _ => by simp [D.plain] at h
  | .ty _, _, _, h, _, _ => by simp [D.plain] at h
  | .fn _, _, _, h, _, _ => by simp [D.plain] at h
  | .cls _, _, _, h, _, _ => by simp [D.plain] at h
  | .lam _ _, _, _, h, _, _ => by simp [D.plain] at h
  | .ins _ _, _, _, h, _, _ => by simp [D.plain] at h
  | .cell _, _, _, h, _, _ => by simp [D.plain] at h
  | .scr, _, _, h, _, _ => by simp [D.plain] at h
theorem reads_rvs (I : Inv X pins σ H s) (R : RM X.K G F κ M H) : ∀ (l : List D) (vs : List V) (us : List Value), D.plains l = true → Rvs G F κ vs l → Vals vs us → ∃ as, ReadsAll s.heap us (toPys l) as
  | [], vs, us, _, h, r => by
    cases h
    cases r
    exact ⟨[], .nil⟩
  | d :: l, vs, us, p, h, r => by
    simp only [D.plains, Bool.and_eq_true] at p
    cases h with
    | cons h1 h2 =>
      cases r with
      | cons r1 r2 =>
        obtain ⟨as, a1⟩ := reads_rv I R d _ _ p.1 h1 r1
        obtain ⟨bs, a2⟩ := reads_rvs I R l _ _ p.2 h2 r2
        exact ⟨as ++ bs, .cons a1 a2⟩
end
theorem reads_bv (I : Inv X pins σ H s) (R : RM X.K G F κ M H) {d : D} {v : V} {u : Value} (p : D.plain d = true) (h : Bv X.K G F κ H v d) (r : RelV v u) : ∃ as, Reads s.heap u (toPy d) as := by
  cases d with
  | lst l =>
    obtain ⟨a, vs, rfl, q, rs, _⟩ := h
    obtain rfl : u = .ref a := r
    obtain ⟨its, rv, pl, _⟩ := I.list (SqL.of q)
    obtain ⟨o, h1, h2, n, h3⟩ := pl.isList
    obtain ⟨as, ra⟩ := reads_rvs I R l vs its (by simpa [D.plain] using p) rs rv
    refine ⟨a :: as, ?_⟩
    simp only [toPy]
    exact .list h1 h2 h3 (by simpa using ra)
  | non => exact reads_rv I R _ v u p h r
  | bl b => exact reads_rv I R _ v u p h r
  | int b => exact reads_rv I R _ v u p h r
  | str b => exact reads_rv I R _ v u p h r
  | tup b => exact reads_rv I R _ v u p h r
  | _ => simp [D.plain] at p
/-- two values of a state, as they stand -/
def r2 (K : PySem.W.Frag) (G : Gb) (P : D → D → Bool) (val : D → D → V) : R2 := fun x y H Q => ∃ F κ M d e, RM K G F κ M H ∧ Bv K G F κ H x d ∧ Bv K G F κ H y e ∧ P d e = true ∧ Q (val d e) H
theorem op_eqD (hu : X.A.units + 64 < cLine) : OpR X (compareOp .Eq) (r2 X.K G (fun d e => easy d && easy e) fun d e => .bl (D.eq d e)) := by
  intro pins s σ H x y v u Q I rx ry ⟨F, κ, M, d, e, R, bx, bee, p, q⟩
  simp only [Bool.and_eq_true] at p
  have p1 : D.plain d = true := by have := p.1; simp only [easy, Bool.and_eq_true] at this; exact this.1
  have p2 : D.plain e = true := by have := p.2; simp only [easy, Bool.and_eq_true] at this; exact this.1
  obtain ⟨as, ra⟩ := reads_bv I R p1 bx rx
  obtain ⟨bs, rb⟩ := reads_bv I R p2 bee ry
  refine PyProof.Rows.eq_dataH ra rb (easy_shaped p.1) (easy_shaped p.2) hu ⟨_, H, I, ?_, q⟩
  rw [eq_py d e p1 p2]
  rfl
theorem op_neD (hu : X.A.units + 64 < cLine) : OpR X (compareOp .NotEq) (r2 X.K G (fun d e => easy d && easy e) fun d e => .bl (!D.eq d e)) := by
  intro pins s σ H x y v u Q I rx ry ⟨F, κ, M, d, e, R, bx, bee, p, q⟩
  simp only [Bool.and_eq_true] at p
  have p1 : D.plain d = true := by have := p.1; simp only [easy, Bool.and_eq_true] at this; exact this.1
  have p2 : D.plain e = true := by have := p.2; simp only [easy, Bool.and_eq_true] at this; exact this.1
  obtain ⟨as, ra⟩ := reads_bv I R p1 bx rx
  obtain ⟨bs, rb⟩ := reads_bv I R p2 bee ry
  refine PyProof.Rows.ne_dataH ra rb (easy_shaped p.1) (easy_shaped p.2) hu ⟨_, H, I, ?_, q⟩
  rw [eq_py d e p1 p2]
  rfl
end
end DV
end
section
set_option Elab.async false
set_option linter.all false
set_option maxRecDepth 100000
set_option maxHeartbeats 1000000
/-! DV5: expressions, node by node: displays, operators, tests. -/
namespace DV
open PySem PySem.Spec PyProof.Rows L2

section
variable {f : Fr0} {c : Ct} {X : Cx} {g : Cfg} {φ : Phi} {F F' : Fz} {κ κ' : List Addr} {ρ : Ev} {M : Mem} {σ : L2.St} {H H' : Hp}
theorem Rel.go {m : Md} {v : V} {d : D} (h : Rel f m F κ H v d) (R : f.RS F κ ρ M σ H) (k : Go F κ H F' κ' H') : Rel f m F' κ' H' v d := by
  cases m with
  | v => exact Rvl.mono h k.ex k.px
  | b => exact Bv.go h R.m k
  | t => exact Bv.go h R.m k
  | i => exact Bv.go h R.m k
  | k => exact Bv.go h R.m k
  | n => exact Bv.go h R.m k
theorem RelQ.rel {m : Md} (hm : m = .v ∨ m = .b) {v : V} {d : D} (h : RelQ f m F κ ρ σ H v d) : Rel f m F κ H v d := by
  rcases hm with rfl | rfl <;> exact h
/-- the end of a node -/
theorem fin_ok {m : Md} (hm : m = .v ∨ m = .b) {Q : VK} {v : V} {d : D} (R : f.RS F κ ρ M σ H) (r : Rv f.G F κ v d)
    (h : Aft f F κ H σ (fun F' κ' ρ' M' H' d => ∀ v, RelQ f m F' κ' ρ' σ H' v d → Q v H') (fin m d ρ M)) : Q v H := by
  rcases hm with rfl | rfl
  · exact Aft.here (show Aft f F κ H σ (fun F' κ' ρ' M' H' d => ∀ v, RelQ f .v F' κ' ρ' σ H' v d → Q v H') (okE ρ M d) from h) R v r.l
  · exact Aft.here (show Aft f F κ H σ (fun F' κ' ρ' M' H' d => ∀ v, RelQ f .b F' κ' ρ' σ H' v d → Q v H') (okE ρ M d) from h) R v (r.b R.m)
/-- a list that nobody owns is frozen -/
theorem RS.freeze (R : f.RS F κ ρ M σ H) {a : Addr} {vs : List V} {l : List D} (h : H a = some (.lst vs)) (r : Rvs f.G F κ vs l) (n : F a = none) (k : a ∉ κ) (h0 : Vt f.H0 a) (no : ∀ (j : Nat) (e : En), ρ[j]? = some e → own2 e = true → σ[j]? ≠ some (some (.ref a))) (ng : a ∉ f.gs) :
    Go F κ H (fput F a (.lst l)) κ H ∧ f.RS (fput F a (.lst l)) κ ρ M σ H := by
  have ex : Ex F (fput F a (.lst l)) := Ex.put n
  have g : Go F κ H (fput F a (.lst l)) κ H := ⟨ex, Px.refl κ, fun _ m => .inl m, Kp.refl κ H⟩
  refine ⟨g, R.m.freeze n k ⟨vs, h, r.mono ex (Px.refl κ)⟩, R.go.trans g, fun b x e => ?_, R.s0, R.len, fun j e hj => ?_, R.own, fun b hb => ?_⟩
  · by_cases z : b = a
    · subst z
      exact .inr h0.w
    · rw [fput_ne z] at e
      exact R.nf b x e
  · have z := R.sl j e hj
    cases e with
    | un => trivial
    | fz d => obtain ⟨v, w1, w2⟩ := z; exact ⟨v, w1, w2.mono ex (Px.refl κ)⟩
    | ow k =>
      obtain ⟨b, ws, w1, w2, w3, w4, w5, w6⟩ := z
      refine ⟨b, ws, w1, w2, w3.mono ex (Px.refl κ), ?_, w5, w6⟩
      rw [fput_ne]
      · exact w4
      · rintro rfl
        exact no j _ hj rfl w1
    | od _ _ => exact z.elim
    | lk d =>
      cases d with
      | lst k => obtain ⟨b, ws, w1, w2, w3, w5⟩ := z; exact ⟨b, ws, w1, w2, w3.mono ex (Px.refl κ), w5⟩
      | _ => exact z.elim
  · obtain ⟨y1, y2, y3, y4, y5⟩ := R.gh b hb
    refine ⟨?_, y2, y3, y4, y5⟩
    rw [fput_ne]
    · exact y1
    · rintro rfl
      exact ng hb
/-- the ways a value may be wanted as it is -/
def Ord (m : Md) : Prop := m = .v ∨ m = .b ∨ m = .n
/-- the end of a node that makes its value -/
theorem fin_nw {m : Md} (hm : Ord m) {Q : VK} {v : V} {d : D} (R : f.RS F κ ρ M σ H) (r : Nw f F κ ρ σ H v d)
    (h : Aft f F κ H σ (fun F' κ' ρ' M' H' d => ∀ v, RelQ f m F' κ' ρ' σ H' v d → Q v H') (fin m d ρ M)) : Q v H := by
  have other : (∀ l, d ≠ .lst l) → Q v H := fun nl => by
    have r' : Rv f.G F κ v d := by cases d <;> first | exact r | exact absurd rfl (nl _)
    rcases hm with rfl | rfl | rfl
    · exact fin_ok (.inl rfl) R r' h
    · exact fin_ok (.inr rfl) R r' h
    · exact Aft.here (show Aft f F κ H σ (fun F' κ' ρ' M' H' d => ∀ v, RelQ f .n F' κ' ρ' σ H' v d → Q v H') (okE ρ M d) from h) R v r
  cases d with
  | lst l =>
    have frz : (m = .v ∨ m = .b) → Q v H := fun hm' => by
      obtain ⟨a, vs, rfl, h1, h2, h3, h4, h5, h6, h7⟩ := r
      obtain ⟨gg, R'⟩ := RS.freeze R h1 h2 h3 h4 h5 h6 h7
      have h' : Aft f (fput F a (.lst l)) κ H σ (fun F' κ' ρ' M' H' d => ∀ v, RelQ f m F' κ' ρ' σ H' v d → Q v H') (fin m (.lst l) ρ M) := by
        rcases hm' with rfl | rfl
        · exact fun F2 κ2 H2 g2 R2 => (show Aft f F κ H σ (fun F' κ' ρ' M' H' d => ∀ v, RelQ f .v F' κ' ρ' σ H' v d → Q v H') (okE ρ M _) from h) F2 κ2 H2 (gg.trans g2) R2
        · exact fun F2 κ2 H2 g2 R2 => (show Aft f F κ H σ (fun F' κ' ρ' M' H' d => ∀ v, RelQ f .b F' κ' ρ' σ H' v d → Q v H') (okE ρ M _) from h) F2 κ2 H2 (gg.trans g2) R2
      exact fin_ok (d := .lst l) hm' R' ⟨a, rfl, fput_same⟩ h'
    rcases hm with rfl | rfl | rfl
    · exact frz (.inl rfl)
    · exact frz (.inr rfl)
    · exact Aft.here (show Aft f F κ H σ (fun F' κ' ρ' M' H' d => ∀ v, RelQ f .n F' κ' ρ' σ H' v d → Q v H') (okE ρ M _) from h) R v r
  | _ => exact other fun l z => nomatch z
theorem Ord.of {m : Md} (h : m = .v ∨ m = .b) : Ord m := h.elim .inl fun h => .inr (.inl h)
theorem nw_of {v : V} {d : D} (hd : ∀ l, d ≠ .lst l) (r : Rv f.G F κ v d) : Nw f F κ ρ σ H v d := by
  cases d <;> first
    | exact r
    | exact absurd rfl (hd _)
/-- .. of a new tuple -/
theorem fin_new {m : Md} (hm : Ord m) {Q : VK} {d : D} {p : Addr} {o : HO} (R : f.RS F κ ρ M σ H) (hp : H p = none) (hd : ∀ l, d ≠ .lst l) (s : ∀ F', Ex F F' → Shape f.G F' κ (upd H p o) p d)
    (tr : ∀ F', F' p = some d → Rv f.G F' κ (.ref p) d)
    (h : Aft f F κ H σ (fun F' κ' ρ' M' H' d => ∀ v, RelQ f m F' κ' ρ' σ H' v d → Q v H') (fin m d ρ M)) (ho : ∀ ps, o ≠ .tbl ps := by intro _ z; cases z) : Q (.ref p) (upd H p o) := by
  obtain ⟨gg, R'⟩ := RS.tree R hp s ho
  have h' : Aft f (fput F p d) κ (upd H p o) σ (fun F' κ' ρ' M' H' d => ∀ v, RelQ f m F' κ' ρ' σ H' v d → Q v H') (fin m d ρ M) := by
    rcases hm with rfl | rfl | rfl
    · exact fun F2 κ2 H2 g2 R2 => (show Aft f F κ H σ (fun F' κ' ρ' M' H' d => ∀ v, RelQ f .v F' κ' ρ' σ H' v d → Q v H') (okE ρ M d) from h) F2 κ2 H2 (gg.trans g2) R2
    · exact fun F2 κ2 H2 g2 R2 => (show Aft f F κ H σ (fun F' κ' ρ' M' H' d => ∀ v, RelQ f .b F' κ' ρ' σ H' v d → Q v H') (okE ρ M d) from h) F2 κ2 H2 (gg.trans g2) R2
    · exact fun F2 κ2 H2 g2 R2 => (show Aft f F κ H σ (fun F' κ' ρ' M' H' d => ∀ v, RelQ f .n F' κ' ρ' σ H' v d → Q v H') (okE ρ M d) from h) F2 κ2 H2 (gg.trans g2) R2
  exact fin_nw hm R' (nw_of hd (tr _ fput_same)) h'
/-- a list that is new from a state on -/
theorem nw_list {F1 : Fz} {κ1 : List Addr} {ρ1 : Ev} {M1 : Mem} {H1 : Hp} (R1 : f.RS F1 κ1 ρ1 M1 σ H1) {a : Addr} {vs : List V} {l : List D} (hn : H1 a = none) (h : H a = some (.lst vs)) (r : Rvs f.G F κ vs l) (n : F a = none) (k : a ∉ κ) : Nw f F κ ρ1 σ H (.ref a) (.lst l) := by
  refine ⟨a, vs, rfl, h, r, n, k, R1.go.kp.back (.of hn), fun j e hj he hs => ?_, fun hg => by
    obtain ⟨_, _, ⟨ws, y3⟩, _⟩ := R1.gh a hg
    rw [hn] at y3
    cases y3⟩
  have z := R1.sl j e hj
  cases e with
  | ow l =>
    obtain ⟨b, ws, w1, w2, _⟩ := z
    rw [hs] at w1
    cases w1
    rw [hn] at w2
    cases w2
  | od _ _ => exact z.elim
  | lk d =>
    cases d with
    | lst l =>
      obtain ⟨b, ws, w1, w2, _⟩ := z
      rw [hs] at w1
      cases w1
      rw [hn] at w2
      cases w2
    | _ => exact z.elim
  | _ => cases he
theorem nw_new (R : f.RS F κ ρ M σ H) {p : Addr} {vs : List V} {l : List D} (hp : H p = none) (r : Rvs f.G F κ vs l) : Nw f F κ ρ σ (upd H p (.lst vs)) (.ref p) (.lst l) :=
  nw_list R hp upd_same r (R.m.fnone hp) (R.m.cnone hp)
/-- a later state is as good -/
theorem Aft.later {α : Type} {Qk : Fz → List Addr → Ev → Mem → Hp → α → Prop} {x : R α} (h : Aft f F κ H σ Qk x) (k : Go F κ H F' κ' H') : Aft f F' κ' H' σ Qk x := by
  cases x with
  | none => exact h
  | some o =>
    cases o with
    | ok d ρ' M' => exact fun F2 κ2 H2 g2 R2 => h F2 κ2 H2 (k.trans g2) R2
    | exc x ρ' M' => exact fun F2 κ2 H2 cls dx g2 R2 X2 => h F2 κ2 H2 cls dx (k.trans g2) R2 X2

/-! ### rows of expressions -/
theorem s_nil {m : Md} : PA X [] (dA f m (evs g φ m [])) := by
  refine PA.imp pa_nil fun σ H Q ⟨F, κ, ρ, M, R, h⟩ => ?_
  simp only [evs] at h
  exact Aft.here h R [] .nil
theorem evs_cons {m : Md} {e : E} {es : List E} (hs : ∀ e', e ≠ .star e') : evs g φ m (e :: es) ρ M = (ev g φ m e ρ M).bind fun d ρ M => (evs g φ m es ρ M).bind fun ds ρ M => okE ρ M (d :: ds) := by
  cases e <;> first
    | rfl
    | exact absurd rfl (hs _)
theorem noStar {e : Expr} {es : List Expr} {env : Env} (h : ∀ e' p, e ≠ .Starred e' p) : starEach (e :: es) env = (false, eval e env) :: starEach es env := by
  cases e <;> first
    | rfl
    | exact absurd rfl (h _ _)
theorem s_cons {m : Md} (hm : m = .v ∨ m = .b) {e : E} {es : List E} {x : Expr} {xs : List Expr} (hs : ∀ e', e ≠ .star e') (hx : ∀ e' p, x ≠ .Starred e' p) (h1 : PE X x (dE f m (ev g φ m e))) (h2 : PA X xs (dA f m (evs g φ m es))) :
    PA X (x :: xs) (dA f m (evs g φ m (e :: es))) := by
  refine PA.imp (pa_cons h1 h2 (noStar hx)) fun σ H Q ⟨F, κ, ρ, M, R, h⟩ => ?_
  rw [evs_cons hs] at h
  refine ⟨F, κ, ρ, M, R, h.bind.imp fun F1 κ1 ρ1 M1 H1 d g1 R1 ⟨_, q⟩ v r => ?_⟩
  refine ⟨F1, κ1, ρ1, M1, R1, q.bind.imp fun F2 κ2 ρ2 M2 H2 ds g2 R2 ⟨_, q2⟩ vs rs => ?_⟩
  have r' : Rel f m F1 κ1 H1 v d := by rcases hm with rfl | rfl <;> exact r
  exact Aft.here q2 R2 (v :: vs) (.cons (Rel.go r' R1 g2) rs)
theorem Paired.app {α β : Type} {P : α → β → Prop} : ∀ {xs : List α} {as : List β} {ys : List α} {bs : List β}, Paired P xs as → Paired P ys bs → Paired P (xs ++ ys) (as ++ bs)
  | _, _, _, _, .nil, s => s
  | _, _, _, _, .cons r t, s => .cons r (Paired.app t s)
end
end DV
end
section
set_option Elab.async false
set_option linter.all false
set_option maxRecDepth 100000
set_option maxHeartbeats 4000000
namespace DV
open PySem PySem.Spec PyProof.Rows L2
theorem R.bind_assoc {α β γ : Type} (x : R α) (k : α → Ev → Mem → R β) (l : β → Ev → Mem → R γ) : (x.bind k).bind l = x.bind fun a ρ M => (k a ρ M).bind l := by
  cases x with
  | none => rfl
  | some o => cases o <;> rfl
theorem R.bind_ok {α β : Type} (a : α) (ρ : Ev) (M : Mem) (k : α → Ev → Mem → R β) : R.bind (okE ρ M a) k = k a ρ M := rfl
theorem R.bind_none {α β : Type} (k : α → Ev → Mem → R β) : R.bind none k = none := rfl
theorem R.bind_congr {α β : Type} {x : R α} {k l : α → Ev → Mem → R β} (h : ∀ a ρ M, k a ρ M = l a ρ M) : x.bind k = x.bind l := by
  have : k = l := by funext a ρ M; exact h a ρ M
  rw [this]
/-- an expression that is evaluated in one way whatever is wanted of it -/
def flat : E → Bool
  | .and .. | .or .. | .ife .. | .range _ | .zip .. | .enum _ | .items _ | .not _ | .lam .. => false
  | _ => true
variable {g : Cfg} {φ : Phi} {ρ : Ev} {M : Mem}
theorem ans_b (x : Option Ca) (m : Md) : ansO x ρ (fin m) = (ansO x ρ (fin .b)).bind (fin m) := by
  cases x with
  | none => rfl
  | some o => cases o <;> rfl
theorem flat_b {e : E} {m : Md} (hm : m = .t ∨ m = .i) (h : flat e = true) : ev g φ m e ρ M = (ev g φ .b e ρ M).bind (fin m) := by
  have q : ∀ d ρ M, fin m d ρ M = (fin .b d ρ M).bind (fin m) := fun d ρ M => rfl
  have z : ∀ {α : Type} (f : α → Ev → Mem → R D), (none : R D) = R.bind none f ∧ True := fun f => ⟨rfl, trivial⟩
  rcases hm with rfl | rfl <;> cases e <;> first
    | (cases h; done)
    | rfl
    | (simp only [ev]; rfl)
    | (simp only [ev]; split <;> rfl)
    | (simp only [ev]
       split
       · split <;> rfl
       · rfl)
    | (simp only [ev]
       split
       · exact (R.bind_congr fun a ρ M => ans_b _ _).trans (R.bind_assoc _ _ _).symm
       · rfl)
    | (simp only [ev]
       refine (R.bind_congr fun a ρ M => ?_).trans (R.bind_assoc _ _ _).symm
       first
         | exact ans_b _ _
         | (repeat' first | rfl | exact ans_b _ _ | (refine (R.bind_congr fun a ρ M => ?_).trans (R.bind_assoc _ _ _).symm) | split))
theorem flat_k {e : E} (h : flat e = true) : ev g φ .k e ρ M = (ev g φ .v e ρ M).bind (fin .k) := by
  have q : ∀ (x : Option Ca) (ρ : Ev), ansO x ρ (fin .k) = (ansO x ρ (fin .v)).bind (fin .k) := fun x ρ => by
    cases x with
    | none => rfl
    | some o => cases o <;> rfl
  cases e <;> first
    | (cases h; done)
    | rfl
    | (simp only [ev]; rfl)
    | (simp only [ev]; split <;> rfl)
    | (simp only [ev]; cases takeD ρ _ <;> rfl)
    | (simp only [ev]
       split
       · split <;> rfl
       · rfl)
    | (simp only [ev]
       split
       · exact (R.bind_congr fun a ρ M => q _ _).trans (R.bind_assoc _ _ _).symm
       · rfl)
    | (simp only [ev]
       refine (R.bind_congr fun a ρ M => ?_).trans (R.bind_assoc _ _ _).symm
       (repeat' first | rfl | exact q _ _ | (refine (R.bind_congr fun a ρ M => ?_).trans (R.bind_assoc _ _ _).symm) | split))
end DV
end
section
set_option Elab.async false
set_option linter.all false
set_option maxRecDepth 100000
set_option maxHeartbeats 1000000
namespace DV
open PySem PySem.Spec PyProof.Rows L2
section
variable {f : Fr0} {c : Ct} {X : Cx} {g : Cfg} {φ : Phi}
theorem seq_at {K : PySem.W.Frag} {G : Gb} {F : Fz} {κ : List Addr} {M : Mem} {H : Hp} {v : V} {d : D} {l : List D} (R : RM K G F κ M H) (h : Bv K G F κ H v d) (e : seqD d = some l) :
    ∃ p xs, v = .ref p ∧ (SqT K H p xs ∨ SqL K H p xs) ∧ Rvs G F κ xs l := by
  cases d with
  | tup l' =>
    cases e
    obtain ⟨a, rfl, q⟩ := h
    obtain ⟨vs, q2, rs⟩ := R.fz a _ q
    exact ⟨a, vs, rfl, .inl (SqT.of q2), rs⟩
  | lst l' =>
    cases e
    obtain ⟨a, vs, rfl, q2, rs, _⟩ := h
    exact ⟨a, vs, rfl, .inr (SqL.of q2), rs⟩
  | _ => cases e
theorem rel_of {m : Md} (hm : m = .v ∨ m = .b) {F : Fz} {κ : List Addr} {ρ : Ev} {M : Mem} {σ : L2.St} {H : Hp} (R : f.RS F κ ρ M σ H) {v : V} {d : D} (r : Rv f.G F κ v d) : Rel f m F κ H v d := by
  rcases hm with rfl | rfl
  · exact r.l
  · exact r.b R.m
/-- *e in a row: e a list or a tuple -/
theorem s_star {m : Md} {e : E} {es : List E} {x : Expr} {xs : List Expr} {p : Pos} (G : GX f c X) (hm : m = .v ∨ m = .b) (h1 : PE X x (dE f .b (ev g φ .b e))) (h2 : PA X xs (dA f m (evs g φ m es))) :
    PA X (.Starred x p :: xs) (dA f m (evs g φ m (.star e :: es))) := by
  refine PA.imp (StX.pa_star h1 h2) fun σ H Q ⟨F, κ, ρ, M, R, h⟩ => ?_
  simp only [evs] at h
  refine ⟨F, κ, ρ, M, R, h.bind.imp fun F1 κ1 ρ1 M1 H1 d g1 R1 ⟨_, q⟩ v r => ?_⟩
  cases e1 : seqD d with
  | none => rw [e1] at q; exact q.elim
  | some l =>
    rw [e1] at q
    obtain ⟨a, ys, rfl, hq, rs⟩ := seq_at R1.m r e1
    refine ⟨a, ys, rfl, by rw [G.K]; exact hq, F1, κ1, ρ1, M1, R1, q.bind.imp fun F2 κ2 ρ2 M2 H2 ds g2 R2 ⟨_, q2⟩ vs rs2 => ?_⟩
    exact Aft.here q2 R2 (ys ++ vs) (Paired.app (Paired.mapP (rs.mono g2.ex g2.px) fun _ _ z => rel_of hm R2 z) rs2)
theorem mkL_some {l : List D} {d : D} (h : mkL l = some d) : d = .lst l ∧ l.length ≤ LINE ∧ l.all lamless = true := by
  unfold mkL at h
  split at h
  · rename_i q
    cases h
    simp only [fit, Bool.and_eq_true, decide_eq_true_eq] at q
    exact ⟨rfl, q⟩
  · cases h
theorem mkT_some {l : List D} {d : D} (h : mkT l = some d) : d = .tup l ∧ l.length ≤ LINE ∧ l.all lamless = true := by
  unfold mkT at h
  split at h
  · rename_i q
    cases h
    simp only [fit, Bool.and_eq_true, decide_eq_true_eq] at q
    exact ⟨rfl, q⟩
  · cases h
theorem rvs_less {G : Gb} {B : Heap} {F : Fz} {κ : List Addr} : ∀ {vs : List V} {ds : List D}, Paired (Rvl G B F κ) vs ds → ds.all lamless = true → Rvs G F κ vs ds
  | _, _, .nil, _ => .nil
  | _, _, .cons r t, h => by
    simp only [List.all_cons, Bool.and_eq_true] at h
    exact .cons (r.less h.1) (rvs_less t h.2)
theorem line_eq : LINE = sizeLine := by rw [sizeLine_eq]; rfl
theorem s_tup {m : Md} (hm : Ord m) {es : List E} {xs : List Expr} {k : Nat} {pos : Pos} (h : PA X xs (dA f .v (evs g φ .v es))) : PE X (.Tuple xs k pos) (dE f m (ev g φ m (.tup es))) := by
  refine PE.imp (pe_tup h) fun σ H Q ⟨F, κ, ρ, M, R, h⟩ => ?_
  simp only [ev] at h
  refine ⟨F, κ, ρ, M, R, h.bind.imp fun F1 κ1 ρ1 M1 H1 ds g1 R1 ⟨_, q⟩ vs rs => ?_⟩
  cases e1 : mkT ds with
  | none => rw [e1] at q; exact q.elim
  | some d =>
    rw [e1] at q
    obtain ⟨rfl, hl, hn⟩ := mkT_some e1
    have rs' := rvs_less rs hn
    refine ⟨by rw [Paired.length rs', ← line_eq]; exact hl, fun p hp => ?_⟩
    exact fin_new (d := .tup ds) hm R1 hp (fun _ z => nomatch z) (fun F' ex => ⟨vs, upd_same, rs'.mono ex (Px.refl _)⟩) (fun F' e => ⟨p, rfl, e⟩) q
theorem s_lst {m : Md} (hm : Ord m) {es : List E} {xs : List Expr} {pos : Pos} (h : PA X xs (dA f .v (evs g φ .v es))) : PE X (.List xs pos) (dE f m (ev g φ m (.lst es))) := by
  refine PE.imp (pe_lst h) fun σ H Q ⟨F, κ, ρ, M, R, h⟩ => ?_
  simp only [ev] at h
  refine ⟨F, κ, ρ, M, R, h.bind.imp fun F1 κ1 ρ1 M1 H1 ds g1 R1 ⟨_, q⟩ vs rs => ?_⟩
  cases e1 : mkL ds with
  | none => rw [e1] at q; exact q.elim
  | some d =>
    rw [e1] at q
    obtain ⟨rfl, hl, hn⟩ := mkL_some e1
    have rs' := rvs_less rs hn
    refine ⟨by rw [Paired.length rs', ← line_eq]; exact hl, fun p hp => ?_⟩
    exact fin_nw (d := .lst ds) hm (RS.new R1 hp) (nw_new R1 hp rs') (q.later (Go.new hp))

/-! ### truth -/
theorem tru_at {K : PySem.W.Frag} {G : Gb} {F : Fz} {κ : List Addr} {M : Mem} {H : Hp} {v : V} {d : D} {b : Bool} (R : RM K G F κ M H) (h : Bv K G F κ H v d) (e : tru d = some b) : TruV K v H b := by
  cases d with
  | non => cases e; obtain rfl : v = .non := h; rfl
  | bl k => obtain rfl : v = .bl k := h; cases e; rfl
  | int i => cases e; obtain rfl : v = .int i := h; rfl
  | str s =>
    obtain rfl : v = .str (toStr s) := h
    simp only [tru] at e
    split at e
    · rename_i q
      cases e
      refine ⟨?_, ?_⟩
      · show (toStr s).cps.size ≤ sizeLine
        rw [← line_eq]
        simpa [toStr] using of_decide_eq_true q
      · show (!s.isEmpty) = (((toStr s).cps.size : Int) != 0)
        cases s with
        | nil => rfl
        | cons a l =>
          have : (((toStr (a :: l)).cps.size : Int) != 0) = true := by simp [toStr]; omega
          rw [this]; rfl
    · cases e
  | tup l =>
    cases e
    obtain ⟨a, rfl, q⟩ := h
    obtain ⟨vs, q2, rs⟩ := R.fz a _ q
    refine .inr (.inl ⟨vs, SqT.of q2, ?_⟩)
    cases rs <;> rfl
  | lst l =>
    cases e
    obtain ⟨a, vs, rfl, q2, rs, _⟩ := h
    refine .inl ⟨vs, SqL.of q2, ?_⟩
    cases rs <;> rfl
  | _ => cases e
/-- the truth of a value as a test -/
theorem s_truth (G : GX f c X) {e : E} {x : Expr} (hf : flat e = true) (he : ∀ whole, isTrue x X.env whole = (do let v ← whole; standAt x.pos; holding [v] (truthy v))) (h : PE X x (dE f .b (ev g φ .b e))) :
    PT X x (dT f (ev g φ .t e)) := by
  refine PT.imp (pt_truth h he) fun σ H Q ⟨F, κ, ρ, M, R, h⟩ => ?_
  rw [flat_b (.inl rfl) hf] at h
  refine ⟨F, κ, ρ, M, R, h.bind.imp fun F1 κ1 ρ1 M1 H1 d g1 R1 ⟨_, q⟩ v r => ?_⟩
  cases e1 : tru d with
  | none => simp only [fin, e1, Option.map, lift] at q; exact q.elim
  | some b =>
    simp only [fin, e1, Option.map, lift] at q
    obtain ⟨k, hk, hq⟩ := Aft.here (show Aft f F1 κ1 H1 σ (fun F' κ' ρ' M' H' d => ∃ b, d = D.bl b ∧ Q b H') (okE ρ1 M1 (D.bl b)) from q) R1
    cases hk
    exact ⟨b, by rw [G.K]; exact tru_at R1.m r e1, hq⟩
theorem s_notT {e : E} {x : Expr} {pos : Pos} (h : PT X x (dT f (ev g φ .t e))) : PT X (.UnaryOp .Not x pos) (dT f (ev g φ .t (.not e))) := by
  refine PT.imp (pt_not h) fun σ H Q ⟨F, κ, ρ, M, R, h⟩ => ?_
  simp only [ev] at h
  refine ⟨F, κ, ρ, M, R, h.bind.imp fun F1 κ1 ρ1 M1 H1 d g1 R1 ⟨_, q⟩ => ?_⟩
  cases d with
  | bl b =>
    obtain ⟨k, hk, hq⟩ := Aft.here q R1
    cases hk
    exact ⟨b, rfl, hq⟩
  | _ => exact q.elim
theorem s_notV {m : Md} (hm : m = .v ∨ m = .b) (G : GX f c X) {e : E} {x : Expr} {pos : Pos} (h : PE X x (dE f .b (ev g φ .b e))) : PE X (.UnaryOp .Not x pos) (dE f m (ev g φ m (.not e))) := by
  refine PE.imp (pe_notT h) fun σ H Q ⟨F, κ, ρ, M, R, h⟩ => ?_
  have h' : Aft f F κ H σ (fun F' κ' ρ' M' H' d => ∀ v, RelQ f m F' κ' ρ' σ H' v d → Q v H') ((ev g φ .b e ρ M).bind fun d ρ M => match tru d with
      | some b => fin m (.bl (!b)) ρ M
      | none => none) := by
    rcases hm with rfl | rfl <;> (simp only [ev] at h; exact h)
  refine ⟨F, κ, ρ, M, R, h'.bind.imp fun F1 κ1 ρ1 M1 H1 d g1 R1 ⟨_, q⟩ v r => ?_⟩
  cases e1 : tru d with
  | none => rw [e1] at q; exact q.elim
  | some b =>
    rw [e1] at q
    exact ⟨b, by rw [G.K]; exact tru_at R1.m r e1, fin_ok hm R1 (show Rv f.G F1 κ1 (V.bl (!b)) (D.bl (!b)) from rfl) q⟩
/-! ### and, or as tests -/
theorem s_andT {a b : E} {x y : Expr} {ys : List Expr} {pos : Pos} (h1 : PT X x (dT f (ev g φ .t a))) (h2 : PW X (.BoolOp .And (y :: ys) pos) (dT f (ev g φ .t b))) : PW X (.BoolOp .And (x :: y :: ys) pos) (dT f (ev g φ .t (.and a b))) := by
  refine PW.imp (pw_and h1 h2) fun σ H Q ⟨F, κ, ρ, M, R, h⟩ => ?_
  simp only [ev] at h
  refine ⟨F, κ, ρ, M, R, h.bind.imp fun F1 κ1 ρ1 M1 H1 d g1 R1 ⟨_, q⟩ => ?_⟩
  cases d with
  | bl b =>
    cases b with
    | true => exact ⟨true, rfl, iteT ⟨F1, κ1, ρ1, M1, R1, q⟩⟩
    | false =>
      obtain ⟨k, hk, hq⟩ := Aft.here q R1
      cases hk
      exact ⟨false, rfl, iteF hq⟩
  | _ => exact q.elim
theorem s_orT {a b : E} {x y : Expr} {ys : List Expr} {pos : Pos} (h1 : PT X x (dT f (ev g φ .t a))) (h2 : PW X (.BoolOp .Or (y :: ys) pos) (dT f (ev g φ .t b))) : PW X (.BoolOp .Or (x :: y :: ys) pos) (dT f (ev g φ .t (.or a b))) := by
  refine PW.imp (pw_or h1 h2) fun σ H Q ⟨F, κ, ρ, M, R, h⟩ => ?_
  simp only [ev] at h
  refine ⟨F, κ, ρ, M, R, h.bind.imp fun F1 κ1 ρ1 M1 H1 d g1 R1 ⟨_, q⟩ => ?_⟩
  cases d with
  | bl b =>
    cases b with
    | false => exact ⟨false, rfl, iteF ⟨F1, κ1, ρ1, M1, R1, q⟩⟩
    | true =>
      obtain ⟨k, hk, hq⟩ := Aft.here q R1
      cases hk
      exact ⟨true, rfl, iteT hq⟩
  | _ => exact q.elim
end
end DV
end
section
set_option Elab.async false
set_option linter.all false
set_option maxRecDepth 100000
set_option maxHeartbeats 1000000
namespace DV
open PySem PySem.Spec PyProof.Rows L2
def opOf : Op → Operator
  | .add => .Add | .sub => .Sub | .mul => .Mult | .fdiv => .FloorDiv | .mod => .Mod | .pow => .Pow
def cmOf : Cm → CmpOp
  | .eq => .Eq | .ne => .NotEq | .lt => .Lt | .le => .LtE | .gt => .Gt | .ge => .GtE | .is => .Is | .isnot => .IsNot | .isin => .In | .notin => .NotIn
section
variable {f : Fr0} {c : Ct} {X : Cx} {g : Cfg} {φ : Phi}
/-- two values as they stand, and what comes of them -/
def rD2 (f : Fr0) (P : D → D → Option D) : R2 := fun x y H Q => ∃ F κ ρ M σ d e, f.RS F κ ρ M σ H ∧ Bv f.K f.G F κ H x d ∧ Bv f.K f.G F κ H y e ∧
  ∃ r, P d e = some r ∧ ∀ F' H' v, Go F κ H F' κ H' → f.RS F' κ ρ M σ H' → Nw f F' κ ρ σ H' v r → Q v H'
theorem s_two {α : Type} {Qk : Fz → List Addr → Ev → Mem → Hp → α → Prop} {k : D → Ev → Mem → R α} {a b : E} {P : D → D → Option D} {Q : VK} {σ : L2.St} {H : Hp}
    (hk : ∀ F κ ρ M H d v, (∃ x y, P x y = some d) → f.RS F κ ρ M σ H → Nw f F κ ρ σ H v d → Aft f F κ H σ Qk (k d ρ M) → Q v H)
    (h : ∃ F κ ρ M, f.RS F κ ρ M σ H ∧ Aft f F κ H σ Qk ((ev g φ .b a ρ M).bind fun x ρ M => (ev g φ .b b ρ M).bind fun y ρ M => match P x y with
      | some d => k d ρ M
      | none => none)) : tOp (rD2 f P) (dE f .b (ev g φ .b a)) (dE f .b (ev g φ .b b)) σ H Q := by
  obtain ⟨F, κ, ρ, M, R, h⟩ := h
  refine ⟨F, κ, ρ, M, R, h.bind.imp fun F1 κ1 ρ1 M1 H1 d g1 R1 ⟨_, q⟩ v r => ?_⟩
  refine ⟨F1, κ1, ρ1, M1, R1, q.bind.imp fun F2 κ2 ρ2 M2 H2 e g2 R2 ⟨_, q2⟩ w s => ?_⟩
  cases e1 : P d e with
  | none => rw [e1] at q2; exact q2.elim
  | some z =>
    rw [e1] at q2
    exact ⟨F2, κ2, ρ2, M2, σ, d, e, R2, Rel.go (m := .b) r R1 g2, s, z, e1, fun F' H' u g3 R3 hu => hk F' κ2 ρ2 M2 H' z u ⟨d, e, e1⟩ R3 hu (q2.later g3)⟩
theorem s_bin {m : Md} (hm : Ord m) {o : Op} {a b : E} {x y : Expr} {pos : Pos} (ho : OpR X (binaryOp (opOf o)) (rD2 f (opD o))) (h1 : PE X x (dE f .b (ev g φ .b a))) (h2 : PE X y (dE f .b (ev g φ .b b))) :
    PE X (.BinOp x (opOf o) y pos) (dE f m (ev g φ m (.bin o a b))) :=
  PE.imp (pe_op ho h1 h2) fun σ H Q ⟨F, κ, ρ, M, R, h⟩ => s_two (k := fin m) (fun F κ ρ M H d v _ R r q => fin_nw hm R r q) ⟨F, κ, ρ, M, R, by simp only [ev] at h; exact h⟩
theorem cmp_form {m : Md} {o : Cm} {a b : E} {ρ : Ev} {M : Mem} : ev g φ m (.cmp o a b) ρ M = (ev g φ .b a ρ M).bind fun x ρ M => (ev g φ .b b ρ M).bind fun y ρ M => match (cmD o x y).map D.bl with
      | some d => fin m d ρ M
      | none => none := by
  simp only [ev]
  refine DV.R.bind_congr fun x ρ M => DV.R.bind_congr fun y ρ M => ?_
  cases cmD o x y <;> rfl
theorem s_cmp {m : Md} (hm : Ord m) {o : Cm} {a b : E} {x y : Expr} {pos : Pos} (ho : OpR X (compareOp (cmOf o)) (rD2 f fun x y => (cmD o x y).map .bl)) (h1 : PE X x (dE f .b (ev g φ .b a))) (h2 : PE X y (dE f .b (ev g φ .b b)))
    (hb : behindInMarks (cmOf o) y = false) : PE X (.Compare x [cmOf o] [y] pos) (dE f m (ev g φ m (.cmp o a b))) :=
  PE.imp (pe_cmpR ho h1 h2 hb) fun σ H Q ⟨F, κ, ρ, M, R, h⟩ => s_two (k := fin m) (fun F κ ρ M H d v _ R r q => fin_nw hm R r q) ⟨F, κ, ρ, M, R, by rw [cmp_form] at h; exact h⟩
theorem fin_t {F : Fz} {κ : List Addr} {ρ : Ev} {M : Mem} {σ : L2.St} {H : Hp} {Q : Bool → Hp → Prop} {b : Bool} (R : f.RS F κ ρ M σ H) (q : Aft f F κ H σ (fun F' κ' ρ' M' H' d => ∃ b, d = D.bl b ∧ Q b H') (fin .t (.bl b) ρ M)) : Q b H := by
  obtain ⟨k, hk, hq⟩ := Aft.here (show Aft f F κ H σ (fun F' κ' ρ' M' H' d => ∃ b, d = D.bl b ∧ Q b H') (okE ρ M (D.bl b)) from q) R
  cases hk
  exact hq
theorem s_cmpT {o : Cm} {a b : E} {x y : Expr} {pos : Pos} (ho : OpR X (compareOp (cmOf o)) (rD2 f fun x y => (cmD o x y).map .bl)) (h1 : PE X x (dE f .b (ev g φ .b a))) (h2 : PE X y (dE f .b (ev g φ .b b)))
    (hb : behindInMarks (cmOf o) y = false) : PT X (.Compare x [cmOf o] [y] pos) (dT f (ev g φ .t (.cmp o a b))) :=
  PT.imp (pt_cmpR ho h1 h2 hb) fun σ H Q ⟨F, κ, ρ, M, R, h⟩ => s_two (P := fun x y => (cmD o x y).map .bl) (k := fin .t) (fun F κ ρ M H d v ⟨x, y, e⟩ R r q => by
    cases z : cmD o x y with
    | none => rw [z] at e; cases e
    | some b =>
      rw [z] at e
      cases e
      exact ⟨b, r, fin_t R q⟩) ⟨F, κ, ρ, M, R, by rw [cmp_form] at h; exact h⟩

/-! ### the operators -/
theorem toStr_app (a b : List Nat) : toStr a ++ toStr b = toStr (a ++ b) := by
  show Str.append _ _ = _
  simp [Str.append, toStr]
theorem toStr_len (a : List Nat) : (toStr a).length = a.length := by simp [toStr, Str.length]
theorem tup_at {K : PySem.W.Frag} {G : Gb} {F : Fz} {κ : List Addr} {M : Mem} {H : Hp} {v : V} {l : List D} (R : RM K G F κ M H) (h : Rv G F κ v (.tup l)) : ∃ a vs, v = .ref a ∧ F a = some (.tup l) ∧ H a = some (.tup vs) ∧ Rvs G F κ vs l := by
  obtain ⟨a, rfl, q⟩ := h
  obtain ⟨vs, q2, rs⟩ := R.fz a _ q
  exact ⟨a, vs, rfl, q, q2, rs⟩
theorem op_addD (G : GX f c X) : OpR X (binaryOp .Add) (rD2 f (opD .add)) := by
  intro pins s σ H x y v u Q I rx ry ⟨F, κ, ρ, M, σ', d, e, R, bx, bee, r, hp, q⟩
  have here : ∀ w, Nw f F κ ρ σ' H w r → Q w H := fun w z => q F H w (Go.refl F κ H) R z
  cases d <;> cases e <;> simp only [opD, addD, reduceCtorEq] at hp
  · rename_i i j
    cases hp
    exact op_add pins s σ H x y v u Q I rx ry ⟨i, j, bx, bee, here _ rfl⟩
  · rename_i a b
    split at hp
    · rename_i z
      cases hp
      refine op_add_str pins s σ H x y v u Q I rx ry ⟨_, _, bx, bee, by rw [toStr_len, toStr_len, ← line_eq]; exact of_decide_eq_true z, ?_⟩
      rw [toStr_app]
      exact here _ rfl
    · cases hp
  · rename_i a b
    split at hp
    · rename_i z
      cases hp
      obtain ⟨p1, vs, rfl, f1, h1, r1⟩ := tup_at R.m bx
      obtain ⟨p2, ws, rfl, f2, h2, r2⟩ := tup_at R.m bee
      refine op_catA pins s σ H _ _ v u Q I rx ry ⟨p1, p2, vs, ws, rfl, rfl, by rw [G.K]; exact SqT.of h1, by rw [G.K]; exact SqT.of h2, ?_, fun e => ?_, fun _ e => ?_, fun _ _ p hp => ?_⟩
      · rw [Paired.length r1, Paired.length r2, ← line_eq]
        exact of_decide_eq_true z
      · subst e
        cases r1
        exact here _ ⟨p2, rfl, f2⟩
      · subst e
        cases r2
        rw [List.append_nil] at here
        exact here _ ⟨p1, rfl, f1⟩
      · obtain ⟨g1, R1⟩ := RS.tree (d := .tup (a ++ b)) (o := .tup (vs ++ ws)) R hp fun F' ex => ⟨vs ++ ws, upd_same, Paired.app (r1.mono ex (Px.refl _)) (r2.mono ex (Px.refl _))⟩
        exact q _ _ _ g1 R1 ⟨p, rfl, fput_same⟩
    · cases hp
  · rename_i a b
    split at hp
    · rename_i z
      cases hp
      obtain ⟨p1, vs, rfl, h1, r1, _⟩ := bx
      obtain ⟨p2, ws, rfl, h2, r2, _⟩ := bee
      refine op_cat pins s σ H _ _ v u Q I rx ry ⟨p1, p2, vs, ws, rfl, rfl, h1, h2, ?_, fun p hp => ?_⟩
      · rw [Paired.length r1, Paired.length r2, ← line_eq]
        exact of_decide_eq_true z
      · exact q _ _ _ (Go.new hp) (RS.new R hp) (nw_new R hp (Paired.app r1 r2))
    · cases hp
theorem op_subD (G : GX f c X) : OpR X (binaryOp .Sub) (rD2 f (opD .sub)) := by
  intro pins s σ H x y v u Q I rx ry ⟨F, κ, ρ, M, σ', d, e, R, bx, bee, r, hp, q⟩
  have here : ∀ w, Nw f F κ ρ σ' H w r → Q w H := fun w z => q F H w (Go.refl F κ H) R z
  cases d <;> cases e <;> simp only [opD, reduceCtorEq] at hp
  cases hp
  exact op_sub pins s σ H x y v u Q I rx ry ⟨_, _, bx, bee, here _ rfl⟩
theorem op_fdivD (G : GX f c X) : OpR X (binaryOp .FloorDiv) (rD2 f (opD .fdiv)) := by
  intro pins s σ H x y v u Q I rx ry ⟨F, κ, ρ, M, σ', d, e, R, bx, bee, r, hp, q⟩
  have here : ∀ w, Nw f F κ ρ σ' H w r → Q w H := fun w z => q F H w (Go.refl F κ H) R z
  cases d <;> cases e <;> simp only [opD, reduceCtorEq] at hp
  split at hp
  · rename_i z
    cases hp
    simp only [Bool.and_eq_true, decide_eq_true_eq] at z
    exact op_fdiv pins s σ H x y v u Q I rx ry ⟨_, _, bx, bee, z, here _ rfl⟩
  · cases hp
theorem op_modD (G : GX f c X) : OpR X (binaryOp .Mod) (rD2 f (opD .mod)) := by
  intro pins s σ H x y v u Q I rx ry ⟨F, κ, ρ, M, σ', d, e, R, bx, bee, r, hp, q⟩
  have here : ∀ w, Nw f F κ ρ σ' H w r → Q w H := fun w z => q F H w (Go.refl F κ H) R z
  cases d <;> cases e <;> simp only [opD, reduceCtorEq] at hp
  split at hp
  · rename_i z
    cases hp
    exact op_mod pins s σ H x y v u Q I rx ry ⟨_, _, bx, bee, of_decide_eq_true z, here _ rfl⟩
  · cases hp
theorem small64_iff {i : Int} (h : small64 i = true) : -(2 ^ 64) < i ∧ i < 2 ^ 64 := by
  simp only [small64, BIG, Bool.and_eq_true] at h
  rw [show (2 : Int) ^ 64 = 18446744073709551616 from by decide]
  exact ⟨of_decide_eq_true h.1, of_decide_eq_true h.2⟩
theorem op_powD (G : GX f c X) : OpR X (binaryOp .Pow) (rD2 f (opD .pow)) := by
  intro pins s σ H x y v u Q I rx ry ⟨F, κ, ρ, M, σ', d, e, R, bx, bee, r, hp, q⟩
  have here : ∀ w, Nw f F κ ρ σ' H w r → Q w H := fun w z => q F H w (Go.refl F κ H) R z
  cases d <;> cases e <;> simp only [opD, reduceCtorEq] at hp
  split at hp
  · rename_i z
    cases hp
    simp only [Bool.and_eq_true, decide_eq_true_eq] at z
    have := small64_iff z.2
    exact op_pow pins s σ H x y v u Q I rx ry ⟨_, _, bx, bee, ⟨z.1.1, z.1.2, by omega⟩, here _ rfl⟩
  · cases hp
theorem op_mulI (G : GX f c X) : OpR X (binaryOp .Mult) (rD2 f fun d e => match d, e with | .int _, .int _ => opD .mul d e | _, _ => none) := by
  intro pins s σ H x y v u Q I rx ry ⟨F, κ, ρ, M, σ', d, e, R, bx, bee, r, hp, q⟩
  have here : ∀ w, Nw f F κ ρ σ' H w r → Q w H := fun w z => q F H w (Go.refl F κ H) R z
  cases d <;> cases e <;> simp only [opD, mulD, reduceCtorEq] at hp
  split at hp
  · rename_i z
    cases hp
    simp only [Bool.or_eq_true] at z
    refine op_mul pins s σ H x y v u Q I rx ry ⟨_, _, bx, bee, ?_, here _ rfl⟩
    rcases z with z | z
    · exact .inl (small64_iff z)
    · exact .inr (small64_iff z)
  · cases hp
end
end DV
end
section
set_option Elab.async false
set_option linter.all false
set_option maxRecDepth 100000
set_option maxHeartbeats 1000000
/-! DV9: comparisons. -/
namespace DV
open PySem PySem.Spec PyProof.Rows L2
section
variable {f : Fr0} {c : Ct} {X : Cx} {g : Cfg} {φ : Phi}
/-- a comparison, what comes of it a bool -/
def CmR (f : Fr0) (X : Cx) (o : Cm) (P : D → D → Option Bool) : Prop := OpR X (compareOp (cmOf o)) (rD2 f fun x y => (P x y).map .bl)
theorem CmR.of {o : Cm} {P : D → D → Option Bool} (h : ∀ (pins : List (Addr × Obj)) (s : Shared) (σ : L2.St) (H : Hp) (x y : V) (v u : Value) (Q : VK) (F : Fz) (κ : List Addr) (ρ : Ev) (M : Mem) (σ' : L2.St) (d e : D) (b : Bool), Inv X pins σ H s → RelV x v → RelV y u →
    f.RS F κ ρ M σ' H → Bv f.K f.G F κ H x d → Bv f.K f.G F κ H y e → P d e = some b → Q (.bl b) H → wpAny (model X.prog X.w) X.A (compareOp (cmOf o) v u) (EP X pins σ Q) X.xe s) : CmR f X o P := by
  intro pins s σ H x y v u Q I rx ry ⟨F, κ, ρ, M, σ', d, e, R, bx, bee, r, hp, q⟩
  cases z : P d e with
  | none => simp [z] at hp
  | some b =>
    simp only [z, Option.map_some, Option.some.injEq] at hp
    subst hp
    exact h pins s σ H x y v u Q F κ ρ M σ' d e b I rx ry R bx bee z (q F H _ (Go.refl F κ H) R rfl)
theorem cm_eq (G : GX f c X) (hu : X.A.units + 64 < cLine) : CmR f X .eq (cmD .eq) := CmR.of fun pins s σ H x y v u Q F κ ρ M σ' d e b I rx ry R bx bee z q => by
  simp only [cmD] at z
  split at z
  · rename_i w
    cases z
    exact op_eqD hu pins s σ H x y v u Q I rx ry ⟨F, κ, M, d, e, by rw [G.K]; exact R.m, by rw [G.K]; exact bx, by rw [G.K]; exact bee, w, q⟩
  · cases z
theorem cm_ne (G : GX f c X) (hu : X.A.units + 64 < cLine) : CmR f X .ne (cmD .ne) := CmR.of fun pins s σ H x y v u Q F κ ρ M σ' d e b I rx ry R bx bee z q => by
  simp only [cmD] at z
  split at z
  · rename_i w
    cases z
    exact op_neD hu pins s σ H x y v u Q I rx ry ⟨F, κ, M, d, e, by rw [G.K]; exact R.m, by rw [G.K]; exact bx, by rw [G.K]; exact bee, w, q⟩
  · cases z
/-- comparisons of ints alone -/
def onInts (P : Int → Int → Bool) : D → D → Option Bool
  | .int i, .int j => some (P i j)
  | _, _ => none
theorem cm_int {o : Cm} {P : Int → Int → Bool} (ho : OpR X (compareOp (cmOf o)) (rI0 fun i j => .bl (P i j))) : CmR f X o (onInts P) := CmR.of fun pins s σ H x y v u Q F κ ρ M σ' d e b I rx ry R bx bee z q => by
  cases d <;> cases e <;> simp only [onInts, reduceCtorEq, Option.some.injEq] at z
  cases z
  exact ho pins s σ H x y v u Q I rx ry ⟨_, _, bx, bee, q⟩
theorem Rv.non_iff {G : Gb} {F : Fz} {κ : List Addr} {v : V} {d : D} (h : Rv G F κ v d) : decide (v = .non) = match d with | .non => true | _ => false := by
  cases d with
  | non => obtain rfl : v = .non := h; rfl
  | bl b => obtain rfl : v = .bl b := h; rfl
  | int b => obtain rfl : v = .int b := h; rfl
  | str b => obtain rfl : v = .str (toStr b) := h; rfl
  | ty b => obtain rfl : v = .ty (tyName b) := h; rfl
  | scr => obtain rfl : v = .ref G.sa := h; rfl
  | lam a b => exact h.elim
  | fn a => obtain ⟨a, _, rfl⟩ := h; rfl
  | cls a => obtain ⟨a, _, rfl⟩ := h; rfl
  | cell a => obtain ⟨a, _, rfl⟩ := h; rfl
  | tup l => obtain ⟨a, rfl, _⟩ := h; rfl
  | lst l => obtain ⟨a, rfl, _⟩ := h; rfl
  | dct l m => obtain ⟨a, rfl, _⟩ := h; rfl
  | set l => obtain ⟨a, rfl, _⟩ := h; rfl
  | ins a l => obtain ⟨a, rfl, _⟩ := h; rfl
theorem Bv.non_iff {K : PySem.W.Frag} {G : Gb} {F : Fz} {κ : List Addr} {H : Hp} {v : V} {d : D} (h : Bv K G F κ H v d) : decide (v = .non) = match d with | .non => true | _ => false := by
  cases d with
  | lst l => obtain ⟨a, vs, rfl, _⟩ := h; rfl
  | non => exact Rv.non_iff (G := G) (F := F) (κ := κ) (d := .non) h
  | bl b => exact Rv.non_iff (G := G) (F := F) (κ := κ) (d := .bl b) h
  | int b => exact Rv.non_iff (G := G) (F := F) (κ := κ) (d := .int b) h
  | str b => exact Rv.non_iff (G := G) (F := F) (κ := κ) (d := .str b) h
  | ty b => exact Rv.non_iff (G := G) (F := F) (κ := κ) (d := .ty b) h
  | scr => exact Rv.non_iff (G := G) (F := F) (κ := κ) (d := .scr) h
  | lam a b => exact h.elim
  | fn a => exact Rv.non_iff (G := G) (F := F) (κ := κ) (d := .fn a) h
  | cls a => exact Rv.non_iff (G := G) (F := F) (κ := κ) (d := .cls a) h
  | cell a => exact Rv.non_iff (G := G) (F := F) (κ := κ) (d := .cell a) h
  | tup l => exact Rv.non_iff (G := G) (F := F) (κ := κ) (d := .tup l) h
  | dct l m => exact Rv.non_iff (G := G) (F := F) (κ := κ) (d := .dct l m) h
  | set l => exact Rv.non_iff (G := G) (F := F) (κ := κ) (d := .set l) h
  | ins a l => exact Rv.non_iff (G := G) (F := F) (κ := κ) (d := .ins a l) h
theorem isD_at {x y : V} {d e : D} {b : Bool} {F : Fz} {κ : List Addr} {H : Hp} (bx : Bv f.K f.G F κ H x d) (bee : Bv f.K f.G F κ H y e) (z : isD d e = some b) :
    (y = .non ∧ decide (x = .non) = b) ∨ ∃ b1 b2 : Bool, x = .bl b1 ∧ y = .bl b2 ∧ decide (b1 = b2) = b := by
  cases e with
  | non =>
    refine .inl ⟨bee, ?_⟩
    rw [bx.non_iff]
    cases d <;> simp only [isD, Option.some.injEq] at z <;> exact z
  | bl b2 =>
    cases d with
    | bl b1 =>
      refine .inr ⟨b1, b2, bx, bee, ?_⟩
      simp only [isD, Option.some.injEq] at z
      rw [← z]
      cases b1 <;> cases b2 <;> rfl
    | _ => cases z
  | _ => cases d <;> cases z
theorem cm_is : CmR f X .is (cmD .is) := CmR.of fun pins s σ H x y v u Q F κ ρ M σ' d e b I rx ry R bx bee z q => by
  rcases isD_at bx bee z with ⟨h1, h2⟩ | ⟨b1, b2, h1, h2, h3⟩
  · exact op_isN pins s σ H x y v u Q I rx ry ⟨h1, by rw [h2]; exact q⟩
  · exact L2.op_isBl pins s σ H _ _ v u Q I rx ry ⟨b1, b2, h1, h2, by rw [h3]; exact q⟩
theorem cm_isnot : CmR f X .isnot (cmD .isnot) := CmR.of fun pins s σ H x y v u Q F κ ρ M σ' d e b I rx ry R bx bee z q => by
  cases w : isD d e with
  | none => simp [cmD, w] at z
  | some k =>
    simp only [cmD, w, Option.map_some, Option.some.injEq] at z
    subst z
    rcases isD_at bx bee w with ⟨h1, h2⟩ | ⟨b1, b2, h1, h2, h3⟩
    · exact op_notN pins s σ H x y v u Q I rx ry ⟨h1, by rw [h2]; exact q⟩
    · exact L2.op_notBl pins s σ H _ _ v u Q I rx ry ⟨b1, b2, h1, h2, by rw [h3]; exact q⟩
theorem cm_ints (o : Cm) (h : o = .lt ∨ o = .le ∨ o = .gt ∨ o = .ge) : CmR f X o (cmD o) := by
  rcases h with rfl | rfl | rfl | rfl
  · have e : cmD .lt = onInts fun i j => decide (i < j) := by funext d e; cases d <;> cases e <;> rfl
    rw [e]; exact cm_int op_lt
  · have e : cmD .le = onInts fun i j => decide (i ≤ j) := by funext d e; cases d <;> cases e <;> rfl
    rw [e]; exact cm_int op_le
  · have e : cmD .gt = onInts fun i j => decide (j < i) := by funext d e; cases d <;> cases e <;> rfl
    rw [e]; exact cm_int op_gt
  · have e : cmD .ge = onInts fun i j => decide (j ≤ i) := by funext d e; cases d <;> cases e <;> rfl
    rw [e]; exact cm_int op_ge
theorem flat_rv {G : Gb} {F : Fz} {κ : List Addr} {v : V} {d : D} (h : Rv G F κ v d) (p : flatD d = true) : flatV v = true := by
  cases d with
  | non => obtain rfl : v = .non := h; rfl
  | bl b => obtain rfl : v = .bl b := h; rfl
  | int b => obtain rfl : v = .int b := h; rfl
  | str b => obtain rfl : v = .str (toStr b) := h; rfl
  | _ => cases p
theorem flat_b_rv {K : PySem.W.Frag} {G : Gb} {F : Fz} {κ : List Addr} {H : Hp} {v : V} {d : D} (h : Bv K G F κ H v d) (p : flatD d = true) : Rv G F κ v d := by
  cases d with
  | non => exact h
  | bl b => exact h
  | int b => exact h
  | str b => exact h
  | _ => cases p
theorem eqV_rv {G : Gb} {F : Fz} {κ : List Addr} {v w : V} {d e : D} (h : Rv G F κ v d) (k : Rv G F κ w e) (p : flatD d = true) (q : flatD e = true) : eqV v w = D.eq d e := by
  cases d with
  | non =>
    obtain rfl : v = .non := h
    cases e with
    | non => obtain rfl : w = .non := k; rfl
    | bl b => obtain rfl : w = .bl b := k; rfl
    | int b => obtain rfl : w = .int b := k; rfl
    | str b => obtain rfl : w = .str (toStr b) := k; rfl
    | _ => cases q
  | bl a =>
    obtain rfl : v = .bl a := h
    cases e with
    | non => obtain rfl : w = .non := k; rfl
    | bl b => obtain rfl : w = .bl b := k; rfl
    | int b => obtain rfl : w = .int b := k; rfl
    | str b => obtain rfl : w = .str (toStr b) := k; rfl
    | _ => cases q
  | int a =>
    obtain rfl : v = .int a := h
    cases e with
    | non => obtain rfl : w = .non := k; rfl
    | bl b => obtain rfl : w = .bl b := k; rfl
    | int b => obtain rfl : w = .int b := k; rfl
    | str b => obtain rfl : w = .str (toStr b) := k; rfl
    | _ => cases q
  | str a =>
    obtain rfl : v = .str (toStr a) := h
    cases e with
    | non => obtain rfl : w = .non := k; rfl
    | bl b => obtain rfl : w = .bl b := k; rfl
    | int b => obtain rfl : w = .int b := k; rfl
    | str b =>
      obtain rfl : w = .str (toStr b) := k
      show (toStr a == toStr b) = (a == b)
      by_cases z : a = b
      · subst z; simp
      · rw [beq_eq_false_iff_ne.mpr z, beq_eq_false_iff_ne]
        exact fun y => z (toStr_inj y)
    | _ => cases q
  | _ => cases p
theorem inV_rv {G : Gb} {F : Fz} {κ : List Addr} {w : V} {e : D} (k : Rv G F κ w e) (q : flatD e = true) : ∀ {vs : List V} {ds : List D}, Rvs G F κ vs ds → ds.all flatD = true → vs.all flatV = true ∧ inV w vs = isIn e ds
  | _, _, .nil, _ => ⟨rfl, rfl⟩
  | _, _, .cons r t, h => by
    simp only [List.all_cons, Bool.and_eq_true] at h
    obtain ⟨h1, h2⟩ := inV_rv k q t h.2
    refine ⟨?_, ?_⟩
    · simp only [List.all_cons, Bool.and_eq_true]
      exact ⟨flat_rv r h.1, h1⟩
    · unfold inV at h2 ⊢
      simp only [List.any_cons, isIn]
      rw [eqV_rv r k h.1 q, h2]
/-- an item's answer, read off the value -/
def eqE (F : Fz) (e : D) (u : Value) : Bool := match u with
  | .none => D.eq .non e
  | .bool b => D.eq (.bl b) e
  | .int i _ => D.eq (.int i) e
  | .str z _ => D.eq (.str z.cps.toList) e
  | .ref a => match F a with
    | some d => D.eq d e
    | none => false
  | _ => false
theorem eqE_rv {G : Gb} {F : Fz} {κ : List Addr} {v : V} {u : Value} {d e : D} (h : Rv G F κ v d) (r : RelV v u) (p : D.plain d = true) : eqE F e u = D.eq d e := by
  cases d with
  | non => obtain rfl : v = .non := h; cases r; rfl
  | bl b => obtain rfl : v = .bl b := h; cases r; rfl
  | int i => obtain rfl : v = .int i := h; obtain ⟨t, rfl⟩ := r; rfl
  | str z => obtain rfl : v = .str (toStr z) := h; obtain ⟨t, rfl⟩ := r; rfl
  | tup l => obtain ⟨a, rfl, hf⟩ := h; cases r; simp only [eqE, hf]
  | lst l => obtain ⟨a, rfl, hf⟩ := h; cases r; simp only [eqE, hf]
  | _ => simp [D.plain] at p
theorem easy_1 {d : D} (h : easy d = true) : D.plain d = true ∧ D.dep d ≤ 40 := by
  simp only [easy, Bool.and_eq_true, decide_eq_true_eq] at h
  exact h
theorem inE_at {s : Shared} {σ' : L2.St} {pins : List (Addr × Obj)} {H : Hp} {F : Fz} {κ : List Addr} {M : Mem} {x : V} {v : Value} {e : D} (I : Inv X pins σ' H s) (R : RM X.K f.G F κ M H) (hu : X.A.units + 64 < cLine) (bx : Bv X.K f.G F κ H x e) (rx : RelV x v) (px : easy e = true) :
    ∀ {vs : List V} {us : List Value} {ds : List D}, Rvs f.G F κ vs ds → Vals vs us → ds.all easy = true → (∀ u ∈ us, SeqAt.EqAt X.A.in1 s u v (eqE F e u)) ∧ us.any (eqE F e) = isIn e ds
  | _, _, _, .nil, .nil, _ => ⟨(fun _ h => nomatch h), rfl⟩
  | _, _, _, .cons (a := w) (b := d) r t, .cons (b := u) q p, h => by
    simp only [List.all_cons, Bool.and_eq_true] at h
    obtain ⟨h1, h2⟩ := inE_at I R hu bx rx px t p h.2
    have e1 := eqE_rv (e := e) r q (easy_1 h.1).1
    refine ⟨fun u' hu' => ?_, ?_⟩
    · rcases List.mem_cons.mp hu' with rfl | hu'
      · obtain ⟨as, ra⟩ := reads_rv I R _ _ _ (easy_1 h.1).1 r q
        obtain ⟨bs, rb⟩ := reads_bv I R (easy_1 px).1 bx rx
        rw [e1, ← eq_py _ _ (easy_1 h.1).1 (easy_1 px).1]
        refine SeqAt.eqAt_reads _ _ _ _ _ _ _ _ ra rb (lay_py _ (easy_1 h.1).1) (lay_py _ (easy_1 px).1) ?_
        rw [dep_py, dep_py]
        have a1 := (easy_1 px).2
        have a2 : X.A.in1.units = X.A.units + 1 := rfl
        omega
      · exact h1 u' hu'
    · rw [List.any_cons, e1, h2]
      rfl
theorem in_at {pins : List (Addr × Obj)} {s : Shared} {σ' : L2.St} {x y : V} {v : Value} {d e : D} {b : Bool} {F : Fz} {κ : List Addr} {H : Hp} {M : Mem} (I : Inv X pins σ' H s) (R : RM X.K f.G F κ M H) (hu : X.A.units + 64 < cLine) (bx : Bv X.K f.G F κ H x d) (rx : RelV x v) (bee : Bv X.K f.G F κ H y e) (z : inD d e = some b) :
    ∃ p xs, y = .ref p ∧ (SqL X.K H p xs ∨ SqT X.K H p xs) ∧ ∃ k : Value → Bool, ∀ us, Vals xs us → (∀ u ∈ us, SeqAt.EqAt X.A.in1 s u v (k u)) ∧ us.any k = b := by
  have go : ∀ {l : List D} {vs : List V}, Rvs f.G F κ vs l → (if (flatD d && l.all flatD) = true then some (isIn d l) else if (easy d && l.all easy) = true then some (isIn d l) else none) = some b → ∃ k : Value → Bool, ∀ us, Vals vs us → (∀ u ∈ us, SeqAt.EqAt X.A.in1 s u v (k u)) ∧ us.any k = b := by
    intro l vs rs z
    split at z
    · rename_i w
      cases z
      simp only [Bool.and_eq_true] at w
      have rx' := flat_b_rv bx w.1
      obtain ⟨q1, q2⟩ := inV_rv rx' w.1 rs w.2
      refine ⟨eqU x, fun us r => ⟨mem_eqAt rx (flat_rv rx' w.1) r q1, ?_⟩⟩
      rw [any_eqU r q1]
      exact q2
    · split at z
      · rename_i w
        cases z
        simp only [Bool.and_eq_true] at w
        exact ⟨eqE F d, fun us r => inE_at I R hu bx rx w.1 rs r w.2⟩
      · cases z
  cases e with
  | tup l =>
    obtain ⟨p, vs, rfl, _, h1, rs⟩ := tup_at R bee
    exact ⟨p, vs, rfl, .inr (SqT.of h1), go rs z⟩
  | lst l =>
    obtain ⟨p, vs, rfl, h1, rs, _⟩ := bee
    exact ⟨p, vs, rfl, .inl (SqL.of h1), go rs z⟩
  | _ => cases z
theorem cm_in (G : GX f c X) (hu : X.A.units + 64 < cLine) : CmR f X .isin (cmD .isin) := CmR.of fun pins s σ H x y v u Q F κ ρ M σ' d e b I rx ry R bx bee z q => by
  obtain ⟨p, xs, rfl, h2, k, hk⟩ := in_at I (by rw [G.K]; exact R.m) hu (by rw [G.K]; exact bx) rx (by rw [G.K]; exact bee) z
  cases ry
  rcases h2 with hq | hq
  · obtain ⟨its, r, pl, hz⟩ := I.list hq
    obtain ⟨k1, k2⟩ := hk its r
    refine SeqAt.in_listAt k pl.isList (fun w hw => k1 w (by simpa using hw)) ⟨.bl _, H, I, rfl, ?_⟩
    rw [show its.toArray.any k = its.any k by simp, k2]
    exact q
  · obtain ⟨its, r, pl, hz⟩ := I.tuple hq
    obtain ⟨k1, k2⟩ := hk its r
    refine SeqAt.in_tupleAt k pl (fun w hw => k1 w (by simpa using hw)) ⟨.bl _, H, I, rfl, ?_⟩
    rw [show its.toArray.any k = its.any k by simp, k2]
    exact q
theorem cm_notin (G : GX f c X) (hu : X.A.units + 64 < cLine) : CmR f X .notin (cmD .notin) := CmR.of fun pins s σ H x y v u Q F κ ρ M σ' d e b I rx ry R bx bee z q => by
  cases w : inD d e with
  | none => simp [cmD, w] at z
  | some k0 =>
    simp only [cmD, w, Option.map_some, Option.some.injEq] at z
    subst z
    obtain ⟨p, xs, rfl, h2, k, hk⟩ := in_at I (by rw [G.K]; exact R.m) hu (by rw [G.K]; exact bx) rx (by rw [G.K]; exact bee) w
    cases ry
    rcases h2 with hq | hq
    · obtain ⟨its, r, pl, hz⟩ := I.list hq
      obtain ⟨k1, k2⟩ := hk its r
      refine SeqAt.notIn_listAt k pl.isList (fun w hw => k1 w (by simpa using hw)) ⟨.bl _, H, I, rfl, ?_⟩
      rw [show its.toArray.any k = its.any k by simp, k2]
      exact q
    · obtain ⟨its, r, pl, hz⟩ := I.tuple hq
      obtain ⟨k1, k2⟩ := hk its r
      refine SeqAt.notIn_tupleAt k pl (fun w hw => k1 w (by simpa using hw)) ⟨.bl _, H, I, rfl, ?_⟩
      rw [show its.toArray.any k = its.any k by simp, k2]
      exact q
theorem cm_all (G : GX f c X) (hu : X.A.units + 64 < cLine) (o : Cm) : CmR f X o (cmD o) := by
  cases o
  · exact cm_eq G hu
  · exact cm_ne G hu
  · exact cm_ints .lt (.inl rfl)
  · exact cm_ints .le (.inr (.inl rfl))
  · exact cm_ints .gt (.inr (.inr (.inl rfl)))
  · exact cm_ints .ge (.inr (.inr (.inr rfl)))
  · exact cm_is
  · exact cm_isnot
  · exact cm_in G hu
  · exact cm_notin G hu
end
end DV
end
section
set_option Elab.async false
set_option linter.all false
set_option maxRecDepth 100000
set_option maxHeartbeats 2000000
/-! DV51: such an error raised; caught and kept; its field; isinstance. -/
namespace DVE
open PySem PySem.Spec PyProof.Rows L2 PySem.DVE DV
theorem relO_one {x : Str} {v : V} {v' : Value} (r : RelV v v') (f : Str) : RelO (List.lookup f [(x, v)]) (if f = x then some v' else none) := by
  by_cases hw : f = x
  · subst hw
    rw [if_pos rfl]
    have q : List.lookup f [(f, v)] = some v := by simp [List.lookup]
    rw [q]
    exact r
  · rw [if_neg hw]
    have q2 : List.lookup f [(x, v)] = none := by
      have qw : (f == x) = false := beq_false_of_ne hw
      simp only [List.lookup, qw]
    rw [q2]
    trivial
section
variable {X : Cx} {C : Addr} {x n : Str}
/-- C(e), C by its name n -/
theorem pmk_er {a : Expr} {ta : TA} {p pos : Pos} {k : Nat} (T : ErT X.prog X.K C x) (gC : X.mg n = some (.ref C)) (hsu : X.mg "super" = none) (hr : Room k X.A) (ha : PA X [a] ta) (hg : Gl X n) (hd : (n == ("__debug__" : Str)) = false) (hst : ∀ e' p, a ≠ .Starred e' p) :
    PMk X (.Call (.Name n p) [a] [] pos) (fun σ H Q => ta σ H fun vs H1 => ∃ v, vs = [v] ∧ ∀ d, H1 d = none → Q (.ref C) (some d) (upd H1 d (.xd [(x, v)]))) := by
  intro pins s σ H Q I h
  refine wpAny_Call_Name_kw (ld_glob I hg gC ?_ hd)
  refine PySem.W.callWith_K (h₀ := X.base) I.ok.mod.kin T.kC (thn (ha.run pos pins s σ H _ I h) fun us s1 hh => ?_) (DV.noStar hst) (by rfl)
  obtain ⟨vs, H1, I1, r1, v, ev, q1⟩ := hh
  subst ev
  refine ⟨I1.kIn, ?_⟩
  cases r1 with
  | cons rv rn =>
    rename_i v' us'
    cases rn
    show wpAny _ _ (call (.ref C) [v']) _ _ _
    have hlim := I1.nolimit
    obtain ⟨mb, hb, hbs⟩ := I1.mod.blt
    have hglob := I1.mod.glob.keeps I1.bk
    have hblt := hb.keeps I1.bk
    obtain ⟨hp, g, dr, tk, os⟩ := s1
    refine wpAny_call (er_made T I1.kIn hglob hsu hblt (hbs _ (by decide)) hlim (by have := hr.dp; omega) fun h' tk' e d M => ?_)
    show MkP X pins σ Q (.ref e) ⟨h', g, dr, tk', os⟩
    obtain ⟨oe, fv, hoe, hc, hd, hdat, h1⟩ := M.obj
    have hns := M.ns
    obtain ⟨G', g1, g2⟩ := restrict h' fun b => decide (b ≠ e)
    have gk : ∀ b, b ≠ e → G'.get? b = h'.get? b := fun b hb => g1 b (decide_eq_true hb)
    have ge : G'.get? e = none := g2 e (by simp)
    have old : ∀ b o, hp.get? b = some o → G'.get? b = some o := fun b o q => (gk b (Nat.ne_of_lt (Nat.lt_of_lt_of_le (Heap.lt_size q) M.new))).trans (M.keep b o q)
    have ob : ObjOk X.prog X.w (upd H1 d (.xd [(x, v)])) G' d (.xd [(x, v)]) := ⟨_, hns.at (fun o q => (gk d M.dne).trans q), fun f => relO_one rv f⟩
    have J : Inv X pins σ (upd H1 d (.xd [(x, v)])) ⟨G', g, dr, tk', os⟩ := I1.laid (t' := tk') old M.dbig ob
    refine ⟨e, oe, fv, ⟨G', g, dr, tk', os⟩, _, .ref C, some d, rfl, J, fun b o q => ?_, ge, hoe, ⟨hc, hd⟩, hdat, h1, ?_, rfl, I1.bare, raises_own T.exC T.tyC, q1 d (I1.hok.fresh M.dbig)⟩
    · by_cases hb : b = e
      · have q' : G'.get? b = some o := q
        rw [hb, ge] at q'; cases q'
      · exact (gk b hb).symm.trans q
    · rw [upd_ne (Ne.symm M.dne)]
      exact I1.hok.fresh M.new
end
/-! ### caught and kept -/
theorem exT_ok {P : Program} {w : World} {H : Hp} {h : Heap} {a : Addr} {oe : Obj} (e : h.get? a = some oe) : ObjOk P w H h a (ExT a oe) := ⟨e, oe, e⟩
section
variable {X : Cx} {pins : List (Addr × Obj)} {σ : L2.St} {H : Hp} {s : Shared}
theorem track {a : Addr} {oe : Obj} {vs : Array Value} (I : Inv X pins σ H s) (he : s.heap.get? a = some oe) (hd : oe.data = .fields vs) (hn : H a = none) (nL : a ≠ X.env.locals) (n0 : X.s_0.heap.get? a = none) (hp : ∀ p ∈ X.pn ++ pins, p.1 ≠ a) : Inv X pins σ (upd H a (ExT a oe)) s := by
  have ne0 : ∀ b o, X.s_0.heap.get? b = some o → b ≠ a := fun b o e z => by
    rw [z, n0] at e
    cases e
  refine ⟨I.ok, I.os, I.bare, ⟨I.base.keep, I.base.slot, fun b o e n hx => ?_, I.base.there, fun b xs e => ?_, fun b o u e => ?_, fun b ps e => ?_⟩, I.loc, I.cell, ?_, fun x c e => ?_, fun p q => ?_, fun b u e => ?_, I.len⟩
  · rw [upd_ne (ne0 b o e)]
    exact I.base.free b o e n hx
  · have q := I.base.tups b xs e
    rw [upd_ne (ne_of_none q hn)]
    exact q
  · have q := I.base.frzs b o u e
    rw [upd_ne (ne_of_none q hn)]
    exact q
  · obtain ⟨m, q⟩ := I.base.tbls b ps e
    exact ⟨m, by rw [upd_ne (ne_of_none q hn)]; exact q⟩
  · rw [upd_ne (Ne.symm nL)]
    exact I.free
  · have nc : c ≠ a := fun z => by
      obtain ⟨v, o, ho, hv⟩ := I.cell x c e
      rw [z] at ho
      rw [show s.heap.get? a = some oe from he] at ho
      cases ho
      rw [hd] at hv
      cases hv
    rw [upd_ne nc]
    exact I.freeC x c e
  · obtain ⟨e, n, ne, nf, d⟩ := I.pin p q
    exact ⟨e, by rw [upd_ne (hp p q)]; exact n, ne, nf, d⟩
  · by_cases hb : b = a
    · subst hb
      rw [upd_same] at e
      cases e
      exact exT_ok he
    · rw [upd_ne hb] at e
      exact (I.hok b u e).stay (fun c v _ q => q) (fun c q => by rw [upd_ne (ne_of_none q hn)]; exact q) fun c xs q => by rw [upd_ne (ne_of_none q hn)]; exact q
theorem suiteN (I : Inv X pins σ H s) (a : Addr) : Inv (X.suite a (X.pn ++ pins)) [] σ H s :=
  ⟨I.ok.suite _ _, I.os, I.bare, I.base, I.loc, I.cell, I.free, I.freeC, fun p hp => I.pin p (by have hp' : p ∈ (X.pn ++ pins) ++ [] := hp; rw [List.append_nil] at hp'; exact hp'), I.hok, I.len⟩
theorem unsuiteN {a : Addr} {pn' : List (Addr × Obj)} (I : Inv (X.suite a (X.pn ++ pins)) pn' σ H s) (ok : X.Ok) : Inv X pins σ H s :=
  ⟨ok, I.os, I.bare, I.base, I.loc, I.cell, I.free, I.freeC, fun p hp => I.pin p (List.mem_append_left _ hp), I.hok, I.len⟩
end
/-- the wish of a body whose errors of the class c are kept in slot j -/
def wCap (K : PySem.W.Frag) (c : Value) (i j : Nat) (Wout : WX) (D : Ends) : WX := fun cls d σ H =>
  ∃ b, PySem.W.exmOne K cls c = some b ∧ (b = true → ∀ a oe, H a = none → Zc cls d oe → (∃ vs, oe.data = .fields vs) → D.nx (((σ.set i (some (.ref a))).set j (some (.ref a))).set i none) (upd H a (ExT a oe))) ∧ (b = false → Wout cls d σ H)
section
variable {X : Cx} {x n m : Str} {c : Value} {i j : Nat} {body : List Stmt} {np p1 p2 p3 pos pos' : Pos} {tb : WX → TS} {Wout : WX}
/-- try: body, except x as n: m = n -/
theorem ps_try_cap (hs : X.stack = X.env :: X.outer) (hf : X.env.frame = some X.env.locals) (hex : X.ex = []) (hN : X.N.Nodup) (hi : X.N[i]? = some n) (hj : X.N[j]? = some m) (hij : i ≠ j) (hln : X.env.kindOf n = some .local) (hlm : X.env.kindOf m = some .local) (hc : Names X x c) (tk : Takes X Wout) (hdn : (n == ("__debug__" : Str)) = false) (hcn : (n == ("__classdict__" : Str)) = false)
    (hb : ∀ (W : WX) (pn : List (Addr × Obj)) (xe : Value → Shared → Prop), Takes (X.tr pn xe) W → PassesOwn (model X.prog X.w) X.A X.env xe → PSs (X.tr pn xe) body (tb W)) :
    PS X (.Try body [.ExceptHandler (some (.Name x np)) (some n) [.Assign [.Name m p1] (.Name n p2) p3] pos'] [] [] pos) (fun D σ H => tb (wCap X.K c i j Wout D) D σ H) := by
  refine ⟨fun pins s σ H D I h => ?_⟩
  have ok := I.ok
  have hfr : X.A.frames = some (X.env :: X.outer) := by rw [ok.frames, hs]
  have hloc : Loc X.env.scope n := .inl hln
  have hlocm : Loc X.env.scope m := .inl hlm
  refine wpAny_Try_except ?_
  refine wpAny_mono ((hb (wCap X.K c i j Wout D) (X.pn ++ pins) (fun e s₁ => wpAny (model X.prog X.w) X.A (noteFrame e X.env) (fun _ s₂ => wpAny (model X.prog X.w) X.A (setFlight e none) (fun _ s₃ =>
    wpAny (model X.prog X.w) X.A (handleBy e X.env [.ExceptHandler (some (.Name x np)) (some n) [.Assign [.Name m p1] (.Name n p2) p3] pos']) (SP X pins D) X.xe s₃) X.xe s₂) X.xe s₁) (fun u s' xx => ?_) PassesOwn.looking).run [] s σ H D (I.toTry _) h) (fun f s1 hsp => ?_) (fun e s1 he => he)
  · obtain ⟨a, B, sI, pins', σ', H', cls, d, rfl, J', nb, up, sky, na, os, ag, b, hb1, hyes, hno⟩ := xx
    have J : Inv X pins σ' H' sI := J'.ofTry ok
    have sky' : Sky B (X.env :: X.outer) a (Zc cls d) X.env.locals s'.heap := by rw [← hs]; exact sky
    show wpAny (model X.prog X.w) X.A (noteFrame (.ref a) X.env) _ _ _
    refine Sky.land Zc.steady hfr hf sky' fun h3 fl3 up3 => ?_
    have J3 : Inv X pins σ' H' { s' with heap := h3 } := J.landed nb fl3.1 (up.trans up3) os ag
    obtain ⟨oe3, vs3, he3, hz3, hd3⟩ := fl3.there
    have notFr : ∀ {h : Heap} {o : Obj} {vs : Array Value}, h.FunFrames B (X.env :: X.outer) → h.get? a = some o → o.data = .fields vs → a ∉ frs (X.env :: X.outer) := fun {h o vs} ff e dd hm => by
      obtain ⟨_, o', e', hnf⟩ := ff.mem hm
      rw [e] at e'; cases e'
      exact hnf _ dd
    have nfr := notFr fl3.2.2.1 he3 hd3
    have nL : a ≠ X.env.locals := fun z => nfr (List.mem_filterMap.mpr ⟨X.env, List.mem_cons_self, by rw [hf, z]⟩)
    have nF : a ∉ X.fs := fun hm => by
      obtain ⟨e, he, q⟩ := List.mem_filterMap.mp hm
      exact nfr (List.mem_filterMap.mpr ⟨e, List.mem_cons_of_mem _ he, q⟩)
    have nI : sI.heap.get? a = none := by
      cases e : sI.heap.get? a with
      | none => rfl
      | some o =>
        have := nb a o e (by rw [hs]; exact nfr)
        rw [fl3.2.1] at this
        cases this
    have n0 : X.s_0.heap.get? a = none := by
      cases e : X.s_0.heap.get? a with
      | none => rfl
      | some o =>
        obtain ⟨o', q⟩ := J.base.there a o e (by rw [hex]; exact fun z => nomatch z)
        rw [nI] at q
        cases q
    have npin : ∀ p ∈ X.pn ++ pins, p.1 ≠ a := fun p hp z => by
      have q := (J.pin p hp).1
      rw [z, nI] at q
      cases q
    have S3 := J3.suite he3 hd3 na nL nF
    refine wpAny_handleBy_cons (codeAny_handlers_test ?_) (by intro q; cases q)
    have LT : PySem.W.Looks (model X.prog X.w) h3 (typeOf (.ref a)) cls := fun A Q E s k q => wpAny_typeOf_ref (k _ _ he3) (by rw [hz3.1]; exact q)
    have LM := PySem.W.exm_one (M := model X.prog X.w) (J3.kIn) LT hb1
    have test : ∀ {Q : Value → Shared → Prop} {E : Value → Shared → Prop}, Q c { s' with heap := h3 } → wpAny (model X.prog X.w) (X.A.mark (some (.ref a))) (eval (.Name x np) X.env) Q E { s' with heap := h3 } := fun {Q E} q => by
      obtain ⟨hg, hdbg, hm | ⟨hm, hv, hnn⟩⟩ := hc
      · exact ld_glob (X := X.suite a ((a, oe3) :: (X.pn ++ pins))) S3 hg hm q hdbg
      · exact ld_blt (X := X.suite a ((a, oe3) :: (X.pn ++ pins))) S3 hg hm hv q hnn hdbg
    refine test (LM.here ?_)
    cases b with
    | true =>
      refine codeAny_handlers_suite_as ?_
      refine HandSPX.lands_againZ fl3 fun h4 fl4 up4 => ?_
      have J4 : Inv X pins σ' H' { s' with heap := h4 } := J.landed nb fl4.1 ((up.trans up3).trans up4) os ag
      obtain ⟨oe4, vs4, he4, hz4, hd4⟩ := fl4.there
      have T4 : Inv X pins σ' (upd H' a (ExT a oe4)) { s' with heap := h4 } := track J4 he4 hd4 na nL n0 npin
      have S4 := suiteN T4 a
      refine store_ok (X := X.suite a (X.pn ++ pins)) (v := .ref a) S4 hN hi hloc rfl (fun s5 S5 => ?_) (.inr hln)
      have su : PSs (X.suite a (X.pn ++ pins)) [.Assign [.Name m p1] (.Name n p2) p3] (tAsg (tVar i) (gName j)) := pss_one (ps_set (X := X.suite a (X.pn ++ pins)) hN hj hlocm (pe_var (X := X.suite a (X.pn ++ pins)) hi (.inl hln) hdn hcn) rfl (.inr hlm))
      have ilt : i < σ'.length := by
        rw [J.len]
        exact (List.getElem?_eq_some_iff.mp hi).1
      refine wpAny_mono (su.run [] s5 _ _ { nx := fun σ6 H6 => D.nx (σ6.set i none) H6, rt := D.rt, bk := fun _ _ => False, ct := fun _ _ => False } S5 ⟨_, List.getElem?_set_self ilt, hyes rfl a oe4 na hz4 ⟨_, hd4⟩⟩) (fun f s6 hsp => ?_) (fun _ _ z => False.elim z)
      have end_ : ∀ {σ6 : L2.St} {H6 : Hp} {Q : Shared → Prop}, Inv (X.suite a (X.pn ++ pins)) [] σ6 H6 s6 → (∀ s7, Inv X pins (σ6.set i none) H6 s7 → Q s7) →
          wpAny (model X.prog X.w) X.A (do bindName X.env n .none; unbindBehindTheSuite X.env n pos') (fun _ s7 => Q s7) X.xe s6 := fun {σ6 H6 Q} S6 hq => gone_ok (unsuiteN S6 ok) hN hi hln hq
      cases f with
      | next =>
        obtain ⟨σ6, H6, S6, q6⟩ := hsp
        exact end_ S6 fun s7 J7 => ⟨_, _, J7, q6⟩
      | brk =>
        obtain ⟨σ6, H6, S6, q6⟩ := hsp
        exact q6.elim
      | cont =>
        obtain ⟨σ6, H6, S6, q6⟩ := hsp
        exact q6.elim
      | ret u =>
        obtain ⟨v6, σ6, H6, S6, r6, q6⟩ := hsp
        exact end_ S6 fun s7 J7 => ⟨_, _, _, J7, r6, q6⟩
    | false =>
      show wpAny _ X.A (handleBy (.ref a) X.env []) _ _ _
      refine wpAny_handleBy_nil ?_
      obtain ⟨k1, k2, k3, oe, vs, T, oT, ts', he, hz, hd, h1, hr⟩ := id fl3
      unfold PySem.passOn
      refine wpAny_bind (wpAny_field he hd h1 ?_)
      rw [if_neg (show ¬ ((Value.ref T == Value.none) = true) from by simp)]
      have fin : wpAny (model X.prog X.w) X.A (setFlight (.ref a) X.env.frame) (fun _ s4 => wpAny (model X.prog X.w) X.A (throw (.ref a) : Sem Flow) (SP X pins D) X.xe s4) X.xe { s' with heap := h3 } := by
        rw [hf]
        refine HandSPX.setFlight_upZ fl3 fun h4 hh4 up4 => wpAny_throw (tk _ _ ?_)
        exact ⟨a, B, sI, pins, σ', H', cls, d, rfl, J, nb, (up.trans up3).trans up4, .inr (.inr (by rw [hs]; exact hh4)), na, os, ag, hno rfl⟩
      first
        | exact wpAny_bind (wpAny_pure (wpAny_bind fin))
        | exact wpAny_bind fin
  · cases f with
    | next =>
      obtain ⟨σ', H', J', q⟩ := hsp
      exact wpAny_execs_nil ⟨σ', H', J'.ofTry ok, q⟩
    | brk =>
      obtain ⟨σ', H', J', q⟩ := hsp
      exact ⟨σ', H', J'.ofTry ok, q⟩
    | cont =>
      obtain ⟨σ', H', J', q⟩ := hsp
      exact ⟨σ', H', J'.ofTry ok, q⟩
    | ret u =>
      obtain ⟨v, σ', H', J', r, q⟩ := hsp
      exact ⟨v, σ', H', J'.ofTry ok, r, q⟩
end
/-! ### its field; isinstance -/
section
variable {X : Cx} {C : Addr} {x : Str}
/-- e.x, e such an error -/
theorem pe_exf {e : Expr} {te : TE} {pos : Pos} (he : PE X e te) (hb : attributeBase e x X.env (eval e X.env) = eval e X.env) :
    PE X (.Attribute e x pos) (fun σ H Q => te σ H fun y H1 => ∃ (a C dx : Addr) (oe : Obj) (vs : Array Value) (nfs : List (Str × V)) (v : V), y = .ref a ∧ ErA X.K C x ∧ H1 a = some (ExT a oe) ∧ oe.cls = .ref C ∧ oe.dict = some dx ∧ oe.data = .fields vs ∧ H1 dx = some (.xd nfs) ∧ nfs.lookup x = some v ∧ Q v H1) := by
  refine ⟨fun pins s σ H Q I h => ?_⟩
  refine attr_of hb (thn (he.run pins s σ H _ I h) fun u s1 hh => ?_)
  obtain ⟨y, H1, I1, rx, a, C, dx, oe, vs, nfs, v, rfl, T, ea, hc, hd, hdt, ed, l, q⟩ := hh
  obtain rfl : u = Value.ref a := rx
  obtain ⟨ha, _⟩ := (show ObjOk X.prog X.w H1 s1.heap a (ExT a oe) from I1.hok a _ ea)
  have hx : ObjOk X.prog X.w H1 s1.heap dx (.xd nfs) := I1.hok dx _ ed
  obtain ⟨mA, hns, hr⟩ := hx
  obtain ⟨od, ho, hl⟩ := lookIn_ns hns
  obtain ⟨u, hu, ru⟩ := RelO.some_of (v := v) (o := mA x) (by rw [← l]; exact hr x)
  have J : PySem.W.InstAt s1.heap a oe C (some od) := ⟨ha, hc, by unfold PySem.W.notCls; rw [hdt] <;> rfl, by rw [hd]; exact ho⟩
  exact HandSPX.exc_get I1.kIn J T.ga T.gg T.exC (PySem.W.findObj_own T.hdC T.noN rfl (by rw [hl, hu])) (handed_of ru) ⟨v, H1, I1.tok _, ru, q⟩
/-- isinstance(x, c), x such an error -/
theorem call_isiE : CallR X (.builtin "isinstance") (fun xs H Q => ∃ (a C D dx : Addr) (oe : Obj) (vs : Array Value) (nfs : List (Str × V)) (b : Bool), xs = [.ref a, .ref D] ∧ ErI X.K C ∧ H a = some (ExT a oe) ∧ oe.cls = .ref C ∧ oe.dict = some dx ∧ oe.data = .fields vs ∧ H dx = some (.xd nfs) ∧ PySem.W.kitOne X.K (.ref C) (.ref D) = some b ∧ Q (.bl b) H) := by
  intro pins s σ H xs us Q I r h
  obtain ⟨a, C, D, dx, oe, vs, nfs, b, rfl, T, ea, hc, hd, hdt, ed, e, q⟩ := h
  obtain ⟨u1, u2, rfl, r1, r2⟩ := vals2 r
  cases (show u1 = Value.ref a from r1)
  cases (show u2 = Value.ref D from r2)
  obtain ⟨ha, _⟩ := (show ObjOk X.prog X.w H s.heap a (ExT a oe) from I.hok a _ ea)
  obtain ⟨mA, hns, hr⟩ := (show ObjOk X.prog X.w H s.heap dx (.xd nfs) from I.hok dx _ ed)
  obtain ⟨od, ho, hl⟩ := lookIn_ns hns
  have J : PySem.W.InstAt s.heap a oe C (some od) := ⟨ha, hc, by unfold PySem.W.notCls; rw [hdt] <;> rfl, by rw [hd]; exact ho⟩
  exact PySem.W.kia_one (PySem.W.kitx_exc (x := a) (ox := oe) (od := some od) T.cl T.ga T.gg T.exC T.ha T.hn T.tk T.mo) I.kIn J e (fun z => nomatch z) fun tk => ⟨.bl b, H, I.tok tk, rfl, q⟩
end
end DVE
end
section
set_option Elab.async false
set_option linter.all false
set_option maxRecDepth 100000
set_option maxHeartbeats 1000000
/-! DV10: subscripts, slices. -/
namespace DV
open PySem PySem.Spec PyProof.Rows L2
theorem Paired.get {α β : Type} {P : α → β → Prop} : ∀ {xs : List α} {ys : List β} {i : Nat} {y : β}, Paired P xs ys → ys[i]? = some y → ∃ x, xs[i]? = some x ∧ P x y
  | _, _, _, _, .nil, e => by simp at e
  | _, _, 0, _, .cons r _, e => by simp at e; subst e; exact ⟨_, rfl, r⟩
  | _, _, i + 1, y, .cons _ t, e => by
    obtain ⟨x, h1, h2⟩ := Paired.get (i := i) (y := y) t (by simpa using e)
    exact ⟨x, by simpa using h1, h2⟩
theorem Paired.take {α β : Type} {P : α → β → Prop} : ∀ {xs : List α} {ys : List β} (n : Nat), Paired P xs ys → Paired P (xs.take n) (ys.take n)
  | _, _, 0, _ => .nil
  | _, _, _ + 1, .nil => .nil
  | _, _, n + 1, .cons r t => .cons r (Paired.take n t)
theorem Paired.drop {α β : Type} {P : α → β → Prop} : ∀ {xs : List α} {ys : List β} (n : Nat), Paired P xs ys → Paired P (xs.drop n) (ys.drop n)
  | _, _, 0, r => r
  | _, _, _ + 1, .nil => .nil
  | _, _, n + 1, .cons _ t => Paired.drop n t
theorem place_ix (i : Int) (n : Nat) : place i n = ixN n i := by
  unfold place ixN
  by_cases h : 0 ≤ i
  · simp only [h, decide_true, if_true]
    by_cases k : i < n <;> simp [k]
  · simp only [h, decide_false, Bool.false_eq_true, if_false]
    by_cases k : 0 ≤ i + n
    · rw [if_pos (by simpa using k), if_pos (by omega)]
    · rw [if_neg (by simpa using k), if_neg (by omega)]
theorem plainIx {b : Expr} (h : ∀ l u s p, b ≠ .Slice l u s p) : PlainIx b := by
  intro o i
  cases b <;> first
    | rfl
    | exact absurd rfl (h _ _ _ _)
section
variable {f : Fr0} {c : Ct} {X : Cx} {g : Cfg} {φ : Phi}
theorem at_rv {G : Gb} {F : Fz} {κ : List Addr} {vs : List V} {l : List D} {i : Int} {d : D} (r : Rvs G F κ vs l) (h : ((place i l.length).bind fun k => l[k]?) = some d) : ∃ v, atI vs i = some v ∧ Rv G F κ v d := by
  cases e : place i l.length with
  | none => rw [e] at h; cases h
  | some k =>
    rw [e] at h
    obtain ⟨v, h1, h2⟩ := Paired.get r h
    refine ⟨v, ?_, h2⟩
    unfold atI
    rw [Paired.length r, ← place_ix, e]
    exact h1
theorem idx_at {F : Fz} {κ : List Addr} {ρ : Ev} {M : Mem} {σ : L2.St} {H : Hp} {v : V} {d : D} {i : Int} {r : D} (R : f.RS F κ ρ M σ H) (h : Bv f.K f.G F κ H v d) (e : ((deref M d).bind fun x => idxD x (.int i)) = some r) {Q : VK}
    (q : ∀ w, Rv f.G F κ w r → Q w H) : rIx f.K v (.int i) H Q := by
  cases d with
  | tup l =>
    obtain ⟨p, vs, rfl, _, h1, rs⟩ := tup_at R.m h
    obtain ⟨w, h2, h3⟩ := at_rv rs e
    exact .inr (.inl ⟨p, vs, i, w, rfl, rfl, SqT.of h1, h2, q w h3⟩)
  | lst l =>
    obtain ⟨p, vs, rfl, h1, rs, _⟩ := h
    obtain ⟨w, h2, h3⟩ := at_rv rs e
    exact .inl ⟨p, vs, i, w, rfl, rfl, SqL.of h1, h2, q w h3⟩
  | cell n =>
    obtain ⟨a, h1, rfl⟩ := h
    simp only [deref] at e
    cases z : (M : List Co)[n]? with
    | none => simp [z] at e
    | some co =>
      obtain ⟨_, h2⟩ := R.m.co n a co h1 z
      cases co with
      | lst l =>
        simp only [z, Option.bind_some] at e
        obtain ⟨vs, h3, rs⟩ := h2
        obtain ⟨w, h4, h5⟩ := at_rv rs e
        exact .inl ⟨a, vs, i, w, rfl, rfl, SqL.of h3, h4, q w h5⟩
      | _ => exact h2.elim
  | str s =>
    obtain rfl : v = .str (toStr s) := h
    simp only [deref, Option.bind_some, idxD] at e
    split at e
    · rename_i hz
      cases e1 : place i s.length with
      | none => rw [e1] at e; cases e
      | some k =>
        rw [e1] at e
        simp only [Option.bind_some] at e
        cases e2 : s[k]? with
        | none => rw [e2] at e; cases e
        | some ch =>
          rw [e2] at e
          cases e
          refine .inr (.inr ⟨toStr s, i, ch, rfl, rfl, by rw [toStr_len, ← line_eq]; exact of_decide_eq_true hz, ?_, ?_⟩)
          · unfold atI
            show (ixN s.length i).bind _ = _
            rw [← place_ix, e1]
            exact e2
          · exact q _ rfl
    · cases e
  | dct _ _ => simp [deref, idxD] at e
  | _ => simp [deref, idxD] at e
theorem s_idx {m : Md} (hm : m = .v ∨ m = .b) (G : GX f c X) {a i : E} {x y : Expr} {pos : Pos} (hy : ∀ l u s p, y ≠ .Slice l u s p) (h1 : PE X x (dE f .b (ev g φ .b a))) (h2 : PE X y (dE f .v (ev g φ .v i))) :
    PE X (.Subscript x y pos) (dE f m (ev g φ m (.idx a i))) := by
  refine PE.imp (pe_ix ix_seq h1 h2 (plainIx hy)) fun σ H Q ⟨F, κ, ρ, M, R, h⟩ => ?_
  simp only [ev] at h
  refine ⟨F, κ, ρ, M, R, h.bind.imp fun F1 κ1 ρ1 M1 H1 d g1 R1 ⟨_, q⟩ v r => ?_⟩
  refine ⟨F1, κ1, ρ1, M1, R1, q.bind.imp fun F2 κ2 ρ2 M2 H2 e g2 R2 ⟨_, q2⟩ w s => ?_⟩
  have r2 : Bv f.K f.G F2 κ2 H2 v d := Bv.go r R1.m g2
  cases e1 : (deref M2 d).bind fun x => idxD x e with
  | none => rw [e1] at q2; exact q2.elim
  | some z =>
    rw [e1] at q2
    rw [G.K]
    have hi : ∃ j, e = .int j := by
      cases e with
      | int j => exact ⟨j, rfl⟩
      | _ =>
        exfalso
        cases d <;> simp only [deref, Option.bind_some, idxD, reduceCtorEq] at e1
        · split at e1
          · rename_i l hl; simp [idxD] at e1
          · rename_i l m hl; simp [idxD] at e1
          · simp at e1
    obtain ⟨j, rfl⟩ := hi
    have hw : w = .int j := s
    subst hw
    exact idx_at R2 r2 e1 fun u hu => fin_ok hm R2 hu q2

/-! ### slices -/
/-- a slice's end, as the evaluator takes it -/
def evP (g : Cfg) (φ : Phi) (e : E) (ρ : Ev) (M : Mem) : R D := match e with
  | .no => okE ρ M .non
  | e => (ev g φ .v e ρ M).bind fun y ρ M => onInt y ρ M
def partD : D → Option (Option Int)
  | .non => some none
  | .int i => some (some i)
  | _ => none
def dO (f : Fr0) (x : Ev → Mem → R D) : TO := fun σ H Q => ∃ F κ ρ M, f.RS F κ ρ M σ H ∧ Aft f F κ H σ (fun F' κ' ρ' M' H' d => ∀ o, partD d = some o → Q o H') (x ρ M)
theorem PO.imp {e : Option Expr} {t t' : TO} (h : PO X e t) (k : ∀ σ H Q, t' σ H Q → t σ H Q) : PO X e t' := ⟨fun pins s σ H Q I q => h.run pins s σ H Q I (k σ H Q q)⟩
theorem s_no : PO X none (dO f (evP g φ .no)) := PO.imp po_none fun σ H Q ⟨F, κ, ρ, M, R, h⟩ => Aft.here (show Aft f F κ H σ (fun F' κ' ρ' M' H' d => ∀ o, partD d = some o → Q o H') (okE ρ M .non) from h) R none rfl
theorem s_end {e : E} {x : Expr} (hn : e ≠ .no) (h : PE X x (dE f .v (ev g φ .v e))) : PO X (some x) (dO f (evP g φ e)) := PO.imp (po_some h) fun σ H Q ⟨F, κ, ρ, M, R, h⟩ => by
  have h' : Aft f F κ H σ (fun F' κ' ρ' M' H' d => ∀ o, partD d = some o → Q o H') ((ev g φ .v e ρ M).bind fun y ρ M => onInt y ρ M) := by
    cases e <;> first
      | exact h
      | exact absurd rfl hn
  refine ⟨F, κ, ρ, M, R, h'.bind.imp fun F1 κ1 ρ1 M1 H1 d g1 R1 ⟨_, q⟩ v r => ?_⟩
  cases d with
  | int i => exact ⟨i, r, Aft.here (show Aft f F1 κ1 H1 σ (fun F' κ' ρ' M' H' d => ∀ o, partD d = some o → Q o H') (okE ρ1 M1 (.int i)) from q) R1 (some i) rfl⟩
  | _ => exact q.elim
theorem cut_part {n dd : Nat} {d : D} {k : Nat} {o : Option Int} (h : cutE n d dd = some k) (p : partD d = some o) : k = HT.sIx n dd o := by
  cases d <;> simp only [cutE, reduceCtorEq, Option.some.injEq] at h
  · subst h
    cases p
    rfl
  · subst h
    cases p
    rename_i i
    unfold HT.sIx
    by_cases z : 0 ≤ i
    · simp only [z, decide_true, if_true]
      rw [if_neg (by omega)]
    · simp only [z, decide_false, Bool.false_eq_true, if_false]
      rw [if_pos (by omega)]
theorem cut_eq {α : Type} (l : List α) (a b : Nat) : (l.take b).drop a = (l.drop a).take (b - a) := by
  rw [List.drop_take]
theorem cut_rv {G : Gb} {F : Fz} {κ : List Addr} {vs : List V} {l : List D} {dl dh : D} {lo hi : Option Int} {a b : Nat} (r : Rvs G F κ vs l) (h1 : cutE l.length dl 0 = some a) (h2 : cutE l.length dh l.length = some b) (p1 : partD dl = some lo) (p2 : partD dh = some hi) :
    Rvs G F κ (cutV vs lo hi) ((l.take b).drop a) := by
  rw [cut_eq, cut_part h1 p1, cut_part h2 p2]
  unfold cutV
  rw [Paired.length r]
  exact Paired.take _ (Paired.drop _ r)
theorem bindO {α : Type} {x y : Option α} : True := trivial
theorem sl_lst {l : List D} {y z r : D} (h : slD (.lst l) y z = some r) : ∃ a b, cutE l.length y 0 = some a ∧ cutE l.length z l.length = some b ∧ r = .lst ((l.take b).drop a) := by
  simp only [slD] at h
  cases e1 : cutE l.length y 0 with
  | none => rw [e1] at h; cases h
  | some a =>
    cases e2 : cutE l.length z l.length with
    | none => rw [e1, e2] at h; cases h
    | some b => rw [e1, e2] at h; cases h; exact ⟨a, b, rfl, rfl, rfl⟩
theorem sl_tp {l : List D} {y z r : D} (h : slD (.tup l) y z = some r) : ∃ a b, cutE l.length y 0 = some a ∧ cutE l.length z l.length = some b ∧ r = .tup ((l.take b).drop a) := by
  simp only [slD] at h
  cases e1 : cutE l.length y 0 with
  | none => rw [e1] at h; cases h
  | some a =>
    cases e2 : cutE l.length z l.length with
    | none => rw [e1, e2] at h; cases h
    | some b => rw [e1, e2] at h; cases h; exact ⟨a, b, rfl, rfl, rfl⟩
theorem s_sl {m : Md} (hm : Ord m) (G : GX f c X) (hn : g.ns = f.G.ns) {a lo hi : E} {x : Expr} {olo ohi : Option Expr} {p2 pos : Pos} (h1 : PE X x (dE f .b (ev g φ .b a))) (h2 : PO X olo (dO f (evP g φ lo))) (h3 : PO X ohi (dO f (evP g φ hi))) :
    PE X (.Subscript x (.Slice olo ohi none p2) pos) (dE f m (ev g φ m (.sl a lo hi))) := by
  refine PE.imp (pe_slice (SlR.or sl_list sl_tupA) h1 h2 h3) fun σ H Q ⟨F, κ, ρ, M, R, h⟩ => ?_
  have h' : Aft f F κ H σ (fun F' κ' ρ' M' H' d => ∀ v, RelQ f m F' κ' ρ' σ H' v d → Q v H') ((ev g φ .b a ρ M).bind fun x ρ M => (evP g φ lo ρ M).bind fun y ρ M => (evP g φ hi ρ M).bind fun z ρ M => match slD (see g.ns x) y z with
    | some d => fin m d ρ M
    | none => none) := by
    simp only [ev] at h
    exact h
  refine ⟨F, κ, ρ, M, R, h'.bind.imp fun F1 κ1 ρ1 M1 H1 d g1 R1 ⟨_, q⟩ v r => ?_⟩
  refine ⟨F1, κ1, ρ1, M1, R1, q.bind.imp fun F2 κ2 ρ2 M2 H2 dl g2 R2 ⟨_, q2⟩ ol pl => ?_⟩
  refine ⟨F2, κ2, ρ2, M2, R2, q2.bind.imp fun F3 κ3 ρ3 M3 H3 dh g3 R3 ⟨_, q3⟩ oh ph => ?_⟩
  have r3 : Bv f.K f.G F3 κ3 H3 v d := Bv.go r R1.m (g2.trans g3)
  cases e1 : slD (see g.ns d) dl dh with
  | none => rw [e1] at q3; exact q3.elim
  | some z =>
    rw [e1] at q3
    rw [G.K]
    have lst : ∀ (l : List D) (vs : List V) (p : Addr), SqL f.K H3 p vs → Rvs f.G F3 κ3 vs l → slD (.lst l) dl dh = some z → rSlL f.K (.ref p) ol oh H3 Q := fun l vs p hs rs e => by
      obtain ⟨i, j, c1, c2, rfl⟩ := sl_lst e
      exact ⟨p, vs, rfl, hs, fun b hb => fin_nw (d := .lst ((l.take j).drop i)) hm (RS.new R3 hb) (nw_new R3 hb (cut_rv rs c1 c2 pl ph)) (q3.later (Go.new hb))⟩
    cases d with
    | lst l =>
      obtain ⟨p, vs, rfl, hs, rs, _⟩ := r3
      exact .inl (lst l vs p (SqL.of hs) rs e1)
    | scr =>
      obtain rfl : v = .ref f.G.sa := r3
      refine .inl (lst (f.G.ns.map .int) _ _ R3.m.scr (ints_rvs _ _ _ _) ?_)
      rw [← hn]
      exact e1
    | tup l =>
      obtain ⟨p, vs, rfl, f1, hs, rs⟩ := tup_at R3.m r3
      obtain ⟨i, j, c1, c2, rfl⟩ := sl_tp e1
      refine .inr ⟨p, vs, rfl, SqT.of hs, fun hw => ?_, fun _ b hb => fin_new (d := .tup ((l.take j).drop i)) hm R3 hb (fun _ z => nomatch z) (fun F' ex => ⟨_, upd_same, (cut_rv rs c1 c2 pl ph).mono ex (Px.refl _)⟩) (fun F' e => ⟨b, rfl, e⟩) q3⟩
      have ei : i = 0 := by rw [cut_part c1 pl, ← Paired.length rs]; exact hw.1
      have ej : j = l.length := by rw [cut_part c2 ph, ← Paired.length rs]; exact hw.2
      refine fin_nw (d := .tup ((l.take j).drop i)) hm R3 ⟨p, rfl, ?_⟩ q3
      rw [ei, ej, List.take_length]
      exact f1
    | _ => simp [see, slD] at e1
end
end DV
end
section
set_option Elab.async false
set_option linter.all false
set_option maxRecDepth 100000
set_option maxHeartbeats 1000000
/-! DV11: built-in calls. -/
namespace DV
open PySem PySem.Spec PyProof.Rows L2
section
variable {f : Fr0} {c : Ct} {X : Cx} {g : Cfg} {φ : Phi}
/-- values as they stand, and what comes of them -/
def rDn (f : Fr0) (P : List D → Option D) : List V → Hp → VK → Prop := fun xs H Q => ∃ F κ ρ M σ ds, f.RS F κ ρ M σ H ∧ Paired (Bv f.K f.G F κ H) xs ds ∧
  ∃ r, P ds = some r ∧ ∀ F' H' v, Go F κ H F' κ H' → f.RS F' κ ρ M σ H' → Nw f F' κ ρ σ H' v r → Q v H'
theorem noStars {es : List Expr} {env : Env} {pos : Pos} (h : ∀ e ∈ es, ∀ e' p, e ≠ .Starred e' p) : (backTo pos (starEach es env)).any (·.1) = false := by
  induction es with
  | nil => rfl
  | cons e es ih =>
    rw [noStar (h e List.mem_cons_self)]
    exact ih fun e' m => h e' (List.mem_cons_of_mem _ m)
theorem s_biA {m : Md} (hm : Ord m) {b : Bi} {es : List E} {tA : TE} {xs : List Expr} {σ : L2.St} {H : Hp} {Q : VK}
    (h : dE f m (ev g φ m (.bi b es)) σ H Q) : dA f .b (evs g φ .b es) σ H fun vs H1 => rDn f (biD g.cls b) vs H1 Q := by
  obtain ⟨F, κ, ρ, M, R, h⟩ := h
  simp only [ev] at h
  refine ⟨F, κ, ρ, M, R, h.bind.imp fun F1 κ1 ρ1 M1 H1 ds g1 R1 ⟨_, q⟩ vs rs => ?_⟩
  cases e1 : biD g.cls b ds with
  | none => rw [e1] at q; exact q.elim
  | some z =>
    rw [e1] at q
    exact ⟨F1, κ1, ρ1, M1, σ, ds, R1, rs, z, e1, fun F' H' v g2 R2 hv => fin_nw hm R2 hv (q.later g2)⟩
theorem s_bi {m : Md} (hm : Ord m) {b : Bi} {es : List E} {e : Expr} {xs : List Expr} {x : Str} {id : String} {p pos : Pos} (hc : CallR X (.builtin id) (rDn f (biD g.cls b))) (hg : Gl X x) (hn : X.mg x = none) (hv : bootBuiltins x = some (.builtin id))
    (ha : PA X (e :: xs) (dA f .b (evs g φ .b es))) (hst : ∀ y ∈ e :: xs, ∀ e' p, y ≠ .Starred e' p) (h1 : x ≠ "__name__") (h2 : (x == ("__debug__" : Str)) = false) :
    PE X (.Call (.Name x p) (e :: xs) [] pos) (dE f m (ev g φ m (.bi b es))) :=
  PE.imp (pe_callB hc hg hn hv ha h1 h2 (noStar (hst e List.mem_cons_self)) (noStars fun y m => hst y (List.mem_cons_of_mem _ m))) fun σ H Q h => s_biA (tA := fun _ _ _ => True) (xs := []) hm h
theorem s_biT {m : Md} (hm : Ord m) {b : Bi} {es : List E} {e : Expr} {xs : List Expr} {x : Str} {T : String} {p pos : Pos} (hc : CallR X (.type T) (rDn f (biD g.cls b))) (hg : Gl X x) (hn : X.mg x = none) (hv : bootBuiltins x = some (.type T))
    (ha : PA X (e :: xs) (dA f .b (evs g φ .b es))) (hst : ∀ y ∈ e :: xs, ∀ e' p, y ≠ .Starred e' p) (h1 : x ≠ "__name__") (h2 : (x == ("__debug__" : Str)) = false) :
    PE X (.Call (.Name x p) (e :: xs) [] pos) (dE f m (ev g φ m (.bi b es))) :=
  PE.imp (pe_callTy hc hg hn hv ha h1 h2 (noStar (hst e List.mem_cons_self)) (noStars fun y m => hst y (List.mem_cons_of_mem _ m))) fun σ H Q h => s_biA (tA := fun _ _ _ => True) (xs := []) hm h

/-! ### one by one -/
theorem pair1 {α β : Type} {P : α → β → Prop} {xs : List α} {y : β} (h : Paired P xs [y]) : ∃ x, xs = [x] ∧ P x y := by
  cases h with
  | cons r t => cases t; exact ⟨_, rfl, r⟩
theorem pair2 {α β : Type} {P : α → β → Prop} {xs : List α} {y z : β} (h : Paired P xs [y, z]) : ∃ x w, xs = [x, w] ∧ P x y ∧ P w z := by
  cases h with
  | cons r t =>
    cases t with
    | cons r2 t2 => cases t2; exact ⟨_, _, rfl, r, r2⟩
theorem bi_len (G : GX f c X) {C : Cls} : CallR X (.builtin "len") (rDn f (biD C .len)) := by
  intro pins s σ H xs us Q I r ⟨F, κ, ρ, M, σ', ds, R, rs, z, e, q⟩
  have here : ∀ w, Nw f F κ ρ σ' H w z → Q w H := fun w y => q F H w (Go.refl F κ H) R y
  match ds, e with
  | [d], e =>
    obtain ⟨x, rfl, h⟩ := pair1 rs
    cases d with
    | tup l =>
      cases e
      obtain ⟨p, vs, rfl, _, h1, rs⟩ := tup_at R.m h
      refine call_len pins s σ H _ us Q I r ⟨_, l.length, rfl, .inr ⟨vs, by rw [G.K]; exact SqT.of h1, (Paired.length rs).symm⟩, here _ rfl⟩
    | lst l =>
      cases e
      obtain ⟨p, vs, rfl, h1, rs, _⟩ := h
      refine call_len pins s σ H _ us Q I r ⟨_, l.length, rfl, .inl ⟨vs, by rw [G.K]; exact SqL.of h1, (Paired.length rs).symm⟩, here _ rfl⟩
    | str t =>
      simp only [biD] at e
      split at e
      · rename_i w
        cases e
        obtain rfl : x = .str (toStr t) := h
        refine call_len pins s σ H _ us Q I r ⟨_, t.length, rfl, ⟨by rw [toStr_len, ← line_eq]; exact of_decide_eq_true w, (toStr_len t).symm⟩, here _ rfl⟩
      · cases e
    | _ => simp [biD] at e
theorem bi_abs {C : Cls} : CallR X (.builtin "abs") (rDn f (biD C .abs)) := by
  intro pins s σ H xs us Q I r ⟨F, κ, ρ, M, σ', ds, R, rs, z, e, q⟩
  have here : ∀ w, Nw f F κ ρ σ' H w z → Q w H := fun w y => q F H w (Go.refl F κ H) R y
  match ds, e with
  | [.int i], e =>
    cases e
    obtain ⟨x, rfl, h⟩ := pair1 rs
    obtain rfl : x = .int i := h
    exact call_abs pins s σ H _ us Q I r ⟨i, rfl, here _ rfl⟩
theorem bools_rv {G : Gb} {F : Fz} {κ : List Addr} : ∀ {vs : List V} {l : List D} {bs : List Bool}, Rvs G F κ vs l → boolsD l = some bs → vs = bs.map V.bl
  | _, _, _, .nil, e => by cases e; rfl
  | _, d :: l, bs, .cons r t, e => by
    cases d with
    | bl b =>
      simp only [boolsD] at e
      cases z : boolsD l with
      | none => rw [z] at e; cases e
      | some cs =>
        rw [z] at e
        cases e
        rw [bools_rv t z, show _ = V.bl b from r]
        rfl
    | _ => simp [boolsD] at e
theorem ints_rv {G : Gb} {F : Fz} {κ : List Addr} : ∀ {vs : List V} {l : List D} {bs : List Int}, Rvs G F κ vs l → intsD l = some bs → vs = bs.map V.int
  | _, _, _, .nil, e => by cases e; rfl
  | _, d :: l, bs, .cons r t, e => by
    cases d with
    | int b =>
      simp only [intsD] at e
      cases z : intsD l with
      | none => rw [z] at e; cases e
      | some cs =>
        rw [z] at e
        cases e
        rw [ints_rv t z, show _ = V.int b from r]
        rfl
    | _ => simp [intsD] at e
theorem bi_all (G : GX f c X) {C : Cls} : CallR X (.builtin "all") (rDn f (biD C .all)) := by
  intro pins s σ H xs us Q I r ⟨F, κ, ρ, M, σ', ds, R, rs, z, e, q⟩
  have here : ∀ w, Nw f F κ ρ σ' H w z → Q w H := fun w y => q F H w (Go.refl F κ H) R y
  match ds, e with
  | [.lst l], e =>
    obtain ⟨x, rfl, p, vs, rfl, h1, rs, _⟩ := pair1 rs
    simp only [biD] at e
    cases w : boolsD l with
    | none => rw [w] at e; cases e
    | some bs =>
      rw [w] at e
      cases e
      rw [bools_rv rs w] at h1
      exact cr_all G.calm pins s σ H _ us Q I r ⟨p, bs, rfl, by rw [G.K]; exact SqL.of h1, here _ rfl⟩
theorem bi_any (G : GX f c X) {C : Cls} : CallR X (.builtin "any") (rDn f (biD C .any)) := by
  intro pins s σ H xs us Q I r ⟨F, κ, ρ, M, σ', ds, R, rs, z, e, q⟩
  have here : ∀ w, Nw f F κ ρ σ' H w z → Q w H := fun w y => q F H w (Go.refl F κ H) R y
  match ds, e with
  | [.lst l], e =>
    obtain ⟨x, rfl, p, vs, rfl, h1, rs, _⟩ := pair1 rs
    simp only [biD] at e
    cases w : boolsD l with
    | none => rw [w] at e; cases e
    | some bs =>
      rw [w] at e
      cases e
      rw [bools_rv rs w] at h1
      exact cr_any G.calm pins s σ H _ us Q I r ⟨p, bs, rfl, by rw [G.K]; exact SqL.of h1, here _ rfl⟩
theorem bi_sum (G : GX f c X) {C : Cls} : CallR X (.builtin "sum") (rDn f (biD C .sum)) := by
  intro pins s σ H xs us Q I r ⟨F, κ, ρ, M, σ', ds, R, rs, z, e, q⟩
  have here : ∀ w, Nw f F κ ρ σ' H w z → Q w H := fun w y => q F H w (Go.refl F κ H) R y
  match ds, e with
  | [.lst l], e =>
    obtain ⟨x, rfl, p, vs, rfl, h1, rs, _⟩ := pair1 rs
    simp only [biD] at e
    cases w : intsD l with
    | none => rw [w] at e; cases e
    | some bs =>
      rw [w] at e
      cases e
      rw [ints_rv rs w] at h1
      exact cr_sum G.calm pins s σ H _ us Q I r ⟨p, bs, rfl, by rw [G.K]; exact SqL.of h1, here _ rfl⟩
theorem bi_int {C : Cls} : CallR X (.type "int") (rDn f (biD C .int)) := by
  intro pins s σ H xs us Q I r ⟨F, κ, ρ, M, σ', ds, R, rs, z, e, q⟩
  have here : ∀ w, Nw f F κ ρ σ' H w z → Q w H := fun w y => q F H w (Go.refl F κ H) R y
  match ds, e with
  | [.int i], e =>
    cases e
    obtain ⟨x, rfl, h⟩ := pair1 rs
    obtain rfl : x = .int i := h
    exact call_int1 pins s σ H _ us Q I r (.inl ⟨i, rfl, here _ rfl⟩)
  | [.bl b], e =>
    cases e
    obtain ⟨x, rfl, h⟩ := pair1 rs
    obtain rfl : x = .bl b := h
    exact call_int1 pins s σ H _ us Q I r (.inr ⟨b, rfl, here _ rfl⟩)
theorem bi_bool {C : Cls} : CallR X (.type "bool") (rDn f (biD C .bool)) := by
  intro pins s σ H xs us Q I r ⟨F, κ, ρ, M, σ', ds, R, rs, z, e, q⟩
  have here : ∀ w, Nw f F κ ρ σ' H w z → Q w H := fun w y => q F H w (Go.refl F κ H) R y
  match ds, e with
  | [.int i], e =>
    cases e
    obtain ⟨x, rfl, h⟩ := pair1 rs
    obtain rfl : x = .int i := h
    exact call_bool1 pins s σ H _ us Q I r (.inl ⟨i, rfl, here _ rfl⟩)
  | [.bl b], e =>
    cases e
    obtain ⟨x, rfl, h⟩ := pair1 rs
    obtain rfl : x = .bl b := h
    exact call_bool1 pins s σ H _ us Q I r (.inr ⟨b, rfl, here _ rfl⟩)
theorem bi_str {C : Cls} : CallR X (.type "str") (rDn f (biD C .str)) := by
  intro pins s σ H xs us Q I r ⟨F, κ, ρ, M, σ', ds, R, rs, z, e, q⟩
  have here : ∀ w, Nw f F κ ρ σ' H w z → Q w H := fun w y => q F H w (Go.refl F κ H) R y
  match ds, e with
  | [.int i], e =>
    simp only [biD] at e
    split at e
    · rename_i w
      cases e
      obtain ⟨x, rfl, h⟩ := pair1 rs
      obtain rfl : x = .int i := h
      exact call_str_int pins s σ H _ us Q I r ⟨i, rfl, of_decide_eq_true w, here _ rfl⟩
    · cases e
theorem bi_tuple (G : GX f c X) {C : Cls} : CallR X (.type "tuple") (rDn f (biD C .tuple)) := by
  intro pins s σ H xs us Q I r ⟨F, κ, ρ, M, σ', ds, R, rs, z, e, q⟩
  match ds, e with
  | [d], e =>
    obtain ⟨x, rfl, h⟩ := pair1 rs
    cases d with
    | tup l =>
      cases e
      obtain ⟨p, vs, rfl, h0, h1, rs⟩ := tup_at R.m h
      exact call_tuple_of pins s σ H _ us Q I r ⟨p, vs, rfl, .inr ⟨by rw [G.K]; exact SqT.of h1, q F H _ (Go.refl F κ H) R ⟨p, rfl, h0⟩⟩⟩
    | lst l =>
      cases e
      obtain ⟨p, vs, rfl, h1, rs, _⟩ := h
      refine call_tuple_of pins s σ H _ us Q I r ⟨p, vs, rfl, .inl ⟨by rw [G.K]; exact SqL.of h1, fun b hb => ?_⟩⟩
      obtain ⟨g1, R1⟩ := RS.tree (d := .tup l) (o := .tup vs) R hb fun F' ex => ⟨vs, upd_same, rs.mono ex (Px.refl _)⟩
      exact q _ _ _ g1 R1 ⟨b, rfl, fput_same⟩
    | _ => simp [biD, seqD] at e
theorem bi_list (G : GX f c X) {C : Cls} : CallR X (.type "list") (rDn f (biD C .list)) := by
  intro pins s σ H xs us Q I r ⟨F, κ, ρ, M, σ', ds, R, rs, z, e, q⟩
  match ds, e with
  | [d], e =>
    obtain ⟨x, rfl, h⟩ := pair1 rs
    have go : ∀ l, seqD d = some l → z = .lst l → wpAny (model X.prog X.w) X.A (call (Value.type "list") us) (EP X pins σ Q) X.xe s := fun l w ez => by
      subst ez
      obtain ⟨p, vs, rfl, h1, rs⟩ := seq_at R.m h w
      refine call_list_of pins s σ H _ us Q I r ⟨p, vs, rfl, by rw [G.K]; exact h1.symm, fun b hb => ?_⟩
      exact q _ _ _ (Go.new hb) (RS.new R hb) (nw_new R hb rs)
    cases d with
    | tup l => exact go l rfl (by simpa [biD, seqD] using e.symm)
    | lst l => exact go l rfl (by simpa [biD, seqD] using e.symm)
    | _ => simp [biD, seqD] at e
end
end DV
end
section
set_option Elab.async false
set_option linter.all false
set_option maxRecDepth 100000
set_option maxHeartbeats 1000000
/-! DV12: what a for walks over. -/
namespace DV
open PySem PySem.Spec PyProof.Rows L2
section
variable {f : Fr0} {c : Ct} {X : Cx} {g : Cfg} {φ : Phi} {tg : Expr}
/-- an iterator that gives these items, whatever comes as long as P stays -/
def Wk (f : Fr0) (P : Fz → List Addr → Hp → Prop) (J : It) (xs : List D) : Prop := ∀ F κ M H, RM f.K f.G F κ M H → P F κ H → ∀ i : Nat,
  (∀ x, xs[i]? = some x → J.go i H ∧ ∀ v H', J.yld i H v H' → ∃ F', Go F κ H F' κ H' ∧ RM f.K f.G F' κ M H' ∧ Nf F H F' ∧ Rv f.G F' κ v x) ∧ (xs[i]? = none → J.stop i H)
/-- what stays: all (a comprehension), what is frozen (a for) -/
def Stay : Md → Fz → List Addr → Hp → Fz → List Addr → Hp → Prop
  | .k, F, κ, _, F', κ', _ => Ex F F' ∧ Px κ κ'
  | _, F, κ, H, F', κ', H' => Go F κ H F' κ' H'
def dI (f : Fr0) (m : Md) (x : Ev → Mem → R D) : TI := fun σ H Q => ∃ F κ ρ M, f.RS F κ ρ M σ H ∧ Aft f F κ H σ (fun F' κ' ρ' M' H' d => ∃ xs, d = .lst xs ∧ ∀ J, Wk f (Stay m F' κ' H') J xs → Q J H') (x ρ M)
theorem PI.imp {e : Expr} {t t' : TI} (h : PI X tg e t) (k : ∀ σ H Q, t' σ H Q → t σ H Q) : PI X tg e t' := ⟨fun pins s σ H R I q => h.run pins s σ H R I (k σ H R q)⟩
/-- of the way a value is wanted for a for -/
def inner : Md → Md
  | .k => .v
  | _ => .b
theorem inner_vb (m : Md) : inner m = .v ∨ inner m = .b := by cases m <;> first | exact .inl rfl | exact .inr rfl
/-- a list, a tuple, a text by its value -/
def iSeq (K : PySem.W.Frag) (tl : TE) : TI := fun σ H R => tl σ H fun x H1 => (∃ a, x = .ref a ∧ (∃ xs, SqL K H1 a xs) ∧ R (Itl K a) H1) ∨ (∃ a, x = .ref a ∧ (∃ xs, SqT K H1 a xs) ∧ R (Itt K a) H1) ∨ ∃ t, x = .str t ∧ R (Its t) H1
theorem pi_seq {l : Expr} {tl : TE} (hl : PE X l tl) : PI X tg l (iSeq X.K tl) := by
  refine ⟨fun pins s σ H R I h => ?_⟩
  refine thn (hl.run pins s σ H _ I h) fun v s1 ⟨x, H1, I1, r1, q1⟩ => ?_
  have one : ∀ b ∈ [s1.heap.objs.size], FpOk X pins H1 b := fun b hb => by
    have e : b = s1.heap.objs.size := by simpa using hb
    subst e
    exact I1.fpOk (Nat.le_refl _) (I1.hok.fresh (Nat.le_refl _))
  rcases q1 with ⟨a, e, ⟨xs, hq⟩, q⟩ | ⟨a, e, ⟨xs, hq⟩, q⟩ | ⟨t, e, q⟩
  · subst e
    cases r1
    obtain ⟨its, rv, p, hz⟩ := I1.list hq
    refine wpAny_pyIter_list p.isList ?_
    exact ⟨s1.heap.objs.size, [s1.heap.objs.size], _, _, H1, rfl, I1.kept (t' := s1.toks) fun b o e => Heap.get?_push_of_some _ e, turn_list a _, ⟨_, Heap.get?_push_size _ rfl, rfl, rfl⟩, one, q⟩
  · subst e
    cases r1
    obtain ⟨its, rv, p, hz⟩ := I1.tuple hq
    refine wpAny_pyIter_tuple (show s1.heap.IsTuple a its.toArray from p) ?_
    exact ⟨s1.heap.objs.size, [s1.heap.objs.size], _, _, H1, rfl, I1.kept (t' := s1.toks) fun b o e => Heap.get?_push_of_some _ e, turn_tuple a _, ⟨_, Heap.get?_push_size _ rfl, rfl, rfl⟩, one, q⟩
  · subst e
    obtain ⟨tk, rfl⟩ := r1
    cases ha : t.cps.all (· < 128)
    · exact wpAny_pyIter_wide ha (pi_one (tk := s1.toks) I1 _ (turn_str _ t tk "str_iterator" (.inr rfl)) ⟨_, Heap.get?_push_size _ rfl, rfl, rfl⟩ q)
    · exact wpAny_pyIter_ascii ha (pi_one (tk := s1.toks) I1 _ (turn_str _ t tk "str_ascii_iterator" (.inl rfl)) ⟨_, Heap.get?_push_size _ rfl, rfl, rfl⟩ q)
/-! ### the items -/
/-- where a list stays -/
def LsAt (f : Fr0) (P : Fz → List Addr → Hp → Prop) (a : Addr) (l : List D) : Prop := ∀ F κ M H, RM f.K f.G F κ M H → P F κ H → ∃ vs, H a = some (.lst vs) ∧ Rvs f.G F κ vs l
def TpAt (f : Fr0) (P : Fz → List Addr → Hp → Prop) (a : Addr) (l : List D) : Prop := ∀ F κ M H, RM f.K f.G F κ M H → P F κ H → ∃ vs, H a = some (.tup vs) ∧ Rvs f.G F κ vs l
theorem Rd.lst_inj {H : Hp} {a : Addr} {xs vs : List V} {K : PySem.W.Frag} {h : Heap} : True := trivial
theorem here_wk {F : Fz} {κ : List Addr} {M : Mem} {H : Hp} {v : V} {x : D} (R : RM f.K f.G F κ M H) (r : Rv f.G F κ v x) : ∃ F', Go F κ H F' κ H ∧ RM f.K f.G F' κ M H ∧ Nf F H F' ∧ Rv f.G F' κ v x := ⟨F, Go.refl F κ H, R, Nf.refl F H, r⟩
theorem pget {α β : Type} {P : α → β → Prop} {xs : List α} {ys : List β} {i : Nat} (h : Paired P xs ys) (e : ys[i]? = none) : xs.length ≤ i := by
  rw [Paired.length h]
  exact List.getElem?_eq_none_iff.mp e
theorem wk_list {P : Fz → List Addr → Hp → Prop} {a : Addr} {l : List D} (h : LsAt f P a l) : Wk f P (Itl f.K a) l := fun F κ M H R p i => by
  obtain ⟨vs, e, rs⟩ := h F κ M H R p
  refine ⟨fun x hx => ?_, fun hx => ⟨vs, SqL.of e, pget rs hx⟩⟩
  obtain ⟨v, hv, r⟩ := Paired.get rs hx
  refine ⟨⟨vs, v, SqL.of e, hv⟩, fun w H' ⟨q1, q2⟩ => ?_⟩
  subst q1
  have := q2 vs (SqL.of e)
  rw [hv] at this
  cases this
  exact here_wk R r
theorem wk_tup {P : Fz → List Addr → Hp → Prop} {a : Addr} {l : List D} (h : TpAt f P a l) : Wk f P (Itt f.K a) l := fun F κ M H R p i => by
  obtain ⟨vs, e, rs⟩ := h F κ M H R p
  refine ⟨fun x hx => ?_, fun hx => ⟨vs, SqT.of e, pget rs hx⟩⟩
  obtain ⟨v, hv, r⟩ := Paired.get rs hx
  refine ⟨⟨vs, v, SqT.of e, hv⟩, fun w H' ⟨q1, q2⟩ => ?_⟩
  subst q1
  have := q2 vs (SqT.of e)
  rw [hv] at this
  cases this
  exact here_wk R r
theorem wk_str {P : Fz → List Addr → Hp → Prop} {s : List Nat} : Wk f P (Its (toStr s)) (s.map fun c => .str [c]) := fun F κ M H R p i => by
  refine ⟨fun x hx => ?_, fun hx => ?_⟩
  · rw [List.getElem?_map] at hx
    cases e : s[i]? with
    | none => rw [e] at hx; cases hx
    | some k =>
      rw [e] at hx
      cases hx
      have hi : i < s.length := (List.getElem?_eq_some_iff.mp e).1
      refine ⟨by show i < (toStr s).cps.size; simpa [toStr] using hi, fun w H' ⟨q1, k', q2, q3⟩ => ?_⟩
      subst q1
      have : (toStr s).cps[i]? = some k := by simpa [toStr] using e
      rw [this] at q2
      cases q2
      subst q3
      exact here_wk R rfl
  · rw [List.getElem?_map] at hx
    show (toStr s).cps.size ≤ i
    have : s[i]? = none := by
      cases e : s[i]? with
      | none => rfl
      | some k => rw [e] at hx; cases hx
    simpa [toStr] using List.getElem?_eq_none_iff.mp this
theorem wk_range {P : Fz → List Addr → Hp → Prop} {lo : Int} {n : Nat} : Wk f P (Itr lo n) ((List.range n).map fun (k : Nat) => .int (lo + k)) := fun F κ M H R p i => by
  by_cases h : i < n
  · refine ⟨fun x hx => ⟨h, fun w H' ⟨q1, q2⟩ => ?_⟩, fun hx => ?_⟩
    · rw [List.getElem?_map, List.getElem?_range h] at hx
      cases hx
      subst q1
      exact here_wk R q2
    · rw [List.getElem?_map, List.getElem?_range h] at hx
      cases hx
  · refine ⟨fun x hx => ?_, fun _ => Nat.le_of_not_lt h⟩
    rw [List.getElem?_eq_none (by simpa using h)] at hx
    cases hx
/-- a value that is kept, as a list, a tuple -/
theorem ls_at {m : Md} (hm : m = .i ∨ m = .k) {F : Fz} {κ : List Addr} {ρ : Ev} {M : Mem} {σ : L2.St} {H : Hp} {v : V} {l : List D} (R : f.RS F κ ρ M σ H) (h : Rel f (inner m) F κ H v (.lst l)) : ∃ a, v = .ref a ∧ (∃ xs, SqL f.K H a xs) ∧ LsAt f (Stay m F κ H) a l := by
  rcases hm with rfl | rfl
  · obtain ⟨a, vs, rfl, q, rs, n⟩ := h
    refine ⟨a, rfl, ⟨vs, SqL.of q⟩, fun F' κ' M' H' R' g => ⟨vs, g.kp.all _ _ q n (fun _ z => nomatch z), rs.mono g.ex g.px⟩⟩
  · obtain ⟨a, rfl, q⟩ := h
    obtain ⟨vs, q2, _⟩ := R.m.fz a _ q
    exact ⟨a, rfl, ⟨vs, SqL.of q2⟩, fun F' κ' M' H' R' g => R'.fz a _ (g.1 _ _ q)⟩
theorem tp_at {m : Md} (hm : m = .i ∨ m = .k) {F : Fz} {κ : List Addr} {ρ : Ev} {M : Mem} {σ : L2.St} {H : Hp} {v : V} {l : List D} (R : f.RS F κ ρ M σ H) (h : Rel f (inner m) F κ H v (.tup l)) : ∃ a, v = .ref a ∧ (∃ xs, SqT f.K H a xs) ∧ TpAt f (Stay m F κ H) a l := by
  have : ∃ a, v = .ref a ∧ F a = some (.tup l) := by rcases hm with rfl | rfl <;> exact h
  obtain ⟨a, rfl, q⟩ := this
  obtain ⟨vs, q2, _⟩ := R.m.fz a _ q
  refine ⟨a, rfl, ⟨vs, SqT.of q2⟩, fun F' κ' M' H' R' g => R'.fz a (.tup l) ?_⟩
  rcases hm with rfl | rfl
  · exact g.ex _ _ q
  · exact g.1 _ _ q
theorem s_iter (G : GX f c X) {m : Md} (hm : m = .i ∨ m = .k) {e : E} {x : Expr} (hf : flat e = true) (h : PE X x (dE f (inner m) (ev g φ (inner m) e))) : PI X tg x (dI f m (ev g φ m e)) := by
  refine PI.imp (pi_seq h) fun σ H Q ⟨F, κ, ρ, M, R, h⟩ => ?_
  have e1 : ev g φ m e ρ M = (ev g φ (inner m) e ρ M).bind (fin m) := by
    rcases hm with rfl | rfl
    · exact flat_b (.inr rfl) hf
    · exact flat_k hf
  rw [e1] at h
  refine ⟨F, κ, ρ, M, R, h.bind.imp fun F1 κ1 ρ1 M1 H1 d g1 R1 ⟨_, q⟩ v r => ?_⟩
  have r := RelQ.rel (inner_vb m) r
  have q' : Aft f F1 κ1 H1 σ (fun F' κ' ρ' M' H' d => ∃ xs, d = D.lst xs ∧ ∀ J, Wk f (Stay m F' κ' H') J xs → Q J H') (lift ((iterD d).map D.lst) ρ1 M1) := by
    rcases hm with rfl | rfl <;> exact q
  cases e2 : iterD d with
  | none => rw [e2] at q'; exact q'.elim
  | some xs =>
    rw [e2] at q'
    obtain ⟨xs', ex, hq⟩ := Aft.here (show Aft f F1 κ1 H1 σ (fun F' κ' ρ' M' H' d => ∃ xs, d = D.lst xs ∧ ∀ J, Wk f (Stay m F' κ' H') J xs → Q J H') (okE ρ1 M1 (D.lst xs)) from q') R1
    cases ex
    cases d with
    | lst l =>
      cases e2
      obtain ⟨a, rfl, hs, la⟩ := ls_at hm R1 r
      exact .inl ⟨a, rfl, by rw [G.K]; exact hs, by rw [G.K]; exact hq _ (wk_list la)⟩
    | tup l =>
      cases e2
      obtain ⟨a, rfl, hs, la⟩ := tp_at hm R1 r
      exact .inr (.inl ⟨a, rfl, by rw [G.K]; exact hs, by rw [G.K]; exact hq _ (wk_tup la)⟩)
    | str s =>
      cases e2
      have : v = .str (toStr s) := by rcases hm with rfl | rfl <;> exact r
      exact .inr (.inr ⟨_, this, hq _ wk_str⟩)
    | _ => cases e2
end
end DV
end
section
set_option Elab.async false
set_option linter.all false
set_option maxRecDepth 100000
set_option maxHeartbeats 1000000
/-! DV13: range, zip, enumerate. -/
namespace DV
open PySem PySem.Spec PyProof.Rows L2
section
variable {f : Fr0} {c : Ct} {X : Cx} {g : Cfg} {φ : Phi} {tg : Expr}
theorem RM.tree {K : PySem.W.Frag} {G : Gb} {F : Fz} {κ : List Addr} {M : Mem} {H : Hp} (R : RM K G F κ M H) {p : Addr} {o : HO} {d : D} (h : H p = none) (s : ∀ F', Ex F F' → Shape G F' κ (upd H p o) p d) (ho : ∀ ps, o ≠ .tbl ps := by intro _ z; cases z) :
    Go F κ H (fput F p d) κ (upd H p o) ∧ RM K G (fput F p d) κ M (upd H p o) ∧ Nf F H (fput F p d) := by
  have fn := R.fnone h
  have ex : Ex F (fput F p d) := Ex.put fn
  exact ⟨⟨ex, Px.refl κ, fun _ m => .inl m, Kp.new h⟩, (R.new h ho).freeze fn (R.cnone h) (s _ ex), Nf.put h⟩
/-- the end of an iterator's making -/
theorem fin_it {m : Md} {F : Fz} {κ : List Addr} {ρ : Ev} {M : Mem} {σ : L2.St} {H : Hp} {Q : It → Hp → Prop} {xs : List D} {J : It} (R : f.RS F κ ρ M σ H) (w : Wk f (Stay m F κ H) J xs)
    (q : Aft f F κ H σ (fun F' κ' ρ' M' H' d => ∃ xs, d = D.lst xs ∧ ∀ J, Wk f (Stay m F' κ' H') J xs → Q J H') (okE ρ M (D.lst xs))) : Q J H := by
  obtain ⟨xs', ex, hq⟩ := Aft.here q R
  cases ex
  exact hq J w
theorem range_ok {i : Int} (h : (decide (-4611686018427387904 ≤ i) && decide (i < 4611686018427387904)) = true) : -(2 ^ 62) ≤ i ∧ i < 2 ^ 62 := by
  simp only [Bool.and_eq_true, decide_eq_true_eq] at h
  rw [show (2 : Int) ^ 62 = 4611686018427387904 from by decide]
  exact h
theorem ev_range {m : Md} (hm : m = .i ∨ m = .k) {es : List E} {ρ : Ev} {M : Mem} : ev g φ m (.range es) ρ M = (evs g φ .v es ρ M).bind fun ds ρ M => lift ((rangeD ds).map .lst) ρ M := by
  simp only [ev]
  refine DV.R.bind_congr fun ds ρ M => ?_
  rcases hm with rfl | rfl <;> (cases rangeD ds <;> rfl)
theorem evs_one {m : Md} {a : E} {ρ : Ev} {M : Mem} (ha : ∀ e', a ≠ .star e') : evs g φ m [a] ρ M = (ev g φ m a ρ M).bind fun d ρ M => okE ρ M [d] := by
  rw [evs_cons ha]
  rfl
theorem evs_two {m : Md} {a b : E} {ρ : Ev} {M : Mem} (ha : ∀ e', a ≠ .star e') (hb : ∀ e', b ≠ .star e') : evs g φ m [a, b] ρ M = (ev g φ m a ρ M).bind fun d ρ M => (ev g φ m b ρ M).bind fun e ρ M => okE ρ M [d, e] := by
  rw [evs_cons ha]
  refine DV.R.bind_congr fun d ρ M => ?_
  rw [evs_one hb, DV.R.bind_assoc]
  rfl
theorem s_range1 (G : GX f c X) {m : Md} (hm : m = .i ∨ m = .k) {a : E} {x : Expr} {p pos : Pos} (hg : Gl X "range") (hn : X.mg "range" = none) (h : PE X x (dE f .v (ev g φ .v a))) (ha : ∀ e', a ≠ .star e') (hs : ∀ e' p, x ≠ .Starred e' p) :
    PI X tg (.Call (.Name "range" p) [x] [] pos) (dI f m (ev g φ m (.range [a]))) := by
  refine PI.imp (pi_range1 hg hn (pa_cons h pa_nil (noStar hs)) (noStar hs)) fun σ H Q ⟨F, κ, ρ, M, R, h⟩ => ?_
  rw [ev_range hm, evs_one ha, DV.R.bind_assoc] at h
  refine ⟨F, κ, ρ, M, R, h.bind.imp fun F1 κ1 ρ1 M1 H1 d g1 R1 ⟨_, q⟩ v r => ?_⟩
  cases d with
  | int n =>
    have q : Aft f F1 κ1 H1 σ _ (lift ((rangeD [.int n]).map D.lst) ρ1 M1) := q
    simp only [rangeD] at q
    split at q
    · rename_i hz
      have hz := range_ok hz
      obtain rfl : v = .int n := r
      refine ⟨n, rfl, hz.1, hz.2, fin_it R1 (xs := (List.range n.toNat).map fun (k : Nat) => .int k) ?_ q⟩
      have := wk_range (f := f) (P := Stay m F1 κ1 H1) (lo := 0) (n := n.toNat)
      simpa using this
    · exact q.elim
  | _ => exact q.elim
theorem s_range2 (G : GX f c X) {m : Md} (hm : m = .i ∨ m = .k) {a b : E} {x y : Expr} {p pos : Pos} (hg : Gl X "range") (hn : X.mg "range" = none) (h : PE X x (dE f .v (ev g φ .v a))) (h2 : PE X y (dE f .v (ev g φ .v b))) (ha : ∀ e', a ≠ .star e') (hb : ∀ e', b ≠ .star e') (hs : ∀ e' p, x ≠ .Starred e' p) (hs2 : ∀ e' p, y ≠ .Starred e' p) :
    PI X tg (.Call (.Name "range" p) [x, y] [] pos) (dI f m (ev g φ m (.range [a, b]))) := by
  refine PI.imp (pi_range2 hg hn (pa_cons h (pa_cons h2 pa_nil (noStar hs2)) (noStar hs)) ((noStar hs).trans (by rw [noStar hs2]; rfl)) (noStar hs2)) fun σ H Q ⟨F, κ, ρ, M, R, h⟩ => ?_
  rw [ev_range hm, evs_two ha hb, DV.R.bind_assoc] at h
  refine ⟨F, κ, ρ, M, R, h.bind.imp fun F1 κ1 ρ1 M1 H1 d g1 R1 ⟨_, q⟩ v r => ?_⟩
  rw [DV.R.bind_assoc] at q
  refine ⟨F1, κ1, ρ1, M1, R1, q.bind.imp fun F2 κ2 ρ2 M2 H2 e g2 R2 ⟨_, q⟩ w r2 => ?_⟩
  have q : Aft f F2 κ2 H2 σ _ (lift ((rangeD [d, e]).map D.lst) ρ2 M2) := q
  cases d with
  | int i =>
    cases e with
    | int j =>
      simp only [rangeD] at q
      split at q
      · rename_i hz
        simp only [Bool.and_eq_true] at hz
        have z1 := range_ok (i := i) (by simp only [Bool.and_eq_true]; exact ⟨hz.1.1.1, hz.1.1.2⟩)
        have z2 := range_ok (i := j) (by simp only [Bool.and_eq_true]; exact ⟨hz.1.2, hz.2⟩)
        obtain rfl : v = .int i := r
        obtain rfl : w = .int j := r2
        exact ⟨i, j, rfl, ⟨z1.1, z1.2, z2.1, z2.2⟩, fin_it R2 wk_range q⟩
      · exact q.elim
    | _ => exact q.elim
  | _ => exact q.elim
/-! ### zip -/
theorem zip_get : ∀ {l k : List D} {i : Nat}, ((zipD l k)[i]? = none → l[i]? = none ∨ k[i]? = none) ∧ ∀ x, (zipD l k)[i]? = some x → ∃ a b, l[i]? = some a ∧ k[i]? = some b ∧ x = .tup [a, b]
  | [], k, i => ⟨fun _ => .inl rfl, fun x h => by cases h⟩
  | a :: l, [], i => ⟨fun _ => .inr rfl, fun x h => by cases h⟩
  | a :: l, b :: k, 0 => ⟨fun h => (by cases h), fun x h => by cases h; exact ⟨a, b, rfl, rfl, rfl⟩⟩
  | a :: l, b :: k, i + 1 => by
    have := zip_get (l := l) (k := k) (i := i)
    simpa [zipD] using this
theorem pair_new {F : Fz} {κ : List Addr} {M : Mem} {H : Hp} {T : Addr} {v w : V} {a b : D} (R : RM f.K f.G F κ M H) (h : H T = none) (r1 : Rv f.G F κ v a) (r2 : Rv f.G F κ w b) :
    ∃ F', Go F κ H F' κ (upd H T (.tup [v, w])) ∧ RM f.K f.G F' κ M (upd H T (.tup [v, w])) ∧ Nf F H F' ∧ Rv f.G F' κ (.ref T) (.tup [a, b]) := by
  obtain ⟨g1, R1, n1⟩ := RM.tree (d := .tup [a, b]) (o := .tup [v, w]) R h fun F' ex => ⟨[v, w], upd_same, .cons (r1.mono ex (Px.refl _)) (.cons (r2.mono ex (Px.refl _)) .nil)⟩
  exact ⟨_, g1, R1, n1, T, rfl, fput_same⟩
theorem wk_zipL {P : Fz → List Addr → Hp → Prop} {a b : Addr} {l k : List D} (h1 : LsAt f P a l) (h2 : LsAt f P b k) : Wk f P (Itz f.K a b) (zipD l k) := fun F κ M H R p i => by
  obtain ⟨vs, e1, r1⟩ := h1 F κ M H R p
  obtain ⟨ws, e2, r2⟩ := h2 F κ M H R p
  refine ⟨fun x hx => ?_, fun hx => ⟨vs, ws, SqL.of e1, SqL.of e2, ?_⟩⟩
  · obtain ⟨da, db, ha, hb, rfl⟩ := zip_get.2 x hx
    obtain ⟨v, hv, rv⟩ := Paired.get r1 ha
    obtain ⟨w, hw, rw'⟩ := Paired.get r2 hb
    refine ⟨⟨vs, ws, v, w, SqL.of e1, SqL.of e2, hv, hw⟩, fun z H' ⟨T, v', w', q1, q2, q3, q4, q5⟩ => ?_⟩
    subst q1 q3
    have z1 := q4 vs (SqL.of e1)
    have z2 := q5 ws (SqL.of e2)
    rw [hv] at z1
    rw [hw] at z2
    cases z1
    cases z2
    exact pair_new R q2 rv rw'
  · rcases zip_get.1 hx with z | z
    · exact .inl (pget r1 z)
    · exact .inr (pget r2 z)
theorem wk_zipT {P : Fz → List Addr → Hp → Prop} {a b : Addr} {l k : List D} (h1 : TpAt f P a l) (h2 : TpAt f P b k) : Wk f P (RZ.ItzT f.K a b) (zipD l k) := fun F κ M H R p i => by
  obtain ⟨vs, e1, r1⟩ := h1 F κ M H R p
  obtain ⟨ws, e2, r2⟩ := h2 F κ M H R p
  refine ⟨fun x hx => ?_, fun hx => ⟨vs, ws, SqT.of e1, SqT.of e2, ?_⟩⟩
  · obtain ⟨da, db, ha, hb, rfl⟩ := zip_get.2 x hx
    obtain ⟨v, hv, rv⟩ := Paired.get r1 ha
    obtain ⟨w, hw, rw'⟩ := Paired.get r2 hb
    refine ⟨⟨vs, ws, v, w, SqT.of e1, SqT.of e2, hv, hw⟩, fun z H' ⟨T, v', w', q1, q2, q3, q4, q5⟩ => ?_⟩
    subst q1 q3
    have z1 := q4 vs (SqT.of e1)
    have z2 := q5 ws (SqT.of e2)
    rw [hv] at z1
    rw [hw] at z2
    cases z1
    cases z2
    exact pair_new R q2 rv rw'
  · rcases zip_get.1 hx with z | z
    · exact .inl (pget r1 z)
    · exact .inr (pget r2 z)
theorem Rel.up {m : Md} (hm : m = .i ∨ m = .k) {F F' : Fz} {κ κ' : List Addr} {ρ : Ev} {M : Mem} {σ : L2.St} {H H' : Hp} {v : V} {d : D} (h : Rel f (inner m) F κ H v d) (R : f.RS F κ ρ M σ H) (k : Go F κ H F' κ' H') : Rel f (inner m) F' κ' H' v d := Rel.go h R k
theorem s_zip (G : GX f c X) {m : Md} (hm : m = .i ∨ m = .k) {a b : E} {x y : Expr} {p pos tpos : Pos} {elts : List Expr} {kk : Nat} (hg : Gl X "zip") (hn : X.mg "zip" = none) (h : PE X x (dE f (inner m) (ev g φ (inner m) a))) (h2 : PE X y (dE f (inner m) (ev g φ (inner m) b))) (hs : ∀ e' p, x ≠ .Starred e' p) (hs2 : ∀ e' p, y ≠ .Starred e' p) :
    PI X (.Tuple elts kk tpos) (.Call (.Name "zip" p) [x, y] [] pos) (dI f m (ev g φ m (.zip a b))) := by
  refine PI.imp (RZ.pi_zipA hg hn (pa_cons h (pa_cons h2 pa_nil (noStar hs2)) (noStar hs)) (noStar hs) (by rw [noStar hs2]; rfl)) fun σ H Q ⟨F, κ, ρ, M, R, h⟩ => ?_
  have e1 : ev g φ m (.zip a b) ρ M = (ev g φ (inner m) a ρ M).bind fun x ρ M => (ev g φ (inner m) b ρ M).bind fun y ρ M => lift ((zipV x y).map .lst) ρ M := by rcases hm with rfl | rfl <;> rfl
  rw [e1] at h
  refine ⟨F, κ, ρ, M, R, h.bind.imp fun F1 κ1 ρ1 M1 H1 d g1 R1 ⟨_, q⟩ v r => ?_⟩
  refine ⟨F1, κ1, ρ1, M1, R1, q.bind.imp fun F2 κ2 ρ2 M2 H2 e g2 R2 ⟨_, q⟩ w r2 => ?_⟩
  have r := Rel.go (RelQ.rel (inner_vb m) r) R1 g2
  have r2 := RelQ.rel (inner_vb m) r2
  cases d with
  | lst l =>
    cases e with
    | lst k =>
      obtain ⟨a1, rfl, ⟨xs, hx⟩, la⟩ := ls_at hm R2 r
      obtain ⟨a2, rfl, ⟨ys, hy⟩, lb⟩ := ls_at hm R2 r2
      exact ⟨a1, a2, xs, ys, rfl, .inl ⟨by rw [G.K]; exact hx, by rw [G.K]; exact hy, by rw [G.K]; exact fin_it R2 (wk_zipL la lb) q⟩⟩
    | _ => exact q.elim
  | tup l =>
    cases e with
    | tup k =>
      obtain ⟨a1, rfl, ⟨xs, hx⟩, la⟩ := tp_at hm R2 r
      obtain ⟨a2, rfl, ⟨ys, hy⟩, lb⟩ := tp_at hm R2 r2
      exact ⟨a1, a2, xs, ys, rfl, .inr ⟨by rw [G.K]; exact hx, by rw [G.K]; exact hy, by rw [G.K]; exact fin_it R2 (wk_zipT la lb) q⟩⟩
    | _ => exact q.elim
  | _ => exact q.elim
/-! ### enumerate -/
theorem enum_get : ∀ {l : List D} {n i : Nat}, ((enumD n l)[i]? = none → l[i]? = none) ∧ ∀ x, (enumD n l)[i]? = some x → ∃ a, l[i]? = some a ∧ x = .tup [.int (n + i : Nat), a]
  | [], n, i => ⟨fun _ => rfl, fun x h => by cases h⟩
  | a :: l, n, 0 => ⟨fun h => (by cases h), fun x h => by cases h; exact ⟨a, rfl, rfl⟩⟩
  | a :: l, n, i + 1 => by
    have := enum_get (l := l) (n := n + 1) (i := i)
    have e : n + 1 + i = n + (i + 1) := by omega
    rw [e] at this
    simpa [enumD] using this
theorem wk_enum {P : Fz → List Addr → Hp → Prop} {a : Addr} {l : List D} (h1 : LsAt f P a l) : Wk f P (Ite f.K a) (enumD 0 l) := fun F κ M H R p i => by
  obtain ⟨vs, e1, r1⟩ := h1 F κ M H R p
  refine ⟨fun x hx => ?_, fun hx => ⟨vs, SqL.of e1, pget r1 (enum_get.1 hx)⟩⟩
  obtain ⟨da, ha, rfl⟩ := enum_get.2 x hx
  obtain ⟨v, hv, rv⟩ := Paired.get r1 ha
  refine ⟨⟨vs, v, SqL.of e1, hv⟩, fun z H' ⟨T, v', q1, q2, q3, q4⟩ => ?_⟩
  subst q1 q3
  have z1 := q4 vs (SqL.of e1)
  rw [hv] at z1
  cases z1
  rw [Nat.zero_add]
  exact pair_new R q2 (show Rv f.G F κ (.int (i : Nat)) (.int (i : Nat)) from rfl) rv
theorem s_enum (G : GX f c X) {m : Md} (hm : m = .i ∨ m = .k) {a : E} {x : Expr} {p pos tpos : Pos} {elts : List Expr} {kk : Nat} (hg : Gl X "enumerate") (hn : X.mg "enumerate" = none) (h : PE X x (dE f (inner m) (ev g φ (inner m) a))) (hs : ∀ e' p, x ≠ .Starred e' p) :
    PI X (.Tuple elts kk tpos) (.Call (.Name "enumerate" p) [x] [] pos) (dI f m (ev g φ m (.enum a))) := by
  refine PI.imp (pi_enum hg hn (pa_cons h pa_nil (noStar hs)) (noStar hs)) fun σ H Q ⟨F, κ, ρ, M, R, h⟩ => ?_
  have e1 : ev g φ m (.enum a) ρ M = (ev g φ (inner m) a ρ M).bind fun x ρ M => lift ((enumV x).map .lst) ρ M := by rcases hm with rfl | rfl <;> rfl
  rw [e1] at h
  refine ⟨F, κ, ρ, M, R, h.bind.imp fun F1 κ1 ρ1 M1 H1 d g1 R1 ⟨_, q⟩ v r => ?_⟩
  cases d with
  | lst l =>
    obtain ⟨a1, rfl, ⟨xs, hx⟩, la⟩ := ls_at hm R1 (RelQ.rel (inner_vb m) r)
    exact ⟨a1, xs, rfl, by rw [G.K]; exact hx, by rw [G.K]; exact fin_it R1 (wk_enum la) q⟩
  | _ => exact q.elim
end
end DV
end
section
set_option Elab.async false
set_option linter.all false
set_option maxRecDepth 100000
set_option maxHeartbeats 1000000
/-! DV14: targets. -/
namespace DV
open PySem PySem.Spec PyProof.Rows L2
/-- a frame's own steps from here on -/
abbrev Fr0.at (f : Fr0) (F0 : Fz) (κ0 : List Addr) (H0 : Hp) : Fr0 := { f with F0 := F0, κ0 := κ0, H0 := H0, gs := [], W := fun _ _ _ _ => False }
def Agree (vs : List Nat) (σ σ' : L2.St) : Prop := σ'.length = σ.length ∧ ∀ j, j ∉ vs → σ'[j]? = σ[j]?
section
variable {f : Fr0} {c : Ct} {X : Cx} {g : Cfg} {φ : Phi}
/-- the frame changes likewise at any later time -/
def Trn (f : Fr0) (F : Fz) (κ : List Addr) (ρ ρ' : Ev) (σ σ' : L2.St) : Prop := ∀ F0 κ0 H0 F2 κ2 M2 H2, Ex F F2 → Px κ κ2 → (f.at F0 κ0 H0).RS F2 κ2 ρ M2 σ H2 → (f.at F0 κ0 H0).RS F2 κ2 ρ' M2 σ' H2
def dG (f : Fr0) (t : Tg) : TG := fun v σ H Q => ∃ F κ ρ M d ρ', f.RS F κ ρ M σ H ∧ Rv f.G F κ v d ∧ bindT t d ρ = some ρ' ∧ ∀ σ', f.RS F κ ρ' M σ' H → Agree (slots t) σ σ' → Trn f F κ ρ ρ' σ σ' → Q σ' H
def dGs (f : Fr0) (ts : List Tg) : TGs := fun vs σ H Q => ∃ F κ ρ M ds ρ', f.RS F κ ρ M σ H ∧ Rvs f.G F κ vs ds ∧ bindTs ts ds ρ = some ρ' ∧ ∀ σ', f.RS F κ ρ' M σ' H → Agree (slotsL ts) σ σ' → Trn f F κ ρ ρ' σ σ' → Q σ' H
theorem PG.imp {e : Expr} {t t' : TG} (h : PG X e t) (k : ∀ v σ H Q, t' v σ H Q → t v σ H Q) : PG X e t' := ⟨fun pins s σ H v u Q I r q => h.run pins s σ H v u Q I r (k v σ H Q q)⟩
theorem PGs.imp {e : List Expr} {t t' : TGs} (h : PGs X e t) (k : ∀ v σ H Q, t' v σ H Q → t v σ H Q) : PGs X e t' := ⟨fun pins s σ H v u Q I r q => h.run pins s σ H v u Q I r (k v σ H Q q)⟩
theorem s_gname (hN : X.N.Nodup) {i : Nat} {x : Str} {pos : Pos} (hi : X.N[i]? = some x) (hx : Loc X.env.scope x) (hf : X.fn x = true ∨ X.env.scope.names.lookup x = some .local) : PG X (.Name x pos) (dG f (.nm i)) := by
  refine PG.imp (pg_name hN hi hx hf) fun v σ H Q ⟨F, κ, ρ, M, d, ρ', R, r, e, k⟩ => ?_
  simp only [bindT, Option.some.injEq] at e
  subst e
  refine k _ (RS.put R r.l) ⟨List.length_set, fun j hj => List.getElem?_set_ne fun e => hj ?_⟩ fun F0 κ0 H0 F2 κ2 M2 H2 ex px R2 => RS.put R2 (r.mono ex px).l
  simp [slots, e]
theorem s_gnil : PGs X [] (dGs f []) := by
  refine PGs.imp pgs_nil fun vs σ H Q ⟨F, κ, ρ, M, ds, ρ', R, r, e, k⟩ => ?_
  cases ds with
  | nil =>
    simp only [bindTs, Option.some.injEq] at e
    subst e
    cases r
    exact ⟨rfl, k σ R ⟨rfl, fun _ _ => rfl⟩ fun _ _ _ _ _ _ _ _ _ R => R⟩
  | cons d ds => cases e
theorem noStarT {e : Expr} {es : List Expr} {env : Env} (h : ∀ e' p, e ≠ .Starred e' p) : assignEach (e :: es) env = (false, assign e env) :: assignEach es env := by
  cases e <;> first
    | rfl
    | exact absurd rfl (h _ _)
theorem s_gcons {x : Expr} {xs : List Expr} {t : Tg} {ts : List Tg} (hs : ∀ e' p, x ≠ .Starred e' p) (h1 : PG X x (dG f t)) (h2 : PGs X xs (dGs f ts)) : PGs X (x :: xs) (dGs f (t :: ts)) := by
  refine PGs.imp (pgs_cons h1 h2 (by rw [noStarT hs]; rfl)) fun vs σ H Q ⟨F, κ, ρ, M, ds, ρ', R, r, e, k⟩ => ?_
  cases ds with
  | nil => cases e
  | cons d ds =>
    cases r with
    | cons r rs =>
      simp only [bindTs] at e
      cases e1 : bindT t d ρ with
      | none => rw [e1] at e; cases e
      | some ρ1 =>
        rw [e1] at e
        refine ⟨_, _, rfl, F, κ, ρ, M, d, ρ1, R, r, e1, fun σ1 R1 a1 t1 => ⟨F, κ, ρ1, M, ds, ρ', R1, rs, e, fun σ2 R2 a2 t2 => k σ2 R2 ⟨a2.1.trans a1.1, fun j hj => ?_⟩ fun F0 κ0 H0 F3 κ3 M3 H3 ex px R3 => t2 F0 κ0 H0 F3 κ3 M3 H3 ex px (t1 F0 κ0 H0 F3 κ3 M3 H3 ex px R3)⟩⟩
        simp only [slotsL, List.mem_append, not_or] at hj
        rw [a2.2 j hj.2, a1.2 j hj.1]
theorem each_len {env : Env} : ∀ {xs : List Expr}, (∀ y ∈ xs, ∀ e' p, y ≠ .Starred e' p) → (assignEach xs env).length = xs.length ∧ (assignEach xs env).findIdx? (·.1) = none
  | [], _ => ⟨rfl, rfl⟩
  | x :: xs, h => by
    obtain ⟨i1, i2⟩ := each_len (env := env) fun y m => h y (List.mem_cons_of_mem _ m)
    rw [noStarT (h x List.mem_cons_self)]
    exact ⟨by simp [i1], by rw [List.findIdx?_cons, i2]; rfl⟩
theorem bindTs_len : ∀ {ts : List Tg} {ds : List D} {ρ ρ' : Ev}, bindTs ts ds ρ = some ρ' → ts.length = ds.length
  | [], [], _, _, _ => rfl
  | [], _ :: _, _, _, h => by cases h
  | _ :: _, [], _, _, h => by cases h
  | t :: ts, d :: ds, ρ, ρ', h => by
    simp only [bindTs] at h
    cases e : bindT t d ρ with
    | none => rw [e] at h; cases h
    | some ρ1 => rw [e] at h; rw [List.length_cons, List.length_cons, bindTs_len h]
theorem s_gtup (G : GX f c X) {xs : List Expr} {ts : List Tg} {k : Nat} {pos : Pos} (hl : ts.length = xs.length) (hs : ∀ y ∈ xs, ∀ e' p, y ≠ .Starred e' p) (h : PGs X xs (dGs f ts)) : PG X (.Tuple xs k pos) (dG f (.tu ts)) := by
  refine PG.imp (pg_tup (n := xs.length) G.calm h (each_len hs).1 (each_len hs).2) fun v σ H Q ⟨F, κ, ρ, M, d, ρ', R, r, e, k⟩ => ?_
  cases d with
  | tup ds =>
    obtain ⟨a, vs, rfl, _, h1, rs⟩ := tup_at R.m r
    refine ⟨a, vs, rfl, by rw [G.K]; exact SqT.of h1, ?_, F, κ, ρ, M, ds, ρ', R, rs, e, k⟩
    rw [Paired.length rs, ← bindTs_len (show bindTs ts ds ρ = some ρ' from e), hl]
  | _ => cases e
/-! ### the block of a comprehension -/
theorem clear_at : ∀ {vs : List Nat} {ρ ρ' : Ev}, clear vs ρ = some ρ' → ρ'.length = ρ.length ∧ ∀ i e, ρ'[i]? = some e → (i ∈ vs ∧ e = .un) ∨ (i ∉ vs ∧ ρ[i]? = some e)
  | [], ρ, ρ', h => by cases h; exact ⟨rfl, fun i e q => .inr ⟨by simp, q⟩⟩
  | v :: vs, ρ, ρ', h => by
    simp only [clear] at h
    cases e0 : ρ[v]? with
    | none => rw [e0] at h; cases h
    | some e1 =>
      rw [e0] at h
      cases o : isOwn e1 with
      | true => simp [o] at h
      | false =>
        simp only [o, Bool.false_eq_true, if_false] at h
        obtain ⟨i1, i2⟩ := clear_at h
        refine ⟨i1.trans List.length_set, fun i e q => ?_⟩
        rcases i2 i e q with ⟨m, z⟩ | ⟨m, z⟩
        · exact .inl ⟨List.mem_cons_of_mem _ m, z⟩
        · rcases get_set z with ⟨rfl, rfl⟩ | ⟨ne, z⟩
          · exact .inl ⟨List.mem_cons_self, rfl⟩
          · exact .inr ⟨by simp only [List.mem_cons, not_or]; exact ⟨fun h => ne h.symm, m⟩, z⟩
theorem reset_at : ∀ {vs : List Nat} {ρ : Ev}, (reset vs ρ).length = ρ.length ∧ ∀ i e, (reset vs ρ)[i]? = some e → (i ∈ vs ∧ e = .un) ∨ (i ∉ vs ∧ ρ[i]? = some e)
  | [], ρ => ⟨rfl, fun i e q => .inr ⟨by simp, q⟩⟩
  | v :: vs, ρ => by
    obtain ⟨i1, i2⟩ := reset_at (vs := vs) (ρ := ρ.set v .un)
    refine ⟨i1.trans List.length_set, fun i e q => ?_⟩
    rcases i2 i e q with ⟨m, z⟩ | ⟨m, z⟩
    · exact .inl ⟨List.mem_cons_of_mem _ m, z⟩
    · rcases get_set z with ⟨rfl, rfl⟩ | ⟨ne, z⟩
      · exact .inl ⟨List.mem_cons_self, rfl⟩
      · exact .inr ⟨by simp only [List.mem_cons, not_or]; exact ⟨fun h => ne h.symm, m⟩, z⟩
theorem lock_own (e : En) : own1 (lock1 e) = false := by cases e <;> rfl
variable {F F' : Fz} {κ κ' : List Addr} {ρ ρ' : Ev} {M M' : Mem} {σ : L2.St} {H H' : Hp}
theorem RS.lock (R : f.RS F κ ρ M σ H) {vs ws : List Nat} (l : DV.lock vs ρ = some ρ') (hw : ∀ i ∈ ws, i ∈ vs) : (f.at F κ H).RS F κ ρ' M (wipe σ ws) H := by
  obtain ⟨i1, i2⟩ := clear_at l
  refine ⟨R.m, Go.refl _ _ _, Nf.refl _ _, R.m.scr, ?_, fun i e q => ?_, fun i j a e e' h1 h2 _ _ _ _ => ?_, fun a ha => nomatch ha⟩
  · rw [i1, List.length_map, wipe_length]
    exact R.len
  · rcases i2 i e q with ⟨m, rfl⟩ | ⟨m, z⟩
    · trivial
    · rw [wipe_out fun m' => m (hw i m')]
      rw [List.getElem?_map] at z
      cases e0 : ρ[i]? with
      | none => rw [e0] at z; cases z
      | some e1 =>
        rw [e0] at z
        cases z
        have w := R.sl i _ e0
        cases e1 with
        | un => trivial
        | fz d => exact w
        | ow l => obtain ⟨a, vs, q1, q2, q3, q4, q5, q6⟩ := w; exact ⟨a, vs, q1, q2, q3, q5⟩
        | od _ _ => exact w.elim
        | lk d =>
          cases d with
          | lst l => exact w
          | _ => exact w.elim
  · rcases i2 i e h1 with ⟨m, rfl⟩ | ⟨m, z⟩
    · cases h2
    · rw [List.getElem?_map] at z
      cases e0 : ρ[i]? with
      | none => rw [e0] at z; cases z
      | some e1 =>
        rw [e0] at z
        cases z
        rw [lock_own] at h2
        cases h2
theorem RS.reset (R : f.RS F κ ρ M σ H) {vs ws : List Nat} (hw : ∀ i ∈ ws, i ∈ vs) : f.RS F κ (DV.reset vs ρ) M (wipe σ ws) H := by
  obtain ⟨i1, i2⟩ := reset_at (vs := vs) (ρ := ρ)
  refine ⟨R.m, R.go, R.nf, R.s0, ?_, fun i e q => ?_, fun i j a e e' h1 h2 h3 h4 h5 h6 => ?_, fun a ha => ?_⟩
  · rw [i1, wipe_length]
    exact R.len
  · rcases i2 i e q with ⟨m, rfl⟩ | ⟨m, z⟩
    · trivial
    · rw [wipe_out fun m' => m (hw i m')]
      exact R.sl i e z
  · rcases i2 i e h1 with ⟨m, rfl⟩ | ⟨m, z⟩
    · cases h2
    · rcases i2 j e' h4 with ⟨m', rfl⟩ | ⟨m', z'⟩
      · cases h5
      · rw [wipe_out fun w => m (hw i w)] at h3
        rw [wipe_out fun w => m' (hw j w)] at h6
        exact R.own i j a e e' z h2 h3 z' h5 h6
  · obtain ⟨y1, y2, y3, y4, y5⟩ := R.gh a ha
    refine ⟨y1, y2, y3, y4, fun j e hj he => ?_⟩
    rcases i2 j e hj with ⟨m, rfl⟩ | ⟨m, z⟩
    · cases he
    · rw [wipe_out fun w => m (hw j w)]
      exact y5 j e z he
theorem wipe_get {σ : L2.St} {i : Nat} : ∀ {vs : List Nat}, i ∈ vs → (wipe σ vs)[i]? = if i < σ.length then some none else none
  | v :: vs, h => by
    unfold wipe
    by_cases e : v = i
    · subst e
      by_cases q : v < σ.length
      · rw [List.getElem?_set_self (by rw [wipe_length]; exact q), if_pos q]
      · rw [List.getElem?_eq_none (by rw [List.length_set, wipe_length]; omega), if_neg q]
    · rw [List.getElem?_set_ne e]
      rcases List.mem_cons.mp h with z | z
      · exact absurd z.symm e
      · exact wipe_get z
theorem Agree.wipe {vs ws : List Nat} {σ σ' : L2.St} (a : Agree vs (L2.wipe σ ws) σ') (h : ∀ i ∈ vs, i ∈ ws) : L2.wipe σ' ws = L2.wipe σ ws := by
  apply List.ext_getElem?
  intro i
  have l : σ'.length = σ.length := a.1.trans (wipe_length _ _)
  by_cases m : i ∈ ws
  · rw [wipe_get m, wipe_get m, l]
  · rw [wipe_out m, a.2 i fun z => m (h i z)]
end
end DV
end
section
set_option Elab.async false
set_option linter.all false
set_option maxRecDepth 100000
set_option maxHeartbeats 1000000
/-! DV15: list comprehensions. -/
namespace DV
open PySem PySem.Spec PyProof.Rows L2
section
variable {f : Fr0} {c : Ct} {X : Cx} {g : Cfg} {φ : Phi}
variable {F F' : Fz} {κ κ' : List Addr} {ρ ρ' : Ev} {M M' : Mem} {σ : L2.St} {H H' : Hp}
theorem bind_inv {α β : Type} {x : R α} {k : α → Ev → Mem → R β} {r : β} {ρ : Ev} {M : Mem} (h : x.bind k = some (.ok r ρ M)) : ∃ a ρ' M', x = some (.ok a ρ' M') ∧ k a ρ' M' = some (.ok r ρ M) := by
  cases x with
  | none => cases h
  | some o =>
    cases o with
    | ok a ρ' M' => exact ⟨a, ρ', M', rfl, h⟩
    | exc e ρ' M' => cases h
/-- a later state -/
structure LtrK (K : PySem.W.Frag) (G : Gb) (F : Fz) (κ : List Addr) (H : Hp) (F' : Fz) (κ' : List Addr) (M' : Mem) (H' : Hp) : Prop where
  go : Go F κ H F' κ' H'
  m : RM K G F' κ' M' H'
  nf : Nf F H F'
abbrev Ltr (f : Fr0) := LtrK f.K f.G
theorem RS.at' (R : f.RS F κ ρ M σ H) (l : Ltr f F κ H F' κ' M' H') : f.RS F' κ' ρ M' σ H' := RS.step R l.go l.m l.nf
theorem LtrK.trans {F2 : Fz} {κ2 : List Addr} {M2 : Mem} {H2 : Hp} (a : Ltr f F κ H F' κ' M' H') (b : Ltr f F' κ' H' F2 κ2 M2 H2) : Ltr f F κ H F2 κ2 M2 H2 := ⟨a.go.trans b.go, b.m, a.nf.trans a.go b.nf⟩
theorem RS.ltr {F0 : Fz} {κ0 : List Addr} {H0 : Hp} (R : (f.at F0 κ0 H0).RS F κ ρ M σ H) : Ltr f F0 κ0 H0 F κ M H := ⟨R.go, R.m, R.nf⟩
theorem RM.put {K : PySem.W.Frag} {G : Gb} {D : Addr} {u : HO} {o : HO} (R : RM K G F κ M H) (h : H D = some u) (n : F D = none) (m : D ∉ κ) (s : SqL K (upd H D o) G.sa (G.ns.map V.int)) (ho : ∀ ps, o ≠ .tbl ps := by intro _ z; cases z) (hu1 : ∀ ps, u ≠ .tbl ps := by intro _ z; cases z) (hu3 : ∀ fs, u ≠ .xd fs := by intro _ z; cases z) (hu2 : ∀ p, u ≠ .ext p := by intro _ z; cases z) : RM K G F κ M (upd H D o) := by
  refine ⟨fun a d e => ?_, R.len, R.nd, fun i a c e1 e2 => ?_, ?_, s, R.scn⟩
  · have ne : a ≠ D := by
      rintro rfl
      rw [n] at e
      cases e
    have z := R.fz a d e
    cases d with
    | tup l => obtain ⟨vs, q, r⟩ := z; exact ⟨vs, by rw [upd_ne ne]; exact q, r⟩
    | lst l => obtain ⟨vs, q, r⟩ := z; exact ⟨vs, by rw [upd_ne ne]; exact q, r⟩
    | lam f l => obtain ⟨L, q, r⟩ := z; exact ⟨L, q, by rw [upd_ne ne]; exact r⟩
    | ins c l =>
      obtain ⟨C, dx, nfs, oe, vs, q1, q2, q3, q4, q5, q6, q7, q8⟩ := z
      have nd : dx ≠ D := by
        rintro rfl
        rw [h] at q6
        cases q6
        exact hu3 _ rfl
      exact ⟨C, dx, nfs, oe, vs, q1, by rw [upd_ne ne]; exact q2, q3, q4, q5, by rw [upd_ne nd]; exact q6, q7, q8⟩
    | dct l m => exact ⟨by rw [upd_ne ne]; exact z.1, z.2⟩
    | _ => exact z.elim
  · obtain ⟨q1, q2⟩ := R.co i a c e1 e2
    have ne : a ≠ D := by
      rintro rfl
      exact m (List.mem_of_getElem? e1)
    exact ⟨q1, q2.keep (Ex.refl F) (Px.refl κ) (upd_ne ne)⟩
  · refine fun p hp => ?_
    obtain ⟨ps, h1, h2, h3⟩ := R.tb p hp
    have ne : ∀ {a x}, H a = some x → x ≠ u → a ≠ D := fun e t z => by
      subst z
      rw [h] at e
      cases e
      exact t rfl
    refine ⟨ps, by rw [upd_ne (ne h1 fun z => hu1 _ z.symm)]; exact h1, h2, fun pos cv hc => ?_⟩
    obtain ⟨c, e1, e2⟩ := h3 pos cv hc
    exact ⟨c, e1, by rw [upd_ne (ne e2 fun z => hu2 _ z.symm)]; exact e2⟩
/-- a list of the walk's own is given what comes -/
theorem LtrK.put {L : Addr} {xs ys : List V} (l : Ltr f F κ H F' κ' M' H') (R : RM f.K f.G F κ M H) (hn : H L = none) (h : H' L = some (.lst xs)) (n : F' L = none) (m : L ∉ κ') : Ltr f F κ H F' κ' M' (upd H' L (.lst ys)) := by
  have kp : Kp κ H (upd H' L (.lst ys)) := by
    have ne : ∀ a u, H a = some u → a ≠ L := fun a u e z => by
      rw [z, hn] at e
      cases e
    exact ⟨fun a u e q t => by rw [upd_ne (ne a u e)]; exact l.go.kp.all a u e q t, fun a u e q t => by rw [upd_ne (ne a u e)]; exact l.go.kp.cel a u e q t⟩
  exact ⟨⟨l.go.ex, l.go.px, l.go.kf, kp⟩, RM.put l.m h n m (SqL.put R.scr (.of hn) l.m.scr), l.nf⟩
/-- .. and frozen -/
theorem LtrK.freeze {L : Addr} {xs : List V} {ds : List D} (l : Ltr f F κ H F' κ' M' H') (hn : H L = none) (h : H' L = some (.lst xs)) (n : F' L = none) (m : L ∉ κ') (r : Rvs f.G F' κ' xs ds) : Ltr f F κ H (fput F' L (.lst ds)) κ' M' H' := by
  have ex : Ex F' (fput F' L (.lst ds)) := Ex.put n
  refine ⟨⟨l.go.ex.trans ex, l.go.px, l.go.kf, l.go.kp⟩, l.m.freeze n m ⟨xs, h, r.mono ex (Px.refl _)⟩, fun a d e => ?_⟩
  by_cases z : a = L
  · subst z
    exact .inr (.of hn)
  · rw [fput_ne z] at e
    exact l.nf a d e
theorem compL_app {turn : D → Mem → R (Option (List D))} : ∀ {xs acc : List D} {M : Mem} {ds : List D} {M' : Mem}, compL turn acc xs M = some (ds, M') → ∃ r, ds = acc ++ r
  | [], acc, M, ds, M', h => by cases h; exact ⟨[], (List.append_nil _).symm⟩
  | x :: xs, acc, M, ds, M', h => by
    simp only [compL] at h
    split at h
    · obtain ⟨r, e⟩ := compL_app h
      exact ⟨_, e.trans (List.append_assoc ..)⟩
    · exact compL_app h
    · cases h
/-- the readings of a block's parts: from any entry -/
def xE (f : Fr0) (m : Md) (x : Ev → Mem → R D) : TE := fun σ H Q => ∃ F0 κ0 H0, dE (f.at F0 κ0 H0) m x σ H Q
def xT (f : Fr0) (x : Ev → Mem → R D) : TT := fun σ H Q => ∃ F0 κ0 H0, dT (f.at F0 κ0 H0) x σ H Q
def xG (f : Fr0) (t : Tg) : TG := fun v σ H Q => ∃ F0 κ0 H0, dG (f.at F0 κ0 H0) t v σ H Q
def xI (f : Fr0) (m : Md) (x : Ev → Mem → R D) : TI := fun σ H Q => ∃ F0 κ0 H0, dI (f.at F0 κ0 H0) m x σ H Q
theorem xE_of {m : Md} {x : Ev → Mem → R D} {e : Expr} (h : ∀ F0 κ0 H0, PE X e (dE (f.at F0 κ0 H0) m x)) : PE X e (xE f m x) := ⟨fun pins s σ H Q I ⟨F0, κ0, H0, q⟩ => (h F0 κ0 H0).run pins s σ H Q I q⟩
theorem xT_of {x : Ev → Mem → R D} {e : List Expr} (h : ∀ F0 κ0 H0, PTs X e (dT (f.at F0 κ0 H0) x)) : PTs X e (xT f x) := ⟨fun pins s σ H Q I ⟨F0, κ0, H0, q⟩ => (h F0 κ0 H0).run pins s σ H Q I q⟩
theorem xG_of {t : Tg} {e : Expr} (h : ∀ F0 κ0 H0, PG X e (dG (f.at F0 κ0 H0) t)) : PG X e (xG f t) := ⟨fun pins s σ H v u Q I r ⟨F0, κ0, H0, q⟩ => (h F0 κ0 H0).run pins s σ H v u Q I r q⟩
theorem xI_of {m : Md} {x : Ev → Mem → R D} {tg e : Expr} (h : ∀ F0 κ0 H0, PI X tg e (dI (f.at F0 κ0 H0) m x)) : PI X tg e (xI f m x) := ⟨fun pins s σ H R I ⟨F0, κ0, H0, q⟩ => (h F0 κ0 H0).run pins s σ H R I q⟩
theorem s_tests0 : PTs X [] (dT f (ev g φ .t (.lit (.bl true)))) := ⟨fun pins s σ H Q I ⟨F, κ, ρ, M, R, h⟩ => pts_nil.run pins s σ H Q I (by
  obtain ⟨b, e, q⟩ := Aft.here (show Aft f F κ H σ (fun F' κ' ρ' M' H' d => ∃ b, d = D.bl b ∧ Q b H') (okE ρ M (.bl true)) from h) R
  cases e
  exact q)⟩
/-- what a turn of a walk is about -/
theorem ev_ok {α : Type} {Qk : Fz → List Addr → Ev → Mem → Hp → α → Prop} {x : R α} {d : α} {ρ1 : Ev} {M1 : Mem} (e : x = some (.ok d ρ1 M1)) (h : ∀ F' κ' H', Go F κ H F' κ' H' → f.RS F' κ' ρ1 M1 σ H' → Qk F' κ' ρ1 M1 H' d) : Aft f F κ H σ Qk x := by
  rw [e]
  exact h
theorem RM.off (R : RM f.K f.G F κ M H) {D : Addr} (h : H D = none) : F D = none ∧ D ∉ κ := ⟨R.fnone h, R.cnone h⟩
theorem t_cp {m : Md} (hm : Ord m) {el it cc : E} {t : Tg} {own : List (Str × Nat)} (hv : ∀ i, i ∈ own.map (·.2) ↔ i ∈ slots t) {Q : VK} (h : dE f m (ev g φ m (.cp el t it cc)) σ H Q) :
    tLc (dI f .i (ev g φ .i it)) (xG f t) (xT f (ev g φ .t cc)) (xE f .v (ev g φ .v el)) (own.map (·.2)) σ H Q := by
  obtain ⟨F, κ, ρ, M, R, h⟩ := h
  simp only [ev] at h
  refine ⟨F, κ, ρ, M, R, h.bind.imp fun F1 κ1 ρ1 M1 H1 d g1 R1 ⟨_, q⟩ => ?_⟩
  cases d with
  | lst xs =>
    cases el0 : lock (slots t) ρ1 with
    | none => simp only [el0] at q; exact q.elim
    | some ρ' =>
      simp only [el0] at q
      generalize hturn : turnF (fun ρ M => ev g φ .t cc ρ M) (fun ρ M => (ev g φ .v el ρ M).bind fun d ρ M => okE ρ M [d]) t ρ' = turn at q
      cases ec : compL turn [] xs M1 with
      | none => simp only [ec] at q; exact q.elim
      | some p =>
        obtain ⟨ds, M'⟩ := p
        simp only [ec] at q
        cases em : mkL ds with
        | none => simp only [em] at q; exact q.elim
        | some dd =>
          simp only [em] at q
          obtain ⟨rfl, hl, hn⟩ := mkL_some em
          refine ⟨xs, rfl, fun J wk L hL => ?_⟩
          have off := R1.m.off hL
          refine ⟨fun i n H5 => ∃ F5 κ5 M5 ds5 vs5, n = xs.length - i ∧ i ≤ xs.length ∧ Ltr f F1 κ1 H1 F5 κ5 M5 H5 ∧ F5 L = none ∧ L ∉ κ5 ∧ H5 L = some (.lst vs5) ∧ Rvs f.G F5 κ5 vs5 ds5 ∧ compL turn ds5 (xs.drop i) M5 = some (ds, M'),
            ⟨xs.length, F1, κ1, M1, [], [], rfl, Nat.zero_le _, ⟨Go.new hL, R1.m.new hL, Nf.refl _ _⟩, off.1, off.2, upd_same, .nil, ec⟩, ?_⟩
          rintro i n H5 ⟨F5, κ5, M5, ds5, vs5, rfl, hi, l5, n5, k5, h5, r5, c5⟩
          by_cases hlt : i < xs.length
          · have hx : xs[i]? = some xs[i] := List.getElem?_eq_getElem hlt
            obtain ⟨w1, w2⟩ := (wk F5 κ5 M5 H5 l5.m l5.go i).1 _ hx
            refine .inr ⟨w1, fun H' => ∃ F5 κ5 M5 ds5 vs5, Ltr f F1 κ1 H1 F5 κ5 M5 H' ∧ F5 L = none ∧ L ∉ κ5 ∧ H' L = some (.lst vs5) ∧ Rvs f.G F5 κ5 vs5 ds5 ∧ compL turn ds5 (xs.drop (i + 1)) M5 = some (ds, M'),
              fun H' ⟨a1, a2, a3, a4, a5, z⟩ => ⟨xs.length - (i + 1), by omega, a1, a2, a3, a4, a5, rfl, hlt, z⟩, fun v H6 y => ?_⟩
            obtain ⟨F6, g6, m6, n6, r6⟩ := w2 v H6 y
            rw [List.drop_eq_getElem_cons hlt] at c5
            simp only [compL] at c5
            generalize hx' : xs[i] = x at c5 r6
            have l6 : Ltr f F1 κ1 H1 F6 κ5 M5 H6 := l5.trans ⟨g6, m6, n6⟩
            have at6 : F6 L = none ∧ H6 L = some (.lst vs5) := ⟨n6.keep h5 n5, g6.kp.all _ _ h5 k5 (fun _ z => nomatch z)⟩
            have R6 := RS.lock (R1.at' l6) el0 (ws := own.map (·.2)) fun i m => (hv i).mp m
            have r5' := r5.mono g6.ex g6.px
            -- the end of a turn
            have stay : ∀ {F7 κ7 M7 H7}, Ltr f F6 κ5 H6 F7 κ7 M7 H7 → F7 L = none ∧ L ∉ κ7 ∧ H7 L = some (.lst vs5) ∧ Rvs f.G F7 κ7 vs5 ds5 := fun {F7 κ7 M7 H7} l7 => by
              refine ⟨l7.nf.keep at6.2 at6.1, fun z => ?_, l7.go.kp.all _ _ at6.2 k5 (fun _ z => nomatch z), r5'.mono l7.go.ex l7.go.px⟩
              rcases l7.go.kf L z with w | w
              · exact k5 w
              · exact w.no at6.2
            cases eb : bindT t x ρ' with
            | none =>
              rw [← hturn] at c5
              simp only [turnF, eb] at c5
              cases c5
            | some ρb =>
              have et : turn x M5 = ((ev g φ .t cc ρb M5).bind fun b _ M => match b with
                  | .bl true => ((ev g φ .v el ρb M).bind fun d ρ M => okE ρ M [d]).bind fun d _ M => okE ρb M (some d)
                  | .bl false => okE ρb M none
                  | _ => none) := by
                rw [← hturn]
                simp only [turnF, eb]
                all_goals rfl
              have ok1 : ∃ o ρz Mz, turn x M5 = some (.ok o ρz Mz) := by
                cases e : turn x M5 with
                | none => rw [e] at c5; cases c5
                | some o =>
                  cases o with
                  | ok a b c => exact ⟨a, b, c, rfl⟩
                  | exc a b c => rw [e] at c5; cases c5
              obtain ⟨o, ρz, Mz, eo⟩ := ok1
              rw [eo] at c5
              rw [et] at eo
              obtain ⟨b, ρc, Mc, e1, e2⟩ := bind_inv eo
              refine ⟨F6, κ5, H6, F6, κ5, ρ', M5, x, ρb, R6, r6, eb, fun σ2 R7 a7 t7 => ⟨a7.wipe fun i m => (hv i).mpr m, F6, κ5, H6, F6, κ5, ρb, M5, R7, ev_ok e1 fun F8 κ8 H8 g8 R8 => ?_⟩⟩
              cases b with
              | bl b =>
                refine ⟨b, rfl, ?_⟩
                cases b with
                | false =>
                  cases e2
                  obtain ⟨z1, z2, z3, z4⟩ := stay R8.ltr
                  exact iteF ⟨F8, κ8, _, ds5, vs5, l6.trans R8.ltr, z1, z2, z3, z4, c5⟩
                | true =>
                  have e2 : ((ev g φ .v el ρb Mc).bind fun d ρ M => okE ρ M [d]).bind (fun d _ M => okE ρb M (some d)) = some (.ok o ρz Mz) := e2
                  obtain ⟨d1, ρd, Md', e3, e4⟩ := bind_inv e2
                  obtain ⟨d2, ρe, Me, e5, e6⟩ := bind_inv e3
                  cases e6
                  cases e4
                  refine iteT ⟨F6, κ5, H6, F8, κ8, ρb, Mc, R7.at' R8.ltr, ev_ok e5 fun F9 κ9 H9 g9 R9 y ry => ?_⟩
                  obtain ⟨z1, z2, z3, z4⟩ := stay R9.ltr
                  obtain ⟨rest, er⟩ := compL_app c5
                  have lm : lamless d2 = true := by
                    have := List.all_eq_true.mp hn d2 (by rw [er]; simp)
                    exact this
                  have ll : vs5.length < sizeLine := by
                    rw [Paired.length z4, ← line_eq]
                    have := hl
                    rw [er] at this
                    simp only [List.length_append, List.length_cons, List.length_nil] at this
                    omega
                  refine ⟨vs5, z3, ll, F9, κ9, _, ds5 ++ [d2], vs5 ++ [y], (l6.trans R9.ltr).put R1.m hL z3 z1 z2, z1, z2, upd_same, Paired.app z4 (.cons (ry.less lm) .nil), c5⟩
              | _ => cases e2
          · obtain rfl : i = xs.length := by omega
            have st := (wk F5 κ5 M5 H5 l5.m l5.go xs.length).2 (List.getElem?_eq_none (Nat.le_refl _))
            refine .inl ⟨st, ?_⟩
            rw [List.drop_length] at c5
            cases c5
            exact fin_nw hm (R1.at' l5) (nw_list R1 hL h5 r5 n5 k5) (q.later l5.go)
  | _ => exact q.elim
theorem s_cp (G : GX f c X) {m : Md} (hm : Ord m) {el it cc : E} {t : Tg} {elt tg iter : Expr} {ifs : List Expr} {scope : Scope} {own : List (Str × Nat)} {pos : Pos} (hi : PI X tg iter (dI f .i (ev g φ .i it))) (ok : BlkOk X.N X.env.scope scope own)
    (hv : ∀ i, i ∈ own.map (·.2) ↔ i ∈ slots t) (hg : ∀ F0 κ0 H0, ∀ (s : Shared) (H : Hp) (C : Addr) (cl : List (Str × Addr)) (fp : List Addr), PG (X.blk s H scope (compEnvC scope cl C X.env) fp) tg (dG (f.at F0 κ0 H0) t))
    (ht : ∀ F0 κ0 H0, ∀ (s : Shared) (H : Hp) (C : Addr) (cl : List (Str × Addr)) (fp : List Addr), PTs (X.blk s H scope (compEnvC scope cl C X.env) fp) ifs (dT (f.at F0 κ0 H0) (ev g φ .t cc)))
    (he : ∀ F0 κ0 H0, ∀ (s : Shared) (H : Hp) (C : Addr) (cl : List (Str × Addr)) (fp : List Addr), PE (X.blk s H scope (compEnvC scope cl C X.env) fp) elt (dE (f.at F0 κ0 H0) .v (ev g φ .v el)))
    (hs : ∀ x, foldedSetIterable iter X.env x = pure x) : PE X (.ListComp elt [⟨tg, iter, ifs, 0⟩] scope pos) (dE f m (ev g φ m (.cp el t it cc))) :=
  PE.imp (pe_lc G.calm G.nd hi ok (fun s H C cl fp => xG_of fun F0 κ0 H0 => hg F0 κ0 H0 s H C cl fp) (fun s H C cl fp => xT_of fun F0 κ0 H0 => ht F0 κ0 H0 s H C cl fp) (fun s H C cl fp => xE_of fun F0 κ0 H0 => he F0 κ0 H0 s H C cl fp) hs) fun σ H Q h => t_cp hm hv h
end
end DV
end
section
set_option Elab.async false
set_option linter.all false
set_option maxRecDepth 100000
set_option maxHeartbeats 1000000
/-! DV16: list comprehensions of two fors. -/
namespace DV
open PySem PySem.Spec PyProof.Rows L2
section
variable {f : Fr0} {c : Ct} {X : Cx} {g : Cfg} {φ : Phi}
variable {F F' : Fz} {κ κ' : List Addr} {ρ ρ' : Ev} {M M' : Mem} {σ : L2.St} {H H' : Hp}
theorem turn_inv {turn : D → Mem → R (Option (List D))} {x : D} {M : Mem} {acc xs : List D} {p : List D × Mem} (h : compL turn acc (x :: xs) M = some p) :
    ∃ o ρz Mz, turn x M = some (.ok o ρz Mz) ∧ (match o with | some d => compL turn (acc ++ d) xs Mz | none => compL turn acc xs Mz) = some p := by
  simp only [compL] at h
  split at h
  · rename_i e; exact ⟨_, _, _, e, h⟩
  · rename_i e; exact ⟨_, _, _, e, h⟩
  · cases h
/-- a turn, by its parts -/
theorem turnF_inv {fc : Ev → Mem → R D} {fe : Ev → Mem → R (List D)} {t : Tg} {ρ : Ev} {x : D} {M : Mem} {o : Option (List D)} {ρz : Ev} {Mz : Mem} (h : turnF fc fe t ρ x M = some (.ok o ρz Mz)) :
    ∃ ρb b ρc Mc, bindT t x ρ = some ρb ∧ fc ρb M = some (.ok (.bl b) ρc Mc) ∧ (match b with
      | false => o = none ∧ Mz = Mc
      | true => ∃ d ρd, fe ρb Mc = some (.ok d ρd Mz) ∧ o = some d) := by
  unfold turnF at h
  cases e : bindT t x ρ with
  | none => rw [e] at h; cases h
  | some ρb =>
    rw [e] at h
    obtain ⟨b, ρc, Mc, e1, e2⟩ := bind_inv h
    cases b with
    | bl b =>
      refine ⟨ρb, b, ρc, Mc, rfl, e1, ?_⟩
      cases b with
      | false => cases e2; exact ⟨rfl, rfl⟩
      | true =>
        have e2 : (fe ρb Mc).bind (fun d _ M => okE ρb M (some d)) = some (.ok o ρz Mz) := e2
        obtain ⟨d, ρd, Md', e3, e4⟩ := bind_inv e2
        cases e4
        exact ⟨d, ρd, e3, rfl⟩
    | _ => cases e2
theorem t_cp2 {m : Md} (hm : Ord m) {el it cc it1 cc1 : E} {t t1 : Tg} {own : List (Str × Nat)} (hv : ∀ i, i ∈ own.map (·.2) ↔ i ∈ slots t ++ slots t1) {Q : VK} (h : dE f m (ev g φ m (.cp2 el t it cc t1 it1 cc1)) σ H Q) :
    tLc2 (dI f .i (ev g φ .i it)) (xG f t) (xT f (ev g φ .t cc)) (xI f .k (ev g φ .k it1)) (xG f t1) (xT f (ev g φ .t cc1)) (xE f .v (ev g φ .v el)) (own.map (·.2)) (slots t1) σ H Q := by
  have sub0 : ∀ i ∈ own.map (·.2), i ∈ slots t ++ slots t1 := fun i m => (hv i).mp m
  have subt : ∀ i ∈ slots t, i ∈ own.map (·.2) := fun i m => (hv i).mpr (List.mem_append_left _ m)
  have subt1 : ∀ i ∈ slots t1, i ∈ own.map (·.2) := fun i m => (hv i).mpr (List.mem_append_right _ m)
  obtain ⟨F, κ, ρ, M, R, h⟩ := h
  simp only [ev] at h
  refine ⟨F, κ, ρ, M, R, h.bind.imp fun F1 κ1 ρ1 M1 H1 d g1 R1 ⟨_, q⟩ => ?_⟩
  cases d with
  | lst xs =>
    cases el0 : lock (slots t ++ slots t1) ρ1 with
    | none => simp only [el0] at q; exact q.elim
    | some ρ' =>
      simp only [el0] at q
      generalize hin : (fun (ρb : Ev) => turnF (fun ρ M => ev g φ .t cc1 ρ M) (fun ρ M => (ev g φ .v el ρ M).bind fun d ρ M => okE ρ M [d]) t1 (reset (slots t1) ρb)) = tin at q
      have hin' : ∀ ρb, turnF (fun ρ M => ev g φ .t cc1 ρ M) (fun ρ M => (ev g φ .v el ρ M).bind fun d ρ M => okE ρ M [d]) t1 (reset (slots t1) ρb) = tin ρb := fun ρb => congrFun hin ρb
      simp only [hin'] at q
      generalize hturn : turnF (fun ρ M => ev g φ .t cc ρ M) (fun ρ M => (ev g φ .k it1 ρ M).bind fun ys _ M => match ys with
        | .lst ys => match compL (tin ρ) [] ys M with
          | some (ds, M') => okE ρ M' ds
          | none => none
        | _ => none) t ρ' = turn at q
      cases ec : compL turn [] xs M1 with
      | none => simp only [ec] at q; exact q.elim
      | some p =>
        obtain ⟨ds, M'⟩ := p
        simp only [ec] at q
        cases em : mkL ds with
        | none => simp only [em] at q; exact q.elim
        | some dd =>
          simp only [em] at q
          obtain ⟨rfl, hl, hn⟩ := mkL_some em
          refine ⟨xs, rfl, fun J wk L hL => ?_⟩
          have off := R1.m.off hL
          refine ⟨fun i n H5 => ∃ F5 κ5 M5 ds5 vs5, n = xs.length - i ∧ i ≤ xs.length ∧ Ltr f F1 κ1 H1 F5 κ5 M5 H5 ∧ F5 L = none ∧ L ∉ κ5 ∧ H5 L = some (.lst vs5) ∧ Rvs f.G F5 κ5 vs5 ds5 ∧ compL turn ds5 (xs.drop i) M5 = some (ds, M'),
            ⟨xs.length, F1, κ1, M1, [], [], rfl, Nat.zero_le _, ⟨Go.new hL, R1.m.new hL, Nf.refl _ _⟩, off.1, off.2, upd_same, .nil, ec⟩, ?_⟩
          rintro i n H5 ⟨F5, κ5, M5, ds5, vs5, rfl, hi, l5, n5, k5, h5, r5, c5⟩
          by_cases hlt : i < xs.length
          · have hx : xs[i]? = some xs[i] := List.getElem?_eq_getElem hlt
            obtain ⟨w1, w2⟩ := (wk F5 κ5 M5 H5 l5.m l5.go i).1 _ hx
            refine .inr ⟨w1, fun H' => ∃ F5 κ5 M5 ds5 vs5, Ltr f F1 κ1 H1 F5 κ5 M5 H' ∧ F5 L = none ∧ L ∉ κ5 ∧ H' L = some (.lst vs5) ∧ Rvs f.G F5 κ5 vs5 ds5 ∧ compL turn ds5 (xs.drop (i + 1)) M5 = some (ds, M'),
              fun H' ⟨a1, a2, a3, a4, a5, z⟩ => ⟨xs.length - (i + 1), by omega, a1, a2, a3, a4, a5, rfl, hlt, z⟩, fun v H6 y => ?_⟩
            obtain ⟨F6, g6, m6, n6, r6⟩ := w2 v H6 y
            rw [List.drop_eq_getElem_cons hlt] at c5
            generalize hx' : xs[i] = x at c5 r6
            have l6 : Ltr f F1 κ1 H1 F6 κ5 M5 H6 := l5.trans ⟨g6, m6, n6⟩
            have at6 : F6 L = none ∧ H6 L = some (.lst vs5) := ⟨n6.keep h5 n5, g6.kp.all _ _ h5 k5 (fun _ z => nomatch z)⟩
            have R6 := RS.lock (R1.at' l6) el0 (ws := own.map (·.2)) sub0
            have r5' := r5.mono g6.ex g6.px
            -- the end of a step
            have stay : ∀ {Fa κa Ha Fb κb Mb Hb} {vs : List V} {es : List D}, Fa L = none → L ∉ κa → Ha L = some (.lst vs) → Rvs f.G Fa κa vs es → Ltr f Fa κa Ha Fb κb Mb Hb → Fb L = none ∧ L ∉ κb ∧ Hb L = some (.lst vs) ∧ Rvs f.G Fb κb vs es := fun {Fa κa Ha Fb κb Mb Hb vs es} a1 a2 a3 a4 l7 => by
              refine ⟨l7.nf.keep a3 a1, fun z => ?_, l7.go.kp.all _ _ a3 a2 (fun _ z => nomatch z), a4.mono l7.go.ex l7.go.px⟩
              rcases l7.go.kf L z with w | w
              · exact a2 w
              · exact w.no a3
            obtain ⟨o, ρz, Mz, eo, c5⟩ := turn_inv c5
            rw [← hturn] at eo
            obtain ⟨ρb, b, ρc, Mc, eb, e1, e2⟩ := turnF_inv eo
            refine ⟨F6, κ5, H6, F6, κ5, ρ', M5, x, ρb, R6, r6, eb, fun σ2 R7 a7 t7 => ⟨a7.wipe subt, F6, κ5, H6, F6, κ5, ρb, M5, R7, ev_ok e1 fun F8 κ8 H8 g8 R8 => ?_⟩⟩
            refine ⟨b, rfl, ?_⟩
            cases b with
            | false =>
              obtain ⟨rfl, rfl⟩ := e2
              obtain ⟨z1, z2, z3, z4⟩ := stay at6.1 k5 at6.2 r5' R8.ltr
              exact iteF ⟨F8, κ8, _, ds5, vs5, l6.trans R8.ltr, z1, z2, z3, z4, c5⟩
            | true =>
              obtain ⟨dd, ρd, e3, rfl⟩ := e2
              obtain ⟨ysd, ρy, My, e4, e5⟩ := bind_inv e3
              refine iteT ⟨F6, κ5, H6, F8, κ8, ρb, Mc, R7.at' R8.ltr, ev_ok e4 fun F9 κ9 H9 g9 R9 => ?_⟩
              cases ysd with
              | lst ys =>
                refine ⟨ys, rfl, fun J1 wk1 => ?_⟩
                have e5 : (match compL (tin ρb) [] ys My with
                  | some (ds, M') => okE ρb M' ds
                  | none => none) = some (.ok dd ρd Mz) := e5
                cases ec1 : compL (tin ρb) [] ys My with
                | none => rw [ec1] at e5; cases e5
                | some p1 =>
                  obtain ⟨dsI, MI⟩ := p1
                  rw [ec1] at e5
                  simp only [okE, Option.some.injEq, O.ok.injEq] at e5
                  obtain ⟨rfl, rfl, rfl⟩ := e5
                  have c5 : compL turn (ds5 ++ dsI) (xs.drop (i + 1)) MI = some (ds, M') := c5
                  obtain ⟨rest, er⟩ := compL_app c5
                  have l9 : Ltr f F1 κ1 H1 F9 κ9 My H9 := l6.trans R9.ltr
                  obtain ⟨z1, z2, z3, z4⟩ := stay at6.1 k5 at6.2 r5' R9.ltr
                  refine ⟨fun j n H5 => ∃ Fa κa Ma dsa vsa, n = ys.length - j ∧ j ≤ ys.length ∧ Ltr f F1 κ1 H1 Fa κa Ma H5 ∧ Ex F9 Fa ∧ Px κ9 κa ∧ Fa L = none ∧ L ∉ κa ∧ H5 L = some (.lst vsa) ∧ Rvs f.G Fa κa vsa (ds5 ++ dsa) ∧ compL (tin ρb) dsa (ys.drop j) Ma = some (dsI, MI),
                    ⟨ys.length, F9, κ9, My, [], vs5, rfl, Nat.zero_le _, l9, Ex.refl _, Px.refl _, z1, z2, z3, by rw [List.append_nil]; exact z4, ec1⟩, ?_⟩
                  rintro j n Ha ⟨Fa, κa, Ma, dsa, vsa, rfl, hj, la, xa, pa, na, ka, ha, ra, ca⟩
                  by_cases hlj : j < ys.length
                  · have hy : ys[j]? = some ys[j] := List.getElem?_eq_getElem hlj
                    obtain ⟨u1, u2⟩ := (wk1 Fa κa Ma Ha la.m ⟨xa, pa⟩ j).1 _ hy
                    refine .inr ⟨u1, fun H' => ∃ Fa κa Ma dsa vsa, Ltr f F1 κ1 H1 Fa κa Ma H' ∧ Ex F9 Fa ∧ Px κ9 κa ∧ Fa L = none ∧ L ∉ κa ∧ H' L = some (.lst vsa) ∧ Rvs f.G Fa κa vsa (ds5 ++ dsa) ∧ compL (tin ρb) dsa (ys.drop (j + 1)) Ma = some (dsI, MI),
                      fun H' ⟨a1, a2, a3, a4, a5, z⟩ => ⟨ys.length - (j + 1), by omega, a1, a2, a3, a4, a5, rfl, hlj, z⟩, fun w Hb y => ?_⟩
                    obtain ⟨Fb, gb, mb, nb, rb⟩ := u2 w Hb y
                    rw [List.drop_eq_getElem_cons hlj] at ca
                    generalize hy' : ys[j] = yj at ca rb
                    have lb1 : Ltr f Fa κa Ha Fb κa Ma Hb := ⟨gb, mb, nb⟩
                    have lb : Ltr f F1 κ1 H1 Fb κa Ma Hb := la.trans lb1
                    obtain ⟨y1, y2, y3, y4⟩ := stay na ka ha ra lb1
                    have Rb0 := t7 Fb κa Hb Fb κa Ma Hb ((R9.go.ex.trans xa).trans gb.ex) (R9.go.px.trans pa) (RS.lock (R1.at' lb) el0 (ws := own.map (·.2)) sub0)
                    have Rb := RS.reset Rb0 (vs := slots t1) (ws := slots t1) fun i m => m
                    obtain ⟨o1, ρz1, Mz1, eo1, ca⟩ := turn_inv ca
                    rw [← hin'] at eo1
                    obtain ⟨ρe, b1, ρg, Mg, eb1, e6, e7⟩ := turnF_inv eo1
                    refine ⟨Fb, κa, Hb, Fb, κa, reset (slots t1) ρb, Ma, yj, ρe, Rb, rb, eb1, fun σ3 Rc ac tc => ⟨ac.wipe fun i m => m, Fb, κa, Hb, Fb, κa, ρe, Ma, Rc, ev_ok e6 fun Fd κd Hd gd Rd => ?_⟩⟩
                    refine ⟨b1, rfl, ?_⟩
                    cases b1 with
                    | false =>
                      obtain ⟨rfl, rfl⟩ := e7
                      obtain ⟨x1, x2, x3, x4⟩ := stay y1 y2 y3 y4 Rd.ltr
                      exact iteF ⟨Fd, κd, _, dsa, vsa, lb.trans Rd.ltr, (xa.trans gb.ex).trans Rd.go.ex, pa.trans Rd.go.px, x1, x2, x3, x4, ca⟩
                    | true =>
                      obtain ⟨dd, ρh, e8, rfl⟩ := e7
                      obtain ⟨d2, ρi, Mi, e9, e10⟩ := bind_inv e8
                      cases e10
                      refine iteT ⟨Fb, κa, Hb, Fd, κd, ρe, Mg, Rc.at' Rd.ltr, ev_ok e9 fun Fe κe He ge Re yv ry => ?_⟩
                      obtain ⟨x1, x2, x3, x4⟩ := stay y1 y2 y3 y4 Re.ltr
                      have ca : compL (tin ρb) (dsa ++ [d2]) (ys.drop (j + 1)) _ = some (dsI, MI) := ca
                      obtain ⟨rest1, er1⟩ := compL_app ca
                      have lm : lamless d2 = true := List.all_eq_true.mp hn d2 (by rw [er, er1]; simp)
                      have ll : vsa.length < sizeLine := by
                        rw [Paired.length x4, ← line_eq]
                        have := hl
                        rw [er, er1] at this
                        simp only [List.length_append, List.length_cons, List.length_nil] at this ⊢
                        omega
                      refine ⟨vsa, x3, ll, Fe, κe, _, dsa ++ [d2], vsa ++ [yv], (lb.trans Re.ltr).put R1.m hL x3 x1 x2, (xa.trans gb.ex).trans Re.go.ex, pa.trans Re.go.px, x1, x2, upd_same, ?_, ca⟩
                      rw [← List.append_assoc]
                      exact Paired.app x4 (.cons (ry.less lm) .nil)
                  · obtain rfl : j = ys.length := by omega
                    have st := (wk1 Fa κa Ma Ha la.m ⟨xa, pa⟩ ys.length).2 (List.getElem?_eq_none (Nat.le_refl _))
                    rw [List.drop_length] at ca
                    cases ca
                    exact .inl ⟨st, Fa, κa, _, _, vsa, la, na, ka, ha, ra, c5⟩
              | _ => cases e5
          · obtain rfl : i = xs.length := by omega
            have st := (wk F5 κ5 M5 H5 l5.m l5.go xs.length).2 (List.getElem?_eq_none (Nat.le_refl _))
            refine .inl ⟨st, ?_⟩
            rw [List.drop_length] at c5
            cases c5
            exact fin_nw hm (R1.at' l5) (nw_list R1 hL h5 r5 n5 k5) (q.later l5.go)
  | _ => exact q.elim
theorem s_cp2 (G : GX f c X) {m : Md} (hm : Ord m) {el it cc it1 cc1 : E} {t t1 : Tg} {elt tg iter tg1 iter1 : Expr} {ifs ifs1 : List Expr} {scope : Scope} {own : List (Str × Nat)} {pos : Pos} (hi : PI X tg iter (dI f .i (ev g φ .i it))) (ok : BlkOk X.N X.env.scope scope own)
    (hv : ∀ i, i ∈ own.map (·.2) ↔ i ∈ slots t ++ slots t1) (hg : ∀ F0 κ0 H0, ∀ (s : Shared) (H : Hp) (C : Addr) (cl : List (Str × Addr)) (fp : List Addr), PG (X.blk s H scope (compEnvC scope cl C X.env) fp) tg (dG (f.at F0 κ0 H0) t))
    (ht : ∀ F0 κ0 H0, ∀ (s : Shared) (H : Hp) (C : Addr) (cl : List (Str × Addr)) (fp : List Addr), PTs (X.blk s H scope (compEnvC scope cl C X.env) fp) ifs (dT (f.at F0 κ0 H0) (ev g φ .t cc)))
    (hi1 : ∀ F0 κ0 H0, ∀ (s : Shared) (H : Hp) (C : Addr) (cl : List (Str × Addr)) (fp : List Addr), PI (X.blk s H scope (compEnvC scope cl C X.env) fp) tg1 iter1 (dI (f.at F0 κ0 H0) .k (ev g φ .k it1)))
    (hg1 : ∀ F0 κ0 H0, ∀ (s : Shared) (H : Hp) (C : Addr) (cl : List (Str × Addr)) (fp : List Addr), PG (X.blk s H scope (compEnvC scope cl C X.env) fp) tg1 (dG (f.at F0 κ0 H0) t1))
    (ht1 : ∀ F0 κ0 H0, ∀ (s : Shared) (H : Hp) (C : Addr) (cl : List (Str × Addr)) (fp : List Addr), PTs (X.blk s H scope (compEnvC scope cl C X.env) fp) ifs1 (dT (f.at F0 κ0 H0) (ev g φ .t cc1)))
    (he : ∀ F0 κ0 H0, ∀ (s : Shared) (H : Hp) (C : Addr) (cl : List (Str × Addr)) (fp : List Addr), PE (X.blk s H scope (compEnvC scope cl C X.env) fp) elt (dE (f.at F0 κ0 H0) .v (ev g φ .v el)))
    (hs : ∀ x, foldedSetIterable iter X.env x = pure x) (hs1 : ∀ env x, foldedSetIterable iter1 env x = pure x) : PE X (.ListComp elt [⟨tg, iter, ifs, 0⟩, ⟨tg1, iter1, ifs1, 0⟩] scope pos) (dE f m (ev g φ m (.cp2 el t it cc t1 it1 cc1))) := by
  have subt1 : ∀ i ∈ slots t1, i ∈ own.map (·.2) := fun i m => (hv i).mpr (List.mem_append_right _ m)
  exact PE.imp (pe_lc2 (vs1 := slots t1) G.calm G.nd hi ok subt1 (fun s H C cl fp => xG_of fun F0 κ0 H0 => hg F0 κ0 H0 s H C cl fp) (fun s H C cl fp => xT_of fun F0 κ0 H0 => ht F0 κ0 H0 s H C cl fp) (fun s H C cl fp => xI_of fun F0 κ0 H0 => hi1 F0 κ0 H0 s H C cl fp)
    (fun s H C cl fp => xG_of fun F0 κ0 H0 => hg1 F0 κ0 H0 s H C cl fp) (fun s H C cl fp => xT_of fun F0 κ0 H0 => ht1 F0 κ0 H0 s H C cl fp) (fun s H C cl fp => xE_of fun F0 κ0 H0 => he F0 κ0 H0 s H C cl fp) hs hs1) fun σ H Q h => t_cp2 hm hv h
end
end DV
end
section
set_option Elab.async false
set_option linter.all false
set_option maxRecDepth 100000
set_option maxHeartbeats 1000000
/-! DV17: calls. -/
namespace DV
open PySem PySem.Spec PyProof.Rows L2
section
variable {f : Fr0} {c : Ct} {X : Cx} {g : Cfg} {φ : Phi}
variable {F F' : Fz} {κ κ' : List Addr} {ρ ρ' : Ev} {M M' : Mem} {σ : L2.St} {H H' : Hp}
/-- the promise of an entry of the table -/
def spD (K : PySem.W.Frag) (G : Gb) (B : Heap) (φ : Phi) (i : Nat) : Sp := fun vs H Q E => ∃ F κ M ds, RM K G F κ M H ∧ Paired (Rvl G B F κ) vs ds ∧ match φ i ds M with
  | some (.ok d M') => ∀ F' κ' H' v, LtrK K G F κ H F' κ' M' H' → Rv G F' κ' v d → Q v H'
  | some (.exc x M') => ∀ F' κ' H' cls dx, LtrK K G F κ H F' κ' M' H' → XAt G F' κ' H' cls dx x → E cls dx H'
  | none => False
/-- FnOk, where no display is under way -/
structure FnG (P : Program) (w : World) (K : PySem.W.Frag) (mg : Str → Option Value) (base : Heap) (CX : CXT) (k : Nat) (a : Addr) (fd : FuncData) (ps : List Str) (sp : Sp) : Prop where
  run : ∀ (A : Around) (outer : List Env) (s : Shared) (H : Hp) (args : Args) (us : List Value) (vs : List V) (Q : VK) (E : XK), Room k A → A.guards = some [] → Env0 P w K mg base A outer s H → BindsTo s fd args (ps.zip us) → Vals vs us → sp vs H Q E →
    codeAny (model P w) A (.call (.ref a) args) (CR CX outer P w H s Q E) s
structure CalS (f : Fr0) (X : Cx) (φ : Phi) (k : Nat) (q : Shp) : Prop where
  ex : ∃ (a : Addr) (fd : FuncData) (ps : List Str) (ds : List Value) (dvs : List V), (∀ B : Heap, (∀ b o, f.B.get? b = some o → B.get? b = some o) → FnG X.prog X.w X.K X.mg B (L2.CX X.prog X.w) k a fd ps (spD f.K f.G B φ q.i)) ∧ X.mg q.x = some (.ref a) ∧ PySem.W.keepIn X.K (.ref a) = true ∧
    (∀ (s : Shared) (us ws : List Value), X.K.In s.heap → us.length = q.p → ws.length = q.ks.length → BindsTo s fd ⟨us, q.ks.zip ws⟩ (ps.zip (us ++ (permV q.pm ws ++ ds)))) ∧ Vals dvs ds ∧ q.dd.map atom = dvs.map some
/-- a lambda's promise, where its object and its cells stand -/
structure LamG (P : Program) (w : World) (K : PySem.W.Frag) (mg : Str → Option Value) (base : Heap) (G : Gb) (B : Heap) (φ : Phi) (k i : Nat) (L : LamI) : Prop where
  run : ∀ (A : Around) (outer : List Env) (s : Shared) (H : Hp) (a c' : Addr) (cl : List (Str × Addr)) (pm ctv : Value) (us : List Value) (vs cs : List V) (Q : VK) (E : XK), Room k A → A.guards = some [] → Env0 P w K mg base A outer s H →
    s.heap.get? a = some (PySem.W.kla_obj "<lambda>" L.qual L.params L.body L.scope cl pm c' ctv) → s.heap.CodeRec (.ref c') L.qual → NdefX.CellsAt cl L.fr (cs.map some) s.heap H → Vals vs us → spD K G B φ i (vs ++ cs) H Q E →
    codeAny (model P w) A (.call (.ref a) ⟨us, []⟩) (CR (L2.CX P w) outer P w H s Q E) s
structure GC (f : Fr0) (X : Cx) (φ : Phi) (L : List Shp) : Prop where
  ex : ∃ k, Room k X.A ∧ (∀ q ∈ L, CalS f X φ k q) ∧ (∀ i Li, f.G.lam i = some Li → LamG X.prog X.w X.K X.mg X.base f.G f.B φ k i Li) ∧ Room k X.A.in1.in1
theorem run_fnE {k : Nat} {a : Addr} {fd : FuncData} {ps : List Str} {sp : Sp} {W : WX} {E : XK} {pins : List (Addr × Obj)} {s : Shared} {Q : VK} {us : List Value} {vs : List V} {args : Args} (Fo : FnG X.prog X.w X.K X.mg X.base (L2.CX X.prog X.w) k a fd ps sp) (hr : Room k X.A) (hgd : X.A.guards = some [])
    (hb : BindsTo s fd args (ps.zip us)) (I : Inv X pins σ H s) (r : Vals vs us) (tk : Takes X W) (hW : ∀ cls d H', E cls d H' → W cls d σ H') (h : sp vs H Q E) : wpAny (model X.prog X.w) X.A (call (.ref a) args.pos args.kw) (EP X pins σ Q) X.xe s := by
  refine wpAny_call (codeAny_mono (Fo.run X.A X.stack s H args us vs Q E hr hgd I.env0 hb r h) fun r s' hq => ?_)
  cases r with
  | error e => exact tk e s' (XE.of_call I hW hq)
  | ok fl =>
    cases fl with
    | ret u => exact I.after hq
    | next => exact False.elim hq
    | brk => exact False.elim hq
    | cont => exact False.elim hq
theorem evs_app {m : Md} : ∀ {es fs : List E} {ρ : Ev} {M : Mem}, evs g φ m (es ++ fs) ρ M = (evs g φ m es ρ M).bind fun a ρ M => (evs g φ m fs ρ M).bind fun b ρ M => okE ρ M (a ++ b)
  | [], fs, ρ, M => by
    show _ = R.bind (okE ρ M []) _
    simp only [List.nil_append, evs, R.bind_ok]
    cases e : evs g φ m fs ρ M with
    | none => rfl
    | some o => cases o <;> rfl
  | e :: es, fs, ρ, M => by
    have ih := fun ρ M => evs_app (m := m) (es := es) (fs := fs) (ρ := ρ) (M := M)
    by_cases hs : ∃ e', e = .star e'
    · obtain ⟨e', rfl⟩ := hs
      simp only [List.cons_append, evs, ih]
      rw [R.bind_assoc]
      refine R.bind_congr fun x ρ M => ?_
      cases seqD x with
      | none => rfl
      | some l =>
        simp only []
        rw [R.bind_assoc, R.bind_assoc]
        refine R.bind_congr fun a ρ M => ?_
        rw [R.bind_assoc]
        simp only [R.bind_ok]
        refine R.bind_congr fun b ρ M => ?_
        simp only [R.bind_ok, List.append_assoc]
    · have hs' : ∀ e', e ≠ .star e' := fun e' z => hs ⟨e', z⟩
      rw [List.cons_append, evs_cons hs', evs_cons hs', R.bind_assoc]
      refine R.bind_congr fun x ρ M => ?_
      rw [ih, R.bind_assoc, R.bind_assoc]
      refine R.bind_congr fun a ρ M => ?_
      rw [R.bind_assoc]
      simp only [R.bind_ok]
      refine R.bind_congr fun b ρ M => ?_
      simp only [R.bind_ok, List.cons_append]
theorem evs_len {m : Md} : ∀ {es : List E} {ρ ρ' : Ev} {M M' : Mem} {ds : List D}, (∀ e ∈ es, ∀ e', e ≠ .star e') → evs g φ m es ρ M = some (.ok ds ρ' M') → ds.length = es.length
  | [], ρ, ρ', M, M', ds, _, h => by cases h; rfl
  | e :: es, ρ, ρ', M, M', ds, hs, h => by
    rw [evs_cons (hs e List.mem_cons_self)] at h
    obtain ⟨d, ρ1, M1, _, h⟩ := bind_inv h
    obtain ⟨ds', ρ2, M2, h2, h⟩ := bind_inv h
    cases h
    rw [List.length_cons, List.length_cons, evs_len (fun e m => hs e (List.mem_cons_of_mem _ m)) h2]
theorem Aft.when {α : Type} {Q1 : Fz → List Addr → Ev → Mem → Hp → α → Prop} {x : R α} (h : Aft f F κ H σ Q1 x) : Aft f F κ H σ (fun F' κ' ρ' M' H' d => x = some (.ok d ρ' M') ∧ Q1 F' κ' ρ' M' H' d) x := by
  cases x with
  | none => exact h
  | some o =>
    cases o with
    | ok d ρ' M' => exact fun F' κ' H' g R => ⟨rfl, h F' κ' H' g R⟩
    | exc x ρ' M' => exact h
theorem evs_lits (dd : List D) (ρ : Ev) (M : Mem) : evs g φ .v (dd.map E.lit) ρ M = okE ρ M dd := by
  induction dd with
  | nil => rfl
  | cons d dd ih =>
    rw [List.map_cons, evs_cons (by intro e' z; cases z)]
    show DV.R.bind (okE ρ M d) _ = _
    simp only [DV.R.bind_ok, ih]
theorem atoms_rv {G : Gb} {B : Heap} {F : Fz} {κ : List Addr} : ∀ {dd : List D} {dvs : List V}, dd.map atom = dvs.map some → Paired (Rvl G B F κ) dvs dd
  | [], [], _ => .nil
  | [], _ :: _, h => by cases h
  | _ :: _, [], h => by cases h
  | d :: dd, v :: dvs, h => by
    simp only [List.map_cons, List.cons.injEq] at h
    exact .cons (atom_rv h.1).l (atoms_rv h.2)
/-- what a call wants of its values -/
theorem call_aft {m : Md} (hm : m = .v ∨ m = .b) {i : Nat} {ds : List D} {vs : List V} {Q : VK} (R : f.RS F κ ρ M σ H) (rs : Paired (Rvl f.G f.B F κ) vs ds)
    (q : Aft f F κ H σ (fun F' κ' ρ' M' H' d => ∀ v, RelQ f m F' κ' ρ' σ H' v d → Q v H') (ansO (φ i ds M) ρ (fin m))) : spD f.K f.G f.B φ i vs H Q (fun cls dx H' => f.W cls dx σ H') := by
  refine ⟨F, κ, M, ds, R.m, rs, ?_⟩
  cases e : φ i ds M with
  | none => rw [e] at q; exact q.elim
  | some o =>
    rw [e] at q
    cases o with
    | ok d M' => exact fun F' κ' H' v l r => fin_ok hm (R.at' l) r ((show Aft f F κ H σ _ (fin m d ρ M') from q).later l.go)
    | exc x M' => exact fun F' κ' H' cls dx l r => q F' κ' H' cls dx l.go (R.at' l) r
theorem s_pknil {m : Md} : PK X [] (dA f m (evs g φ m [])) := ⟨fun pos pins s σ H Q I h => by
  obtain ⟨F, κ, ρ, M, R, h⟩ := h
  simp only [evs] at h
  exact pk_nil.run pos pins s σ H Q I (Aft.here h R [] .nil)⟩
theorem s_pkcons {e : E} {es : List E} {x : Expr} {nm : Option Str} {kpos : Pos} {xs : List Keyword} (hs : ∀ e', e ≠ .star e') (h1 : PE X x (dE f .v (ev g φ .v e))) (h2 : PK X xs (dA f .v (evs g φ .v es))) :
    PK X (⟨nm, x, kpos⟩ :: xs) (dA f .v (evs g φ .v (e :: es))) := ⟨fun pos pins s σ H Q I h => by
  obtain ⟨F, κ, ρ, M, R, h⟩ := h
  rw [evs_cons hs] at h
  refine (pk_cons h1 h2).run pos pins s σ H Q I ⟨F, κ, ρ, M, R, h.bind.imp fun F1 κ1 ρ1 M1 H1 d g1 R1 ⟨_, q⟩ v r => ?_⟩
  refine ⟨F1, κ1, ρ1, M1, R1, q.bind.imp fun F2 κ2 ρ2 M2 H2 ds g2 R2 ⟨_, q2⟩ vs rs => ?_⟩
  exact Aft.here q2 R2 (v :: vs) (.cons (Rel.go (m := .v) r R1 g2) rs)⟩
theorem noStarsB {es : List Expr} {env : Env} {pos : Pos} (h : ∀ e ∈ es, ∀ e' p, e ≠ .Starred e' p) : (backTo pos (starEach es env)).any (·.1) = false := noStars h
theorem s_call (G : GX f c X) {L : List Shp} (C : GC f X φ L) {m : Md} (hm : m = .v ∨ m = .b) {q : Shp} (hq : q ∈ L) (hks : q.ks = []) {es : List E} {xs : List Expr} {p pos : Pos} (hg : Gl X q.x) (hdb : (q.x == ("__debug__" : Str)) = false)
    (hl : xs.length = q.p) (hel : es.length = xs.length) (hes : ∀ e ∈ es, ∀ e', e ≠ .star e') (hst : ∀ y ∈ xs, ∀ e' p, y ≠ .Starred e' p) (ha : PA X xs (dA f .v (evs g φ .v es))) :
    PE X (.Call (.Name q.x p) xs [] pos) (dE f m (ev g φ m (.call q.i (es ++ q.dd.map .lit)))) := by
  obtain ⟨k, hr, hc, _⟩ := C.ex
  obtain ⟨a, fd, ps, ds, dvs, Fo, hmg, hk, hb, hv, hd⟩ := (hc q hq).ex
  rw [hks] at hb
  refine ⟨fun pins s σ H Q I ⟨F, κ, ρ, M, R, h⟩ => ?_⟩
  simp only [ev] at h
  rw [evs_app, DV.R.bind_assoc] at h
  have fin' : ∀ {s1 : Shared} {H1 : Hp} {us : List Value} {vs : List V}, Inv X pins σ H1 s1 → Vals vs us → us.length = q.p → (spD f.K f.G f.B φ q.i (vs ++ dvs) H1 Q (fun cls dx H' => f.W cls dx σ H')) → wpAny (model X.prog X.w) X.A (call (.ref a) us) (EP X pins σ Q) X.xe s1 := fun {s1 H1 us vs} I1 r hu h => by
    have hb1 := hb s1 us [] I1.kIn hu rfl
    rw [permV_nil] at hb1
    exact run_fnE (args := ⟨us, []⟩) (by have := Fo X.base (fun _ _ e => by rw [G.B]; exact e); rw [← G.B]; exact this) hr G.gd hb1 I1 (r.append hv) G.takes (fun _ _ _ z => z) h
  have arg : dA f .v (evs g φ .v es) σ H fun vs H1 => vs.length = q.p ∧ spD f.K f.G f.B φ q.i (vs ++ dvs) H1 Q (fun cls dx H' => f.W cls dx σ H') := by
    refine ⟨F, κ, ρ, M, R, h.bind.when.imp fun F1 κ1 ρ1 M1 H1 ds1 g1 R1 ⟨eq, _, q1⟩ vs rs => ?_⟩
    rw [evs_lits, DV.R.bind_assoc] at q1
    simp only [DV.R.bind_ok] at q1
    exact ⟨by rw [Paired.length rs, evs_len hes eq, hel, hl], call_aft hm R1 (Paired.app rs (atoms_rv hd)) q1⟩
  cases xs with
  | nil =>
    refine wpAny_Call_Name_kw (ld_glob I hg hmg ?_ hdb)
    cases es with
    | cons e es => cases hel
    | nil =>
      obtain ⟨F0, κ0, ρ0, M0, R0, h0⟩ := arg
      obtain ⟨z1, z2⟩ := Aft.here (show Aft f F0 κ0 H σ (fun F' κ' ρ' M' H' ds => ∀ (vs : List V), Paired (Rel f Md.v F' κ' H') vs ds → vs.length = q.p ∧ spD f.K f.G f.B φ q.i (vs ++ dvs) H' Q fun cls dx H' => f.W cls dx σ H') (okE ρ0 M0 []) from h0) R0 [] .nil
      exact PySem.W.callWith_K0 I.kIn hk (fin' (us := []) I .nil z1 z2)
  | cons x xs =>
    refine wpAny_Call_Name_kw (ld_glob I hg hmg ?_ hdb)
    refine PySem.W.callWith_K (h₀ := X.base) I.ok.mod.kin hk (thn (ha.run pos pins s σ H _ I arg) fun us s1 ⟨vs, H1, I1, r, hl1, q1⟩ => ⟨I1.kIn, ?_⟩) (noStar (hst x List.mem_cons_self)) (noStars fun y m => hst y (List.mem_cons_of_mem _ m))
    exact fin' (us := us) I1 r (r.length.symm.trans hl1) q1
theorem kw_names {env : Env} {pos : Pos} : ∀ (kws : List Keyword), (∀ k ∈ kws, k.1.isSome = true) → (backToKw pos (keywordEach kws env)).all (·.1.isSome) = true ∧ (backToKw pos (keywordEach kws env)).any (·.1.isNone) = false ∧ (backToKw pos (keywordEach kws env)).filterMap (·.1) = kws.filterMap (·.1)
  | [], _ => ⟨rfl, rfl, rfl⟩
  | ⟨n, e, p⟩ :: kws, h => by
    obtain ⟨h1, h2, h3⟩ := kw_names (env := env) (pos := pos) kws fun k m => h k (List.mem_cons_of_mem _ m)
    have hn := h _ List.mem_cons_self
    cases n with
    | none => cases hn
    | some x => exact ⟨h1, h2, congrArg (x :: ·) h3⟩
theorem s_callK (G : GX f c X) {L : List Shp} (C : GC f X φ L) {m : Md} (hm : m = .v ∨ m = .b) {q : Shp} (hq : q ∈ L) {es fs : List E} {xs : List Expr} {kws : List Keyword} {p pos : Pos} (hg : Gl X q.x) (hdb : (q.x == ("__debug__" : Str)) = false)
    (hl : xs.length = q.p) (hel : es.length = xs.length) (hes : ∀ e ∈ es, ∀ e', e ≠ .star e') (hst : ∀ y ∈ xs, ∀ e' p, y ≠ .Starred e' p) (hkn : ∀ k ∈ kws, k.1.isSome = true) (hpm : q.pm = []) (hks : kws.filterMap (·.1) = q.ks) (hfs : ∀ e ∈ fs, ∀ e', e ≠ .star e') (hfl : fs.length = q.ks.length)
    (ha : PA X xs (dA f .v (evs g φ .v es))) (hk : PK X kws (dA f .v (evs g φ .v fs))) :
    PE X (.Call (.Name q.x p) xs kws pos) (dE f m (ev g φ m (.call q.i (es ++ (fs ++ q.dd.map .lit))))) := by
  obtain ⟨k, hr, hc, _⟩ := C.ex
  obtain ⟨a, fd, ps, ds, dvs, Fo, hmg, hkp, hb, hv, hd⟩ := (hc q hq).ex
  rw [hpm] at hb
  obtain ⟨k1, k2, k3⟩ := kw_names (env := X.env) (pos := pos) kws hkn
  refine ⟨fun pins s σ H Q I ⟨F, κ, ρ, M, R, h⟩ => ?_⟩
  simp only [ev] at h
  rw [evs_app, DV.R.bind_assoc] at h
  have fin' : ∀ {s1 : Shared} {H1 : Hp} {us ws : List Value} {vs zs : List V}, Inv X pins σ H1 s1 → Vals vs us → Vals zs ws → us.length = q.p → ws.length = q.ks.length → (spD f.K f.G f.B φ q.i (vs ++ (zs ++ dvs)) H1 Q (fun cls dx H' => f.W cls dx σ H')) → wpAny (model X.prog X.w) X.A (call (.ref a) us (q.ks.zip ws)) (EP X pins σ Q) X.xe s1 := fun {s1 H1 us ws vs zs} I1 r rz hu hw h => by
    exact run_fnE (args := ⟨us, q.ks.zip ws⟩) (by have := Fo X.base (fun _ _ e => by rw [G.B]; exact e); rw [← G.B]; exact this) hr G.gd (hb s1 us ws I1.kIn hu hw) I1 (r.append (rz.append hv)) G.takes (fun _ _ _ z => z) h
  have two : dA f .v (evs g φ .v es) σ H fun vs H1 => vs.length = q.p ∧ dA f .v (evs g φ .v fs) σ H1 fun zs H2 => zs.length = q.ks.length ∧ spD f.K f.G f.B φ q.i (vs ++ (zs ++ dvs)) H2 Q (fun cls dx H' => f.W cls dx σ H') := by
    refine ⟨F, κ, ρ, M, R, h.bind.when.imp fun F1 κ1 ρ1 M1 H1 ds1 g1 R1 ⟨eq, _, q1⟩ vs rs => ⟨by rw [Paired.length rs, evs_len hes eq, hel, hl], ?_⟩⟩
    rw [evs_app, DV.R.bind_assoc, DV.R.bind_assoc] at q1
    refine ⟨F1, κ1, ρ1, M1, R1, q1.bind.when.imp fun F2 κ2 ρ2 M2 H2 ds2 g2 R2 ⟨eq2, _, q2⟩ zs rz => ⟨by rw [Paired.length rz, evs_len hfs eq2, hfl], ?_⟩⟩
    rw [evs_lits, DV.R.bind_assoc] at q2
    simp only [DV.R.bind_ok] at q2
    exact call_aft hm R2 (Paired.app (Paired.mapP rs fun _ _ z => Rel.go (m := .v) z R1 g2) (Paired.app rz (atoms_rv hd))) q2
  refine wpAny_Call_Name_kw (ld_glob I hg hmg ?_ hdb)
  cases xs with
  | nil =>
    cases es with
    | cons e es => cases hel
    | nil =>
      obtain ⟨F0, κ0, ρ0, M0, R0, h0⟩ := two
      obtain ⟨z1, z2⟩ := Aft.here (show Aft f F0 κ0 H σ (fun F' κ' ρ' M' H' ds => ∀ (vs : List V), Paired (Rel f Md.v F' κ' H') vs ds → vs.length = q.p ∧ dA f .v (evs g φ .v fs) σ H' fun zs H2 => zs.length = q.ks.length ∧ spD f.K f.G f.B φ q.i (vs ++ (zs ++ dvs)) H2 Q (fun cls dx H' => f.W cls dx σ H')) (okE ρ0 M0 []) from h0) R0 [] .nil
      refine PySem.W.callWith_KW0 (h₀ := X.base) I.ok.mod.kin hkp k1 (thn (hk.run pos pins s σ H _ I z2) fun ws s2 ⟨zs, H2, I2, rz, hl2, q2⟩ => ⟨I2.kIn, ?_⟩) (by show (([] : List (Bool × Sem Value)).any (·.1) || _) = false; rw [k2]; rfl)
      rw [k3, hks]
      exact fin' (us := []) I2 .nil rz z1 (rz.length.symm.trans hl2) q2
  | cons x xs =>
    refine PySem.W.callWith_KW (h₀ := X.base) I.ok.mod.kin hkp k1 (thn (ha.run pos pins s σ H _ I two) fun us s1 ⟨vs, H1, I1, r, hl1, q1⟩ => ?_) (by rw [k2, Bool.or_false]; exact noStars hst) (noStar (hst x List.mem_cons_self))
    refine thn (hk.run pos pins s1 σ H1 _ I1 q1) fun ws s2 ⟨zs, H2, I2, rz, hl2, q2⟩ => ⟨I2.kIn, ?_⟩
    rw [k3, hks]
    exact fin' (us := us) I2 r rz (r.length.symm.trans hl1) (rz.length.symm.trans hl2) q2
end
end DV
end
section
set_option Elab.async false
set_option linter.all false
set_option maxRecDepth 100000
set_option maxHeartbeats 1000000
/-! DV18: statements. -/
namespace DV
open PySem PySem.Spec PyProof.Rows L2
section
variable {f : Fr0} {c : Ct} {X : Cx} {g : Cfg} {φ : Phi}
variable {F F' : Fz} {κ κ' : List Addr} {ρ ρ' : Ev} {M M' : Mem} {σ : L2.St} {H H' : Hp}
/-- where a statement ends -/
def EndD (f : Fr0) (D : Ends) (F : Fz) (κ : List Addr) (σ : L2.St) (H : Hp) : Fl → Prop
  | .nx => D.nx σ H
  | .bk => D.bk σ H
  | .ct => D.ct σ H
  | .rt d => ∀ v, Rvl f.G f.B F κ v d → D.rt v H
def AftS (f : Fr0) (F : Fz) (κ : List Addr) (D : Ends) : R Fl → Prop
  | some (.ok fl ρ' M') => ∀ F' κ' σ' H', Ex F F' → Px κ κ' → f.RS F' κ' ρ' M' σ' H' → EndD f D F' κ' σ' H' fl
  | some (.exc x ρ' M') => ∀ F' κ' σ' H' cls dx, Ex F F' → Px κ κ' → f.RS F' κ' ρ' M' σ' H' → XAt f.G F' κ' H' cls dx x → f.W cls dx σ' H'
  | none => False
def dS (f : Fr0) (x : Ev → Mem → R Fl) : TS := fun D σ H => ∃ F κ ρ M, f.RS F κ ρ M σ H ∧ AftS f F κ D (x ρ M)
theorem PS.imp {s : Stmt} {t t' : TS} (h : PS X s t) (k : ∀ D σ H, t' D σ H → t D σ H) : PS X s t' := ⟨fun pins s σ H D I q => h.run pins s σ H D I (k D σ H q)⟩
theorem PSs.imp {s : List Stmt} {t t' : TS} (h : PSs X s t) (k : ∀ D σ H, t' D σ H → t D σ H) : PSs X s t' := ⟨fun pins s σ H D I q => h.run pins s σ H D I (k D σ H q)⟩
theorem AftS.here {D : Ends} {fl : Fl} (h : AftS f F κ D (okE ρ M fl)) (R : f.RS F κ ρ M σ H) : EndD f D F κ σ H fl := h F κ σ H (Ex.refl F) (Px.refl κ) R
theorem AftS.later {D : Ends} {x : R Fl} (h : AftS f F κ D x) (e : Ex F F') (p : Px κ κ') : AftS f F' κ' D x := by
  cases x with
  | none => exact h
  | some o =>
    cases o with
    | ok fl ρ' M' => exact fun F2 κ2 σ2 H2 e2 p2 R2 => h F2 κ2 σ2 H2 (e.trans e2) (p.trans p2) R2
    | exc x ρ' M' => exact fun F2 κ2 σ2 H2 cls dx e2 p2 R2 X2 => h F2 κ2 σ2 H2 cls dx (e.trans e2) (p.trans p2) R2 X2
/-- an expression, then what is done with its value -/
theorem AftS.exp {α : Type} {D : Ends} {x : R α} {k : α → Ev → Mem → R Fl} (h : AftS f F κ D (x.bind k)) : Aft f F κ H σ (fun F' κ' ρ' M' H' d => f.RS F' κ' ρ' M' σ H' ∧ AftS f F' κ' D (k d ρ' M')) x := by
  cases x with
  | none => exact h
  | some o =>
    cases o with
    | ok d ρ' M' => exact fun F' κ' H' g R => ⟨R, AftS.later (show AftS f F κ D (k d ρ' M') from h) g.ex g.px⟩
    | exc x ρ' M' => exact fun F' κ' H' cls dx g R X => h F' κ' σ H' cls dx g.ex g.px R X
/-- a statement, then the rest -/
theorem AftS.seq {D : Ends} {x : R Fl} {k : Ev → Mem → R Fl} (h : AftS f F κ D (x.bind fun fl ρ M => match fl with
    | .nx => k ρ M
    | fl => okE ρ M fl)) : AftS f F κ { D with nx := fun σ' H' => ∃ F' κ' ρ' M', Ex F F' ∧ Px κ κ' ∧ f.RS F' κ' ρ' M' σ' H' ∧ AftS f F' κ' D (k ρ' M') } x := by
  cases x with
  | none => exact h
  | some o =>
    cases o with
    | ok fl ρ' M' =>
      intro F' κ' σ' H' e p R
      cases fl with
      | nx => exact ⟨F', κ', ρ', M', e, p, R, AftS.later (show AftS f F κ D (k ρ' M') from h) e p⟩
      | rt d => exact (show AftS f F κ D (okE ρ' M' (.rt d)) from h) F' κ' σ' H' e p R
      | bk => exact (show AftS f F κ D (okE ρ' M' .bk) from h) F' κ' σ' H' e p R
      | ct => exact (show AftS f F κ D (okE ρ' M' .ct) from h) F' κ' σ' H' e p R
    | exc x ρ' M' => exact h
theorem s_snil : PSs X [] (dS f (sts g φ [])) := PSs.imp pss_nil fun D σ H ⟨F, κ, ρ, M, R, h⟩ => by
  simp only [sts] at h
  exact AftS.here h R
theorem s_scons {s : Stmt} {ss : List Stmt} {t : S} {ts : List S} (h1 : PS X s (dS f (st g φ t))) (h2 : PSs X ss (dS f (sts g φ ts))) : PSs X (s :: ss) (dS f (sts g φ (t :: ts))) := by
  refine PSs.imp (pss_cons h1 h2) fun D σ H ⟨F, κ, ρ, M, R, h⟩ => ?_
  have e : sts g φ (t :: ts) ρ M = (st g φ t ρ M).bind fun fl ρ M => match fl with
    | .nx => sts g φ ts ρ M
    | fl => okE ρ M fl := by
    simp only [sts]
    all_goals rfl
  rw [e] at h
  refine ⟨F, κ, ρ, M, R, ?_⟩
  have q := h.seq
  cases ex : st g φ t ρ M with
  | none => rw [ex] at q; exact q.elim
  | some o =>
    rw [ex] at q
    cases o with
    | ok fl ρ' M' =>
      intro F' κ' σ' H' e p R'
      have z := q F' κ' σ' H' e p R'
      cases fl with
      | nx => obtain ⟨F2, κ2, ρ2, M2, _, _, R2, q2⟩ := z; exact ⟨F2, κ2, ρ2, M2, R2, q2⟩
      | rt d => exact z
      | bk => exact z
      | ct => exact z
    | exc x ρ' M' => exact q
/-- a docstring is skipped -/
theorem s_doc {x j} {pos pos' : Pos} {ss : List Stmt} {t : TS} (h : PSs X ss t) : PSs X (.Expr (.Constant (.str x) j pos) pos' :: ss) t := PSs.imp (pss_cons ps_doc h) fun D σ H q => q
/-! ### names -/
/-- a name gets a list of its own -/
theorem RS.putOw (R : f.RS F κ ρ M σ H) {i : Nat} {a : Addr} {vs : List V} {l : List D} (h1 : H a = some (.lst vs)) (h2 : Rvs f.G F κ vs l) (h3 : F a = none) (h4 : a ∉ κ) (h5 : Vt f.H0 a) (h6 : ∀ (j : Nat) (e : En), ρ[j]? = some e → own2 e = true → σ[j]? ≠ some (some (.ref a))) (h7 : a ∉ f.gs) :
    f.RS F κ (ρ.set i (.ow l)) M (σ.set i (some (.ref a))) H := by
  refine ⟨R.m, R.go, R.nf, R.s0, by rw [List.length_set, List.length_set]; exact R.len, fun j e hj => ?_, fun j k b e e' q1 q2 q3 q4 q5 q6 => ?_, fun b hb => ?_⟩
  · rcases get_set hj with ⟨rfl, rfl⟩ | ⟨ne, hj⟩
    · have hi : i < σ.length := by
        rw [← R.len]
        have := (List.getElem?_eq_some_iff.mp hj).1
        rw [List.length_set] at this
        exact this
      exact ⟨a, vs, List.getElem?_set_self hi, h1, h2, h3, h4, h5⟩
    · rw [List.getElem?_set_ne ne]
      exact R.sl j e hj
  · rcases get_set q1 with ⟨rfl, rfl⟩ | ⟨n1, q1⟩
    · rcases get_set q4 with ⟨rfl, rfl⟩ | ⟨n2, q4⟩
      · rfl
      · rw [List.getElem?_set_ne n2] at q6
        have hi : i < σ.length := by
          by_cases z : i < σ.length
          · exact z
          · rw [List.getElem?_eq_none (by rw [List.length_set]; omega)] at q3
            cases q3
        rw [List.getElem?_set_self hi] at q3
        cases q3
        exact absurd q6 (h6 k e' q4 q5)
    · rcases get_set q4 with ⟨rfl, rfl⟩ | ⟨n2, q4⟩
      · rw [List.getElem?_set_ne n1] at q3
        have hi : i < σ.length := by
          by_cases z : i < σ.length
          · exact z
          · rw [List.getElem?_eq_none (by rw [List.length_set]; omega)] at q6
            cases q6
        rw [List.getElem?_set_self hi] at q6
        cases q6
        exact absurd q3 (h6 j e q1 (own2_of q2))
      · rw [List.getElem?_set_ne n1] at q3
        rw [List.getElem?_set_ne n2] at q6
        exact R.own j k b e e' q1 q2 q3 q4 q5 q6
  · obtain ⟨y1, y2, y3, y4, y5⟩ := R.gh b hb
    refine ⟨y1, y2, y3, y4, fun j e hj he hs => ?_⟩
    rcases get_set hj with ⟨rfl, rfl⟩ | ⟨ne, hj⟩
    · have hi : i < σ.length := by
        by_cases z : i < σ.length
        · exact z
        · rw [List.getElem?_eq_none (by rw [List.length_set]; omega)] at hs
          cases hs
      rw [List.getElem?_set_self hi] at hs
      cases hs
      exact h7 hb
    · rw [List.getElem?_set_ne ne] at hs
      exact y5 j e hj he hs
/-- the value of an assignment, by how it is wanted -/
theorem RS.mine (R : f.RS F κ ρ M σ H) {b : Bool} {i : Nat} {v : V} {d : D} {x : En} (h : DV.mine b d = some x) (r : RelQ f (modeOf b) F κ ρ σ H v d) : f.RS F κ (ρ.set i x) M (σ.set i (some v)) H := by
  cases b with
  | false =>
    have r : Rvl f.G f.B F κ v d := r
    cases d <;> simp only [DV.mine, Bool.false_eq_true, if_false, Option.some.injEq, reduceCtorEq] at h <;> (subst h; exact RS.put R r)
  | true =>
    have r : Nw f F κ ρ σ H v d := r
    cases d with
    | lst l =>
      simp only [DV.mine, if_true, Option.some.injEq] at h
      subst h
      obtain ⟨a, vs, rfl, h1, h2, h3, h4, h5, h6, h7⟩ := r
      exact R.putOw h1 h2 h3 h4 h5 h6 h7
    | lam _ _ => cases h
    | set _ => cases h
    | _ =>
      simp only [DV.mine, Option.some.injEq] at h
      subst h
      exact RS.put R (Rv.l r)
theorem t_asg {i : Nat} {e : E} {D : Ends} {te : TE} (ht : ∀ Q, dE f (modeOf (maker e)) (ev g φ (modeOf (maker e)) e) σ H Q → te σ H Q) (h : dS f (st g φ (.asg (.nm i) e)) D σ H) : tAsg te (gName i) D σ H := by
  obtain ⟨F, κ, ρ, M, R, h⟩ := h
  simp only [st] at h
  refine ht _ ⟨F, κ, ρ, M, R, h.exp.imp fun F1 κ1 ρ1 M1 H1 d g1 R1 ⟨_, q⟩ v r => ?_⟩
  cases em : mine (maker e) d with
  | none => rw [em] at q; exact q.elim
  | some x =>
    rw [em] at q
    exact AftS.here q (RS.mine R1 em r)
def noComp : Expr → Bool
  | .ListComp .. | .SetComp .. | .DictComp .. => false
  | _ => true
theorem sw_no {e : Expr} {tg : Option Expr} {l : Nat} {env : Env} (h : noComp e = true) : swapsWith e tg l env = pure false := by
  cases e <;> first
    | rfl
    | cases h
theorem s_asg (G : GX f c X) {i : Nat} {e : E} {x : Str} {y : Expr} {px pos : Pos} (hi : X.N[i]? = some x) (hx : Loc X.env.scope x) (hf : X.fn x = true ∨ X.env.scope.names.lookup x = some .local) (hn : noComp y = true)
    (h : PE X y (dE f (modeOf (maker e)) (ev g φ (modeOf (maker e)) e))) : PS X (.Assign [.Name x px] y pos) (dS f (st g φ (.asg (.nm i) e))) :=
  PS.imp (ps_set G.nd hi hx h (sw_no hn) hf) fun D σ H q => t_asg (fun Q h => h) q
/-- a tuple unpacked -/
theorem s_asgT (G : GX f c X) {ts : List Tg} {e : E} {xs : List Expr} {y : Expr} {k : Nat} {tp pos : Pos} (hn : noComp y = true) (hw : swappedStores [.Tuple xs k tp] y X.env = pure none)
    (h : PE X y (dE f .b (ev g φ .b e))) (hg : PG X (.Tuple xs k tp) (dG f (.tu ts))) : PS X (.Assign [.Tuple xs k tp] y pos) (dS f (st g φ (.asg (.tu ts) e))) := by
  refine PS.imp (ps_asg h hg (by unfold swapsWithSole; exact sw_no hn) hw rfl) fun D σ H ⟨F, κ, ρ, M, R, h⟩ => ?_
  simp only [st] at h
  refine ⟨F, κ, ρ, M, R, h.exp.imp fun F1 κ1 ρ1 M1 H1 d g1 R1 ⟨_, q⟩ v r => ?_⟩
  cases eb : bindT (.tu ts) d ρ1 with
  | none => rw [eb] at q; exact q.elim
  | some ρ2 =>
    rw [eb] at q
    have r' : Rv f.G F1 κ1 v d := by
      cases d with
      | tup l => exact r
      | _ => cases eb
    exact ⟨F1, κ1, ρ1, M1, d, ρ2, R1, r', eb, fun σ' R' _ _ => AftS.here q R'⟩
/-! ### small ones -/
theorem s_pass {pos : Pos} : PS X (.Pass pos) (dS f (st g φ .pass)) := PS.imp ps_pass fun D σ H ⟨F, κ, ρ, M, R, h⟩ => by simp only [st] at h; exact AftS.here h R
theorem s_brk {pos : Pos} : PS X (.Break pos) (dS f (st g φ .brk)) := PS.imp ps_break fun D σ H ⟨F, κ, ρ, M, R, h⟩ => by simp only [st] at h; exact AftS.here h R
theorem s_cnt {pos : Pos} : PS X (.Continue pos) (dS f (st g φ .cnt)) := PS.imp ps_continue fun D σ H ⟨F, κ, ρ, M, R, h⟩ => by simp only [st] at h; exact AftS.here h R
theorem s_ret {e : E} {y : Expr} {pos : Pos} (h : PE X y (dE f .v (ev g φ .v e))) : PS X (.Return (some y) pos) (dS f (st g φ (.ret e))) := by
  refine PS.imp (ps_ret h) fun D σ H ⟨F, κ, ρ, M, R, h⟩ => ?_
  simp only [st] at h
  exact ⟨F, κ, ρ, M, R, h.exp.imp fun F1 κ1 ρ1 M1 H1 d g1 R1 ⟨_, q⟩ v r => AftS.here q R1 v r⟩
theorem s_retN {pos : Pos} : PS X (.Return none pos) (dS f (st g φ (.ret (.lit .non)))) := by
  refine PS.imp ps_retN fun D σ H ⟨F, κ, ρ, M, R, h⟩ => ?_
  have h : AftS f F κ D (okE ρ M (.rt .non)) := h
  exact AftS.here h R .non rfl
theorem s_ex {e : E} {y : Expr} {pos : Pos} (hn : noComp y = true) (h : PE X y (dE f .b (ev g φ .b e))) : PS X (.Expr y pos) (dS f (st g φ (.ex e))) := by
  refine PS.imp (ps_expr h (sw_no hn)) fun D σ H ⟨F, κ, ρ, M, R, h⟩ => ?_
  simp only [st] at h
  exact ⟨F, κ, ρ, M, R, h.exp.imp fun F1 κ1 ρ1 M1 H1 d g1 R1 ⟨_, q⟩ v r => AftS.here q R1⟩
theorem s_ife {e : E} {y : Expr} {a b : List S} {as bs : List Stmt} {pos : Pos} (h : PT X y (dT f (ev g φ .t e))) (h1 : PSs X as (dS f (sts g φ a))) (h2 : PSs X bs (dS f (sts g φ b))) : PS X (.If y as bs pos) (dS f (st g φ (.ife e a b))) := by
  refine PS.imp (ps_if h h1 h2) fun D σ H ⟨F, κ, ρ, M, R, h⟩ => ?_
  simp only [st] at h
  refine ⟨F, κ, ρ, M, R, h.exp.imp fun F1 κ1 ρ1 M1 H1 d g1 R1 ⟨_, q⟩ => ?_⟩
  cases d with
  | bl b =>
    cases b with
    | true => exact ⟨true, rfl, iteT ⟨F1, κ1, ρ1, M1, R1, q⟩⟩
    | false => exact ⟨false, rfl, iteF ⟨F1, κ1, ρ1, M1, R1, q⟩⟩
  | _ => exact q.elim
end
end DV
end
section
set_option Elab.async false
set_option linter.all false
set_option maxRecDepth 100000
set_option maxHeartbeats 1000000
/-! DV19: statements: comprehensions given a name, stores, append, extend, for, while. -/
namespace DV
open PySem PySem.Spec PyProof.Rows L2
section
variable {f : Fr0} {c : Ct} {X : Cx} {g : Cfg} {φ : Phi}
variable {F F' : Fz} {κ κ' : List Addr} {ρ ρ' : Ev} {M M' : Mem} {σ : L2.St} {H H' : Hp}
theorem sw_false {e : Expr} {y : Str} {py : Pos} {l : Nat} {env : Env} (h : (decide (env.scope.names.lookup y = some .local) && (py.line == e.pos.line)) = false) : swapsWith e (some (.Name y py)) l env = pure false := by
  have k : ∀ sc : Scope, (env.blockKind == .function && env.kindOf y == some .local && py.line == e.pos.line && !(sc.names.any fun (n, k) => n == y && (k == .local || k == .cell))) = false := fun sc => by
    have e1 : (env.kindOf y == some .local) = decide (env.scope.names.lookup y = some .local) := by
      show (env.scope.names.lookup y == some NameKind.local) = _
      cases env.scope.names.lookup y with
      | none => rfl
      | some k => cases k <;> rfl
    rw [e1]
    cases h1 : decide (env.scope.names.lookup y = some .local) with
    | false => simp
    | true =>
      rw [h1] at h
      have : (py.line == e.pos.line) = false := h
      rw [this]
      simp
  unfold swapsWith
  cases e <;> first
    | rfl
    | (simp only [k] <;> rfl)
theorem s_asgCf (G : GX f c X) {i : Nat} {e : E} {x : Str} {y : Expr} {px pos : Pos} (hi : X.N[i]? = some x) (hx : Loc X.env.scope x) (hf : X.fn x = true ∨ X.env.scope.names.lookup x = some .local)
    (hn : (decide (X.env.scope.names.lookup x = some .local) && (px.line == y.pos.line)) = false)
    (h : PE X y (dE f (modeOf (maker e)) (ev g φ (modeOf (maker e)) e))) : PS X (.Assign [.Name x px] y pos) (dS f (st g φ (.asg (.nm i) e))) :=
  PS.imp (ps_set G.nd hi hx h (sw_false hn) hf) fun D σ H q => t_asg (fun Q h => h) q
theorem s_asgC (G : GX f c X) {i : Nat} {x : Str} {px spos : Pos} (hix : X.N[i]? = some x) (hyl : X.env.scope.names.lookup x = some .local) {el it cc : E} {t : Tg} {elt tg iter : Expr} {ifs : List Expr} {scope : Scope} {own : List (Str × Nat)} {pos : Pos}
    (hsw : swapsWith (.ListComp elt [⟨tg, iter, ifs, 0⟩] scope pos) (some (.Name x px)) spos.line X.env = pure true) (hi : PI X tg iter (dI f .i (ev g φ .i it))) (ok : BlkOk X.N X.env.scope scope own)
    (hv : ∀ i, i ∈ own.map (·.2) ↔ i ∈ slots t) (hg : ∀ F0 κ0 H0, ∀ (s : Shared) (H : Hp) (C : Addr) (cl : List (Str × Addr)) (fp : List Addr), PG (X.blk s H scope (compEnvC scope cl C X.env) fp) tg (dG (f.at F0 κ0 H0) t))
    (ht : ∀ F0 κ0 H0, ∀ (s : Shared) (H : Hp) (C : Addr) (cl : List (Str × Addr)) (fp : List Addr), PTs (X.blk s H scope (compEnvC scope cl C X.env) fp) ifs (dT (f.at F0 κ0 H0) (ev g φ .t cc)))
    (he : ∀ F0 κ0 H0, ∀ (s : Shared) (H : Hp) (C : Addr) (cl : List (Str × Addr)) (fp : List Addr), PE (X.blk s H scope (compEnvC scope cl C X.env) fp) elt (dE (f.at F0 κ0 H0) .v (ev g φ .v el)))
    (hs : ∀ x, foldedSetIterable iter X.env x = pure x) : PS X (.Assign [.Name x px] (.ListComp elt [⟨tg, iter, ifs, 0⟩] scope pos) spos) (dS f (st g φ (.asg (.nm i) (.cp el t it cc)))) :=
  PS.imp (ps_setLc G.calm G.nd hix hyl hsw hi ok (fun s H C cl fp => xG_of fun F0 κ0 H0 => hg F0 κ0 H0 s H C cl fp) (fun s H C cl fp => xT_of fun F0 κ0 H0 => ht F0 κ0 H0 s H C cl fp) (fun s H C cl fp => xE_of fun F0 κ0 H0 => he F0 κ0 H0 s H C cl fp) hs) fun D σ H q =>
    t_asg (fun Q h => t_cp (.inr (.inr rfl)) hv h) q
theorem s_asgC2 (G : GX f c X) {i : Nat} {x : Str} {px spos : Pos} (hix : X.N[i]? = some x) (hyl : X.env.scope.names.lookup x = some .local) {el it cc it1 cc1 : E} {t t1 : Tg} {elt tg iter tg1 iter1 : Expr} {ifs ifs1 : List Expr} {scope : Scope} {own : List (Str × Nat)} {pos : Pos}
    (hsw : swapsWith (.ListComp elt [⟨tg, iter, ifs, 0⟩, ⟨tg1, iter1, ifs1, 0⟩] scope pos) (some (.Name x px)) spos.line X.env = pure true) (hi : PI X tg iter (dI f .i (ev g φ .i it))) (ok : BlkOk X.N X.env.scope scope own)
    (hv : ∀ i, i ∈ own.map (·.2) ↔ i ∈ slots t ++ slots t1) (hg : ∀ F0 κ0 H0, ∀ (s : Shared) (H : Hp) (C : Addr) (cl : List (Str × Addr)) (fp : List Addr), PG (X.blk s H scope (compEnvC scope cl C X.env) fp) tg (dG (f.at F0 κ0 H0) t))
    (ht : ∀ F0 κ0 H0, ∀ (s : Shared) (H : Hp) (C : Addr) (cl : List (Str × Addr)) (fp : List Addr), PTs (X.blk s H scope (compEnvC scope cl C X.env) fp) ifs (dT (f.at F0 κ0 H0) (ev g φ .t cc)))
    (hi1 : ∀ F0 κ0 H0, ∀ (s : Shared) (H : Hp) (C : Addr) (cl : List (Str × Addr)) (fp : List Addr), PI (X.blk s H scope (compEnvC scope cl C X.env) fp) tg1 iter1 (dI (f.at F0 κ0 H0) .k (ev g φ .k it1)))
    (hg1 : ∀ F0 κ0 H0, ∀ (s : Shared) (H : Hp) (C : Addr) (cl : List (Str × Addr)) (fp : List Addr), PG (X.blk s H scope (compEnvC scope cl C X.env) fp) tg1 (dG (f.at F0 κ0 H0) t1))
    (ht1 : ∀ F0 κ0 H0, ∀ (s : Shared) (H : Hp) (C : Addr) (cl : List (Str × Addr)) (fp : List Addr), PTs (X.blk s H scope (compEnvC scope cl C X.env) fp) ifs1 (dT (f.at F0 κ0 H0) (ev g φ .t cc1)))
    (he : ∀ F0 κ0 H0, ∀ (s : Shared) (H : Hp) (C : Addr) (cl : List (Str × Addr)) (fp : List Addr), PE (X.blk s H scope (compEnvC scope cl C X.env) fp) elt (dE (f.at F0 κ0 H0) .v (ev g φ .v el)))
    (hs : ∀ x, foldedSetIterable iter X.env x = pure x) (hs1 : ∀ env x, foldedSetIterable iter1 env x = pure x) : PS X (.Assign [.Name x px] (.ListComp elt [⟨tg, iter, ifs, 0⟩, ⟨tg1, iter1, ifs1, 0⟩] scope pos) spos) (dS f (st g φ (.asg (.nm i) (.cp2 el t it cc t1 it1 cc1)))) :=
  PS.imp (ps_setLc2 (vs1 := slots t1) G.calm G.nd hix hyl hsw hi ok (fun i m => (hv i).mpr (List.mem_append_right _ m)) (fun s H C cl fp => xG_of fun F0 κ0 H0 => hg F0 κ0 H0 s H C cl fp) (fun s H C cl fp => xT_of fun F0 κ0 H0 => ht F0 κ0 H0 s H C cl fp) (fun s H C cl fp => xI_of fun F0 κ0 H0 => hi1 F0 κ0 H0 s H C cl fp)
    (fun s H C cl fp => xG_of fun F0 κ0 H0 => hg1 F0 κ0 H0 s H C cl fp) (fun s H C cl fp => xT_of fun F0 κ0 H0 => ht1 F0 κ0 H0 s H C cl fp) (fun s H C cl fp => xE_of fun F0 κ0 H0 => he F0 κ0 H0 s H C cl fp) hs hs1) fun D σ H q => t_asg (fun Q h => t_cp2 (.inr (.inr rfl)) hv h) q
/-! ### a store into a cell -/
theorem RM.cellPut {K : PySem.W.Frag} {G : Gb} {n : Nat} {a : Addr} {vs : List V} {l : List D} (R : RM K G F κ M H) (hn : κ[n]? = some a) (ho : ∃ us, H a = some (.lst us)) (s : SqL K H G.sa (G.ns.map V.int)) (r : Rvs G F κ vs l) :
    RM K G F κ (M.set n (.lst l)) (upd H a (.lst vs)) ∧ Kp κ H (upd H a (.lst vs)) := by
  have ma : a ∈ κ := List.mem_of_getElem? hn
  obtain ⟨us, hus⟩ := ho
  refine ⟨⟨fun b d e => ?_, by rw [List.length_set]; exact R.len, R.nd, fun m b c e1 e2 => ?_, ?_, ?_, R.scn⟩, ⟨fun b o e m t => ?_, fun b o e m t => ?_⟩⟩
  · have ne : b ≠ a := by
      rintro rfl
      exact R.fcell e ma
    have z := R.fz b d e
    cases d with
    | tup l => obtain ⟨vs, q, r⟩ := z; exact ⟨vs, by rw [upd_ne ne]; exact q, r⟩
    | lst l => obtain ⟨vs, q, r⟩ := z; exact ⟨vs, by rw [upd_ne ne]; exact q, r⟩
    | lam f l => obtain ⟨L, q, r⟩ := z; exact ⟨L, q, by rw [upd_ne ne]; exact r⟩
    | ins c l =>
      obtain ⟨C, dx, nfs, oe, ws, q1, q2, q3, q4, q5, q6, q7, q8⟩ := z
      have nd : dx ≠ a := by
        rintro rfl
        rw [hus] at q6
        cases q6
      exact ⟨C, dx, nfs, oe, ws, q1, by rw [upd_ne ne]; exact q2, q3, q4, q5, by rw [upd_ne nd]; exact q6, q7, q8⟩
    | dct l m => exact ⟨by rw [upd_ne ne]; exact z.1, z.2⟩
    | _ => exact z.elim
  · rcases get_set e2 with ⟨rfl, rfl⟩ | ⟨ne, e2⟩
    · rw [hn] at e1
      cases e1
      obtain ⟨q1, q2⟩ : F a = none ∧ True := ⟨by
        obtain ⟨k, c, k1, k2, k3, _⟩ := R.cell ma
        exact k3, trivial⟩
      exact ⟨q1, vs, upd_same, r⟩
    · obtain ⟨q1, q2⟩ := R.co m b c e1 e2
      have nb : b ≠ a := by
        rintro rfl
        exact ne ((List.getElem?_inj (List.getElem?_eq_some_iff.mp hn).1 R.nd).mp (hn.trans e1.symm))
      exact ⟨q1, q2.keep (Ex.refl F) (Px.refl κ) (upd_ne nb)⟩
  · refine fun p hp => ?_
    obtain ⟨ps, h1, h2, h3⟩ := R.tb p hp
    have ne : ∀ {b u}, H b = some u → (∀ xs, u ≠ .lst xs) → b ≠ a := fun e t z => by
      subst z
      rw [hus] at e
      cases e
      exact t _ rfl
    refine ⟨ps, by rw [upd_ne (ne h1 fun _ z => nomatch z)]; exact h1, h2, fun pos cv hc => ?_⟩
    obtain ⟨c, e1, e2⟩ := h3 pos cv hc
    exact ⟨c, e1, by rw [upd_ne (ne e2 fun _ z => nomatch z)]; exact e2⟩
  · rcases R.scn with sn | sn
    rotate_left
    · exact sn _
    have ne : G.sa ≠ a := fun z => sn (z ▸ ma)
    rcases s with (z | ⟨o, z⟩) | z
    · exact .inl (.inl (by rw [upd_ne ne]; exact z))
    · exact .inl (.inr ⟨o, by rw [upd_ne ne]; exact z⟩)
    · exact .inr z
  · have ne : b ≠ a := by
      rintro rfl
      exact m ma
    rw [upd_ne ne]
    exact e
  · by_cases z : b = a
    · subst z
      exact ⟨_, upd_same, (fun _ z => nomatch z), fun _ => ⟨_, rfl⟩⟩
    · exact ⟨o, by rw [upd_ne z]; exact e, t, id⟩
theorem Paired.set {α β : Type} {P : α → β → Prop} : ∀ {xs : List α} {ys : List β} (n : Nat) {x : α} {y : β}, Paired P xs ys → P x y → Paired P (xs.set n x) (ys.set n y)
  | _, _, _, _, _, .nil, _ => .nil
  | _, _, 0, _, _, .cons _ t, h => .cons h t
  | _, _, n + 1, _, _, .cons r t, h => .cons r (Paired.set n t h)
theorem s_seti (G : GX f c X) {a i e : E} {x y z : Expr} {sp pos : Pos} (hn : noComp z = true) (hz : PE X z (dE f .v (ev g φ .v e))) (hx : PE X x (dE f .b (ev g φ .b a))) (hy : PE X y (dE f .v (ev g φ .v i)))
    (hns : ∀ l u s p, y ≠ .Slice l u s p) : PS X (.Assign [.Subscript x y sp] z pos) (dS f (st g φ (.seti a i e))) := by
  have ha : ∀ v, assign (.Subscript x y sp) X.env v = (do
      let ov ← holding [v] (eval x X.env)
      let iv ← holding [v, ov] (eval y X.env)
      standAt sp
      holding [v, ov, iv] (setItem ov iv v)
      release [v, ov, iv] []) := by
    intro v
    cases y <;> first
      | rfl
      | exact absurd rfl (hns _ _ _ _)
  refine PS.imp (ps_asg hz (pg_sub hx hy set_list ha) (by unfold swapsWithSole; exact sw_no hn) (by cases z <;> rfl) rfl) fun D σ H ⟨F, κ, ρ, M, R, h⟩ => ?_
  simp only [st] at h
  refine ⟨F, κ, ρ, M, R, h.exp.imp fun F1 κ1 ρ1 M1 H1 d g1 R1 ⟨_, q⟩ v r => ?_⟩
  refine ⟨F1, κ1, ρ1, M1, R1, q.exp.imp fun F2 κ2 ρ2 M2 H2 dx g2 R2 ⟨_, q⟩ ov rx => ?_⟩
  refine ⟨F2, κ2, ρ2, M2, R2, q.exp.imp fun F3 κ3 ρ3 M3 H3 dy g3 R3 ⟨_, q⟩ iv ry => ?_⟩
  cases dx with
  | cell n =>
    cases dy with
    | int k =>
      obtain rfl : iv = .int k := ry
      obtain ⟨p, hp, rfl⟩ : ∃ p, κ2[n]? = some p ∧ ov = .ref p := rx
      have hp3 := g3.px.get hp
      cases em : M3[n]? with
      | none => simp only [em] at q; exact q.elim
      | some co =>
        simp only [em] at q
        cases co with
        | lst l =>
          simp only at q
          obtain ⟨q1, vs, q2, q3⟩ := R3.m.co n p _ hp3 em
          cases ej : place k l.length with
          | none => simp only [ej] at q; exact q.elim
          | some j =>
            cases el : lamless d with
            | false => simp only [ej, el] at q; exact q.elim
            | true =>
              simp only [ej, el] at q
              have r' : Rv f.G F3 κ3 v d := ((Rvl.mono (Rvl.mono r g2.ex g2.px) g3.ex g3.px).less el)
              refine ⟨p, vs, k, j, rfl, rfl, q2, by rw [Paired.length q3, ← place_ix]; exact ej, ?_⟩
              obtain ⟨m', k'⟩ := RM.cellPut R3.m hp3 ⟨vs, q2⟩ R3.m.scr (Paired.set j q3 r')
              have R4 := RS.step R3 ⟨Ex.refl _, Px.refl _, fun _ m => .inl m, k'⟩ m' (Nf.refl _ _)
              exact AftS.here q R4
        | _ => exact q.elim
    | _ => exact q.elim
  | _ => exact q.elim
end
end DV
end
section
set_option Elab.async false
set_option linter.all false
set_option maxRecDepth 100000
set_option maxHeartbeats 1000000
/-! DV20: append, extend, for, while. -/
namespace DV
open PySem PySem.Spec PyProof.Rows L2
section
variable {f : Fr0} {c : Ct} {X : Cx} {g : Cfg} {φ : Phi}
variable {F F' : Fz} {κ κ' : List Addr} {ρ ρ' : Ev} {M M' : Mem} {σ : L2.St} {H H' : Hp}
/-- a list of the frame's own is written -/
theorem RS.ownPut (R : f.RS F κ ρ M σ H) {i : Nat} {a : Addr} {l l' : List D} {vs vs' : List V} (h : ρ[i]? = some (.ow l)) (hs : σ[i]? = some (some (.ref a))) (hH : H a = some (.lst vs)) (r : Rvs f.G F κ vs' l') : f.RS F κ (ρ.set i (.ow l')) M σ (upd H a (.lst vs')) := by
  obtain ⟨b, ws, q1, q2, q3, q4, q5, q6⟩ := R.sl i _ h
  rw [hs] at q1
  cases q1
  have m' : RM f.K f.G F κ M (upd H a (.lst vs')) := RM.put R.m q2 q4 q5 (SqL.put R.s0 q6 R.m.scr)
  have at_ : ∀ b, b ≠ a → upd H a (.lst vs') b = H b := fun b n => upd_ne n
  have ne0 : ∀ {b o}, f.H0 b = some o → (∀ ps, o ≠ .tbl ps) → b ≠ a := fun {b o} e t z => by
    subst z
    exact q6.no e t
  refine ⟨m', ⟨R.go.ex, R.go.px, R.go.kf, ⟨fun b o e m t => ?_, fun b o e m t => ?_⟩⟩, R.nf, R.s0, by rw [List.length_set]; exact R.len, fun j e hj => ?_, fun j k b e e' h1 h2 h3 h4 h5 h6 => ?_, fun b hb => ?_⟩
  · rw [at_ b (ne0 e t)]
    exact R.go.kp.all b o e m t
  · rw [at_ b (ne0 e t)]
    exact R.go.kp.cel b o e m t
  · rcases get_set hj with ⟨rfl, rfl⟩ | ⟨ne, hj⟩
    · exact ⟨a, vs', hs, upd_same, r, q4, q5, q6⟩
    · have z := R.sl j e hj
      cases e with
      | un => trivial
      | fz d => exact z
      | ow k =>
        obtain ⟨b, ws', w1, w2, w3, w4, w5, w6⟩ := z
        have nb : b ≠ a := by
          rintro rfl
          exact ne (R.own i j b _ _ h rfl hs hj rfl w1)
        exact ⟨b, ws', w1, by rw [at_ b nb]; exact w2, w3, w4, w5, w6⟩
      | od _ _ => exact z.elim
      | lk d =>
        cases d with
        | lst k =>
          obtain ⟨b, ws', w1, w2, w3, w5⟩ := z
          have nb : b ≠ a := by
            rintro rfl
            exact ne (R.own i j b _ _ h rfl hs hj rfl w1)
          exact ⟨b, ws', w1, by rw [at_ b nb]; exact w2, w3, w5⟩
        | _ => exact z.elim
  · rcases get_set h1 with ⟨rfl, rfl⟩ | ⟨n1, h1⟩
    · rcases get_set h4 with ⟨rfl, rfl⟩ | ⟨n2, h4⟩
      · rfl
      · exact R.own _ k b _ e' h rfl h3 h4 h5 h6
    · rcases get_set h4 with ⟨rfl, rfl⟩ | ⟨n2, h4⟩
      · exact R.own j _ b e _ h1 h2 h3 h rfl h6
      · exact R.own j k b e e' h1 h2 h3 h4 h5 h6
  · obtain ⟨y1, y2, ⟨us, y3⟩, y4, y5⟩ := R.gh b hb
    have nb : b ≠ a := by
      rintro rfl
      exact y5 i _ h rfl hs
    refine ⟨y1, y2, ⟨us, by rw [at_ b nb]; exact y3⟩, y4, fun j e hj he => ?_⟩
    rcases get_set hj with ⟨rfl, rfl⟩ | ⟨ne, hj⟩
    · exact y5 _ _ h rfl
    · exact y5 j e hj he
theorem fit_le {l : List D} (h : fit l = true) : l.length ≤ sizeLine := by
  rw [← line_eq]
  exact of_decide_eq_true h
theorem ix_app {i : Nat} {x : Str} {px apos cpos : Pos} {e : Expr} {te : TE} {id : String} {name : Str} {r : V → List V → Hp → VK → Prop} (slot : Slot "list" name id) (hty : typeOf (.builtin id) = pure (.type "method_descriptor")) (hm : MtR X id r) (hN : X.N[i]? = some x) (hv : Vis X.env.scope x) (hd : (x == ("__debug__" : Str)) = false) (hcd : (x == ("__classdict__" : Str)) = false)
    (hs : ∀ e' p, e ≠ .Starred e' p) (hline : (apos.endLine == cpos.line) = true) (he : PE X e te) : PE X (.Call (.Attribute (.Name x px) name apos) [e] [] cpos) (tBM X.K "list" r (tVar i) (tCons te tNil)) :=
  pe_bm F.plainAttrs_list slot hty hm (pe_var hN hv hd hcd) (pa_cons he pa_nil (noStar hs)) rfl (by rw [noStar hs]; rfl) hline (noStar hs) rfl
theorem own_at (R : f.RS F κ ρ M σ H) {i : Nat} {l : List D} (h : ρ[i]? = some (.ow l)) : ∃ a vs, σ[i]? = some (some (.ref a)) ∧ H a = some (.lst vs) ∧ Rvs f.G F κ vs l := by
  obtain ⟨a, vs, q1, q2, q3, _⟩ := R.sl i _ h
  exact ⟨a, vs, q1, q2, q3⟩
theorem s_app (G : GX f c X) {i : Nat} {e : E} {x : Str} {y : Expr} {px apos cpos pos : Pos} (hN : X.N[i]? = some x) (hv : Vis X.env.scope x) (hd : (x == ("__debug__" : Str)) = false) (hcd : (x == ("__classdict__" : Str)) = false)
    (hs : ∀ e' p, y ≠ .Starred e' p) (hline : (apos.endLine == cpos.line) = true) (h : PE X y (dE f .v (ev g φ .v e))) : PS X (.Expr (.Call (.Attribute (.Name x px) "append" apos) [y] [] cpos) pos) (dS f (st g φ (.app i e))) := by
  refine PS.imp (ps_expr (ix_app F.slot_list_append F.type_list_append mt_append hN hv hd hcd hs hline h) (sw_no rfl)) fun D σ H ⟨F, κ, ρ, M, R, h⟩ => ?_
  simp only [st] at h
  cases e0 : ρ[i]? with
  | none => rw [e0] at h; exact h.elim
  | some en =>
    rw [e0] at h
    cases en with
    | ow l0 =>
      obtain ⟨a, vs0, hσ, hH0, _⟩ := own_at R e0
      refine ⟨_, hσ, .inl ⟨rfl, vs0, SqL.of hH0⟩, F, κ, ρ, M, R, h.exp.imp fun F1 κ1 ρ1 M1 H1 d g1 R1 ⟨_, q⟩ v r => ?_⟩
      cases e1 : ρ1[i]? with
      | none => rw [e1] at q; exact q.elim
      | some en =>
        rw [e1] at q
        cases en with
        | ow l =>
          obtain ⟨a', vs, hσ', hH, rs⟩ := own_at R1 e1
          rw [hσ] at hσ'
          cases hσ'
          simp only at q
          split at q
          · rename_i z
            simp only [Bool.and_eq_true] at z
            have hz := fit_le z.1
            rw [List.length_append, List.length_singleton, ← Paired.length rs] at hz
            exact ⟨a, vs, v, rfl, rfl, hH, hz, AftS.here q (RS.ownPut R1 e1 hσ hH (Paired.app rs (.cons (r.less z.2) .nil)))⟩
          · exact q.elim
        | _ => exact q.elim
    | _ => exact h.elim
theorem s_ext (G : GX f c X) {i : Nat} {e : E} {x : Str} {y : Expr} {px apos cpos pos : Pos} (hN : X.N[i]? = some x) (hv : Vis X.env.scope x) (hd : (x == ("__debug__" : Str)) = false) (hcd : (x == ("__classdict__" : Str)) = false)
    (hs : ∀ e' p, y ≠ .Starred e' p) (hline : (apos.endLine == cpos.line) = true) (h : PE X y (dE f .b (ev g φ .b e))) : PS X (.Expr (.Call (.Attribute (.Name x px) "extend" apos) [y] [] cpos) pos) (dS f (st g φ (.ext i e))) := by
  refine PS.imp (ps_expr (ix_app F.slot_list_extend F.type_list_extend mt_extend hN hv hd hcd hs hline h) (sw_no rfl)) fun D σ H ⟨F, κ, ρ, M, R, h⟩ => ?_
  simp only [st] at h
  cases e0 : ρ[i]? with
  | none => rw [e0] at h; exact h.elim
  | some en =>
    rw [e0] at h
    cases en with
    | ow l0 =>
      obtain ⟨a, vs0, hσ, hH0, _⟩ := own_at R e0
      refine ⟨_, hσ, .inl ⟨rfl, vs0, SqL.of hH0⟩, F, κ, ρ, M, R, h.exp.imp fun F1 κ1 ρ1 M1 H1 d g1 R1 ⟨_, q⟩ v r => ?_⟩
      cases e1 : ρ1[i]? with
      | none => rw [e1] at q; exact q.elim
      | some en =>
        rw [e1] at q
        cases en with
        | ow l =>
          cases d with
          | lst k =>
            obtain ⟨a', vs, hσ', hH, rs⟩ := own_at R1 e1
            rw [hσ] at hσ'
            cases hσ'
            obtain ⟨b, ws, rfl, hB, rw', _⟩ := r
            simp only at q
            split at q
            · rename_i z
              have hz := fit_le z
              rw [List.length_append, ← Paired.length rs, ← Paired.length rw'] at hz
              exact ⟨a, b, vs, ws, rfl, rfl, hH, hB, hz, AftS.here q (RS.ownPut R1 e1 hσ hH (Paired.app rs rw'))⟩
            · exact q.elim
          | _ => exact q.elim
        | _ => exact q.elim
    | _ => exact h.elim
/-! ### for -/
theorem s_for (G : GX f c X) {t : Tg} {it : E} {b : List S} {tg iter : Expr} {bs : List Stmt} {pos : Pos} (hp : PassesOwn (model X.prog X.w) X.A X.env X.xe) (hi : PI X tg iter (dI f .k (ev g φ .k it))) (hg : PG X tg (dG f t)) (hb : PSs X bs (dS f (sts g φ b)))
    (hs : ∀ x, foldedSetIterable iter X.env x = pure x) : PS X (.For tg iter bs [] pos) (dS f (st g φ (.for t it b))) := by
  refine PS.imp (ps_for hp G.calm hi hg hb hs) fun D σ H ⟨F, κ, ρ, M, R, h⟩ => ?_
  simp only [st] at h
  refine ⟨F, κ, ρ, M, R, h.exp.imp fun F1 κ1 ρ1 M1 H1 d g1 R1 ⟨_, q⟩ => ?_⟩
  cases d with
  | lst xs =>
    refine ⟨xs, rfl, fun J wk => ?_⟩
    have q : AftS f F1 κ1 D (forL (fun ρ M => sts g φ b ρ M) t xs ρ1 M1) := q
    refine ⟨fun i m σ H => ∃ F κ ρ M, m = xs.length - i ∧ i ≤ xs.length ∧ Ex F1 F ∧ Px κ1 κ ∧ f.RS F κ ρ M σ H ∧ AftS f F κ D (forL (fun ρ M => sts g φ b ρ M) t (xs.drop i) ρ M),
      ⟨xs.length, F1, κ1, ρ1, M1, rfl, Nat.zero_le _, Ex.refl _, Px.refl _, R1, q⟩, ?_⟩
    rintro i m σ2 H2 ⟨F2, κ2, ρ2, M2, rfl, hi, e2, p2, R2, q2⟩
    by_cases hlt : i < xs.length
    · have hx : xs[i]? = some xs[i] := List.getElem?_eq_getElem hlt
      obtain ⟨w1, w2⟩ := (wk F2 κ2 M2 H2 R2.m ⟨e2, p2⟩ i).1 _ hx
      rw [List.drop_eq_getElem_cons hlt] at q2
      generalize hx' : xs[i] = x at q2 w2
      refine .inr ⟨w1, fun σ H => ∃ F κ ρ M, Ex F1 F ∧ Px κ1 κ ∧ f.RS F κ ρ M σ H ∧ AftS f F κ D (forL (fun ρ M => sts g φ b ρ M) t (xs.drop (i + 1)) ρ M),
        fun σ' H' ⟨F, κ, ρ, M, a1, a2, a3, a4⟩ => ⟨xs.length - (i + 1), by omega, F, κ, ρ, M, rfl, hlt, a1, a2, a3, a4⟩, fun v H3 y => ?_⟩
      obtain ⟨F3, g3, m3, n3, r3⟩ := w2 v H3 y
      have R3 := R2.at' (⟨g3, m3, n3⟩ : Ltr f F2 κ2 H2 F3 κ2 M2 H3)
      simp only [forL] at q2
      cases eb : bindT t x ρ2 with
      | none => rw [eb] at q2; exact q2.elim
      | some ρ3 =>
        simp only [eb] at q2
        refine ⟨F3, κ2, ρ2, M2, x, ρ3, R3, r3, eb, fun σ3 R4 _ _ => ⟨F3, κ2, ρ3, M2, R4, ?_⟩⟩
        have q3 := AftS.later q2 g3.ex (Px.refl _)
        cases ebd : sts g φ b ρ3 M2 with
        | none => rw [ebd] at q3; exact q3.elim
        | some o =>
          rw [ebd] at q3
          cases o with
          | ok fl ρ' M' =>
            intro F5 κ5 σ5 H5 e5 p5 R5
            have nxt : AftS f F3 κ2 D (forL (fun ρ M => sts g φ b ρ M) t (xs.drop (i + 1)) ρ' M') → ∃ F κ ρ M, Ex F1 F ∧ Px κ1 κ ∧ f.RS F κ ρ M σ5 H5 ∧ AftS f F κ D (forL (fun ρ M => sts g φ b ρ M) t (xs.drop (i + 1)) ρ M) := fun z =>
              ⟨F5, κ5, ρ', M', (e2.trans g3.ex).trans e5, p2.trans p5, R5, AftS.later z e5 p5⟩
            cases fl with
            | nx => exact nxt q3
            | ct => exact nxt q3
            | bk => exact (show AftS f F3 κ2 D (okE ρ' M' .nx) from q3) F5 κ5 σ5 H5 e5 p5 R5
            | rt d => exact (show AftS f F3 κ2 D (okE ρ' M' (.rt d)) from q3) F5 κ5 σ5 H5 e5 p5 R5
          | exc x ρ' M' => exact q3
    · obtain rfl : i = xs.length := by omega
      have st := (wk F2 κ2 M2 H2 R2.m ⟨e2, p2⟩ xs.length).2 (List.getElem?_eq_none (Nat.le_refl _))
      rw [List.drop_length] at q2
      exact .inl ⟨st, AftS.here (show AftS f F2 κ2 D (okE ρ2 M2 .nx) from q2) R2⟩
  | _ => exact q.elim
/-! ### while -/
theorem s_whl {e : E} {y : Expr} {b : List S} {bs : List Stmt} {pos : Pos} (hp : PassesOwn (model X.prog X.w) X.A X.env X.xe) (h : PT X y (dT f (ev g φ .t e))) (hb : PSs X bs (dS f (sts g φ b))) : PS X (.While y bs [] pos) (dS f (st g φ (.whl e b))) := by
  refine PS.imp (ps_while hp h hb) fun D σ H ⟨F, κ, ρ, M, R, h⟩ => ?_
  simp only [st] at h
  refine ⟨fun m σ H => ∃ F κ ρ M, f.RS F κ ρ M σ H ∧ AftS f F κ D (whlL (fun ρ M => ev g φ .t e ρ M) (fun ρ M => sts g φ b ρ M) m ρ M), ⟨g.loops, F, κ, ρ, M, R, h⟩, ?_⟩
  rintro m σ2 H2 ⟨F2, κ2, ρ2, M2, R2, q2⟩
  cases m with
  | zero => exact q2.elim
  | succ m =>
    simp only [whlL] at q2
    refine ⟨F2, κ2, ρ2, M2, R2, q2.exp.imp fun F3 κ3 ρ3 M3 H3 d g3 R3 ⟨_, q3⟩ => ?_⟩
    cases d with
    | bl k =>
      refine ⟨k, rfl, ?_⟩
      cases k with
      | false => exact iteF (AftS.here (show AftS f F3 κ3 D (okE ρ3 M3 .nx) from q3) R3)
      | true =>
        refine iteT ⟨fun σ H => ∃ F κ ρ M, f.RS F κ ρ M σ H ∧ AftS f F κ D (whlL (fun ρ M => ev g φ .t e ρ M) (fun ρ M => sts g φ b ρ M) m ρ M), fun σ' H' z => ⟨m, Nat.lt_succ_self m, z⟩, F3, κ3, ρ3, M3, R3, ?_⟩
        have q3 : AftS f F3 κ3 D ((sts g φ b ρ3 M3).bind fun f ρ M => match f with
          | .nx => whlL (fun ρ M => ev g φ .t e ρ M) (fun ρ M => sts g φ b ρ M) m ρ M
          | .ct => whlL (fun ρ M => ev g φ .t e ρ M) (fun ρ M => sts g φ b ρ M) m ρ M
          | .bk => okE ρ M .nx
          | .rt d => okE ρ M (.rt d)) := q3
        cases ebd : sts g φ b ρ3 M3 with
        | none => rw [ebd] at q3; exact q3.elim
        | some o =>
          rw [ebd] at q3
          cases o with
          | ok fl ρ' M' =>
            intro F5 κ5 σ5 H5 e5 p5 R5
            cases fl with
            | nx => exact ⟨F5, κ5, ρ', M', R5, AftS.later q3 e5 p5⟩
            | ct => exact ⟨F5, κ5, ρ', M', R5, AftS.later q3 e5 p5⟩
            | bk => exact (show AftS f F3 κ3 D (okE ρ' M' .nx) from q3) F5 κ5 σ5 H5 e5 p5 R5
            | rt d => exact (show AftS f F3 κ3 D (okE ρ' M' (.rt d)) from q3) F5 κ5 σ5 H5 e5 p5 R5
          | exc x ρ' M' => exact q3
    | _ => exact q3.elim
end
end DV
end
section
set_option Elab.async false
set_option linter.all false
set_option maxRecDepth 100000
set_option maxHeartbeats 1000000
/-! DV21: a, b = x, y. -/
namespace DV
open PySem PySem.Spec PyProof.Rows L2
abbrev Fr0.gd (f : Fr0) (gs : List Addr) : Fr0 := { f with gs := gs }
section
variable {f : Fr0} {c : Ct} {X : Cx} {g : Cfg} {φ : Phi}
variable {F F' : Fz} {κ κ' : List Addr} {ρ ρ' : Ev} {M M' : Mem} {σ : L2.St} {H H' : Hp}
def EnsAt (f : Fr0) (F : Fz) (κ : List Addr) (ρ : Ev) (σ : L2.St) (H : Hp) : List Addr → List V → List En → Prop
  | _, [], [] => True
  | gs, v :: vs, .fz d :: es => Rvl f.G f.B F κ v d ∧ EnsAt f F κ ρ σ H gs vs es
  | gs, v :: vs, .ow l :: es => ∃ a xs, v = .ref a ∧ H a = some (.lst xs) ∧ Rvs f.G F κ xs l ∧ F a = none ∧ a ∉ κ ∧ Vt f.H0 a ∧ (∀ (j : Nat) (e : En), ρ[j]? = some e → own2 e = true → σ[j]? ≠ some (some (.ref a))) ∧ a ∉ gs ∧ EnsAt f F κ ρ σ H (a :: gs) vs es
  | _, _, _ => False
/-- a row of values to be stored together -/
def dP (f : Fr0) (x : Ev → Mem → R (List En)) : TA := fun σ H Q => ∃ gs F κ ρ M, (f.gd gs).RS F κ ρ M σ H ∧ Aft (f.gd gs) F κ H σ (fun F' κ' ρ' M' H' ens => (f.gd gs).RS F' κ' ρ' M' σ H' → ∀ vs, EnsAt f F' κ' ρ' σ H' gs vs ens → Q vs H') (x ρ M)
def gE (f : Fr0) (m : Md) (x : Ev → Mem → R D) : TE := fun σ H Q => ∃ gs, dE (f.gd gs) m x σ H Q
theorem gE_of {m : Md} {x : Ev → Mem → R D} {e : Expr} (h : ∀ gs, PE X e (dE (f.gd gs) m x)) : PE X e (gE f m x) := ⟨fun pins s σ H Q I ⟨gs, q⟩ => (h gs).run pins s σ H Q I q⟩
theorem RS.ghost {gs : List Addr} (R : (f.gd gs).RS F κ ρ M σ H) {a : Addr} (h1 : F a = none) (h2 : a ∉ κ) (h3 : ∃ vs, H a = some (.lst vs)) (h4 : Vt f.H0 a) (h5 : ∀ (j : Nat) (e : En), ρ[j]? = some e → own2 e = true → σ[j]? ≠ some (some (.ref a))) : (f.gd (a :: gs)).RS F κ ρ M σ H :=
  ⟨R.m, R.go, R.nf, R.s0, R.len, R.sl, R.own, fun b hb => by
    rcases List.mem_cons.mp hb with rfl | hb
    · exact ⟨h1, h2, h3, h4, h5⟩
    · exact R.gh b hb⟩
theorem RS.unghost {gs : List Addr} {a : Addr} (R : (f.gd (a :: gs)).RS F κ ρ M σ H) : (f.gd gs).RS F κ ρ M σ H :=
  ⟨R.m, R.go, R.nf, R.s0, R.len, R.sl, R.own, fun b hb => R.gh b (List.mem_cons_of_mem _ hb)⟩
theorem Aft.ghost {gs : List Addr} {a : Addr} {α : Type} {Q1 : Fz → List Addr → Ev → Mem → Hp → α → Prop} {x : R α} (h : Aft (f.gd gs) F κ H σ Q1 x) : Aft (f.gd (a :: gs)) F κ H σ Q1 x := by
  cases x with
  | none => exact h
  | some o =>
    cases o with
    | ok d ρ' M' => exact fun F' κ' H' g R => h F' κ' H' g R.unghost
    | exc x ρ' M' => exact fun F' κ' H' cls dx g R X => h F' κ' H' cls dx g R.unghost X
theorem mine_cases {b : Bool} {d : D} {x : En} (h : mine b d = some x) : (x = .fz d ∧ (b = false ∨ ∀ l, d ≠ .lst l)) ∨ (b = true ∧ ∃ l, d = .lst l ∧ x = .ow l) := by
  cases b with
  | false => cases d <;> simp only [mine, Bool.false_eq_true, if_false, Option.some.injEq, reduceCtorEq] at h <;> (subst h; exact .inl ⟨rfl, .inl rfl⟩)
  | true =>
    cases d with
    | lst l => simp only [mine, if_true, Option.some.injEq] at h; subst h; exact .inr ⟨rfl, l, rfl, rfl⟩
    | lam _ _ => cases h
    | set _ => cases h
    | _ => simp only [mine, Option.some.injEq] at h; subst h; exact .inl ⟨rfl, .inr fun l z => nomatch z⟩
theorem nw_rv {F : Fz} {κ : List Addr} {ρ : Ev} {σ : L2.St} {H : Hp} {v : V} {d : D} (n : ∀ l, d ≠ .lst l) (h : Nw f F κ ρ σ H v d) : Rv f.G F κ v d := by
  cases d <;> first
    | exact h
    | exact absurd rfl (n _)
theorem s_pnil : PA X [] (dP f (evPar g φ [])) := PA.imp pa_nil fun σ H Q ⟨gs, F, κ, ρ, M, R, h⟩ => by
  simp only [evPar] at h
  exact Aft.here (f := f.gd gs) h R R [] trivial
theorem s_pcons {e : E} {es : List E} {x : Expr} {xs : List Expr} (hx : ∀ e' p, x ≠ .Starred e' p) (h1 : ∀ gs, PE X x (dE (f.gd gs) (modeOf (maker e)) (ev g φ (modeOf (maker e)) e))) (h2 : PA X xs (dP f (evPar g φ es))) : PA X (x :: xs) (dP f (evPar g φ (e :: es))) := by
  refine PA.imp (pa_cons (gE_of h1) h2 (noStar hx)) fun σ H Q ⟨gs, F, κ, ρ, M, R, h⟩ => ?_
  have h : Aft (f.gd gs) F κ H σ _ ((ev g φ (modeOf (maker e)) e ρ M).bind fun d ρ M => match mine (maker e) d with
    | some x => (evPar g φ es ρ M).bind fun xs ρ M => okE ρ M (x :: xs)
    | none => none) := h
  refine ⟨gs, F, κ, ρ, M, R, h.bind.imp fun F1 κ1 ρ1 M1 H1 d g1 R1 ⟨_, q⟩ v r => ?_⟩
  cases em : mine (maker e) d with
  | none => rw [em] at q; exact q.elim
  | some en =>
    rw [em] at q
    rcases mine_cases em with ⟨rfl, hb⟩ | ⟨hb, l, rfl, rfl⟩
    · have r' : Rvl f.G f.B F1 κ1 v d := by
        rcases hb with hb | hb
        · rw [hb] at r; exact r
        · cases hm : maker e with
          | false => rw [hm] at r; exact r
          | true => rw [hm] at r; exact (nw_rv hb r).l
      refine ⟨gs, F1, κ1, ρ1, M1, R1, q.bind.imp fun F2 κ2 ρ2 M2 H2 ens g2 R2 ⟨_, q2⟩ _ vs rs => ?_⟩
      exact Aft.here (f := f.gd gs) q2 R2 R2 (v :: vs) ⟨r'.mono g2.ex g2.px, rs⟩
    · rw [hb] at r
      obtain ⟨a, xs', rfl, n1, n2, n3, n4, n5, n6, n7⟩ := (show Nw (f.gd gs) F1 κ1 ρ1 σ H1 v (.lst l) from r)
      refine ⟨a :: gs, F1, κ1, ρ1, M1, R1.ghost n3 n4 ⟨_, n1⟩ n5 n6, q.bind.ghost.imp fun F2 κ2 ρ2 M2 H2 ens g2 R2 ⟨_, q2⟩ _ vs rs => ?_⟩
      obtain ⟨y1, y2, _, y4, y5⟩ := R2.gh a List.mem_cons_self
      exact Aft.here (f := f.gd gs) q2 R2.unghost R2.unghost (.ref a :: vs) ⟨a, xs', rfl, g2.kp.all _ _ n1 n4 (fun _ z => nomatch z), n2.mono g2.ex g2.px, y1, y2, y4, y5, n7, rs⟩
/-! ### the stores -/
def setV : List Nat → List V → L2.St → L2.St
  | i :: is, v :: vs, σ => setV is vs (σ.set i (some v))
  | _, _, σ => σ
theorem EnsAt.set {x : En} {i : Nat} {v : V} : ∀ {gs : List Addr} {vs : List V} {es : List En}, EnsAt f F κ ρ σ H gs vs es → (own2 x = true → ∀ a, v = .ref a → a ∈ gs) → EnsAt f F κ (ρ.set i x) (σ.set i (some v)) H gs vs es
  | _, [], [], _, _ => trivial
  | _, [], _ :: _, h, _ => h.elim
  | _, _ :: _, [], h, _ => h.elim
  | gs, w :: vs, .fz d :: es, h, k => ⟨h.1, EnsAt.set h.2 k⟩
  | gs, w :: vs, .ow l :: es, h, k => by
    obtain ⟨a, xs, rfl, n1, n2, n3, n4, n5, n6, n7, n8⟩ := h
    refine ⟨a, xs, rfl, n1, n2, n3, n4, n5, fun j e hj he hs => ?_, n7, EnsAt.set n8 fun hx b hb => List.mem_cons_of_mem _ (k hx b hb)⟩
    rcases get_set hj with ⟨rfl, rfl⟩ | ⟨ne, hj⟩
    · have hi : i < σ.length := by
        by_cases z : i < σ.length
        · exact z
        · rw [List.getElem?_eq_none (by rw [List.length_set]; omega)] at hs
          cases hs
      rw [List.getElem?_set_self hi] at hs
      cases hs
      exact n7 (k he a rfl)
    · rw [List.getElem?_set_ne ne] at hs
      exact n6 j e hj he hs
  | _, _ :: _, .un :: _, h, _ => h.elim
  | _, _ :: _, .od _ _ :: _, h, _ => h.elim
  | _, _ :: _, .lk _ :: _, h, _ => h.elim
theorem EnsAt.heap : ∀ {gs : List Addr} {vs : List V} {es : List En}, EnsAt f F κ ρ σ H gs vs es → (∀ a xs, H a = some (.lst xs) → H' a = some (.lst xs)) → EnsAt f F κ ρ σ H' gs vs es
  | _, [], [], _, _ => trivial
  | _, [], _ :: _, h, _ => h.elim
  | _, _ :: _, [], h, _ => h.elim
  | gs, w :: vs, .fz d :: es, h, k => ⟨h.1, EnsAt.heap h.2 k⟩
  | gs, w :: vs, .ow l :: es, h, k => by
    obtain ⟨a, xs, rfl, n1, n2, n3, n4, n5, n6, n7, n8⟩ := h
    exact ⟨a, xs, rfl, k _ _ n1, n2, n3, n4, n5, n6, n7, EnsAt.heap n8 k⟩
  | _, _ :: _, .un :: _, h, _ => h.elim
  | _, _ :: _, .od _ _ :: _, h, _ => h.elim
  | _, _ :: _, .lk _ :: _, h, _ => h.elim
theorem EnsAt.len : ∀ {gs : List Addr} {vs : List V} {es : List En}, EnsAt f F κ ρ σ H gs vs es → vs.length = es.length
  | _, [], [], _ => rfl
  | _, [], _ :: _, h => h.elim
  | _, _ :: _, [], h => h.elim
  | gs, w :: vs, .fz d :: es, h => congrArg (· + 1) (EnsAt.len h.2)
  | gs, w :: vs, .ow l :: es, h => by
    obtain ⟨a, xs, rfl, n1, n2, n3, n4, n5, n6, n7, n8⟩ := h
    exact congrArg (· + 1) (EnsAt.len n8)
  | _, _ :: _, .un :: _, h => h.elim
  | _, _ :: _, .od _ _ :: _, h => h.elim
  | _, _ :: _, .lk _ :: _, h => h.elim
theorem RS.setAll : ∀ {is : List Nat} {vs : List V} {es : List En} {gs : List Addr} {ρ : Ev} {σ : L2.St}, f.RS F κ ρ M σ H → (∀ a ∈ f.gs, a ∈ gs) → EnsAt f F κ ρ σ H gs vs es → f.RS F κ (DV.setAll is es ρ) M (setV is vs σ) H
  | [], vs, es, gs, ρ, σ, R, _, _ => by
    cases vs <;> exact R
  | i :: is, [], [], gs, ρ, σ, R, _, _ => R
  | i :: is, [], _ :: _, gs, ρ, σ, R, _, h => h.elim
  | i :: is, _ :: _, [], gs, ρ, σ, R, _, h => h.elim
  | i :: is, v :: vs, .fz d :: es, gs, ρ, σ, R, k, h => RS.setAll (is := is) (RS.put R h.1) k (EnsAt.set h.2 fun z => nomatch z)
  | i :: is, v :: vs, .ow l :: es, gs, ρ, σ, R, k, h => by
    obtain ⟨a, xs, rfl, n1, n2, n3, n4, n5, n6, n7, n8⟩ := h
    exact RS.setAll (is := is) (gs := a :: gs) (RS.putOw R n1 n2 n3 n4 n5 n6 fun z => n7 (k a z)) (fun b hb => List.mem_cons_of_mem _ (k b hb)) (EnsAt.set n8 fun _ b hb => by cases hb; exact List.mem_cons_self)
  | i :: is, v :: vs, .un :: es, gs, ρ, σ, R, _, h => h.elim
  | i :: is, v :: vs, .od _ _ :: es, gs, ρ, σ, R, _, h => h.elim
  | i :: is, v :: vs, .lk _ :: es, gs, ρ, σ, R, _, h => h.elim
/-- the values, then the stores -/
theorem t_par {is : List Nat} {es : List E} {D : Ends} {Q : List V → Hp → Prop} (hl : is.length = es.length) (hQ : ∀ vs H', vs.length = is.length → (∀ H'', (H'' = H' ∨ ∃ p o, H' p = none ∧ H'' = upd H' p (.tup o)) → D.nx (setV is vs σ) H'') → Q vs H') (h : dS f (st g φ (.par is es)) D σ H) : dP f (evPar g φ es) σ H Q := by
  obtain ⟨F, κ, ρ, M, R, h⟩ := h
  simp only [st] at h
  refine ⟨f.gs, F, κ, ρ, M, R, h.exp.when.imp fun F1 κ1 ρ1 M1 H1 ens g1 R1 ⟨eq, _, q⟩ _ vs rs => ?_⟩
  have len : ∀ {es : List E} {ρ ρ' : Ev} {M M' : Mem} {ens : List En}, evPar g φ es ρ M = some (.ok ens ρ' M') → ens.length = es.length := by
    intro es
    induction es with
    | nil => intro ρ ρ' M M' ens h; cases h; rfl
    | cons e es ih =>
      intro ρ ρ' M M' ens h
      obtain ⟨d, ρ1, M1, _, h⟩ := bind_inv (show (ev g φ (modeOf (maker e)) e ρ M).bind (fun d ρ M => match mine (maker e) d with
        | some x => (evPar g φ es ρ M).bind fun xs ρ M => okE ρ M (x :: xs)
        | none => none) = _ from h)
      cases em : mine (maker e) d with
      | none => simp only [em] at h; cases h
      | some x =>
        simp only [em] at h
        obtain ⟨xs, ρ2, M2, h2, h⟩ := bind_inv h
        cases h
        exact congrArg (· + 1) (ih h2)
  refine hQ vs H1 (by rw [rs.len, len eq, hl]) ?_
  rintro H'' (rfl | ⟨p, o, hp, rfl⟩)
  · exact AftS.here q (RS.setAll R1 (fun a z => z) rs)
  · exact AftS.here q (RS.setAll (RS.new R1 hp) (fun a z => z) (rs.heap fun a xs e => by
      rw [upd_ne]
      · exact e
      · rintro rfl
        rw [hp] at e
        cases e))
theorem s_par2 (G : GX f c X) {i j : Nat} {a b : E} {x y : Str} {u v : Expr} {px py pt pt2 pos : Pos} {kt k2 : Nat} (hi : X.N[i]? = some x) (hj : X.N[j]? = some y) (hij : i ≠ j) (hx : X.env.scope.names.lookup x = some .local) (hy : X.env.scope.names.lookup y = some .local)
    (hw : swappedStores [.Tuple [.Name x px, .Name y py] kt pt] (.Tuple [u, v] k2 pt2) X.env = pure (some [x, y])) (ha : PA X [u, v] (dP f (evPar g φ [a, b]))) : PS X (.Assign [.Tuple [.Name x px, .Name y py] kt pt] (.Tuple [u, v] k2 pt2) pos) (dS f (st g φ (.par [i, j] [a, b]))) :=
  PS.imp (ps_par G.calm G.nd hi hj hij hx hy ha hw rfl) fun D σ H h => t_par rfl (fun vs H' hl q => by
    match vs, hl with
    | [v, w], _ => exact ⟨v, w, rfl, q H' (.inl rfl)⟩) h
theorem s_par3 (G : GX f c X) {i j l : Nat} {a b d : E} {x y z : Str} {u v w : Expr} {px py pz pt pt2 pos : Pos} {kt k2 : Nat} (hi : X.N[i]? = some x) (hj : X.N[j]? = some y) (hl : X.N[l]? = some z) (hij : i ≠ j) (hil : i ≠ l) (hjl : j ≠ l) (hx : X.env.scope.names.lookup x = some .local) (hy : X.env.scope.names.lookup y = some .local) (hz : X.env.scope.names.lookup z = some .local)
    (hw : swappedStores [.Tuple [.Name x px, .Name y py, .Name z pz] kt pt] (.Tuple [u, v, w] k2 pt2) X.env = pure (some [x, y, z])) (ha : PA X [u, v, w] (dP f (evPar g φ [a, b, d]))) : PS X (.Assign [.Tuple [.Name x px, .Name y py, .Name z pz] kt pt] (.Tuple [u, v, w] k2 pt2) pos) (dS f (st g φ (.par [i, j, l] [a, b, d]))) :=
  PS.imp (L2.ps_par3 G.calm G.nd hi hj hl hij hil hjl hx hy hz ha hw rfl) fun D σ H h => t_par rfl (fun vs H' hl q => by
    match vs, hl with
    | [v, w, u], _ => exact ⟨v, w, u, rfl, q H' (.inl rfl)⟩) h
/-- the plain names of a target -/
def gNames (is : List Nat) : TGs := fun vs σ H Q => vs.length = is.length ∧ Q (setV is vs σ) H
theorem s_gnames (hN : X.N.Nodup) : ∀ {is : List Nat} {xs : List Expr}, Paired (fun (i : Nat) (x : Expr) => ∃ n p, x = .Name n p ∧ X.N[i]? = some n ∧ Loc X.env.scope n ∧ (X.fn n = true ∨ X.env.scope.names.lookup n = some .local)) is xs → PGs X xs (gNames is)
  | _, _, .nil => PGs.imp pgs_nil fun vs σ H Q ⟨h1, h2⟩ => by
    cases vs with
    | nil => exact ⟨rfl, h2⟩
    | cons v vs => cases h1
  | _, _, .cons ⟨n, p, rfl, h1, h2, h3⟩ t => PGs.imp (pgs_cons (pg_name hN h1 h2 h3) (s_gnames hN t) rfl) fun vs σ H Q ⟨k1, k2⟩ => by
    cases vs with
    | nil => cases k1
    | cons v vs => exact ⟨v, vs, rfl, Nat.succ.inj k1, k2⟩
theorem s_parN (G : GX f c X) {is : List Nat} {es : List E} {xs ys : List Expr} {tp tp2 pos : Pos} {k k2 : Nat} (hl : is.length = es.length) (hn : Paired (fun (i : Nat) (x : Expr) => ∃ n p, x = .Name n p ∧ X.N[i]? = some n ∧ Loc X.env.scope n ∧ (X.fn n = true ∨ X.env.scope.names.lookup n = some .local)) is xs)
    (hw : swappedStores [.Tuple xs k tp] (.Tuple ys k2 tp2) X.env = pure none) (hz : is.length ≤ 1000) (ha : PA X ys (dP f (evPar g φ es))) : PS X (.Assign [.Tuple xs k tp] (.Tuple ys k2 tp2) pos) (dS f (st g φ (.par is es))) := by
  have hst : ∀ y ∈ xs, ∀ e' p, y ≠ .Starred e' p := by
    have : ∀ {is : List Nat} {xs : List Expr}, Paired (fun (i : Nat) (x : Expr) => ∃ n p, x = .Name n p ∧ X.N[i]? = some n ∧ Loc X.env.scope n ∧ (X.fn n = true ∨ X.env.scope.names.lookup n = some .local)) is xs → ∀ y ∈ xs, ∀ e' p, y ≠ .Starred e' p := by
      intro is xs h
      induction h with
      | nil => intro y hy; cases hy
      | cons r t ih =>
        intro y hy e' p
        rcases List.mem_cons.mp hy with rfl | hy
        · obtain ⟨n, q, rfl, _⟩ := r
          exact fun z => nomatch z
        · exact ih y hy e' p
    exact this hn
  refine PS.imp (ps_asg (pe_tup ha) (pg_tup (n := xs.length) G.calm (s_gnames G.nd hn) (each_len hst).1 (each_len hst).2) rfl hw rfl) fun D σ H h => ?_
  refine t_par (D := D) (σ := σ) hl (fun vs H' hv q => ⟨?_, fun p hp => ?_⟩) h
  · rw [← line_eq, hv]
    exact Nat.le_trans hz (by decide)
  · exact ⟨p, vs, rfl, SqT.of upd_same, by rw [hv, Paired.length hn], hv, q _ (.inr ⟨p, _, hp, rfl⟩)⟩
end
end DV
end
section
set_option Elab.async false
set_option linter.all false
set_option maxRecDepth 100000
set_option maxHeartbeats 1000000
/-! DV22: more expressions. -/
namespace DV
open PySem PySem.Spec PyProof.Rows L2
section
variable {f : Fr0} {c : Ct} {X : Cx} {g : Cfg} {φ : Phi}
variable {F F' : Fz} {κ κ' : List Addr} {ρ ρ' : Ev} {M M' : Mem} {σ : L2.St} {H H' : Hp}
/-! ### names of the top -/
theorem s_glob (G : GX f c X) {m : Md} (hm : m = .v ∨ m = .b) {d : D} {x : Str} {pos : Pos} {u : Value} {v : V} (hg : Gl X x) (hmg : X.mg x = some u) (hdb : (x == ("__debug__" : Str)) = false) (r : RelV v u) (k : ∀ F κ, Rv f.G F κ v d) :
    PE X (.Name x pos) (dE f m (ev g φ m (.lit d))) := ⟨fun pins s σ H Q I ⟨F, κ, ρ, M, R, h⟩ => by
  refine ld_glob I hg hmg ⟨v, H, I, r, ?_⟩ hdb
  have h' : Aft f F κ H σ (fun F' κ' ρ' M' H' d => ∀ v, RelQ f m F' κ' ρ' σ H' v d → Q v H') (fin m d ρ M) := by simpa only [ev] using h
  exact fin_ok hm R (k F κ) h'⟩
theorem s_bty (G : GX f c X) {m : Md} (hm : m = .v ∨ m = .b) {t : Ty} {x : Str} {pos : Pos} (hg : Gl X x) (hn : X.mg x = none) (hv : bootBuiltins x = some (.type (tyName t))) (h1 : x ≠ "__name__") (h2 : (x == ("__debug__" : Str)) = false) :
    PE X (.Name x pos) (dE f m (ev g φ m (.lit (.ty t)))) := ⟨fun pins s σ H Q I ⟨F, κ, ρ, M, R, h⟩ => by
  refine ld_blt I hg hn hv ⟨.ty (tyName t), H, I, rfl, ?_⟩ h1 h2
  have h' : Aft f F κ H σ (fun F' κ' ρ' M' H' d => ∀ v, RelQ f m F' κ' ρ' σ H' v d → Q v H') (fin m (.ty t) ρ M) := by simpa only [ev] using h
  exact fin_ok hm R (show Rv f.G F κ (V.ty (tyName t)) (D.ty t) from rfl) h'⟩
/-! ### numbers -/
theorem s_neg {m : Md} (hm : Ord m) {a : E} {x : Expr} {pos : Pos} (h : PE X x (dE f .v (ev g φ .v a))) : PE X (.UnaryOp .USub x pos) (dE f m (ev g φ m (.neg a))) := by
  refine PE.imp (pe_un un_neg h) fun σ H Q ⟨F, κ, ρ, M, R, h⟩ => ?_
  simp only [ev] at h
  refine ⟨F, κ, ρ, M, R, h.bind.imp fun F1 κ1 ρ1 M1 H1 d g1 R1 ⟨_, q⟩ v r => ?_⟩
  cases d with
  | int i =>
    obtain rfl : v = .int i := r
    exact ⟨i, rfl, fin_nw hm R1 (show Nw f F1 κ1 ρ1 σ H1 (V.int (-i)) (D.int (-i)) from rfl) q⟩
  | _ => exact q.elim
/-! ### and, or by value -/
theorem s_and1 {m : Md} {e : E} {x : Expr} {o : BoolOp} {pos : Pos} (h : PE X x (dE f m (ev g φ m e))) : PE X (.BoolOp o [x] pos) (dE f m (ev g φ m e)) := pe_one h
theorem s_andV (G : GX f c X) {m : Md} (hm : m = .v ∨ m = .b) {a b : E} {x y : Expr} {ys : List Expr} {pos : Pos} (h1 : PE X x (dE f m (ev g φ m a))) (h2 : PE X (.BoolOp .And (y :: ys) pos) (dE f m (ev g φ m b))) : PE X (.BoolOp .And (x :: y :: ys) pos) (dE f m (ev g φ m (.and a b))) := by
  refine PE.imp (pe_andT h1 h2) fun σ H Q ⟨F, κ, ρ, M, R, h⟩ => ?_
  have h' : Aft f F κ H σ (fun F' κ' ρ' M' H' d => ∀ v, RelQ f m F' κ' ρ' σ H' v d → Q v H') ((ev g φ m a ρ M).bind fun x ρ M => match tru x with
      | some true => ev g φ m b ρ M
      | some false => okE ρ M x
      | none => none) := by
    rcases hm with rfl | rfl <;> (simp only [ev] at h; exact h)
  refine ⟨F, κ, ρ, M, R, h'.bind.imp fun F1 κ1 ρ1 M1 H1 d g1 R1 ⟨_, q⟩ v r => ?_⟩
  cases e1 : tru d with
  | none => rw [e1] at q; exact q.elim
  | some k =>
    rw [e1] at q
    have bv : Bv f.K f.G F1 κ1 H1 v d := by
      rcases hm with rfl | rfl
      · exact (Rvl.less r (by cases d <;> first | rfl | cases e1)).b R1.m
      · exact r
    refine ⟨k, by rw [G.K]; exact tru_at R1.m bv e1, ?_⟩
    cases k with
    | true => exact iteT ⟨F1, κ1, ρ1, M1, R1, q⟩
    | false => exact iteF (Aft.here (show Aft f F1 κ1 H1 σ (fun F' κ' ρ' M' H' d => ∀ v, RelQ f m F' κ' ρ' σ H' v d → Q v H') (okE ρ1 M1 d) from q) R1 v r)
theorem s_orV (G : GX f c X) {m : Md} (hm : m = .v ∨ m = .b) {a b : E} {x y : Expr} {ys : List Expr} {pos : Pos} (h1 : PE X x (dE f m (ev g φ m a))) (h2 : PE X (.BoolOp .Or (y :: ys) pos) (dE f m (ev g φ m b))) : PE X (.BoolOp .Or (x :: y :: ys) pos) (dE f m (ev g φ m (.or a b))) := by
  refine PE.imp (pe_orT h1 h2) fun σ H Q ⟨F, κ, ρ, M, R, h⟩ => ?_
  have h' : Aft f F κ H σ (fun F' κ' ρ' M' H' d => ∀ v, RelQ f m F' κ' ρ' σ H' v d → Q v H') ((ev g φ m a ρ M).bind fun x ρ M => match tru x with
      | some false => ev g φ m b ρ M
      | some true => okE ρ M x
      | none => none) := by
    rcases hm with rfl | rfl <;> (simp only [ev] at h; exact h)
  refine ⟨F, κ, ρ, M, R, h'.bind.imp fun F1 κ1 ρ1 M1 H1 d g1 R1 ⟨_, q⟩ v r => ?_⟩
  cases e1 : tru d with
  | none => rw [e1] at q; exact q.elim
  | some k =>
    rw [e1] at q
    have bv : Bv f.K f.G F1 κ1 H1 v d := by
      rcases hm with rfl | rfl
      · exact (Rvl.less r (by cases d <;> first | rfl | cases e1)).b R1.m
      · exact r
    refine ⟨k, by rw [G.K]; exact tru_at R1.m bv e1, ?_⟩
    cases k with
    | false => exact iteF ⟨F1, κ1, ρ1, M1, R1, q⟩
    | true => exact iteT (Aft.here (show Aft f F1 κ1 H1 σ (fun F' κ' ρ' M' H' d => ∀ v, RelQ f m F' κ' ρ' σ H' v d → Q v H') (okE ρ1 M1 d) from q) R1 v r)
theorem s_ifeV {m : Md} (hm : m = .v ∨ m = .b) {t a b : E} {w x y : Expr} {pos : Pos} (h : PT X w (dT f (ev g φ .t t))) (h1 : PE X x (dE f m (ev g φ m a))) (h2 : PE X y (dE f m (ev g φ m b))) : PE X (.IfExp w x y pos) (dE f m (ev g φ m (.ife t a b))) := by
  refine PE.imp (pe_ifExp h h1 h2) fun σ H Q ⟨F, κ, ρ, M, R, h⟩ => ?_
  have h' : Aft f F κ H σ (fun F' κ' ρ' M' H' d => ∀ v, RelQ f m F' κ' ρ' σ H' v d → Q v H') ((ev g φ .t t ρ M).bind fun c ρ M => match c with
      | .bl true => ev g φ m a ρ M
      | .bl false => ev g φ m b ρ M
      | _ => none) := by
    rcases hm with rfl | rfl <;> (simp only [ev] at h; exact h)
  refine ⟨F, κ, ρ, M, R, h'.bind.imp fun F1 κ1 ρ1 M1 H1 d g1 R1 ⟨_, q⟩ => ?_⟩
  cases d with
  | bl b =>
    refine ⟨b, rfl, ?_⟩
    cases b with
    | true => exact iteT ⟨F1, κ1, ρ1, M1, R1, q⟩
    | false => exact iteF ⟨F1, κ1, ρ1, M1, R1, q⟩
  | _ => exact q.elim
/-- a op b op c -/
theorem s_chain {m : Md} (hm : Ord m) {o o' : Cm} {a b e : E} {x y z : Expr} {pos : Pos} (h1 : OpR X (compareOp (cmOf o)) (rD2 f fun x y => (cmD o x y).map .bl)) (h2 : OpR X (compareOp (cmOf o')) (rD2 f fun x y => (cmD o' x y).map .bl)) (ha : PE X x (dE f .b (ev g φ .b a))) (hb : PE X y (dE f .b (ev g φ .b b))) (hc : PE X z (dE f .b (ev g φ .b e)))
    (hl : lastMarks [cmOf o, cmOf o'] [y, z] = false) : PE X (.Compare x [cmOf o, cmOf o'] [y, z] pos) (dE f m (ev g φ m (.chain o o' a b e))) := by
  refine PE.imp (pe_chain h1 h2 ha hb hc hl) fun σ H Q ⟨F, κ, ρ, M, R, h⟩ => ?_
  simp only [ev] at h
  refine ⟨F, κ, ρ, M, R, h.bind.imp fun F1 κ1 ρ1 M1 H1 d1 g1 R1 ⟨_, q⟩ v r => ?_⟩
  refine ⟨F1, κ1, ρ1, M1, R1, q.bind.imp fun F2 κ2 ρ2 M2 H2 d2 g2 R2 ⟨_, q⟩ w s => ?_⟩
  cases e1 : cmD o d1 d2 with
  | none => rw [e1] at q; exact q.elim
  | some k =>
    rw [e1] at q
    refine ⟨F2, κ2, ρ2, M2, σ, d1, d2, R2, Rel.go (m := .b) r R1 g2, s, .bl k, by show Option.map D.bl (cmD o d1 d2) = _; rw [e1]; rfl, fun F3 H3 u g3 R3 hu => ⟨k, hu, ?_⟩⟩
    cases k with
    | false => exact iteF (fin_nw hm R3 (show Nw f F3 κ2 ρ2 σ H3 (V.bl false) (D.bl false) from rfl) (q.later g3))
    | true =>
      refine iteT ⟨F3, κ2, ρ2, M2, R3, (q.later g3).bind.imp fun F4 κ4 ρ4 M4 H4 d3 g4 R4 ⟨_, q⟩ w2 s2 => ?_⟩
      cases e2 : cmD o' d2 d3 with
      | none => rw [e2] at q; exact q.elim
      | some k2 =>
        rw [e2] at q
        exact ⟨F4, κ4, ρ4, M4, σ, d2, d3, R4, Rel.go (m := .b) (Rel.go (m := .b) s R2 g3) R3 g4, s2, .bl k2, by show Option.map D.bl (cmD o' d2 d3) = _; rw [e2]; rfl, fun F5 H5 u g5 R5 hu => fin_nw hm R5 hu (q.later g5)⟩
/-- e[::-1] of a list -/
theorem s_rev (G : GX f c X) {m : Md} (hm : Ord m) {a : E} {x : Expr} {k : Nat} {p1 p2 p3 pos : Pos} (h : PE X x (dE f .b (ev g φ .b a))) : PE X (.Subscript x (.Slice none none (some (.UnaryOp .USub (.Constant (.int 1) k p1) p2)) p3) pos) (dE f m (ev g φ m (.rev a))) := by
  refine PE.imp (pe_revL h) fun σ H Q ⟨F, κ, ρ, M, R, h⟩ => ?_
  simp only [ev] at h
  refine ⟨F, κ, ρ, M, R, h.bind.imp fun F1 κ1 ρ1 M1 H1 d g1 R1 ⟨_, q⟩ v r => ?_⟩
  cases d with
  | lst l =>
    obtain ⟨p, vs, rfl, hs, rs, _⟩ := r
    refine ⟨p, vs, rfl, by rw [G.K]; exact SqL.of hs, fun b hb => fin_nw (d := .lst l.reverse) hm (RS.new R1 hb) (nw_new R1 hb ?_) (q.later (Go.new hb))⟩
    have rv : ∀ {vs : List V} {ds : List D}, Rvs f.G F1 κ1 vs ds → Rvs f.G F1 κ1 vs.reverse ds.reverse := by
      intro vs ds h
      induction h with
      | nil => exact .nil
      | cons r t ih => rw [List.reverse_cons, List.reverse_cons]; exact Paired.app ih (.cons r .nil)
    exact rv rs
  | _ => exact q.elim
/-- a display whose list may change -/
theorem s_cell (G : GX f c X) {m : Md} (hm : m = .v ∨ m = .b) {es : List E} {xs : List Expr} {pos : Pos} (h : PA X xs (dA f .v (evs g φ .v es))) : PE X (.List xs pos) (dE f m (ev g φ m (.cell es))) := by
  refine PE.imp (pe_lst h) fun σ H Q ⟨F, κ, ρ, M, R, h⟩ => ?_
  simp only [ev] at h
  refine ⟨F, κ, ρ, M, R, h.bind.imp fun F1 κ1 ρ1 M1 H1 ds g1 R1 ⟨_, q⟩ vs rs => ?_⟩
  cases e1 : mkL ds with
  | none => rw [e1] at q; exact q.elim
  | some d =>
    rw [e1] at q
    obtain ⟨rfl, hl, hn⟩ := mkL_some e1
    have rs' := rvs_less rs hn
    refine ⟨by rw [Paired.length rs', ← line_eq]; exact hl, fun p hp => ?_⟩
    have px : Px κ1 (κ1 ++ [p]) := ⟨[p], rfl⟩
    have np := R1.m.cnone hp
    have mm : RM f.K f.G F1 (κ1 ++ [p]) (M1 ++ [.lst ds]) (upd H1 p (.lst vs)) := by
      have R2 := R1.m.new hp (o := .lst vs)
      refine ⟨fun a d e => ?_, by simp [R2.len], ?_, fun n a co e1 e2 => ?_, R2.tb, R2.scr, ?_⟩
      · exact (R2.fz a d e).go (Ex.refl _) px (Kp.refl κ1 _) (R2.fcell e) fun b fs z => R2.xdc z
      · exact List.nodup_append.mpr ⟨R2.nd, List.nodup_cons.mpr ⟨by simp, List.nodup_nil⟩, fun a ha b hb e => by
          rw [List.mem_singleton] at hb
          rw [← hb, ← e] at np
          exact np ha⟩
      · by_cases hn : n < κ1.length
        · rw [List.getElem?_append_left hn] at e1
          rw [List.getElem?_append_left (by rw [← R2.len]; exact hn)] at e2
          obtain ⟨q1, q2⟩ := R2.co n a co e1 e2
          exact ⟨q1, q2.keep (Ex.refl _) px rfl⟩
        · have hn' : n = κ1.length := by
            have := (List.getElem?_eq_some_iff.mp e1).1
            simp at this
            omega
          subst hn'
          rw [List.getElem?_append_right (Nat.le_refl _), Nat.sub_self] at e1
          rw [R2.len, List.getElem?_append_right (Nat.le_refl _), Nat.sub_self] at e2
          cases e1
          cases e2
          exact ⟨R1.m.fnone hp, vs, upd_same, rs'.mono (Ex.refl _) px⟩
      · have ne : (∃ o, H1 f.G.sa = some o) → R1.m.scn = R1.m.scn → f.G.sa ∉ κ1 ++ [p] ∨ ∀ H, SqL f.K H f.G.sa (f.G.ns.map V.int) := fun ⟨o, e⟩ _ => by
          rcases R1.m.scn with n | n
          · refine .inl fun z => ?_
            rcases List.mem_append.mp z with z | z
            · exact n z
            · rw [List.mem_singleton] at z
              rw [z, hp] at e
              cases e
          · exact .inr n
        rcases R1.m.scr with (z | ⟨o, z⟩) | z
        · exact ne ⟨_, z⟩ rfl
        · exact ne ⟨_, z⟩ rfl
        · exact .inr fun H => .inr z
    have go : Go F1 κ1 H1 F1 (κ1 ++ [p]) (upd H1 p (.lst vs)) := ⟨Ex.refl _, px, fun a ha => by
      rcases List.mem_append.mp ha with z | z
      · exact .inl z
      · rw [List.mem_singleton] at z
        exact .inr (.of (z ▸ hp)), Kp.new hp⟩
    have R2 := RS.step R1 go mm (Nf.refl _ _)
    exact fin_ok hm R2 (d := .cell M1.length) ⟨p, by rw [← R1.m.len, List.getElem?_append_right (Nat.le_refl _), Nat.sub_self]; rfl, rfl⟩ (q.later go)
end
end DV
end
section
set_option Elab.async false
set_option linter.all false
set_option maxRecDepth 100000
set_option maxHeartbeats 1000000
/-! DV23: isinstance, repr, min, max. -/
namespace DV
open PySem PySem.Spec PyProof.Rows L2
section
variable {f : Fr0} {c : Ct} {X : Cx} {g : Cfg} {φ : Phi}
variable {F F' : Fz} {κ κ' : List Addr} {ρ ρ' : Ev} {M M' : Mem} {σ : L2.St} {H H' : Hp}
def tn : D → String
  | .non => "NoneType" | .bl _ => "bool" | .int _ => "int" | .str _ => "str" | .tup _ => "tuple" | .dct _ _ => "dict" | _ => "list"
theorem kit_is {d : D} {t : Ty} {b : Bool} (h : isTy d t = some b) : kitB (tn d) (tyName t) = some b := by
  cases d <;> cases t <;> simp only [isTy, Option.some.injEq, reduceCtorEq] at h <;> subst h <;> (simp only [tn, tyName]; decide +kernel)
theorem ty_at {d : D} {t : Ty} {b : Bool} {v : V} (R : RM f.K f.G F κ M H) (h : isTy d t = some b) (r : Bv f.K f.G F κ H v d) : TyX f.K H v (.type (tn d)) := by
  cases d with
  | non => obtain rfl : v = .non := r; exact .base .non
  | bl x => obtain rfl : v = .bl x := r; exact .base (.bl x)
  | int i => obtain rfl : v = .int i := r; exact .base (.int i)
  | str s => obtain rfl : v = .str (toStr s) := r; exact .base (.str _)
  | tup l => obtain ⟨a, vs, rfl, _, h1, _⟩ := tup_at R r; exact .base (.tup h1)
  | lst l => obtain ⟨a, vs, rfl, h1, _⟩ := r; exact .base (.lst h1)
  | dct l m =>
    obtain ⟨a, rfl, ha⟩ := (show Rv f.G F κ v (.dct l m) from r)
    exact .base (.dK (R.fz a _ ha).1)
  | _ => simp [isTy] at h
theorem any_at {d : D} {v : V} (R : RM f.K f.G F κ M H) (r : Bv f.K f.G F κ H v d) : ∀ {l : List D} {cs : List V} {b : Bool}, isAny C d l = some b → Rvs f.G F κ cs l → ∃ us, Paired ClsV cs us ∧ PySem.W.kitAny f.K (.type (tn d)) us = some b ∧ (l ≠ [] → TyX f.K H v (.type (tn d)))
  | [], _, b, h, .nil => by
    cases h
    exact ⟨[], .nil, kitAny_nil, fun z => absurd rfl z⟩
  | t :: l, c :: cs, b, h, .cons rc t' => by
    simp only [isAny] at h
    cases e1 : isTyD d t with
    | none => rw [e1] at h; cases h
    | some k =>
      cases e2 : isAny C d l with
      | none => rw [e1, e2] at h; cases h
      | some r2 =>
        rw [e1, e2] at h
        cases h
        cases t with
        | ty t =>
          obtain rfl : c = .ty (tyName t) := rc
          have kt : PySem.W.kitOne f.K (.type (tn d)) (.type (tyName t)) = some k := kit_ty (kit_is e1)
          obtain ⟨us, h1, h2, _⟩ := any_at R r e2 t'
          refine ⟨.type (tyName t) :: us, .cons (.ty _) h1, kitAny_cons kt (fun hk => by subst hk; exact h2) (fun hk => by subst hk; rfl), fun _ => ty_at R e1 r⟩
        | _ => cases e1
theorem bi_isi (G : GX f c X) {C : Cls} (hC : C = c.cls) : CallR X (.builtin "isinstance") (rDn f (biD C .isi)) := by
  intro pins s σ H xs us Q I r ⟨F, κ, ρ, M, σ', ds, R, rs, z, e, q⟩
  have here : ∀ w, Nw f F κ ρ σ' H w z → Q w H := fun w y => q F H w (Go.refl F κ H) R y
  match ds, e with
  | [x, t], e =>
    obtain ⟨v, w, rfl, h1, h2⟩ := pair2 rs
    cases t with
    | tup l =>
      cases l with
      | nil => simp [biD, isOne] at e
      | cons t l =>
        simp only [biD] at e
        cases e1 : isAny C x (t :: l) with
        | none => rw [e1] at e; cases e
        | some b =>
          rw [e1] at e
          cases e
          obtain ⟨a, cs, rfl, _, ha, rc⟩ := tup_at R.m h2
          obtain ⟨us', k1, k2, k3⟩ := any_at R.m h1 e1 rc
          exact call_isiT pins s σ H _ us Q I r ⟨v, a, cs, _, us', b, rfl, ha, k1, by rw [G.K]; exact k3 (by simp), by rw [G.K]; exact k2, here _ rfl⟩
    | ty t =>
      simp only [biD, isOne] at e
      cases e1 : isTy x t with
      | none => rw [e1] at e; cases e
      | some b =>
        rw [e1] at e
        cases e
        obtain rfl : w = .ty (tyName t) := h2
        exact call_isi pins s σ H _ us Q I r ⟨v, _, _, _, b, rfl, .ty _, by rw [G.K]; exact ty_at R.m e1 h1, by rw [G.K]; exact kit_ty (kit_is e1), here _ rfl⟩
    | cls k =>
      cases x with
      | ins k2 fs =>
        have e : some (D.bl (below C k2 k)) = some z := e
        cases e
        obtain ⟨a, rfl, ha⟩ := (show Rv f.G F κ v (.ins k2 fs) from h1)
        obtain ⟨C1, dx, nfs, oe, vs, q1, q2, q3, q4, q5, q6, q7, q8⟩ := R.m.fz a _ ha
        obtain ⟨C2, g2, rfl⟩ := (show Rv f.G F κ w (.cls k) from h2)
        have ne : f.G.fld k2 ≠ [] := fun z => by
          rw [z] at q7
          exact q7.2 (List.map_eq_nil_iff.mp q7.1)
        obtain ⟨i1, i2⟩ := G.ek.isi k2 k C1 C2 ne q1 g2
        exact DVE.call_isiE pins s σ H _ us Q I r ⟨a, C1, C2, dx, oe, vs, nfs, _, rfl, i1, q2, q3, q4, q5, q6, i2, here _ (by rw [hC]; rfl)⟩
      | _ => cases e
    | _ => simp [biD, isOne] at e
theorem bi_min (G : GX f c X) {C : Cls} : CallR X (.builtin "min") (rDn f (biD C .min)) := by
  intro pins s σ H xs us Q I r ⟨F, κ, ρ, M, σ', ds, R, rs, z, e, q⟩
  have here : ∀ w, Nw f F κ ρ σ' H w z → Q w H := fun w y => q F H w (Go.refl F κ H) R y
  match ds, e with
  | [.int i, .int j], e =>
    cases e
    obtain ⟨v, w, rfl, h1, h2⟩ := pair2 rs
    obtain rfl : v = .int i := h1
    obtain rfl : w = .int j := h2
    exact call_min2 G.calm pins s σ H _ us Q I r ⟨i, j, rfl, here _ rfl⟩
theorem bi_max (G : GX f c X) {C : Cls} : CallR X (.builtin "max") (rDn f (biD C .max)) := by
  intro pins s σ H xs us Q I r ⟨F, κ, ρ, M, σ', ds, R, rs, z, e, q⟩
  have here : ∀ w, Nw f F κ ρ σ' H w z → Q w H := fun w y => q F H w (Go.refl F κ H) R y
  match ds, e with
  | [.int i, .int j], e =>
    cases e
    obtain ⟨v, w, rfl, h1, h2⟩ := pair2 rs
    obtain rfl : v = .int i := h1
    obtain rfl : w = .int j := h2
    exact call_max2 G.calm pins s σ H _ us Q I r ⟨i, j, rfl, here _ rfl⟩
/-! ### repr -/
mutual
theorem noDict_py : ∀ d : D, D.plain d = true → (toPy d).hasDict = false
  | .non, _ | .bl _, _ | .int _, _ | .str _, _ => by simp [toPy, PyData.hasDict]
  | .tup l, h => by simp only [toPy, PyData.hasDict]; exact noDicts_py l (by simpa [D.plain] using h)
  | .lst l, h => by simp only [toPy, PyData.hasDict]; exact noDicts_py l (by simpa [D.plain] using h)
  | .dct _ _, h => by simp [D.plain] at h
  | .set _, h => by simp [D.plain] at h
  | .ty _, h => by simp [D.plain] at h
  | .fn _, h => by simp [D.plain] at h
  | .cls _, h => by simp [D.plain] at h
  | .lam _ _, h => by simp [D.plain] at h
  | .ins _ _, h => by simp [D.plain] at h
  | .cell _, h => by simp [D.plain] at h
  | .scr, h => by simp [D.plain] at h
theorem noDicts_py : ∀ l : List D, D.plains l = true → PyData.hasDictAll (toPys l) = false
  | [], _ => by simp [toPys, PyData.hasDictAll]
  | x :: l, h => by
    simp only [D.plains, Bool.and_eq_true] at h
    simp only [toPys, PyData.hasDictAll, Bool.or_eq_false_iff]
    exact ⟨noDict_py x h.1, noDicts_py l h.2⟩
end
theorem toStr_list (s : Str) : toStr s.cps.toList = s := rfl
theorem bi_repr (G : GX f c X) (hu : X.A.units + 64 < cLine) {C : Cls} : CallR X (.builtin "repr") (rDn f (biD C .repr)) := by
  intro pins s σ H xs us Q I r ⟨F, κ, ρ, M, σ', ds, R, rs, z, e, q⟩
  have here : ∀ w, Nw f F κ ρ σ' H w z → Q w H := fun w y => q F H w (Go.refl F κ H) R y
  match ds, e with
  | [d], e =>
    obtain ⟨v, rfl, h1⟩ := pair1 rs
    obtain ⟨u, rfl, ru⟩ := vals1 r
    simp only [biD] at e
    cases es : D.show d with
    | none => rw [es] at e; cases e
    | some t =>
      rw [es] at e
      cases e
      unfold D.show at es
      split at es
      · rename_i hz
        cases es
        simp only [Bool.and_eq_true, decide_eq_true_eq] at hz
        obtain ⟨⟨he, hsh⟩, hl⟩ := hz
        have hp : D.plain d = true := by simp only [easy, Bool.and_eq_true] at he; exact he.1
        have hd : D.dep d ≤ 40 := by simp only [easy, Bool.and_eq_true, decide_eq_true_eq] at he; exact he.2
        have hl' : (toPy d).shown.length ≤ sizeLine := by
          rw [← line_eq]
          show (toPy d).shown.cps.size ≤ LINE
          simpa using hl
        have fin : ∀ {tk : Nat} {u : Tok}, Inv X pins σ H { s with toks := tk } → EP X pins σ Q (.str (toPy d).shown u) { s with toks := tk } := fun {tk u} I' =>
          ⟨.str (toPy d).shown, H, I', ⟨u, rfl⟩, here _ (show Rv f.G F κ (V.str (toPy d).shown) (D.str (toPy d).shown.cps.toList) from rfl)⟩
        have big : ∀ {a : Addr}, u = .ref a → wpAny (model X.prog X.w) X.A (call (.builtin "repr") [u]) (EP X pins σ Q) X.xe s := fun {a} ea => by
          subst ea
          obtain ⟨as, ra⟩ := reads_bv I (by rw [G.K]; exact R.m) hp (by rw [G.K]; exact h1) ru
          refine repr_of_reads' ra hsh (PyData.noDict_hsm (noDict_py d hp)) G.gd (by rw [dep_py]; omega) (fun _ _ e => e) (fun h' u tk hk => ?_) hl'
          exact ⟨.str (toPy d).shown, H, I.kept (t' := tk) hk, ⟨u, rfl⟩, here _ (show Rv f.G F κ (V.str (toPy d).shown) (D.str (toPy d).shown.cps.toList) from rfl)⟩
        cases d with
        | non =>
          obtain rfl : v = .non := h1
          obtain rfl : u = .none := ru
          exact PySem.P.repr_of_none (fin (I.tok _))
        | bl b =>
          obtain rfl : v = .bl b := h1
          obtain rfl : u = .bool b := ru
          exact PySem.P.repr_of_bool (fin (I.tok _))
        | int i =>
          obtain rfl : v = .int i := h1
          obtain ⟨t, rfl⟩ : ∃ t, u = .int i t := ru
          exact PySem.P.repr_of_int (by simpa [toPy, PyData.showable] using hsh) (fin (I.tok _))
        | str x =>
          obtain rfl : v = .str (toStr x) := h1
          obtain ⟨t, rfl⟩ : ∃ t, u = .str (toStr x) t := ru
          exact PySem.P.repr_of_str (fin (I.tok _)) hl'
        | tup l =>
          obtain ⟨a, rfl, _⟩ := h1
          exact big (show u = Value.ref a from ru)
        | lst l =>
          obtain ⟨a, _, rfl, _⟩ := h1
          exact big (show u = Value.ref a from ru)
        | _ => simp [D.plain] at hp
      · cases es
end
end DV
end
section
set_option Elab.async false
set_option linter.all false
set_option maxRecDepth 100000
set_option maxHeartbeats 1000000
/-! DV24: products. -/
namespace DV
open PySem PySem.Spec PyProof.Rows L2
section
variable {f : Fr0} {c : Ct} {X : Cx} {g : Cfg} {φ : Phi}
variable {F F' : Fz} {κ κ' : List Addr} {ρ ρ' : Ev} {M M' : Mem} {σ : L2.St} {H H' : Hp}
theorem rep_rv {G : Gb} {vs : List V} {l : List D} (r : Rvs G F κ vs l) : ∀ n : Nat, Rvs G F κ (List.replicate n vs).flatten (repeatL l n)
  | 0 => .nil
  | n + 1 => by
    rw [List.replicate_succ, List.flatten_cons]
    exact Paired.app r (rep_rv r n)
theorem op_mulD (G : GX f c X) : OpR X (binaryOp .Mult) (rD2 f (opD .mul)) := by
  intro pins s σ H x y v u Q I rx ry ⟨F, κ, ρ, M, σ', d, e, R, bx, bee, r, hp, q⟩
  have here : ∀ w, Nw f F κ ρ σ' H w r → Q w H := fun w z => q F H w (Go.refl F κ H) R z
  cases d <;> cases e <;> simp only [opD, mulD, reduceCtorEq] at hp
  · split at hp
    · rename_i z
      cases hp
      simp only [Bool.or_eq_true] at z
      refine op_mul pins s σ H x y v u Q I rx ry ⟨_, _, bx, bee, ?_, here _ rfl⟩
      rcases z with z | z
      · exact .inl (small64_iff z)
      · exact .inr (small64_iff z)
    · cases hp
  · rename_i l b
    split at hp
    · rename_i z
      cases hp
      simp only [Bool.and_eq_true, decide_eq_true_eq] at z
      obtain ⟨⟨⟨z1, z2⟩, z3⟩, z4⟩ := z
      obtain ⟨p, vs, rfl, _, h1, rs⟩ := tup_at R.m bx
      obtain rfl : y = .int b := bee
      refine op_repT pins s σ H _ _ v u Q I rx ry ⟨p, b, vs, rfl, rfl, by rw [G.K]; exact SqT.of h1, fun e => ?_, z2, z3, by rw [Paired.length rs]; exact z4, fun p' hp' => ?_⟩
      · subst e
        cases rs
        cases z1
      · obtain ⟨g1, R1⟩ := RS.tree (d := .tup (repeatL l b.toNat)) (o := .tup (List.replicate b.toNat vs).flatten) R hp' fun F' ex => ⟨_, upd_same, rep_rv (rs.mono ex (Px.refl _)) _⟩
        exact q _ _ _ g1 R1 ⟨p', rfl, fput_same⟩
    · cases hp
  · rename_i l b
    split at hp
    · rename_i z
      cases hp
      simp only [Bool.and_eq_true, decide_eq_true_eq] at z
      obtain ⟨⟨z1, z2⟩, z3⟩ := z
      obtain ⟨p, vs, rfl, h1, rs, _⟩ := bx
      obtain rfl : y = .int b := bee
      refine op_rep pins s σ H _ _ v u Q I rx ry ⟨p, b, vs, rfl, rfl, h1, ?_, ?_, ?_, fun p' hp' => ?_⟩
      · rw [show (2 : Int) ^ 63 = 9223372036854775808 from by decide]; exact z1
      · rw [show (2 : Int) ^ 63 = 9223372036854775808 from by decide]; exact z2
      · rw [Paired.length rs, ← line_eq]; exact z3
      · exact q _ _ _ (Go.new hp') (RS.new R hp') (nw_new R hp' (rep_rv rs _))
    · cases hp
theorem op_all (G : GX f c X) (o : Op) : OpR X (binaryOp (opOf o)) (rD2 f (opD o)) := by
  cases o
  · exact op_addD G
  · exact op_subD G
  · exact op_mulD G
  · exact op_fdivD G
  · exact op_modD G
  · exact op_powD G
/-! ### how a test goes -/
def plainTest : Expr → Bool
  | .UnaryOp .Not _ _ | .BoolOp .. | .IfExp .. | .Compare .. => false
  | _ => true
theorem plain_test {x : Expr} {env : Env} (h : plainTest x = true) : ∀ whole, isTrue x env whole = (do let v ← whole; standAt x.pos; holding [v] (truthy v)) := by
  intro whole
  cases x <;> first
    | rfl
    | (rename_i o _ _; cases o <;> first
        | rfl
        | cases h)
    | cases h
def noSet : Expr → Bool
  | .Set .. => false
  | _ => true
theorem folded_no {x : Expr} {env : Env} (h : noSet x = true) : ∀ v, foldedSetIterable x env v = pure v := by
  intro v
  cases x <;> first
    | rfl
    | cases h
theorem marks_no {x : Expr} {op : CmpOp} (h : noSet x = true) : behindInMarks op x = false := by
  cases x <;> first
    | rfl
    | cases h
end
end DV
end
section
set_option Elab.async false
set_option linter.all false
set_option maxRecDepth 100000
set_option maxHeartbeats 1000000
/-! DV25: the call of a lambda that a def was given. -/
namespace DV
open PySem PySem.Spec PyProof.Rows L2
section
variable {f : Fr0} {c : Ct} {X : Cx} {g : Cfg} {φ : Phi}
variable {F F' : Fz} {κ κ' : List Addr} {ρ ρ' : Ev} {M M' : Mem} {σ : L2.St} {H H' : Hp}
theorem rec_keeps {B h : Heap} {cv : Value} {q : Str} (k : ∀ b o, B.get? b = some o → h.get? b = some o) (r : B.CodeRec cv q) : h.CodeRec cv q := by
  obtain ⟨c2, oc, vs, t, e, h1, h2, h3⟩ := r
  exact ⟨c2, oc, vs, t, e, k _ _ h1, h2, h3⟩
theorem code_rec {F1 : Fz} {pins : List (Addr × Obj)} {s : Shared} {q : Str} {c' : Addr} (I : Inv X pins σ H s) (R : f.RS F κ ρ M σ H) (e : Ex F1 F) (h : ∃ f' l' L', F1 c' = some (.lam f' l') ∧ f.G.lam f' = some L' ∧ L'.qual = q) : s.heap.CodeRec (.ref c') q := by
  obtain ⟨f', l', L', q1, q2, rfl⟩ := h
  obtain ⟨L, z1, z2⟩ := R.m.fz _ _ (e _ _ q1)
  rw [q2] at z1
  cases z1
  obtain ⟨⟨oc, vs, t, hoc, hd, hv⟩, _⟩ := I.hok _ _ z2
  exact ⟨c', oc, vs, t, rfl, hoc, hd, hv⟩
/-- the lambda runs, its values given -/
theorem run_lam (G : GX f c X) {L : List Shp} (C : GC f X φ L) {m : Md} (hm : m = .v ∨ m = .b) {i : Nat} {Li : LamI} {caps ds : List D} {cs vs : List V} {us : List Value} {a c' : Addr} {cl : List (Str × Addr)} {pm ctv : Value} {pins : List (Addr × Obj)} {s : Shared} {Q : VK}
    (hL : f.G.lam i = some Li) (I : Inv X pins σ H s) (R : f.RS F κ ρ M σ H) (hf : s.heap.get? a = some (PySem.W.kla_obj "<lambda>" Li.qual Li.params Li.body Li.scope cl pm c' ctv)) (hc : s.heap.CodeRec (.ref c') Li.qual) (CA : NdefX.CellsAt cl Li.fr (cs.map some) s.heap H)
    (r : Vals vs us) (rs : Paired (Rvl f.G f.B F κ) vs ds) (rc : Rvs f.G F κ cs caps) (q : Aft f F κ H σ (fun F' κ' ρ' M' H' d => ∀ v, RelQ f m F' κ' ρ' σ H' v d → Q v H') (ansO (φ i (ds ++ caps) M) ρ (fin m))) :
    wpAny (model X.prog X.w) X.A (call (.ref a) us) (EP X pins σ Q) X.xe s := by
  obtain ⟨k, hr, _, hl, _⟩ := C.ex
  have sp := call_aft (vs := vs ++ cs) hm R (Paired.app rs (Paired.mapP rc fun _ _ z => Rv.l z)) q
  refine wpAny_call (codeAny_mono ((hl i Li hL).run X.A X.stack s H a c' cl pm ctv us vs cs Q _ hr G.gd I.env0 hf hc CA r (by rw [G.K]; exact sp)) fun r s' hq => ?_)
  cases r with
  | error e => exact G.takes e s' (XE.of_call I (fun _ _ _ z => z) hq)
  | ok fl =>
    cases fl with
    | ret u => exact I.after hq
    | next => exact False.elim hq
    | brk => exact False.elim hq
    | cont => exact False.elim hq
theorem cells_base (G : GX f c X) {pins : List (Addr × Obj)} {s : Shared} (I : Inv X pins σ H s) {cl : List (Str × Addr)} {fr : List Str} {cs : List V} (h1 : cs.length = fr.length) (h2 : ∀ y c, cl.lookup y = some c → ∃ v, X.base.IsCell c v) (h3 : ∀ x y c, cl.lookup x = some c → cl.lookup y = some c → x = y)
    (h4 : ∀ (i : Nat) (y : Str), fr[i]? = some y → ∃ c u w, cl.lookup y = some c ∧ cs[i]? = some w ∧ RelV w u ∧ X.base.IsCell c (some u)) : NdefX.CellsAt cl fr (cs.map some) s.heap H := by
  refine ⟨by rw [List.length_map]; exact h1, fun y c e => ?_, h3, fun i y e => ?_⟩
  · obtain ⟨v, o, ho, hd⟩ := h2 y c e
    exact ⟨(I.bs c o ho).2, v, o, I.bk c o ho, hd⟩
  · obtain ⟨c, u, w, k1, k2, k3, o, ho, hd⟩ := h4 i y e
    refine ⟨c, k1, fun v hv => ?_⟩
    rw [List.getElem?_map, k2] at hv
    cases hv
    exact ⟨u, k3, o, I.bk c o ho, hd⟩
theorem s_callv (G : GX f c X) {L : List Shp} (C : GC f X φ L) {m : Md} (hm : m = .v ∨ m = .b) {i : Nat} {es : List E} {x : Str} {y : Expr} {ys : List Expr} {p pos : Pos} (hN : c.N[i]? = some x) (hv : Vis c.sc x) (hd : (x == ("__debug__" : Str)) = false) (hcd : (x == ("__classdict__" : Str)) = false)
    (hst : ∀ z ∈ y :: ys, ∀ e' p, z ≠ .Starred e' p) (ha : PA X (y :: ys) (dA f .v (evs g φ .v es))) : PE X (.Call (.Name x p) (y :: ys) [] pos) (dE f m (ev g φ m (.callv i es))) := by
  refine ⟨fun pins s σ H Q I ⟨F, κ, ρ, M, R, h⟩ => ?_⟩
  simp only [ev] at h
  cases e0 : ρ[i]? with
  | none => rw [e0] at h; exact h.elim
  | some en =>
    rw [e0] at h
    cases en with
    | fz d =>
      cases d with
      | lam k caps =>
        obtain ⟨v, hσ, Li, cs, hL, hA, rc⟩ := R.sl i _ e0
        obtain ⟨a, cl, pm, c', ctv, rfl, b1, b2, b3, b4, b5, b6⟩ := hA
        rw [← G.B] at b1 b4 b6
        refine wpAny_Call_Name_kw (thn ((pe_var (pos := p) (i := i) (by rw [G.N]; exact hN) (by rw [G.sc]; exact hv) hd hcd).run pins s σ H (fun v H1 => v = .ref a ∧ H1 = H) I ⟨.ref a, hσ, rfl, rfl⟩) fun u s1 ⟨v, H1, I1, r1, q1⟩ => ?_)
        obtain ⟨ev, eH⟩ := q1
        subst ev
        rw [eH] at I1
        obtain rfl : u = Value.ref a := r1
        refine PySem.W.callWith_F (first := []) ⟨_, _, _, _, I1.bk _ _ b1⟩ (thn (ha.run pos pins s1 σ H (fun vs H2 => wpAny (model X.prog X.w) X.A (pure ()) (fun _ _ => True) (fun _ _ => True) s1 ∧ ∃ F5 κ ρ M ds, Ex F F5 ∧ f.RS F5 κ ρ M σ H2 ∧ Paired (Rvl f.G f.B F5 κ) vs ds ∧ Rvs f.G F5 κ cs caps ∧ Aft f F5 κ H2 σ (fun F' κ' ρ' M' H' d => ∀ v, RelQ f m F' κ' ρ' σ H' v d → Q v H') (ansO (φ k (ds ++ caps) M) ρ (fin m))) I1 ?_) fun us s2 ⟨vs, H2, I2, r2, _, F2, κ2, ρ2, M2, ds, g2, R2, rs, rc2, q2⟩ => ⟨⟨_, _, _, _, I2.bk _ _ b1⟩, ?_⟩) (noStar (hst y List.mem_cons_self)) (noStars fun z m => hst z (List.mem_cons_of_mem _ m))
        · refine ⟨F, κ, ρ, M, R, h.bind.imp fun F1 κ1 ρ1 M1 H1 ds g1 R1 ⟨_, q⟩ vs rs => ⟨wpAny_pure trivial, F1, κ1, ρ1, M1, ds, g1.ex, R1, rs, rc.mono g1.ex g1.px, q⟩⟩
        · exact run_lam G C hm hL I2 R2 (I2.bk _ _ b1) (code_rec I2 R2 g2 b2) (cells_base G I2 b3 b4 b5 b6) r2 rs rc2 q2
      | _ => exact h.elim
    | _ => exact h.elim
end
end DV
end
section
set_option Elab.async false
set_option linter.all false
set_option maxRecDepth 100000
set_option maxHeartbeats 1000000
/-! DV26: a larger ground. -/
namespace DV
open PySem PySem.Spec PyProof.Rows L2
/-- part of a heap -/
theorem part (h : Heap) (p : Addr → Bool) : ∃ B : Heap, (∀ b o, B.get? b = some o ↔ (p b = true ∧ h.get? b = some o)) ∧ B.objs.size = h.objs.size := by
  refine ⟨⟨h.objs.mapIdx fun i o => if p i then o else { o with data := .freed }, h.life⟩, fun b o => ?_, by simp⟩
  show (match (h.objs.mapIdx fun i o => if p i then o else { o with data := Data.freed })[b]? with
    | some ⟨_, _, .freed, _⟩ => none
    | o => o) = some o ↔ (p b = true ∧ (match h.objs[b]? with
    | some ⟨_, _, .freed, _⟩ => none
    | o => o) = some o)
  rw [Array.getElem?_mapIdx]
  cases e : h.objs[b]? with
  | none => simp
  | some u =>
    cases hp : p b with
    | true => simp [hp]
    | false => simp [hp]
section
variable {X : Cx} {pins : List (Addr × Obj)} {σ : L2.St} {H : Hp} {s : Shared}
theorem mod_up {K : PySem.W.Frag} {mg : Str → Option Value} {B B' : Heap} (m : L2.Mod K mg B) (k : ∀ b o, B.get? b = some o → B'.get? b = some o) : L2.Mod K mg B' :=
  ⟨m.kin.keeps k, m.glob.keeps k, let ⟨mb, h1, h2⟩ := m.blt; ⟨mb, h1.keeps k, h2⟩, m.nolimit.keeps k⟩
/-- the ground with the objects at as too -/
theorem up (I : Inv X pins σ H s) (as : List Addr) (h1 : ∀ a ∈ as, H a = none) (h2 : ∀ a ∈ as, a ∉ frs X.stack) :
    ∃ B : Heap, (∀ b o, X.base.get? b = some o → B.get? b = some o) ∧ (∀ a ∈ as, ∀ o, s.heap.get? a = some o → B.get? a = some o) ∧ Env0 X.prog X.w X.K X.mg B X.A X.stack s H := by
  obtain ⟨B, hB, hz⟩ := part s.heap fun b => (X.base.get? b).isSome || as.contains b
  have k : ∀ b o, X.base.get? b = some o → B.get? b = some o := fun b o e => (hB b o).mpr ⟨by rw [e]; rfl, I.bk b o e⟩
  have e0 := I.env0
  refine ⟨B, k, fun a ha o e => (hB a o).mpr ⟨by simp [ha], e⟩, e0.frames, mod_up e0.mod k, fun b o e => ?_, Nat.le_of_eq hz, ?_, e0.frf, e0.hok, e0.bare⟩
  · obtain ⟨p, e⟩ := (hB b o).mp e
    refine ⟨e, ?_⟩
    simp only [Bool.or_eq_true, List.contains_iff_mem] at p
    rcases p with p | p
    · obtain ⟨o', e'⟩ := Option.isSome_iff_exists.mp p
      exact (I.bs b o' e').2
    · exact h1 b p
  · have fr : ∀ {l : List Env}, s.heap.FunFrames X.base l → (∀ a ∈ as, a ∉ frs l) → s.heap.FunFrames B l := by
      intro l
      induction l with
      | nil => exact fun _ _ => trivial
      | cons e l ih =>
        intro ⟨g1, ⟨L, o, g2, g3, g4, g5⟩, g6⟩ hn
        refine ⟨g1, ⟨L, o, g2, ?_, g4, g5⟩, ih g6 fun a ha z => hn a ha ?_⟩
        · cases q : B.get? L with
          | none => rfl
          | some u =>
            obtain ⟨p, _⟩ := (hB L u).mp q
            rw [g3] at p
            simp only [Option.isSome_none, Bool.false_or, List.contains_iff_mem] at p
            exact absurd (by show L ∈ List.filterMap (·.frame) (e :: l); rw [List.filterMap_cons, g2]; exact List.mem_cons_self) (hn L p)
        · show a ∈ List.filterMap (·.frame) (e :: l)
          rw [List.filterMap_cons, g2]
          exact List.mem_cons_of_mem _ z
    exact fr e0.funs h2
end
end DV
end
section
set_option Elab.async false
set_option linter.all false
set_option maxRecDepth 100000
set_option maxHeartbeats 1000000
/-! DV27: a lambda is made and handed to a def. -/
namespace DV
open PySem PySem.Spec PyProof.Rows L2
section
variable {f : Fr0} {c : Ct} {X : Cx} {g : Cfg} {φ : Phi}
variable {F F' : Fz} {κ κ' : List Addr} {ρ ρ' : Ev} {M M' : Mem} {σ : L2.St} {H H' : Hp}
/-- behind the making of a lambda -/
theorem ext_ltr (R : RM f.K f.G F κ M H) {H1 : Hp} (e : LamX.ExtN H H1) (t : LamX.Tabs f.G.T H1) : Ltr f F κ H F κ M H1 := by
  have kp : Kp κ H H1 := ⟨fun a o h _ t => e a o h t, fun a o h _ t => ⟨o, e a o h t, t, id⟩⟩
  refine ⟨⟨Ex.refl _, Px.refl _, fun _ m => .inl m, kp⟩, ⟨fun a d q => (R.fz a d q).go (Ex.refl _) (Px.refl _) kp (R.fcell q) (fun b fs z => R.xdc z), R.len, R.nd, fun n a co e1 e2 => ?_, t, SqL.go R.scr kp R.scn, R.scn⟩, Nf.refl _ _⟩
  obtain ⟨q1, q2⟩ := R.co n a co e1 e2
  obtain ⟨o, ho, nt⟩ := q2.some
  exact ⟨q1, q2.keep (Ex.refl _) (Px.refl _) ((e a o ho nt).trans ho.symm)⟩
theorem make_lam (m : Mk f X) {params : Arguments} {body : Expr} {scope : Scope} {pos : Pos} {pins : List (Addr × Obj)} {s : Shared} {Q : Value → Shared → Prop} {E : Value → Shared → Prop} (I : Inv X pins σ H s) (R : f.RS F κ ρ M σ H) (hdef : defaultsOf params X.env = ([], [])) (hfree : ∀ y ∈ scope.names, y.2 = .free → ∃ c, X.env.cells.lookup y.1 = some c)
    (h : ∀ (a c' : Addr) (pm ctv : Value) (H1 : Hp) (s' : Shared), Inv X pins σ H1 s' → Ltr f F κ H F κ M H1 → s'.heap.get? a = some (PySem.W.kla_obj "<lambda>" (X.env.qual ++ "<lambda>") params body scope (cloFrom X.env.cells scope.names []) pm c' ctv) → H1 a = none → a ∉ frs X.stack → s'.heap.CodeRec (.ref c') (X.env.qual ++ "<lambda>") → H1 c' = some (LamX.CodeO c' (X.env.qual ++ "<lambda>")) → Q (.ref a) s') :
    wpAny (model X.prog X.w) X.A (eval (.Lambda params body scope pos) X.env) Q E s := by
  obtain ⟨cc, P, k1, k2, k3, k4⟩ := m.ex
  refine LamX.lam_make2 I k2 k1 k3 k4 R.m.tb hdef hfree fun a c' pm ctv H1 s' I1 e1 t1 hf hn hfr hc => ?_
  obtain ⟨⟨oc, vs, t, hoc, hd, hv⟩, _⟩ := I1.hok c' _ hc
  exact h a c' pm ctv H1 s' I1 (ext_ltr R.m e1 t1) hf hn hfr ⟨c', oc, vs, t, rfl, hoc, hd, hv⟩ hc
end
end DV
end
section
set_option Elab.async false
set_option linter.all false
set_option maxRecDepth 100000
set_option maxHeartbeats 1000000
/-! DV28: tuples sort, the empty one among them. -/
namespace DV
open PySem PySem.Calls PySem.SeqAt PyProof.Rows PySem.W
section
variable {prog : Program} {w : World} {A : Around} {E : Value → Shared → Prop} {s : Shared}
theorem call_tup_lt {Q : Value → Shared → Prop} {l b : Addr} {items items2 : Array Value} {e r : Nat → Bool} (hl : s.heap.IsTuple l items) (hb : s.heap.IsTuple b items2)
    (he : ∀ j (h1 : j < items.size) (h2 : j < items2.size), EqAt A.in1 s items[j] items2[j] (e j)) (hr : ∀ j (h1 : j < items.size) (h2 : j < items2.size), e j = false → RcLt A.in1 s items[j] items2[j] (r j))
    (h : Q (.bool (firstLt e r (decide (items.size < items2.size)) (List.range (min items.size items2.size)))) s) : wpAny (model prog w) A (call (.builtin "tuple.__lt__") [.ref l, .ref b]) Q E s := by
  obtain ⟨⟨c1, d1, t1, s1⟩, ho, hc, n, hd⟩ := id hl
  obtain ⟨⟨c2, d2, t2, s2⟩, ho2, hc2, n2, hd2⟩ := id hb
  simp only at hc hd hc2 hd2
  subst hc hd hc2 hd2
  exact call_meets F.slot_tuple_lt ⟨_, ho, rfl⟩ F.entry_tuple_lt (F.args_tuple_lt_2 _ _) (SeqAt.tuple_ltAt l b items items2 n n2 d1 d2 s1 s2 e r) ⟨ho, ho2, he, hr, h⟩
theorem oneLt_tup {f : Bool} {xs ys : List PyData} {a b : Value} {as bs : List Addr} {Q : Bool → Shared → Prop} (ra : Reads s.heap a (.tuple xs) as) (rb : Reads s.heap b (.tuple ys) bs) (h : alike (.tuple xs) (.tuple ys) = true)
    (hu : A.units + min (PyData.tuple xs).depth (PyData.tuple ys).depth < cLine) (hq : Q (dataLt (.tuple xs) (.tuple ys)) s) : wpAny (model prog w) A (oneLt' f a b) Q E s := by
  cases f with
  | false => exact oneLt_alike (fun z => nomatch z) ra rb h (fun z => nomatch z) hu hq
  | true =>
    have hal : alikeAll xs ys = true := by simpa [alike] using h
    cases ra with
    | @tuple l o vs n _ as₁ h1 h2 h3 h4 =>
      cases rb with
      | @tuple l' o' vs' n' _ bs₁ k1 k2 k3 k4 =>
        have n1 : vs.size = xs.length := by simpa using ReadsAll.length _ _ _ h4
        have n2 : vs'.size = ys.length := by simpa using ReadsAll.length _ _ _ k4
        rw [dataLt_tuple, ← firstLt_toks xs ys hal, ← n1, ← n2] at hq
        rw [oneLt'_eq]
        simp only [if_true]
        refine wpAny_bind (wpAny_cRoomFor (room_here hu) ?_)
        refine wpAny_bind (wpAny_callSpecialIfBound?_slot (T := "tuple") ⟨_, h1, h2⟩ F.slot_tuple_lt (call_tup_lt (e := pairEq xs ys) (r := fun j => dataLt (xs.getD j .none) (ys.getD j .none)) ⟨_, h1, h2, _, h3⟩ ⟨_, k1, k2, _, k3⟩ (fun j j1 j2 => ?_) (fun j j1 j2 hj => ?_) ?_))
        · have := eqAt_alikeAll xs ys A.in1 s vs.toList vs'.toList _ _ h4 k4 hal (room_in hu) j (by simpa using j1) (by simpa using j2)
          simpa using this
        · have := rcLt_alikeAll xs ys A.in1 s vs.toList vs'.toList _ _ h4 k4 hal (room_in hu) j (by simpa using j1) (by simpa using j2) hj
          simpa using this
        · exact wpAny_truthy_bool hq
/-- a tuple with an item -/
def neT : PyData → Bool
  | .tuple (_ :: _) => true
  | _ => false
theorem firsts_tups : ∀ (vs : List Value) (ds : List PyData), EachIs (fun v d => ∃ as, Reads s.heap v d as) vs ds → (∀ d ∈ ds, ∃ t, d = .tuple t) → ∀ {Q : List (Option Value) → Shared → Prop},
    (∀ fs : List (Option Value), fs.map (·.isSome) = ds.map neT → Q fs s) → wpAny (model prog w) A (vs.mapM firstOfTuple') Q E s
  | _, _, .nil, _, Q, h => by rw [List.mapM_nil]; exact wpAny_pure (h [] rfl)
  | _, _, .cons (a := v) (as := vs) (b := d) (bs := ds) ⟨as, r⟩ t, ht, Q, h => by
    obtain ⟨xs, rfl⟩ := ht d List.mem_cons_self
    cases r with
    | @tuple a o its n _ _ ho hc hd hr =>
      rw [List.mapM_cons]
      refine wpAny_bind ?_
      rw [kas_first_eq]
      refine wpAny_bind (Looks.here (show Looks (model prog w) s.heap (typeOf (.ref a)) o.cls from (Looks.ld ho).andThen .now) ?_)
      rw [hc, if_neg (by first | decide | simp)]
      refine wpAny_bind (listItems_at ho hd (wpAny_pure ?_))
      refine wpAny_bind (firsts_tups vs ds t (fun d hd => ht d (List.mem_cons_of_mem _ hd)) fun fs hf => wpAny_pure (h _ ?_))
      rw [List.map_cons, List.map_cons, hf]
      congr 1
      have e : its[0]? = its.toList[0]? := by rw [Array.getElem?_toList]
      rw [e]
      have l := ReadsAll.length _ _ _ hr
      cases xs with
      | nil =>
        cases q : its.toList with
        | nil => rfl
        | cons y ys => rw [q] at l; cases l
      | cons x xs =>
        cases q : its.toList with
        | nil => rw [q] at l; cases l
        | cons y ys => rfl
theorem kind_tups {vs : List Value} {d : PyData} {ds : List PyData} (e : EachIs (fun v d => ∃ as, Reads s.heap v d as) vs (d :: ds)) (ht : ∀ x ∈ d :: ds, ∃ t, x = .tuple t) (hn : (d :: ds).all neT = false) {Q : SortKind → Shared → Prop} (h : Q (if neT d = true then general' else oneType') s) :
    wpAny (model prog w) A (keyKind' vs.toArray) Q E s := by
  rw [keyKind'_eq, List.mapM_toArray, map_eq_pure_bind]
  refine wpAny_bind (wpAny_bind (firsts_tups vs _ e ht fun fs hf => wpAny_pure ?_))
  have h1 : (fs.toArray.all fun x => x.isSome) = false := by
    rw [List.all_toArray]
    have : fs.all (fun x => x.isSome) = (fs.map (·.isSome)).all id := by rw [List.all_map]; rfl
    rw [this, hf, List.all_map]
    exact hn
  rw [if_neg (by rw [h1]; exact Bool.false_ne_true)]
  have h2 : (fs.toArray[0]?.bind id).isSome = neT d := by
    rw [List.getElem?_toArray]
    cases fs with
    | nil => cases hf
    | cons x fs =>
      rw [List.map_cons, List.map_cons] at hf
      injection hf with e1 e2
  rw [h2]
  cases q : neT d with
  | true =>
    rw [q] at h
    rw [if_pos rfl]
    exact wpAny_pure h
  | false =>
    rw [q] at h
    rw [if_neg Bool.false_ne_true]
    rw [oneTypeOnly'_eq, List.mapM_toArray, map_eq_pure_bind]
    have lk : ∀ v ∈ vs, Looks (model prog w) s.heap (typeOf v) (Value.type "tuple") := fun v hv => by
      obtain ⟨x, hx, as, r⟩ := e.left v hv
      obtain ⟨t, rfl⟩ := ht x hx
      exact looks_reads r
    refine wpAny_bind (wpAny_bind (wpAny_bind (kas_mapM (r := Value.type "tuple") _ (fun v hv Q' hq => (lk v hv).here hq) (wpAny_pure ?_))))
    have hv : vs ≠ [] := by
      rintro rfl
      cases e
    obtain ⟨v, vs, rfl⟩ := List.exists_cons_of_ne_nil hv
    have hall : ((List.map (fun _ => Value.type "tuple") (v :: vs)).toArray.all fun x => x == Value.type "tuple") = true := by
      simp only [List.all_toArray, List.all_map, List.all_eq_true]
      intro _ _
      exact beq_self_eq_true (Value.type "tuple")
    have h0 : (List.map (fun _ => Value.type "tuple") (v :: vs)).toArray[0]? = some (Value.type "tuple") := by simp
    rw [h0]
    simp only [hall, if_true]
    exact wpAny_pure (wpAny_pure h)
/-- alike data sort, None apart -/
theorem sorts_any {vs : List Value} {ds : List PyData} (e : EachIs (fun v d => ∃ as, Reads s.heap v d as) vs ds) (hal : AllAlike ds) (hk : ∀ d ∈ ds, d ≠ .none) (hu : ∀ d, d ∈ ds → A.units + d.depth < cLine) : SortsAt prog w A s (dataKind s.heap ds) vs := by
  cases ds with
  | nil => exact SortsAt.data e hal (.inr fun d hd => nomatch hd) hu
  | cons d ds =>
    by_cases ht : ∃ t, d = .tuple t
    · have ha : ∀ x ∈ d :: ds, ∃ t, x = .tuple t := fun x hx => by
        obtain ⟨t, rfl⟩ := ht
        have := hal x hx _ List.mem_cons_self
        cases x <;> first | exact ⟨_, rfl⟩ | exact absurd this (by simp [alike])
      by_cases hn : (d :: ds).all neT = true
      · refine SortsAt.data e hal (.inl fun x hx => ?_) hu
        obtain ⟨t, rfl⟩ := ha x hx
        have := List.all_eq_true.mp hn _ hx
        cases t with
        | nil => cases this
        | cons y t => exact ⟨y, t, rfl⟩
      · have hn : (d :: ds).all neT = false := by simpa using hn
        refine ⟨fun v hv => ?_, if neT d = true then general' else oneType', ?_, fun _ E Q hq => kind_tups e ha hn hq⟩
        · obtain ⟨x, hx, as, r⟩ := e.left v hv
          exact ⟨_, dataKind_some hal hx r⟩
        · intro E x y a b Q h1 h2 hq
          obtain ⟨dx, as, hx, ra, rfl⟩ := dataKind_inv h1
          obtain ⟨dy, bs, hy, rb, rfl⟩ := dataKind_inv h2
          have hxy := hal dx hx dy hy
          obtain ⟨tx, rfl⟩ := ha dx hx
          obtain ⟨ty, rfl⟩ := ha dy hy
          have room : A.units + min (PyData.tuple tx).depth (PyData.tuple ty).depth < cLine := Nat.lt_of_le_of_lt (Nat.add_le_add_left (Nat.min_le_left _ _) _) (hu _ hx)
          cases neT d with
          | true => exact oneLt_tup (f := false) ra rb hxy room hq
          | false => exact oneLt_tup (f := true) ra rb hxy room hq
    · refine SortsAt.data e hal (.inr fun x hx => ⟨hk x hx, fun t z => ?_⟩) hu
      subst z
      have := hal d List.mem_cons_self _ hx
      cases d <;> first | exact ht ⟨_, rfl⟩ | exact absurd this (by simp [alike])
end
end DV
end
section
set_option Elab.async false
set_option linter.all false
set_option maxRecDepth 100000
set_option maxHeartbeats 1000000
/-! DV29: sorted(xs, key=f). -/
namespace DV
open PySem PySem.Spec PyProof.Rows L2
section
variable {f : Fr0} {c : Ct} {X : Cx} {g : Cfg} {φ : Phi}
variable {F F' : Fz} {κ κ' : List Addr} {ρ ρ' : Ev} {M M' : Mem} {σ : L2.St} {H H' : Hp}
/-- the run of a key -/
structure KeyRun (f : Fr0) (X : Cx) (φ : Phi) (fv : Value) (kf : D) (P0 : List (Addr × Obj)) (F1 : Fz) (κ1 : List Addr) (σ : L2.St) : Prop where
  run : ∀ (pins : List (Addr × Obj)) (s : Shared) (H : Hp) (F : Fz) (κ : List Addr) (ρ : Ev) (M : Mem) (u : Value) (v : V) (d d' : D) (M' : Mem) (Q : Value → Shared → Prop), (∀ p ∈ P0, p ∈ pins) → Inv X pins σ H s → f.RS F κ ρ M σ H → Ex F1 F → Px κ1 κ → RelV v u → Rv f.G F κ v d →
    callD φ kf [d] M = some (.ok d' M') → (∀ u' v' s' F' κ' H', Inv X pins σ H' s' → Ltr f F κ H F' κ' M' H' → RelV v' u' → Rv f.G F' κ' v' d' → Q u' s') → wpAny (model X.prog X.w) X.A.in1.in1 (call fv [u]) Q (fun _ _ => False) s
theorem fp_at {pins : List (Addr × Obj)} {b : Addr} (h : FpOk X pins H b) (n : H' b = none) : FpOk X pins H' b := ⟨n, h.2⟩
theorem get2 {α β : Type} {P : α → β → Prop} : ∀ {xs : List α} {ys : List β} {i : Nat} {x : α}, Paired P xs ys → xs[i]? = some x → ∃ y, ys[i]? = some y ∧ P x y
  | _, _, 0, _, .cons r _, h => by cases h; exact ⟨_, rfl, r⟩
  | _, _, i + 1, _, .cons _ t, h => get2 (i := i) t h
theorem each_rel {G : Gb} : ∀ {us : List Value} {vs : List V} {ks ds : List D}, Vals vs us → Rvs G F κ vs ds → ks.length = ds.length → PySem.W.EachIs (fun u (p : D × D) => ∃ v, RelV v u ∧ Rv G F κ v p.2) us (ks.zip ds)
  | _, _, [], _, .nil, .nil, _ => .nil
  | _, _, _ :: _, _, .nil, .nil, h => by cases h
  | _, _, [], _, .cons _ _, .cons _ _, h => by cases h
  | _, _, k :: ks, _, .cons r t, .cons r2 t2, h => .cons ⟨_, r, r2⟩ (each_rel t t2 (by simpa using h))
theorem each_back {G : Gb} : ∀ {us : List Value} {ps : List (D × D)}, PySem.W.EachIs (fun u (p : D × D) => ∃ v, RelV v u ∧ Rv G F κ v p.2) us ps → ∃ vs, Vals vs us ∧ Rvs G F κ vs (ps.map (·.2))
  | _, _, .nil => ⟨[], .nil, .nil⟩
  | _, _, .cons ⟨v, r, r2⟩ t => by
    obtain ⟨vs, h1, h2⟩ := each_back t
    exact ⟨v :: vs, .cons r h1, .cons r2 h2⟩
theorem each_reads {pins : List (Addr × Obj)} {s : Shared} (I : Inv X pins σ H s) (R : RM X.K f.G F κ M H) : ∀ {us : List Value} {vs : List V} {ds : List D}, Vals vs us → Rvs f.G F κ vs ds → (∀ d ∈ ds, D.plain d = true) → PySem.W.EachIs (fun v d => ∃ as, Reads s.heap v d as) us (ds.map toPy)
  | _, _, _, .nil, .nil, _ => .nil
  | _, _, _, .cons r t, .cons r2 t2, h => .cons (reads_rv I R _ _ _ (h _ List.mem_cons_self) r2 r) (each_reads I R t t2 fun d m => h d (List.mem_cons_of_mem _ m))
theorem sortOk_some {ks l out : List D} (h : sortK ks l = some out) : ks.length = l.length ∧ l.length ≤ sizeLine ∧ (∀ d ∈ ks, easy d = true) ∧ PySem.W.AllAlike (ks.map toPy) ∧ (∀ d ∈ ks.map toPy, d ≠ .none) ∧ out = ((ks.zip l).mergeSort (PySem.W.dataLe false fun p => toPy p.1)).map (·.2) := by
  unfold sortK at h
  split at h
  · rename_i h1
    cases h
    unfold sortOk at h1
    simp only [Bool.and_eq_true, decide_eq_true_eq, List.all_eq_true, Bool.not_eq_true'] at h1
    obtain ⟨⟨⟨⟨⟨e1, e2⟩, e3⟩, e4⟩, e5⟩, _⟩ := h1
    refine ⟨e4, by rw [← line_eq]; exact e5, e1, fun a ha b hb => ?_, fun d hd z => ?_, rfl⟩
    · obtain ⟨x, hx, rfl⟩ := List.mem_map.mp ha
      obtain ⟨y, hy, rfl⟩ := List.mem_map.mp hb
      exact e2 x hx y hy
    · obtain ⟨x, hx, rfl⟩ := List.mem_map.mp hd
      have k1 := e3 x hx
      have k2 := e1 x hx
      unfold easy at k2
      simp only [Bool.and_eq_true] at k2
      cases x <;> first
        | (cases k1; done)
        | (simp [toPy] at z; done)
        | (have := k2.1; simp [D.plain] at this; done)
  · cases h
theorem lst_track {pins : List (Addr × Obj)} {s : Shared} {h' : Heap} {tk : Nat} {L kS : Addr} {vs : List V} {us : List Value} {n : Nat} (I : Inv X pins σ H s) (fL : FpOk X pins H L) (fk : FpOk X pins H kS)
    (kp : ∀ b o, b ≠ L → b ≠ kS → s.heap.get? b = some o → h'.get? b = some o) (g1 : h'.get? L = some (seqObj "list" us.toArray n)) (r : Vals vs us) (hz : vs.length ≤ sizeLine) : Inv X pins σ (upd H L (.lst vs)) { s with heap := h', toks := tk } := by
  have nL : ∀ b u, H b = some u → b ≠ L := fun b u e z => by rw [z, fL.1] at e; cases e
  have nk : ∀ b u, H b = some u → b ≠ kS := fun b u e z => by rw [z, fk.1] at e; cases e
  have out : ∀ {b}, b ∉ [kS, L] → b ≠ L ∧ b ≠ kS := fun {b} h => ⟨fun z => h (by simp [z]), fun z => h (by simp [z])⟩
  refine I.call (ch := [kS, L]) ⟨fun b o e _ _ hc => kp b o (out hc).1 (out hc).2 e, fun b o e _ _ hc => ⟨o.slots, kp b o (out hc).1 (out hc).2 e⟩, fun b o e n hc => by rw [upd_ne (out hc).1]; exact n, fun b o e hc => ⟨o, kp b o (out hc).1 (out hc).2 e⟩,
    fun b xs e => by rw [upd_ne (nL b _ e)]; exact e, fun b u xs e => by rw [upd_ne (nL b _ e)]; exact e, fun b ps e => ⟨#[], by rw [upd_ne (nL b _ e), e]; simp⟩⟩ (fun b u e => ?_) I.bare (fun b hb => ?_)
  · by_cases z : b = L
    · subst z
      rw [upd_same] at e
      cases e
      exact ⟨hz, us, n, r, g1⟩
    · rw [upd_ne z] at e
      refine (I.hok b u e).stay (fun c v hc q => kp c v ?_ ?_ q) (fun c q => by rw [upd_ne (nL c _ q)]; exact q) fun c xs q => by rw [upd_ne (nL c _ q)]; exact q
      · rcases hc with w | w
        · rw [w]; exact z
        · exact nL c _ w
      · rcases hc with w | w
        · rw [w]; exact nk b u e
        · exact nk c _ w
  · rcases List.mem_cons.mp hb with rfl | hb
    · exact ⟨fk.2.2.2.1, fk.2.1, fk.2.2.2.2.1, fk.2.2.2.2.2⟩
    · obtain rfl := List.mem_singleton.mp hb
      exact ⟨fL.2.2.2.1, fL.2.1, fL.2.2.2.2.1, fL.2.2.2.2.2⟩
theorem sort_rest (G : GX f c X) {fv : Value} {kf : D} {P0 pins : List (Addr × Obj)} {F1 : Fz} {κ1 : List Addr} {L kS : Addr} {e1 : Nat} {s : Shared} {vs : List V} {us : List Value} {ds ks out : List D} {Q : PySem.Fin → Shared → Prop} {E : Value → Shared → Prop} (KR : KeyRun f X φ fv kf P0 F1 κ1 σ)
    (hP : ∀ p ∈ P0, p ∈ pins) (I : Inv X pins σ H s) (R : f.RS F κ ρ M σ H) (hF : Ex F1 F) (hκ : Px κ1 κ) (fL : FpOk X pins H L) (fk : FpOk X pins H kS) (hkl : kS ≠ L) (nL : s.heap.get? L = some (seqObj "list" #[] e1)) (nk : s.heap.get? kS = some (seqObj "list" #[] 0))
    (rv : Vals vs us) (rd : Rvs f.G F κ vs ds) (hk : keysOf φ kf ds M = some (ks, M')) (hs : sortK ks ds = some out)
    (hQ : ∀ s' F' κ' H' outV, Inv X pins σ (upd H' L (.lst outV)) s' → Ltr f F κ H F' κ' M' H' → H' L = none → Rvs f.G F' κ' outV out → Q (.done (.ret .none)) s') :
    wpAny (model X.prog X.w) X.A.in1.in1 (ksk_rest L fv false us.toArray e1 (.ref kS)) Q E s := by
  obtain ⟨o1, o2, o3, o4, o5, rfl⟩ := sortOk_some hs
  have hlen : us.length = ds.length := by rw [← rv.length]; exact Paired.length rd
  have nc : ∀ {kA : Array Value} {e : Nat} (v : Option Value), (seqObj "list" kA e).data ≠ .cell v := fun v z => nomatch z
  have pinned : ∀ {H2 s2 kA e}, Inv X ((L, seqObj "list" #[] e1) :: pins) σ H2 s2 → H2 kS = none → s2.heap.get? kS = some (seqObj "list" kA e) → Inv X ((kS, seqObj "list" kA e) :: (L, seqObj "list" #[] e1) :: pins) σ H2 s2 := fun {H2 s2 kA e} J n q =>
    J.pins_of fun p hp => by
      rcases List.mem_cons.mp hp with rfl | hp
      · exact ⟨q, n, fk.2.1, fk.2.2.1, nc⟩
      · exact J.pin p (List.mem_append_right _ hp)
  have I0 : Inv X ((L, seqObj "list" #[] e1) :: pins) σ H s := I.pins_of fun p hp => by
    rcases List.mem_cons.mp hp with rfl | hp
    · exact ⟨nL, fL.1, fL.2.1, fL.2.2.1, nc⟩
    · exact I.pin p (List.mem_append_right _ hp)
  unfold ksk_rest
  refine wpAny_bind (wpAny_rule ?_)
  first
    | rw [List.forIn_toArray]
    | (rw [← Array.forIn_toList]; simp only [List.toList_toArray])
  refine wpAny_bind (ksk_fold (fun i s' => ∃ H2 F2 κ2 M2 kA e kvs kds rest, Inv X ((L, seqObj "list" #[] e1) :: pins) σ H2 s' ∧ Ltr f F κ H F2 κ2 M2 H2 ∧ s'.heap.get? kS = some (seqObj "list" kA e) ∧ H2 kS = none ∧ Vals kvs kA.toList ∧ Rvs f.G F2 κ2 kvs kds ∧
    keysOf φ kf (ds.drop i) M2 = some (rest, M') ∧ ks = kds ++ rest ∧ kA.size = i) us 0 s ⟨H, F, κ, M, #[], 0, [], [], ks, I0, ⟨Go.refl _ _ _, R.m, Nf.refl _ _⟩, nk, fk.1, .nil, .nil, hk, rfl, rfl⟩ ?step ?done)
  case step =>
    rintro j x s' hx ⟨H2, F2, κ2, M2, kA, e, kvs, kds, rest, J, l2, k2, n2, v2, r2, c2, e2, z2⟩
    simp only [Nat.zero_add] at c2 z2 ⊢
    have hj : j < us.length := (List.getElem?_eq_some_iff.mp hx).1
    obtain ⟨v, hv, rx⟩ : ∃ v, vs[j]? = some v ∧ RelV v x := by
      obtain ⟨v, a, b⟩ := Paired.get rv hx
      exact ⟨v, a, b⟩
    obtain ⟨d, hd, rdj⟩ : ∃ d, ds[j]? = some d ∧ Rv f.G F κ v d := by
      obtain ⟨d, a, b⟩ := get2 rd hv
      exact ⟨d, a, b⟩
    have hjd : j < ds.length := by omega
    rw [List.drop_eq_getElem_cons hjd] at c2
    have ed : ds[j] = d := by
      have := List.getElem?_eq_getElem hjd
      rw [hd] at this
      exact (Option.some.inj this).symm
    rw [ed] at c2
    simp only [keysOf] at c2
    cases ec : callD φ kf [d] M2 with
    | none => rw [ec] at c2; cases c2
    | some o =>
      cases o with
      | exc _ _ => rw [ec] at c2; cases c2
      | ok d' M3 =>
        rw [ec] at c2
        simp only [Option.map_eq_some_iff] at c2
        obtain ⟨⟨rest', M4⟩, c3, c4⟩ := c2
        injection c4 with c4 c5
        subst c4 c5
        refine wpAny_bind (wpAny_attempt (wpAny_mono (KR.run _ s' H2 F2 κ2 ρ M2 x v d d' M3 (fun u' s3 => ∃ v' F3 κ3 H3, Inv X ((kS, seqObj "list" kA e) :: (L, seqObj "list" #[] e1) :: pins) σ H3 s3 ∧ Ltr f F2 κ2 H2 F3 κ3 M3 H3 ∧ RelV v' u' ∧ Rv f.G F3 κ3 v' d')
          (fun p hp => List.mem_cons_of_mem _ (List.mem_cons_of_mem _ (hP p hp))) (pinned J n2 k2) (R.at' l2) (hF.trans l2.go.ex) (hκ.trans l2.go.px) rx (rdj.mono l2.go.ex l2.go.px) ec fun u' v' s3 F3 κ3 H3 a b c d => ⟨v', F3, κ3, H3, a, b, c, d⟩) (fun u' s3 he => ?_) fun _ _ hF => hF.elim))
        obtain ⟨v', F3, κ3, H3, J3, l3, rv3, rd3⟩ := he
        try dsimp only
        have pk := J3.pin (kS, seqObj "list" kA e) (List.mem_append_right _ List.mem_cons_self)
        have hz : kA.size ≤ sizeLine := by rw [z2]; omega
        have s1 := Heap.SameBut.update s3.heap kS (Obj.mapSeq (·.push u'))
        obtain ⟨c2, hc2⟩ : ∃ c2, (s3.heap.update kS (Obj.mapSeq (·.push u'))).get? kS = some (seqObj "list" (kA.push u') c2) := ⟨_, get?_update_seq pk.1 (·.push u')⟩
        refine wpAny_bind (listUpdate_at pk.1 rfl ?_ hz (Nat.le_trans (Nat.le_of_eq (Array.size_push ..)) (Nat.succ_le_succ hz)))
        have fk3 : FpOk X ((L, seqObj "list" #[] e1) :: pins) H3 kS := ⟨pk.2.1, fk.2.1, fk.2.2.1, fk.2.2.2.1, fk.2.2.2.2.1, fun p hp => by
          rcases List.mem_append.mp hp with hp | hp
          · exact fk.2.2.2.2.2 p (List.mem_append_left _ hp)
          · rcases List.mem_cons.mp hp with rfl | hp
            · exact fun z => hkl z.symm
            · exact fk.2.2.2.2.2 p (List.mem_append_right _ hp)⟩
        have J4 : Inv X ((L, seqObj "list" #[] e1) :: pins) σ H3 s3 := J3.pins_of fun p hp => J3.pin p (List.mem_append_right _ (List.mem_cons_of_mem _ hp))
        refine wpAny_pure ⟨rfl, H3, F3, κ3, M3, kA.push u', c2, kvs ++ [v'], kds ++ [d'], rest', ?_, l2.trans l3, hc2, pk.2.1, ?_, ?_, ?_, ?_, ?_⟩
        · exact J4.turned (t' := s3.toks) (fun b o hb e => (s1.2 b hb).trans e) fk3.1 fk3.2.1 fk3.2.2.2.1 fk3.2.2.2.2.1 fk3.2.2.2.2.2
        · rw [Array.toList_push]
          exact Paired.app v2 (.cons rv3 .nil)
        · exact Paired.app (r2.mono l3.go.ex l3.go.px) (.cons rd3 .nil)
        · exact c3
        · rw [e2]
          simp
        · rw [Array.size_push, z2]
  case done =>
    rintro s' ⟨H2, F2, κ2, M2, kA, e, kvs, kds, rest, J, l2, k2, n2, v2, r2, c2, e2, z2⟩
    rw [Nat.zero_add] at c2 z2
    rw [List.drop_eq_nil_of_le (by omega)] at c2
    cases c2
    rw [List.append_nil] at e2
    subst e2
    have pL := J.pin (L, seqObj "list" #[] e1) (List.mem_append_right _ List.mem_cons_self)
    try dsimp only
    refine wpAny_bind (listItems_at k2 rfl ?_)
    obtain ⟨B, hB, _⟩ := part s'.heap fun b => !(b == kS)
    have kpB : PySem.W.KeepsBut L B s'.heap := fun b o _ q => ((hB b o).mp q).2
    have nB : B.get? kS = none := by
      cases q : B.get? kS with
      | none => rfl
      | some o =>
        obtain ⟨z, _⟩ := (hB kS o).mp q
        simp at z
    have rdk := each_reads (f := f) J (by rw [G.K]; exact l2.m) v2 r2 fun d hd => by
      have := o3 d hd
      unfold easy at this
      simp only [Bool.and_eq_true] at this
      exact this.1
    have hu := G.un
    have un : ∀ d ∈ ks.map toPy, X.A.in1.in1.units + d.depth < cLine := fun d hd => by
      obtain ⟨x, hx, rfl⟩ := List.mem_map.mp hd
      have := o3 x hx
      unfold easy at this
      simp only [Bool.and_eq_true, decide_eq_true_eq] at this
      rw [dep_py]
      show X.A.units + 1 + 1 + _ < _
      omega
    have S := sorts_any (prog := X.prog) (w := X.w) (A := X.A.in1.in1) (s := s') rdk o4 o5 un
    refine PySem.W.keyH_end (κ := PySem.W.dataKind s'.heap (ks.map toPy)) (h₁ := B) kpB nB k2 pL.1 hkl S (by rw [z2]) (by omega) fun h' tk n kp hL => ?_
    have ko : PySem.W.KeyedOut false (ks.map toPy) us (PySem.W.sortVals (PySem.W.dataKind s'.heap (ks.map toPy)) false kA.toList us) := ⟨s'.heap, kA.toList, o4, rfl, rdk⟩
    have em : (ks.zip ds).map (fun p => toPy p.1) = ks.map toPy := by
      have : (ks.zip ds).map (fun p : D × D => toPy p.1) = ((ks.zip ds).map Prod.fst).map toPy := by rw [List.map_map]; rfl
      rw [this, List.map_fst_zip (by omega)]
    rw [← em] at ko
    obtain ⟨outV, rv5, rd5⟩ := each_back (PySem.W.keyedOut_each (fun p : D × D => toPy p.1) ko (each_rel rv (rd.mono l2.go.ex l2.go.px) o1))
    rw [em] at rv5
    have J2 : Inv X pins σ H2 s' := J.pins_of fun p hp => J.pin p (List.mem_append_right _ (List.mem_cons_of_mem _ hp))
    have lz : outV.length ≤ sizeLine := by
      rw [Paired.length rd5, List.length_map, List.length_mergeSort, List.length_zip]
      omega
    refine hQ _ F2 κ2 H2 outV (lst_track (kS := kS) (tk := tk) J2 (fp_at fL pL.2.1) (fp_at fk n2) (fun b o h1 h2 e => kp b o h1 ((hB b o).mpr ⟨by simp [h2], e⟩)) hL rv5 lz) l2 pL.2.1 rd5
end
end DV
end
section
set_option Elab.async false
set_option linter.all false
set_option maxRecDepth 100000
set_option maxHeartbeats 1000000
/-! DV41: sorted(xs, key=f): the keys; a lambda with what it captures. -/
namespace DV
open PySem PySem.Spec PyProof.Rows L2
section
variable {f : Fr0} {c : Ct} {X : Cx} {g : Cfg} {φ : Phi}
variable {F F' : Fz} {κ κ' : List Addr} {ρ ρ' : Ev} {M M' : Mem} {σ : L2.St} {H H' : Hp}
/-- a def as the key -/
theorem keyrun_fn (G : GX f c X) {L : List Shp} (C : GC f X φ L) {q : Shp} (hq : q ∈ L) (h1 : q.p = 1) (h2 : q.ks = []) (h3 : q.dd = []) {F1 : Fz} {κ1 : List Addr} : ∃ a, X.mg q.x = some (.ref a) ∧ KeyRun f X φ (.ref a) (.fn q.i) [] F1 κ1 σ := by
  obtain ⟨k, hr, hc, _, hr2⟩ := C.ex
  obtain ⟨a, fd, ps, ds, dvs, Fo, hmg, hkp, hb, hv, hd⟩ := (hc q hq).ex
  rw [h3] at hd
  cases dvs with
  | cons _ _ => cases hd
  | nil =>
    cases hv
    rw [h2] at hb
    refine ⟨a, hmg, ⟨fun pins s H F κ ρ M u v d d' M' Q _ I R _ _ r rd e h => ?_⟩⟩
    have b1 : BindsTo s fd ⟨[u], []⟩ (ps.zip [u]) := by
      have z := hb s [u] [] I.kIn h1.symm rfl
      rw [permV_nil] at z
      exact z
    have sp : spD f.K f.G X.base φ q.i [v] H (fun v' H' => ∃ F' κ', Ltr f F κ H F' κ' M' H' ∧ Rv f.G F' κ' v' d') (fun _ _ _ => False) := by
      refine ⟨F, κ, M, [d], R.m, .cons rd.l .nil, ?_⟩
      have e' : φ q.i [d] M = some (.ok d' M') := e
      rw [e']
      exact fun F' κ' H' v' l r => ⟨F', κ', l, r⟩
    refine wpAny_call (codeAny_mono ((Fo X.base (fun _ _ e => by rw [G.B]; exact e)).run X.A.in1.in1 X.stack s H ⟨[u], []⟩ [u] [v] _ _ hr2 G.gd I.env0.in1.in1 b1 (.cons r .nil) sp) fun r s' hq => ?_)
    cases r with
    | error e =>
      obtain ⟨_, _, _, _, _, _, _, _, _, _, _, _, z⟩ := hq
      exact z.elim
    | ok fl =>
      cases fl with
      | ret u' =>
        obtain ⟨v', H', I', r', F', κ', l', rd'⟩ := I.after hq
        exact h u' v' s' F' κ' H' I' l' r' rd'
      | next => exact False.elim hq
      | brk => exact False.elim hq
      | cont => exact False.elim hq
/-- a lambda of this frame as the key -/
theorem keyrun_lam (G : GX f c X) {L : List Shp} (C : GC f X φ L) {j : Nat} {Lj : LamI} (hL : f.G.lam j = some Lj) {a c' : Addr} {cl : List (Str × Addr)} {pm ctv : Value} {js : List Nat} {cs : List V} {caps : List D} {F1 : Fz} {κ1 : List Addr}
    (hc : ∃ f' l' L', F1 c' = some (.lam f' l') ∧ f.G.lam f' = some L' ∧ L'.qual = Lj.qual) (cp : NdefX.Caps X cl Lj.fr js) (hs : js.map (NdefX.slotAt σ) = cs.map some) (rc : Rvs f.G F1 κ1 cs caps) :
    KeyRun f X φ (.ref a) (.lam j caps) [(a, PySem.W.kla_obj "<lambda>" Lj.qual Lj.params Lj.body Lj.scope cl pm c' ctv)] F1 κ1 σ := by
  obtain ⟨k, hr, _, hl, hr2⟩ := C.ex
  refine ⟨fun pins s H F κ ρ M u v d d' M' Q hP I R eF eκ r rd e h => ?_⟩
  have ob := (I.pin _ (List.mem_append_right _ (hP _ List.mem_cons_self))).1
  have CA : NdefX.CellsAt cl Lj.fr (cs.map some) s.heap H := by rw [← hs]; exact NdefX.cells_of I cp
  have sp : spD f.K f.G f.B φ j ([v] ++ cs) H (fun v' H' => ∃ F' κ', Ltr f F κ H F' κ' M' H' ∧ Rv f.G F' κ' v' d') (fun _ _ _ => False) := by
    refine ⟨F, κ, M, [d] ++ caps, R.m, Paired.app (.cons rd.l .nil) (Paired.mapP (rc.mono eF eκ) fun _ _ z => Rv.l z), ?_⟩
    have e' : φ j ([d] ++ caps) M = some (.ok d' M') := e
    rw [e']
    exact fun F' κ' H' v' l r => ⟨F', κ', l, r⟩
  refine wpAny_call (codeAny_mono ((hl j Lj hL).run X.A.in1.in1 X.stack s H a c' cl pm ctv [u] [v] cs _ _ hr2 G.gd I.env0.in1.in1 ob (code_rec I R eF hc) CA (.cons r .nil) (by rw [G.K]; exact sp)) fun r s' hq => ?_)
  cases r with
  | error e =>
    obtain ⟨_, _, _, _, _, _, _, _, _, _, _, _, z⟩ := hq
    exact z.elim
  | ok fl =>
    cases fl with
    | ret u' =>
      obtain ⟨v', H', I', r', F', κ', l', rd'⟩ := I.after hq
      exact h u' v' s' F' κ' H' I' l' r' rd'
    | next => exact False.elim hq
    | brk => exact False.elim hq
    | cont => exact False.elim hq
/-- the call of sorted -/
theorem call_sort (G : GX f c X) {q : Addr} {kf : D} {P0 pins : List (Addr × Obj)} {F1 : Fz} {κ1 : List Addr} {s : Shared} {a : Addr} {vs : List V} {ds ks out : List D} {Q : VK} {E : Value → Shared → Prop} (KR : KeyRun f X φ (.ref q) kf P0 F1 κ1 σ)
    (hP : ∀ p ∈ P0, p ∈ pins) (I : Inv X pins σ H s) (R : f.RS F κ ρ M σ H) (hF : Ex F1 F) (hκ : Px κ1 κ) (ha : H a = some (.lst vs)) (rd : Rvs f.G F κ vs ds) (hk : keysOf φ kf ds M = some (ks, M')) (hs : sortK ks ds = some out)
    (hQ : ∀ F' κ' H' p outV, Ltr f F κ H F' κ' M' H' → H' p = none → H p = none → Rvs f.G F' κ' outV out → Q (.ref p) (upd H' p (.lst outV))) :
    wpAny (model X.prog X.w) X.A (call (.builtin "sorted") [.ref a] [(Str.ofString "key", .ref q)]) (EP X pins σ Q) E s := by
  obtain ⟨its, n, rv, hob, hz⟩ := I.lst ha
  have hL : its.length ≤ sizeLine := by rw [← rv.length]; exact hz
  refine PySem.W.sorted_of_sort (vs := its) ⟨_, hob, rfl, n, rfl⟩ hL (ksk_s1 _ _) (fun _ => ksk_l1 _ _) fun E' => ?_
  rw [ksk_t1]
  obtain ⟨D, hD⟩ : ∃ D, D = s.heap.objs.size + 1 := ⟨_, rfl⟩
  rw [← hD]
  have ho : (PySem.W.copyHeap s.heap its).get? D = some (seqObj "list" its.toArray 0) := by rw [hD]; exact PySem.W.copyHeap_at s.heap its
  obtain ⟨e1, ho1⟩ : ∃ e1, ((PySem.W.copyHeap s.heap its).update D (Obj.mapSeq fun _ => (#[] : Array Value))).get? D = some (seqObj "list" #[] e1) := ⟨_, get?_update_seq ho fun _ => #[]⟩
  unfold ksk_tree
  refine wpAny_bind (listItems_at ho rfl ?_)
  refine wpAny_bind (listUpdate_at ho rfl ?_ (by rw [List.size_toArray]; exact hL) (Nat.zero_le _))
  refine wpAny_bind (seqEpoch_at ho1 rfl ?_)
  refine wpAny_bind (wpAny_newTuple ?_ (by show its.length ≤ _; exact hL))
  refine wpAny_bind (wpAny_newList ?_ (Nat.zero_le _))
  refine wpAny_holding ?_
  have hDlt : D < (PySem.W.copyHeap s.heap its).objs.size := Heap.lt_size ho
  have kp : ∀ b o, s.heap.get? b = some o → (PySem.W.sortingHeap (PySem.W.copyHeap s.heap its) D its).get? b = some o := fun b o e => by
    rw [hD]
    exact PySem.W.sorting_copy_old e
  have J : Inv X pins σ H { s with heap := PySem.W.sortingHeap (PySem.W.copyHeap s.heap its) D its } := I.kept (t' := s.toks) kp
  have hS : (((PySem.W.copyHeap s.heap its).update D (Obj.mapSeq fun _ => (#[] : Array Value))).push (seqObj "tuple" its.toArray 0)).objs.size = (PySem.W.copyHeap s.heap its).objs.size + 1 := by rw [size_push', Heap.size_update]
  have hle : s.heap.objs.size ≤ D := by rw [hD]; exact Nat.le_succ _
  have hle2 : s.heap.objs.size ≤ (((PySem.W.copyHeap s.heap its).update D (Obj.mapSeq fun _ => (#[] : Array Value))).push (seqObj "tuple" its.toArray 0)).objs.size := by rw [hS]; omega
  refine sort_rest G (kS := (((PySem.W.copyHeap s.heap its).update D (Obj.mapSeq fun _ => (#[] : Array Value))).push (seqObj "tuple" its.toArray 0)).objs.size) KR hP J R hF hκ (I.fpOk hle (I.hok.fresh hle)) (I.fpOk hle2 (I.hok.fresh hle2)) (Nat.ne_of_gt (by rw [hS]; exact Nat.lt_succ_of_lt hDlt))
    (Heap.get?_push_of_some _ (Heap.get?_push_of_some _ ho1)) (Heap.get?_push_size _ rfl) rv rd hk hs fun s' F' κ' H' outV J' l n r => ?_
  exact ⟨rfl, .ref D, upd H' D (.lst outV), J', rfl, hQ F' κ' H' D outV l n (I.hok.fresh hle) r⟩
/-- reading the captured names -/
theorem caps_ok : ∀ {is : List Nat} {ρ ρ' : Ev} {F : Fz} {ds : List D}, f.RS F κ ρ M σ H → capsOf ρ is = some (ds, ρ') → ∃ F' cs, Go F κ H F' κ H ∧ f.RS F' κ ρ' M σ H ∧ is.map (NdefX.slotAt σ) = cs.map some ∧ Rvs f.G F' κ cs ds
  | [], ρ, ρ', F, ds, R, h => by
    cases h
    exact ⟨F, [], Go.refl _ _ _, R, rfl, .nil⟩
  | i :: is, ρ, ρ', F, ds, R, h => by
    simp only [capsOf] at h
    cases ht : takeD ρ i with
    | none => rw [ht] at h; cases h
    | some p =>
      obtain ⟨d, ρ1⟩ := p
      rw [ht] at h
      simp only [Option.bind_some] at h
      by_cases hl : lamless d = true
      · rw [if_pos hl] at h
        simp only [Option.map_eq_some_iff] at h
        obtain ⟨⟨ds', ρ2⟩, h1, h2⟩ := h
        injection h2 with h2 h3
        subst h2 h3
        have one : ∃ F1 v, Go F κ H F1 κ H ∧ f.RS F1 κ ρ1 M σ H ∧ σ[i]? = some (some v) ∧ Rv f.G F1 κ v d := by
          unfold takeD at ht
          cases e0 : ρ[i]? with
          | none => rw [e0] at ht; cases ht
          | some en =>
            rw [e0] at ht
            cases en with
            | fz d0 =>
              cases ht
              obtain ⟨v, q, r⟩ := R.sl i _ e0
              exact ⟨F, v, Go.refl _ _ _, R, q, Rvl.less r hl⟩
            | ow l =>
              cases ht
              obtain ⟨a, q, g, R1⟩ := RS.take R e0
              exact ⟨_, .ref a, g, R1, q, a, rfl, fput_same⟩
            | od _ _ => exact (R.sl i _ e0).elim
            | un => cases ht
            | lk _ => cases ht
        obtain ⟨F1, v, g1, R1, q1, r1⟩ := one
        obtain ⟨F2, cs, g2, R2, q2, r2⟩ := caps_ok R1 h1
        refine ⟨F2, v :: cs, g1.trans g2, R2, ?_, .cons (r1.mono g2.ex g2.px) r2⟩
        rw [List.map_cons, List.map_cons, q2]
        congr 1
        unfold NdefX.slotAt
        rw [q1]
      · rw [if_neg hl] at h
        cases h
theorem codeO_inj {pins : List (Addr × Obj)} {s : Shared} {c' : Addr} {q q' : Str} (I : Inv X pins σ H s) (h : H c' = some (LamX.CodeO c' q)) (e : some (LamX.CodeO c' q) = some (LamX.CodeO c' q')) : q = q' := by
  obtain ⟨⟨oc, vs, t, h1, h2, h3⟩, _⟩ := I.hok _ _ h
  obtain ⟨⟨oc2, vs2, t2, k1, k2, k3⟩, _⟩ := I.hok _ _ (h.trans e)
  rw [h1] at k1
  cases k1
  rw [h2] at k2
  cases k2
  rw [h3] at k3
  cases k3
  rfl
/-- what the look says of a written lambda -/
structure LamW (f : Fr0) (X : Cx) (j : Nat) (caps : List Nat) (L : LamI) (params : Arguments) (body : Expr) (scope : Scope) : Prop where
  mkr : Mk f X
  lam : f.G.lam j = some L
  par : L.params = params
  bod : L.body = body
  sc : L.scope = scope
  qual : L.qual = X.env.qual ++ "<lambda>"
  names : caps.map (fun j => X.N[j]?) = L.fr.map some
  free : ∀ y ∈ scope.names, y.2 = .free → X.env.scope.names.lookup y.1 = some .cell ∨ X.env.scope.names.lookup y.1 = some .free
  fr : ∀ y ∈ L.fr, (y, NameKind.free) ∈ scope.names
  dflt : ∀ env, defaultsOf params env = ([], [])
  fnt : ∀ x, X.fn x = true
theorem lam_ready {j : Nat} {caps : List Nat} {L : LamI} {params : Arguments} {body : Expr} {scope : Scope} {pos : Pos} {cds : List D} {pins : List (Addr × Obj)} {s : Shared} {Q : Value → Shared → Prop} {E : Value → Shared → Prop} (W : LamW f X j caps L params body scope) (I : Inv X pins σ H s) (R : f.RS F κ ρ M σ H) (hc : capsOf ρ caps = some (cds, ρ'))
    (h : ∀ (a c' : Addr) (cl : List (Str × Addr)) (pm ctv : Value) (F1 : Fz) (H1 : Hp) (s1 : Shared) (cs : List V), Inv X pins σ H1 s1 → f.RS F1 κ ρ' M σ H1 → Go F κ H F1 κ H1 → s1.heap.get? a = some (PySem.W.kla_obj "<lambda>" L.qual L.params L.body L.scope cl pm c' ctv) → H1 a = none → a ∉ frs X.stack →
      (∃ f' l' L', F1 c' = some (.lam f' l') ∧ f.G.lam f' = some L' ∧ L'.qual = L.qual) → NdefX.Caps X cl L.fr caps → caps.map (NdefX.slotAt σ) = cs.map some → Rvs f.G F1 κ cs cds → Q (.ref a) s1) :
    wpAny (model X.prog X.w) X.A (eval (.Lambda params body scope pos) X.env) Q E s := by
  obtain ⟨F1, cs, g1, R1, q1, r1⟩ := caps_ok R hc
  have hfree : ∀ y ∈ scope.names, y.2 = .free → ∃ c, X.env.cells.lookup y.1 = some c := fun y hy e => by
    rcases W.free y hy e with z | z
    · exact I.ok.has _ (.inl z)
    · exact I.ok.has _ (.inr z)
  refine make_lam W.mkr I R1 (W.dflt _) hfree fun a c' pm ctv H1 s' I1 l1 hf hn hfr _ hco => ?_
  have R2 : f.RS F1 κ ρ' M σ H1 := R1.at' l1
  have cp : NdefX.Caps X (cloFrom X.env.cells scope.names []) L.fr caps := NdefX.Caps.made I.ok W.free W.fr W.names
  rw [← W.qual, ← W.par, ← W.bod, ← W.sc] at hf
  rw [← W.sc] at cp
  rw [← W.qual] at hco
  cases e : F1 c' with
  | some d =>
    refine h a c' _ pm ctv F1 H1 s' cs I1 R2 (g1.trans l1.go) hf hn hfr ?_ cp q1 r1
    have z := R2.m.fz _ _ e
    cases d with
    | lam f' l' =>
      obtain ⟨L', z1, z2⟩ := z
      rw [hco] at z2
      refine ⟨f', l', L', e, z1, ?_⟩
      exact (codeO_inj I1 hco z2).symm
    | tup l => obtain ⟨vs, z1, _⟩ := z; rw [hco] at z1; cases z1
    | lst l => obtain ⟨vs, z1, _⟩ := z; rw [hco] at z1; cases z1
    | ins c l => obtain ⟨C, dx, nfs, oe, vs, _, z1, _⟩ := z; rw [hco] at z1; cases z1
    | dct l m => have z1 := z.1; rw [hco] at z1; cases z1
    | _ => exact z.elim
  | none =>
    have nk : c' ∉ κ := fun m => by
      obtain ⟨_, co, _, _, _, z⟩ := R2.m.cell m
      cases co with
      | lst l => obtain ⟨vs, z1, _⟩ := z; rw [hco] at z1; cases z1
      | _ => exact z.elim
    have s1 : Shape f.G (fput F1 c' (.lam j [])) κ H1 c' (.lam j []) := ⟨L, W.lam, hco⟩
    have ex : Ex F1 (fput F1 c' (.lam j [])) := Ex.put e
    have g2 : Go F1 κ H1 (fput F1 c' (.lam j [])) κ H1 := ⟨ex, Px.refl κ, fun _ m => .inl m, Kp.refl κ H1⟩
    have R3 := RS.step R2 g2 (R2.m.freeze e nk s1) fun b d q => by
      by_cases z : b = c'
      · subst z
        refine .inr fun o ho t => ?_
        rw [hco] at ho
        cases ho
        obtain ⟨vs, t⟩ := t
        cases t
      · rw [fput_ne z] at q
        exact .inl q
    exact h a c' _ pm ctv _ H1 s' cs I1 R3 ((g1.trans l1.go).trans g2) hf hn hfr ⟨j, [], L, fput_same, W.lam, rfl⟩ cp q1 (r1.mono ex (Px.refl κ))
end
end DV
end
section
set_option Elab.async false
set_option linter.all false
set_option maxRecDepth 100000
set_option maxHeartbeats 1000000
/-! DV42: sorted(xs, key=..) as a node; a lambda handed to a def. -/
namespace DV
open PySem PySem.Spec PyProof.Rows L2
section
variable {f : Fr0} {c : Ct} {X : Cx} {g : Cfg} {φ : Phi}
variable {F F' : Fz} {κ κ' : List Addr} {ρ ρ' : Ev} {M M' : Mem} {σ : L2.St} {H H' : Hp}
theorem boot_sorted : bootBuiltins ("sorted" : Str) = some (.builtin "sorted") := by first | rfl | decide
def sortN (φ : Phi) (m : Md) (x kf : D) (ρ : Ev) (M : Mem) : DV.R D := match x with
  | .lst l => match keysOf φ kf l M with
    | some (ks, M') => match sortK ks l with
      | some p => fin m (.lst p) ρ M'
      | none => none
    | none => none
  | _ => none
theorem ev_sortk {m : Md} {a k : E} {b : Bool} : ev g φ m (.sortk a k b) ρ M = (ev g φ .b a ρ M).bind fun x ρ M => (ev g φ .v k ρ M).bind fun kf ρ M => sortN φ m x kf ρ M := by
  simp only [ev]
  rfl
theorem ev_lam {j : Nat} {caps : List Nat} : ev g φ .v (.lam j caps) ρ M = match capsOf ρ caps with
    | some (ds, ρ') => okE ρ' M (.lam j ds)
    | none => none := by
  simp only [ev]
  cases capsOf ρ caps <;> rfl
theorem look_mem {y : Str} {b : Addr} : ∀ {l : List (Str × Addr)}, l.lookup y = some b → (y, b) ∈ l
  | [], h => by cases h
  | (z, a) :: l, h => by
    rw [List.lookup_cons] at h
    by_cases e : (y == z) = true
    · rw [e] at h
      cases h
      rw [eq_of_beq e]
      exact List.mem_cons_self
    · rw [Bool.not_eq_true] at e
      rw [e] at h
      exact List.mem_cons_of_mem _ (look_mem h)
/-- what is left once the list and the key are there -/
theorem sort_fin (G : GX f c X) {m : Md} (hm : Ord m) {q : Addr} {kf : D} {P0 pins : List (Addr × Obj)} {F1 : Fz} {κ1 : List Addr} {s : Shared} {u : Value} {v : V} {l : List D} {Q : VK} {E : Value → Shared → Prop} (KR : KeyRun f X φ (.ref q) kf P0 F1 κ1 σ)
    (hP : ∀ p ∈ P0, p ∈ pins) (I : Inv X pins σ H s) (R : f.RS F κ ρ M σ H) (hF : Ex F1 F) (hκ : Px κ1 κ) (rv : RelV v u) (rd : Bv f.K f.G F κ H v (.lst l))
    (h : Aft f F κ H σ (fun F' κ' ρ' M' H' d => ∀ v, RelQ f m F' κ' ρ' σ H' v d → Q v H') (sortN φ m (.lst l) kf ρ M)) :
    wpAny (model X.prog X.w) X.A (call (.builtin "sorted") [u] [(Str.ofString "key", .ref q)]) (EP X pins σ Q) E s := by
  obtain ⟨a, vs, rfl, ha, rs, nk⟩ := rd
  cases rv
  unfold sortN at h
  simp only [] at h
  cases e1 : keysOf φ kf l M with
  | none => rw [e1] at h; exact h.elim
  | some p =>
    obtain ⟨ks, M2⟩ := p
    rw [e1] at h
    simp only [] at h
    cases e2 : sortK ks l with
    | none => rw [e2] at h; exact h.elim
    | some out =>
      rw [e2] at h
      refine call_sort G KR hP I R hF hκ ha rs e1 e2 fun F' κ' H' p outV lt n _ r => ?_
      exact fin_nw hm ((R.at' lt).new n) (nw_new (R.at' lt) n r) ((show Aft f F κ H σ _ (fin m (.lst out) ρ M2) from h).later (lt.go.trans (Go.new n)))
theorem s_sortF (G : GX f c X) {L : List Shp} (C : GC f X φ L) {m : Md} (hm : Ord m) {q : Shp} (hq : q ∈ L) (h1 : q.p = 1) (h2 : q.ks = []) (h3 : q.dd = []) {a : E} {b : Bool} {x : Expr} {p yp pos : Pos} {kp : Pos} (hs : ∀ e' p, x ≠ .Starred e' p)
    (hg : Gl X "sorted") (hmg : X.mg "sorted" = none) (hgy : Gl X q.x) (hd : (q.x == ("__debug__" : Str)) = false) (ha : PE X x (dE f .b (ev g φ .b a))) :
    PE X (.Call (.Name "sorted" p) [x] [⟨some "key", .Name q.x yp, kp⟩] pos) (dE f m (ev g φ m (.sortk a (.lit (.fn q.i)) b))) := by
  refine ⟨fun pins s σ H Q I ⟨F, κ, ρ, M, R, h⟩ => ?_⟩
  rw [ev_sortk] at h
  refine wpAny_Call_Name_kw (ld_blt I hg hmg boot_sorted ?_)
  have he : backTo pos (starEach [x] X.env) = (false, eval x X.env) :: backTo pos (starEach [] X.env) := by rw [noStar hs]; rfl
  refine callWith_kw ?_ he (noStarsB fun y hy => by rw [List.mem_singleton.mp hy]; exact hs)
  rw [he]
  refine Calls.spliced_cons (thn (ha.run pins s σ H (fun v H1 => ∃ F1 κ1 ρ1 M1 d, f.RS F1 κ1 ρ1 M1 σ H1 ∧ RelQ f .b F1 κ1 ρ1 σ H1 v d ∧ Aft f F1 κ1 H1 σ (fun F' κ' ρ' M' H' d => ∀ v, RelQ f m F' κ' ρ' σ H' v d → Q v H') ((ev g φ .v (.lit (.fn q.i)) ρ1 M1).bind fun kf ρ M => sortN φ m d kf ρ M)) I ⟨F, κ, ρ, M, R, h.bind.imp fun F1 κ1 ρ1 M1 H1 d g1 R1 ⟨_, q⟩ v r => ⟨F1, κ1, ρ1, M1, d, R1, r, q⟩⟩) fun u s1 ⟨v, H1, I1, r1, F1, κ1, ρ1, M1, d, R1, rd, q1⟩ => ?_)
  refine Calls.spliced_nil ?_
  obtain ⟨ad, hmy, KR⟩ := keyrun_fn (F1 := F1) (κ1 := κ1) (σ := σ) G C hq h1 h2 h3
  refine kws_cons (ld_glob I1 hgy hmy (kws_nil ?_) hd)
  cases d with
  | lst l =>
    have q1 : Aft f F1 κ1 H1 σ (fun F' κ' ρ' M' H' d => ∀ v, RelQ f m F' κ' ρ' σ H' v d → Q v H') (sortN φ m (.lst l) (.fn q.i) ρ1 M1) := q1
    exact sort_fin G hm KR (fun _ z => nomatch z) I1 R1 (Ex.refl _) (Px.refl _) r1 rd q1
  | _ => exact q1.elim
theorem s_sortL (G : GX f c X) {L : List Shp} (C : GC f X φ L) {m : Md} (hm : Ord m) {j : Nat} {caps : List Nat} {Lj : LamI} {params : Arguments} {body : Expr} {scope : Scope} {a : E} {b : Bool} {x : Expr} {p lp pos : Pos} {kp : Pos} (hs : ∀ e' p, x ≠ .Starred e' p)
    (W : LamW f X j caps Lj params body scope) (hg : Gl X "sorted") (hmg : X.mg "sorted" = none) (ha : PE X x (dE f .b (ev g φ .b a))) :
    PE X (.Call (.Name "sorted" p) [x] [⟨some "key", .Lambda params body scope lp, kp⟩] pos) (dE f m (ev g φ m (.sortk a (.lam j caps) b))) := by
  refine ⟨fun pins s σ H Q I ⟨F, κ, ρ, M, R, h⟩ => ?_⟩
  rw [ev_sortk] at h
  refine wpAny_Call_Name_kw (ld_blt I hg hmg boot_sorted ?_)
  have he : backTo pos (starEach [x] X.env) = (false, eval x X.env) :: backTo pos (starEach [] X.env) := by rw [noStar hs]; rfl
  refine callWith_kw ?_ he (noStarsB fun y hy => by rw [List.mem_singleton.mp hy]; exact hs)
  rw [he]
  refine Calls.spliced_cons (thn (ha.run pins s σ H (fun v H1 => ∃ F1 κ1 ρ1 M1 d, f.RS F1 κ1 ρ1 M1 σ H1 ∧ RelQ f .b F1 κ1 ρ1 σ H1 v d ∧ Aft f F1 κ1 H1 σ (fun F' κ' ρ' M' H' d => ∀ v, RelQ f m F' κ' ρ' σ H' v d → Q v H') ((ev g φ .v (.lam j caps) ρ1 M1).bind fun kf ρ M => sortN φ m d kf ρ M)) I ⟨F, κ, ρ, M, R, h.bind.imp fun F1 κ1 ρ1 M1 H1 d g1 R1 ⟨_, q⟩ v r => ⟨F1, κ1, ρ1, M1, d, R1, r, q⟩⟩) fun u s1 ⟨v, H1, I1, r1, F1, κ1, ρ1, M1, d, R1, rd, q1⟩ => ?_)
  refine Calls.spliced_nil ?_
  rw [ev_lam] at q1
  cases ec : capsOf ρ1 caps with
  | none => rw [ec] at q1; exact q1.elim
  | some pr =>
    obtain ⟨cds, ρ2⟩ := pr
    rw [ec] at q1
    refine kws_cons (lam_ready W I1 R1 ec fun a c' cl pm ctv F2 H2 s2 cs I2 R2 g2 hf hn hfr hco cp hsl rc => kws_nil ?_)
    have q1 := q1.later g2
    cases d with
    | lst l =>
      have q1 : Aft f F2 κ1 H2 σ (fun F' κ' ρ' M' H' d => ∀ v, RelQ f m F' κ' ρ' σ H' v d → Q v H') (sortN φ m (.lst l) (.lam j cds) ρ2 M1) := q1
      have KR := keyrun_lam (κ1 := κ1) G C W.lam hco cp hsl rc (pm := pm) (ctv := ctv) (a := a)
      have nfs : a ≠ X.env.locals ∧ a ∉ X.fs := by
        refine ⟨fun z => ?_, fun z => ?_⟩
        · obtain ⟨m, ⟨o, es, ep, ho, hd, _⟩, _⟩ := I2.loc
          rw [z, ho] at hf
          cases hf
          cases hd
        · rcases I2.ok.stk with e | ⟨e, hfr'⟩
          · rw [e] at hfr; exact hfr z
          · rw [e] at hfr
            refine hfr ?_
            unfold frs
            rw [List.filterMap_cons, hfr']
            exact List.mem_cons_of_mem _ z
      have I3 : Inv X ((a, PySem.W.kla_obj "<lambda>" Lj.qual Lj.params Lj.body Lj.scope cl pm c' ctv) :: pins) σ H2 s2 := I2.pins_of fun p hp => by
        rcases List.mem_cons.mp hp with rfl | hp
        · exact ⟨hf, hn, nfs.1, nfs.2, fun v z => nomatch z⟩
        · exact I2.pin p (List.mem_append_right _ hp)
      have rd2 : Bv f.K f.G F2 κ1 H2 v (.lst l) := Bv.go rd R1.m g2
      refine wpAny_mono (sort_fin (E := X.xe) G hm KR (fun p hp => by rw [List.mem_singleton.mp hp]; exact List.mem_cons_self) I3 R2 (Ex.refl _) (Px.refl _) r1 rd2 q1) (fun w s3 hw => ?_) fun _ _ z => z
      obtain ⟨v3, H3, I4, r4, q4⟩ := hw
      exact ⟨v3, H3, I4.pins_of fun p hp => I4.pin p (List.mem_append_right _ (List.mem_cons_of_mem _ hp)), r4, q4⟩
    | _ => exact q1.elim
/-- a row of arguments, a lambda last -/
theorem splice_last {lamx : Expr} {pos : Pos} {pins : List (Addr × Obj)} (hl : ∀ e' p, lamx ≠ .Starred e' p) : ∀ {es : List E} {xs : List Expr}, Paired (fun e x => PE X x (dE f .v (ev g φ .v e))) es xs → (∀ e ∈ es, ∀ e', e ≠ .star e') → (∀ x ∈ xs, ∀ e' p, x ≠ .Starred e' p) →
    ∀ {F : Fz} {κ : List Addr} {ρ : Ev} {M : Mem} {H : Hp} {s : Shared} {K : List Value → Shared → Prop}, Inv X pins σ H s → f.RS F κ ρ M σ H →
    Aft f F κ H σ (fun F' κ' ρ' M' H' ds => ∀ vs us s', f.RS F' κ' ρ' M' σ H' → Paired (Rvl f.G f.B F' κ') vs ds → Vals vs us → Inv X pins σ H' s' → wpAny (model X.prog X.w) X.A (eval lamx X.env) (fun u s2 => K (us ++ [u]) s2) X.xe s') (evs g φ .v es ρ M) →
    wpAny (model X.prog X.w) X.A (spliced (backTo pos (starEach (xs ++ [lamx]) X.env))) K X.xe s
  | [], [], .nil, _, _, F, κ, ρ, M, H, s, K, I, R, h => by
    rw [List.nil_append, noStar hl]
    simp only [evs] at h
    refine Calls.spliced_cons (wpAny_mono (Aft.here h R [] [] s R .nil .nil I) (fun u s2 hk => ?_) fun _ _ z => z)
    exact Calls.spliced_nil hk
  | e :: es, x :: xs, .cons h1 t, hse, hsx, F, κ, ρ, M, H, s, K, I, R, h => by
    rw [evs_cons (hse e List.mem_cons_self)] at h
    rw [List.cons_append, noStar (hsx x List.mem_cons_self)]
    show wpAny _ _ (spliced ((false, eval x X.env) :: backTo pos (starEach (xs ++ [lamx]) X.env))) _ _ s
    refine Calls.spliced_cons (thn (h1.run pins s σ H (fun v H1 => ∃ F1 κ1 ρ1 M1 d, f.RS F1 κ1 ρ1 M1 σ H1 ∧ Rvl f.G f.B F1 κ1 v d ∧ Aft f F1 κ1 H1 σ (fun F' κ' ρ' M' H' ds => ∀ vs us s', f.RS F' κ' ρ' M' σ H' → Paired (Rvl f.G f.B F' κ') vs ds → Vals vs us → Inv X pins σ H' s' → wpAny (model X.prog X.w) X.A (eval lamx X.env) (fun u s2 => K (us ++ [u]) s2) X.xe s') ((evs g φ .v es ρ1 M1).bind fun ds ρ M => okE ρ M (d :: ds))) I
      ⟨F, κ, ρ, M, R, h.bind.imp fun F1 κ1 ρ1 M1 H1 d g1 R1 ⟨_, q⟩ v r => ⟨F1, κ1, ρ1, M1, d, R1, r, q⟩⟩) fun u s1 ⟨v, H1, I1, r1, F1, κ1, ρ1, M1, d, R1, rd, q1⟩ => ?_)
    refine splice_last hl t (fun e he => hse e (List.mem_cons_of_mem _ he)) (fun y hy => hsx y (List.mem_cons_of_mem _ hy)) I1 R1 (q1.bind.imp fun F2 κ2 ρ2 M2 H2 ds g2 R2 ⟨_, q2⟩ vs us s' R' rs rv I' => ?_)
    exact Aft.here q2 R2 (v :: vs) (u :: us) s' R' (.cons (rd.mono g2.ex g2.px) rs) (.cons r1 rv) I'
theorem Rvl.up {G : Gb} {B B' : Heap} {v : V} {d : D} (k : ∀ b o, B.get? b = some o → B'.get? b = some o) (h : Rvl G B F κ v d) : Rvl G B' F κ v d := by
  cases d with
  | lam f l =>
    obtain ⟨L, cs, h1, ⟨a, cl, pm, c', ctv, q1, q2, q3, q4, q5, q6, q7⟩, h3⟩ := h
    refine ⟨L, cs, h1, ⟨a, cl, pm, c', ctv, q1, k _ _ q2, q3, q4, fun y c e => ?_, q6, fun i y e => ?_⟩, h3⟩
    · obtain ⟨v, o, ho, hd⟩ := q5 y c e
      exact ⟨v, o, k _ _ ho, hd⟩
    · obtain ⟨c, u, w, z1, z2, z3, o, ho, hd⟩ := q7 i y e
      exact ⟨c, u, w, z1, z2, z3, o, k _ _ ho, hd⟩
  | _ => exact Rv.l (Rvl.less h rfl)
theorem s_callL (G : GX f c X) {L : List Shp} (C : GC f X φ L) {m : Md} (hm : m = .v ∨ m = .b) {q : Shp} (hq : q ∈ L) (hks : q.ks = []) (hdd : q.dd = []) {es : List E} {xs : List Expr} {j : Nat} {caps : List Nat} {Lj : LamI} {params : Arguments} {body : Expr} {scope : Scope} {p lp pos : Pos}
    (hg : Gl X q.x) (hdb : (q.x == ("__debug__" : Str)) = false) (hl : xs.length + 1 = q.p) (hp : Paired (fun e x => PE X x (dE f .v (ev g φ .v e))) es xs) (hes : ∀ e ∈ es, ∀ e', e ≠ .star e') (hst : ∀ y ∈ xs, ∀ e' p, y ≠ .Starred e' p) (W : LamW f X j caps Lj params body scope) :
    PE X (.Call (.Name q.x p) (xs ++ [.Lambda params body scope lp]) [] pos) (dE f m (ev g φ m (.call q.i (es ++ [.lam j caps])))) := by
  obtain ⟨k, hr, hc, _⟩ := C.ex
  obtain ⟨a, fd, ps, ds0, dvs, Fo, hmg, hk, hb, hv, hd⟩ := (hc q hq).ex
  rw [hdd] at hd
  rw [hks] at hb
  cases dvs with
  | cons _ _ => cases hd
  | nil =>
    cases hv
    refine ⟨fun pins s σ H Q I ⟨F, κ, ρ, M, R, h⟩ => ?_⟩
    simp only [ev] at h
    rw [evs_app, DV.R.bind_assoc] at h
    refine wpAny_Call_Name_kw (ld_glob I hg hmg ?_ hdb)
    have hstl : ∀ y ∈ xs ++ [Expr.Lambda params body scope lp], ∀ e' p, y ≠ .Starred e' p := fun y hy => by
      rcases List.mem_append.mp hy with hy | hy
      · exact hst y hy
      · rw [List.mem_singleton.mp hy]
        intro _ _ z
        cases z
    have main : wpAny (model X.prog X.w) X.A (spliced (backTo pos (starEach (xs ++ [Expr.Lambda params body scope lp]) X.env))) (fun us s1 => X.K.In s1.heap ∧ wpAny (model X.prog X.w) X.A (call (.ref a) us) (EP X pins σ Q) X.xe s1) X.xe s := by
      refine splice_last (by intro _ _ z; cases z) hp hes hst I R (h.bind.when.imp fun F1 κ1 ρ1 M1 H1 ds g1 R1' ⟨eq, _, q1⟩ vs us s1 R1 rs rv I1 => ?_)
      have lam1 : evs g φ .v [.lam j caps] ρ1 M1 = (ev g φ .v (.lam j caps) ρ1 M1).bind fun d ρ M => okE ρ M [d] := by
        rw [evs_cons (fun e' z => by cases z)]
        simp only [evs, DV.R.bind_ok]
      rw [lam1, ev_lam] at q1
      cases ec : capsOf ρ1 caps with
      | none => rw [ec] at q1; exact q1.elim
      | some pr =>
        obtain ⟨cds, ρ2⟩ := pr
        rw [ec] at q1
        refine lam_ready W I1 R1 ec fun al c' cl pm ctv F2 H2 s2 cs I2 R2 g2 hf hn hfr hco cp hsl rc => ⟨I2.kIn, ?_⟩
        have q2 : Aft f F1 κ1 H1 σ (fun F' κ' ρ' M' H' d => ∀ v, RelQ f m F' κ' ρ' σ H' v d → Q v H') (ansO (φ q.i (ds ++ [.lam j cds]) M1) ρ2 (fin m)) := q1
        have CA : NdefX.CellsAt cl Lj.fr (cs.map some) s2.heap H2 := by rw [← hsl]; exact NdefX.cells_of I2 cp
        obtain ⟨B, kB, asB, e0⟩ := up I2 (al :: cl.filterMap fun p => cl.lookup p.1) (fun b hb => by
          rcases List.mem_cons.mp hb with rfl | hb
          · exact hn
          · obtain ⟨p, _, e⟩ := List.mem_filterMap.mp hb
            exact (CA.all p.1 b e).1) (fun b hb z => by
          rcases List.mem_cons.mp hb with rfl | hb
          · exact hfr z
          · obtain ⟨p, _, e⟩ := List.mem_filterMap.mp hb
            rcases List.mem_cons.mp (I2.stkSub b z) with w | w
            · exact I2.cne p.1 b (cp.sub _ _ e) w
            · obtain ⟨_, o, ho, _⟩ := I2.ok.funs.mem w
              exact absurd (Heap.lt_size ho) (Nat.not_lt_of_le (I2.ok.cab p.1 b (W.fnt _) (cp.sub _ _ e))))
        have cellB : ∀ y b, cl.lookup y = some b → ∀ v, s2.heap.IsCell b v → B.IsCell b v := fun y b e v ⟨o, ho, hd⟩ => by
          refine ⟨o, asB b (List.mem_cons_of_mem _ (List.mem_filterMap.mpr ?_)) o ho, hd⟩
          exact ⟨(y, b), look_mem e, e⟩
        have la : LamAt f.G F2 B Lj (.ref al) cs := by
          refine ⟨al, cl, pm, c', ctv, rfl, asB al List.mem_cons_self _ hf, hco, by have := CA.len; rw [List.length_map] at this; exact this, fun y b e => ?_, CA.inj, fun i y e => ?_⟩
          · obtain ⟨_, v, hv⟩ := CA.all y b e
            exact ⟨v, cellB y b e v hv⟩
          · obtain ⟨b, e1, e2⟩ := CA.has i y e
            have hi : i < cs.length := by
              have := CA.len
              rw [List.length_map] at this
              rw [this]
              exact (List.getElem?_eq_some_iff.mp e).1
            obtain ⟨u, r1, r2⟩ := e2 cs[i] (by rw [List.getElem?_map, List.getElem?_eq_getElem hi]; rfl)
            exact ⟨b, u, cs[i], e1, List.getElem?_eq_getElem hi, r1, cellB y b e1 _ r2⟩
        have kB' : ∀ b o, f.B.get? b = some o → B.get? b = some o := by rw [← G.B]; exact kB
        have ra : Paired (Rvl f.G B F2 κ1) (vs ++ [V.ref al]) (ds ++ [D.lam j cds]) := Paired.app (Paired.mapP rs fun _ _ z => Rvl.up kB' (z.mono g2.ex g2.px)) (.cons ⟨Lj, cs, W.lam, la, rc⟩ .nil)
        have q3 := q2.later g2
        have sp : spD f.K f.G B φ q.i (vs ++ [V.ref al]) H2 Q (fun cls dx H' => f.W cls dx σ H') := by
          refine ⟨F2, κ1, M1, _, R2.m, ra, ?_⟩
          cases e : φ q.i (ds ++ [.lam j cds]) M1 with
          | none => rw [e] at q3; exact q3.elim
          | some o =>
            rw [e] at q3
            cases o with
            | ok d M' => exact fun F' κ' H' v l r => fin_ok hm (R2.at' l) r ((show Aft f F2 κ1 H2 σ _ (fin m d ρ2 M') from q3).later l.go)
            | exc x M' => exact fun F' κ' H' cls dx l r => q3 F' κ' H' cls dx l.go (R2.at' l) r
        have hul : (us ++ [Value.ref al]).length = q.p := by
          rw [List.length_append, ← rv.length, Paired.length rs, evs_len hes eq, Paired.length hp, List.length_singleton, hl]
        have b1 := hb s2 (us ++ [Value.ref al]) [] I2.kIn hul rfl
        rw [permV_nil] at b1
        refine wpAny_call (codeAny_mono ((Fo B kB').run X.A X.stack s2 H2 ⟨us ++ [Value.ref al], []⟩ _ (vs ++ [V.ref al]) Q _ hr G.gd e0 b1 (by rw [List.nil_append, List.append_nil]; exact rv.append (.cons rfl .nil)) sp) fun r s' hq => ?_)
        cases r with
        | error e => exact G.takes e s' (XE.of_call I2 (fun _ _ _ z => z) hq)
        | ok fl =>
          cases fl with
          | ret u => exact I2.after hq
          | next => exact False.elim hq
          | brk => exact False.elim hq
          | cont => exact False.elim hq
    obtain ⟨y, ys, ey⟩ : ∃ y ys, xs ++ [Expr.Lambda params body scope lp] = y :: ys := by
      cases xs with
      | nil => exact ⟨_, _, rfl⟩
      | cons x xs => exact ⟨_, _, rfl⟩
    rw [ey] at main hstl ⊢
    exact PySem.W.callWith_K (h₀ := X.base) I.ok.mod.kin hk main (noStar (hstl y List.mem_cons_self)) (noStars fun z m => hstl z (List.mem_cons_of_mem _ m))
end
end DV
end
section
set_option Elab.async false
set_option linter.all false
set_option maxRecDepth 100000
set_option maxHeartbeats 4000000
/-! DV43: sorted(set(xs)): ints, tuples of ints. -/
namespace DV
open PySem PySem.Spec PyProof.Rows L2
/-- a set that was just made -/
abbrev set0 (w : World) : Obj := { cls := .type "set", dict := none, data := .set #[] 0 (.fresh 0 0 (!w.params.followText "set-order")) }
section
variable {P : Program} {w : World} {A : Around} {E : Value → Shared → Prop} {s : Shared}
/-- set(l), l a list of ints -/
theorem set_lstI {l : Addr} {its : Array Value} (ns : List Int) {Q : Value → Shared → Prop} (hh : A.handled = none) (hl : s.heap.IsList l its) (hit : IntsAre its.toList ns) (hb : ns.length + 1 < scanBound)
    (h : ∀ (h' : Heap) (tk c : Nat), SetR w h' s.heap.objs.size (fun j => decide (j ∈ ns)) c → c ≤ ns.length → (∀ b o, s.heap.get? b = some o → h'.get? b = some o) → Q (.ref s.heap.objs.size) { s with heap := h', toks := tk }) : wpAny (model P w) A (call (.type "set") [.ref l]) Q E s := by
  have hz : its.size = ns.length := by have q := IntsAre.length hit; rw [Array.length_toList] at q; exact q
  obtain ⟨c, tl, m1⟩ := F.called_set.mro
  have m2 := F.called_set.made
  have m3 := F.called_set.sub
  refine wpAny_call (codeAny_of_tree (show wpAny _ _ (callAny (.type "set") _) _ _ _ from ?_))
  refine wpAny_pure ⟨Code.quiet_builtin _ (by decide +kernel), codeAny_builtin F.entry_type_call ?_⟩
  rw [Around.under_plain (weight_type_call_type "set" [.ref l] []) rfl]
  have m4 := F.called_set.notType
  have m5 := F.called_set.canCreate
  have m6 := F.typeCall_set_1 (.ref l)
  repeat (any_goals (first | assumption | wp_step))
  refine codeAny_mono (code_set_led1 (.ref l) (E := E) (Q₁ := fun ob s1 => ob = .ref s.heap.objs.size ∧ s1 = { s with heap := s.heap.push (set0 w) }) ⟨rfl, rfl⟩) fun r s1 hr => ?_
  cases r with
  | error e => exact hr
  | ok fl =>
    cases fl with
    | ret ob =>
      obtain ⟨rfl, rfl⟩ := hr
      have hS : (s.heap.push (set0 w)).get? s.heap.objs.size = some (set0 w) := Heap.get?_push_size _ rfl
      have hT : Shared.TypeIs { s with heap := s.heap.push (set0 w) } (.ref s.heap.objs.size) "set" := ⟨_, hS, rfl⟩
      have k1 := F.called_set.init.lookup
      have k2 := F.called_set.init.bind (.ref s.heap.objs.size)
      repeat (any_goals (first | assumption | wp_step))
      refine codeAny_mono (codeAny_call_builtin (R := wants (fun r s2 => r = .none ∧ ∃ h' tk c, s2 = { s with heap := h', toks := tk } ∧ SetR w h' s.heap.objs.size (fun j => decide (j ∈ ns)) c ∧ c ≤ ns.length ∧ ∀ b o, s.heap.get? b = some o → h'.get? b = some o) E) F.called_set.init.plain F.entry_set_init (check_set_init_1 hT ?_)) fun r2 s2 hr2 => ?_
      · obtain ⟨⟨oc, od, ot, os⟩, hol, hcl, nl, hdl⟩ := hl
        simp only at hcl hdl
        subst hcl hdl
        have hol' : (s.heap.push (set0 w)).get? l = some { cls := .type "list", dict := od, data := .seq its nl, slots := os } := Heap.get?_push_of_some _ hol
        have f1 := F.sub_list_set
        have f2 := F.sub_list_frozenset
        have f3 : (Value.type "list" == Value.type "dict") = false := by decide
        have hl1 : (s.heap.push (set0 w)).IsList l its := ⟨_, hol', rfl, nl, rfl⟩
        unfold Builtin.«set.__init__» noKeywords Builtin.Frozenset.updateFrom
        generalize hPI : pyIter = PI
        wp_walk
        subst hPI
        refine wpAny_pyIter_list hl1 (wpAny_bind (wpAny_runValue ?_))
        have hlS : l < s.heap.objs.size := Heap.lt_size hol
        have hh3 : A.in1.in1.in1.handled = none := by simp [hh]
        have sz : (s.heap.push (set0 w)).objs.size = s.heap.objs.size + 1 := Heap.size_push ..
        have hne : l ≠ (s.heap.push (set0 w)).objs.size := by rw [sz]; exact Nat.ne_of_lt (Nat.lt_succ_of_lt hlS)
        have hSf : s.heap.objs.size ∉ [(s.heap.push (set0 w)).objs.size, l] := by
          rw [sz]
          simp only [List.mem_cons, List.not_mem_nil, or_false, not_or]
          exact ⟨Nat.ne_of_lt (Nat.lt_succ_self _), Nat.ne_of_gt hlS⟩
        refine set_update_ints ((Walks.list hh3 _ l hne its).toS) s.heap.objs.size hSf ns hz hb (fun i v hv => ?_) (its.size - 0) 0 _ (by omega) (Nat.zero_le _) ⟨⟨_, Heap.get?_push_size _ rfl, rfl, rfl⟩, (hl1.push _)⟩ ⟨0, Nat.le_refl 0, setR_new_at (Heap.get?_push_of_some _ hS)⟩ fun s' c' hm hc' hS' => ?_
        · have hi : i < ns.length := by rw [← hz]; exact (Array.getElem?_eq_some_iff.mp hv).1
          obtain ⟨t, e⟩ := PyProof.Rows.IntsAre.int_at hit i v (by rw [Array.getElem?_toList]; exact hv)
          refine ⟨ns[i], t, List.getElem?_eq_getElem hi, ?_⟩
          rw [e, List.getD_eq_getElem?_getD, List.getElem?_eq_getElem hi] <;> rfl
        · obtain ⟨h', g2, d', tk', os'⟩ := s'
          have eg : g2 = s.gens := hm.gens
          have ed : d' = s.drawn := hm.drawn
          have eo : os' = s.os := hm.os
          subst eg ed eo
          refine wpAny_pure (show wpAny _ _ (ret Value.none) _ _ _ from ?_)
          rw [hz] at hc'
          refine wpAny_pure ⟨rfl, h', tk', c', rfl, hS', hc', fun b o e => ?_⟩
          have b0 : b < s.heap.objs.size := Heap.lt_size e
          refine hm.heap b o ?_ (Heap.get?_push_of_some _ (Heap.get?_push_of_some _ e))
          simp only [List.mem_cons, List.not_mem_nil, or_false, not_or]
          exact ⟨Nat.ne_of_lt b0, by rw [sz]; exact Nat.ne_of_lt (Nat.lt_succ_of_lt b0)⟩
      · cases r2 with
        | error e => exact hr2
        | ok fl2 =>
          cases fl2 with
          | ret r =>
            obtain ⟨rfl, h', tk, c', rfl, q1, q2, q3⟩ := hr2
            repeat (any_goals (first | assumption | wp_step))
            exact h _ _ _ q1 q2 q3
          | _ => exact hr2.elim
    | _ => exact hr.elim
end
section
variable {X : Cx}
def rSetN (K : PySem.W.Frag) (w : World) : List V → Hp → VK → Prop := fun xs H Q => ∃ (l : Addr) (ns : List Int), xs = [V.ref l] ∧ (SqL K H l (ns.map V.int) ∨ SqT K H l (ns.map V.int)) ∧ ns.length < 64 ∧ ∀ a c, H a = none → c < 64 → Q (.ref a) (upd H a (SetO w a (fun j => decide (j ∈ ns)) c))
theorem cr_setN (hc : X.calm = true) : CallR X (.type "set") (rSetN X.K X.w) := by
  intro pins s σ H xs us Q I r h
  obtain ⟨l, ns, rfl, hl, hf, q⟩ := h
  rw [Vals.ref1 r]
  have sb : ns.length + 1 < scanBound := by unfold scanBound; omega
  have hn : H s.heap.objs.size = none := I.hok.fresh (Nat.le_refl _)
  have fin : ∀ (h' : Heap) (tk c : Nat), SetR X.w h' s.heap.objs.size (fun j => decide (j ∈ ns)) c → c ≤ ns.length → (∀ b o, s.heap.get? b = some o → h'.get? b = some o) → EP X pins σ Q (.ref s.heap.objs.size) { s with heap := h', toks := tk } := fun h' tk c R hc k =>
    ⟨.ref s.heap.objs.size, _, I.laid (t' := tk) k (Nat.le_refl _) (setO_new R), rfl, q _ c hn (by omega)⟩
  rcases hl with hl | hl
  · obtain ⟨its, rv, pl, hz⟩ := I.list hl
    exact set_lstI ns (I.ok.hd hc) pl.isList (by simpa using rv.ints) sb fin
  · obtain ⟨its, rv, pl, hz⟩ := I.tuple hl
    exact call_set_tupI ns (I.ok.hd hc) pl (by simpa using rv.ints) sb fin
/-- tuples of ints in their order -/
def encT (p : Addr × List Int) : PyData := .tuple (p.2.map .int)
theorem perm_map {α β : Type} {f : α → β} : ∀ {L : List α} {vs : List β}, vs.Perm (L.map f) → ∃ L1 : List α, vs = L1.map f ∧ L1.Perm L
  | [], vs, h => ⟨[], List.Perm.eq_nil h, .refl _⟩
  | a :: L, vs, h => by
    have hm : f a ∈ vs := h.mem_iff.mpr List.mem_cons_self
    obtain ⟨s, t, rfl⟩ := List.append_of_mem hm
    have h' : (s ++ t).Perm (L.map f) := (List.perm_middle.symm.trans h).cons_inv
    obtain ⟨L1, e, p⟩ := perm_map h'
    have es : (L1.take s.length).map f = s := by rw [List.map_take, ← e, List.take_left]
    have et : (L1.drop s.length).map f = t := by rw [List.map_drop, ← e, List.drop_left]
    refine ⟨L1.take s.length ++ a :: L1.drop s.length, ?_, ?_⟩
    · rw [List.map_append, List.map_cons, es, et]
    · exact List.perm_middle.trans (List.Perm.cons a (by rw [List.take_append_drop]; exact p))
theorem alike_tt (a b : List Int) : PySem.W.alike (.tuple (a.map .int)) (.tuple (b.map .int)) = true := by
  simpa [PySem.W.alike] using PySem.W.alike_ints a b
theorem dataLt_tt (a b : List Int) : PySem.W.dataLt (.tuple (a.map .int)) (.tuple (b.map .int)) = decide (a < b) := by
  rw [PySem.W.dataLt_tuple]
  exact PySem.W.dataLt_ints a b
theorem le_tt : PySem.W.dataLe false encT = fun p q => decide (p.2 ≤ q.2) := by
  funext p q
  show (!PySem.W.dataLt (encT q) (encT p)) = _
  unfold encT
  rw [dataLt_tt]
  by_cases h : q.2 < p.2
  · have h' : ¬ p.2 ≤ q.2 := fun r => List.not_lt.mpr r h
    simp [h, h']
  · have h' : p.2 ≤ q.2 := List.not_lt.mp h
    simp [h, h']
theorem sorted_le (l : List (Addr × List Int)) : (l.mergeSort (PySem.W.dataLe false encT)).Pairwise (fun p q => p.2 ≤ q.2) := by
  rw [le_tt]
  refine (List.pairwise_mergeSort (le := fun p q : Addr × List Int => decide (p.2 ≤ q.2)) (fun a b c h1 h2 => ?_) (fun a b => ?_) l).imp fun {a b} h => by simpa using h
  · simp only [decide_eq_true_eq] at *
    exact List.le_trans h1 h2
  · simp only [Bool.or_eq_true, decide_eq_true_eq]
    exact List.le_total ..
theorem reads_T {P : Program} {w : World} {h : Heap} {p : Addr × List Int} (x : IsT P w h p.2 p.1) : Reads h (.ref p.1) (encT p) [] := by
  obtain ⟨o, items, n, ho, hc, hd, hi⟩ := x
  have hi2 := ints_of_items hi
  have ra : ∀ {us : List Value} {ns : List Int}, IntsAre us ns → ReadsAll h us (ns.map .int) [] := by
    intro us ns z
    induction z with
    | nil => exact .nil
    | cons n t _ ih => exact ReadsAll.cons (as := []) (.int n t) ih
  exact .tuple ho hc hd (ra hi2)
def rSortedG (K : PySem.W.Frag) (P : Program) (w : World) : List V → Hp → VK → Prop := fun vs H Q => ∃ (a : Addr) (L : List (Addr × List Int)), vs = [V.ref a] ∧ H a = some (SetTO P w a L) ∧ (∀ p ∈ L, SqT K H p.1 (p.2.map V.int)) ∧
  ∀ (L' : List (Addr × List Int)) (p : Addr), L'.Perm L → (L'.map (·.2)).Nodup → L'.Pairwise (fun q r => q.2 ≤ r.2) → H p = none → Q (.ref p) (upd H p (.lst (L'.map fun q => V.ref q.1)))
theorem depth_T (p : Addr × List Int) : (encT p).depth = 1 := by
  show (PyData.tuple (p.2.map .int)).depth = 1
  simp [PyData.depth, PySem.W.depth_ints]
theorem cr_sortedG (hc : X.calm = true) (hu : X.A.units + 64 < cLine) : CallR X (.builtin "sorted") (rSortedG X.K X.prog X.w) := by
  intro pins s σ H vs us Q I r h
  obtain ⟨a, L, rfl, ha, hk, q⟩ := h
  have R0 : SetT0 X.prog X.w s.heap a L := (I.hok a _ ha).1
  obtain ⟨es, ep, t, R⟩ := R0.full fun p hp => I.isT (hk p hp)
  rw [Vals.ref1 r]
  obtain ⟨o, ho, hex, hd⟩ := R.ob
  have hsz := R.size
  have hfew := R.few
  refine Calls.call_function_entry kind_sorted plain_sorted entry_sorted (args_sorted1 _) ?_
  unfold Builtin.«sorted»
  refine wpAny_bind (m := checkCount "sorted" 1 1 _) (wpAny_pure ?_)
  refine wpAny_bind (collect_set (A := X.A.in1) (I.ok.hd hc) ⟨o, ho, hex.1, hd⟩ R.fits (by unfold scanBound; omega) R.tab.ris R.led fun s1 vs k1 hz g1 o1 pm => ?_)
  have hes : es.toList.map (·.2) = L.map fun q => Value.ref q.1 := by
    rw [R.rows]
    unfold rowsOf
    rw [List.map_map]
    rfl
  rw [hes] at pm
  obtain ⟨L1, rfl, p1⟩ : ∃ L1 : List (Addr × List Int), vs = L1.map (fun q => Value.ref q.1) ∧ L1.Perm L := perm_map pm
  have l1 : L1.length < 64 := by rw [p1.length_eq]; exact hfew
  have hvl : (L1.map fun q => Value.ref q.1).length ≤ sizeLine := by rw [List.length_map, sizeLine_eq]; omega
  refine wpAny_bind (wpAny_newList ?_ hvl)
  generalize hvs : (L1.map fun q => Value.ref q.1) = vs at hvl pm ⊢
  have hoL : (s1.heap.push (seqObj "list" vs.toArray 0)).get? s1.heap.objs.size = some (seqObj "list" vs.toArray 0) := Heap.get?_push_size _ rfl
  have up : ∀ b o, s.heap.get? b = some o → (PySem.W.sortingHeap (s1.heap.push (seqObj "list" vs.toArray 0)) s1.heap.objs.size vs).get? b = some o := fun b o e =>
    PySem.W.sortingHeap_old (Nat.ne_of_lt (Heap.lt_size (k1 b o e))) (Heap.get?_push_of_some _ (k1 b o e))
  have tt : ∀ p ∈ L1, IsT X.prog X.w (PySem.W.sortingHeap (s1.heap.push (seqObj "list" vs.toArray 0)) s1.heap.objs.size vs) p.2 p.1 := fun p hp => isT_keep (R.tup p (p1.mem_iff.mp hp)) up
  have er : PySem.W.EachIs (fun v d => ∃ as, Reads (PySem.W.sortingHeap (s1.heap.push (seqObj "list" vs.toArray 0)) s1.heap.objs.size vs) v d as) vs (L1.map encT) := by
    have : ∀ l : List (Addr × List Int), (∀ p ∈ l, p ∈ L1) → PySem.W.EachIs (fun v d => ∃ as, Reads (PySem.W.sortingHeap (s1.heap.push (seqObj "list" vs.toArray 0)) s1.heap.objs.size vs) v d as) (l.map fun q => Value.ref q.1) (l.map encT) := by
      intro l
      induction l with
      | nil => exact fun _ => .nil
      | cons x l ih => exact fun hm => .cons ⟨[], reads_T (tt x (hm x List.mem_cons_self))⟩ (ih fun p hp => hm p (List.mem_cons_of_mem _ hp))
    have e := this L1 fun _ h => h
    rw [hvs] at e
    exact e
  have al : PySem.W.AllAlike (L1.map encT) := PySem.W.AllAlike.of fun b b' => alike_tt b.2 b'.2
  have S := sorts_any (prog := X.prog) (w := X.w) (A := X.A.in1.in1) (s := { s1 with heap := PySem.W.sortingHeap (s1.heap.push (seqObj "list" vs.toArray 0)) s1.heap.objs.size vs }) er al (fun d hd z => by
    obtain ⟨p, _, rfl⟩ := List.mem_map.mp hd
    cases z) (fun d hd => by
    obtain ⟨p, _, rfl⟩ := List.mem_map.mp hd
    rw [depth_T]
    show X.A.units + 1 + 1 + 1 < _
    omega)
  have same : PySem.W.EachIs (fun v (p : Addr × List Int) => v = Value.ref p.1) vs L1 := by
    have : ∀ l : List (Addr × List Int), PySem.W.EachIs (fun v (p : Addr × List Int) => v = Value.ref p.1) (l.map fun q => Value.ref q.1) l := by
      intro l
      induction l with
      | nil => exact .nil
      | cons x l ih => exact .cons rfl ih
    have e := this L1
    rw [hvs] at e
    exact e
  refine wpAny_bind (wpAny_holding (wpAny_call_entry slot_list_sort ⟨_, hoL, rfl⟩ entry_list_sort (PySem.W.list_sort_vals hoL S hvl ⟨_, rfl, ?_⟩) (args_list_sort _)))
  have out := PySem.W.keyedOut_each (rev := false) encT ⟨_, vs, al, rfl, er⟩ same
  have oe : ∀ {us : List Value} {l : List (Addr × List Int)}, PySem.W.EachIs (fun v (p : Addr × List Int) => v = Value.ref p.1) us l → us = l.map fun q => Value.ref q.1 := by
    intro us l z
    induction z with
    | nil => rfl
    | cons h _ ih => rw [List.map_cons, ← h, ← ih]
  have oo := oe out
  refine wpAny_pure ⟨_, rfl, ?_⟩
  have p2 : (L1.mergeSort (PySem.W.dataLe false encT)).Perm L := (List.mergeSort_perm _ _).trans p1
  obtain ⟨cc, hcc⟩ := sortedHeap_at (vs := vs) (out := (PySem.W.sortVals (PySem.W.dataKind _ (L1.map encT)) false vs vs).toArray) hoL
  have hn : H s1.heap.objs.size = none := I.hok.fresh hz
  have kk : ∀ b u, s.heap.get? b = some u → (sortedHeap (s1.heap.push (seqObj "list" vs.toArray 0)) s1.heap.objs.size vs (PySem.W.sortVals (PySem.W.dataKind (PySem.W.sortingHeap (s1.heap.push (seqObj "list" vs.toArray 0)) s1.heap.objs.size vs) (L1.map encT)) false vs vs).toArray).get? b = some u := fun b u e => by
    have q := k1 b u e
    have hlt := Heap.lt_size q
    rw [sortedHeap_old (Nat.ne_of_lt hlt) (by rw [size_push']; exact Nat.lt_succ_of_lt hlt)]
    exact Heap.get?_push_of_some _ q
  have lz : ((L1.mergeSort (PySem.W.dataLe false encT)).map fun q => V.ref q.1).length ≤ sizeLine := by rw [List.length_map, List.length_mergeSort, sizeLine_eq]; omega
  have J : Inv X pins σ (upd H s1.heap.objs.size (.lst ((L1.mergeSort (PySem.W.dataLe false encT)).map fun q => V.ref q.1))) { s with heap := _, gens := s1.gens, drawn := s1.drawn, toks := s1.toks } :=
    I.call (ch := []) (Un.laid kk hz hn) (I.hok.laid kk hz ⟨lz, _, cc, vals_of_refs _, by rw [← oo]; exact hcc⟩) (by rw [g1]; exact I.bare) (fun _ z => nomatch z)
  have e : ∀ hp : Heap, ({ s1 with heap := hp } : Shared) = { s with heap := hp, gens := s1.gens, drawn := s1.drawn, toks := s1.toks } := fun hp => by
    cases s1
    cases s
    cases o1
    rfl
  refine ⟨.ref s1.heap.objs.size, _, ?_, rfl, q _ _ p2 ((p2.map (·.2)).nodup_iff.mpr R.nd) (sorted_le L1) hn⟩
  rw [e]
  exact J
end
end DV
end
section
set_option Elab.async false
set_option linter.all false
set_option maxRecDepth 100000
set_option maxHeartbeats 1000000
/-! DV44: sorted(set(xs)) as a node. -/
namespace DV
open PySem PySem.Spec PyProof.Rows L2
theorem mem_nub {α : Type} [DecidableEq α] {x : α} : ∀ {l : List α}, x ∈ nub l ↔ x ∈ l
  | [] => Iff.rfl
  | a :: l => by
    unfold nub
    have ih := mem_nub (x := x) (l := l)
    split
    · rename_i h
      rw [ih, List.mem_cons]
      refine ⟨.inr, fun z => ?_⟩
      rcases z with rfl | z
      · exact mem_nub.mp h
      · exact z
    · rw [List.mem_cons, List.mem_cons, ih]
theorem nodup_nub {α : Type} [DecidableEq α] : ∀ l : List α, (nub l).Nodup
  | [] => List.Pairwise.nil
  | a :: l => by
    unfold nub
    split
    · exact nodup_nub l
    · rename_i h
      exact List.nodup_cons.mpr ⟨h, nodup_nub l⟩
theorem uniq {α : Type} [DecidableEq α] {le : α → α → Bool} (tr : ∀ a b c, le a b = true → le b c = true → le a c = true) (tot : ∀ a b, (le a b || le b a) = true) (anti : ∀ a b, le a b = true → le b a = true → a = b) {l ts : List α}
    (h1 : l.Nodup) (h2 : ∀ x, x ∈ l ↔ x ∈ ts) (h3 : l.Pairwise fun a b => le a b = true) : l = (nub ts).mergeSort le := by
  have p : l.Perm ((nub ts).mergeSort le) := by
    refine (List.perm_ext_iff_of_nodup h1 ((List.mergeSort_perm _ _).nodup_iff.mpr (nodup_nub ts))).mpr fun x => ?_
    rw [(List.mergeSort_perm _ _).mem_iff, mem_nub]
    exact h2 x
  exact p.eq_of_pairwise (le := fun a b => le a b = true) (fun a b _ _ h k => anti a b h k) h3 (List.pairwise_mergeSort tr tot _)
theorem uniqI {l ts : List Int} (h2 : ∀ x, x ∈ l ↔ x ∈ ts) (h3 : l.Pairwise (· < ·)) : l = (nub ts).mergeSort fun a b => decide (a ≤ b) := by
  refine uniq (fun a b c => ?_) (fun a b => ?_) (fun a b => ?_) (h3.imp fun h => Int.ne_of_lt h) h2 (h3.imp fun h => ?_)
  · simp only [decide_eq_true_eq]; omega
  · simp only [Bool.or_eq_true, decide_eq_true_eq]; omega
  · simp only [decide_eq_true_eq]; omega
  · simp only [decide_eq_true_eq]; omega
theorem uniqT {l ts : List (List Int)} (h1 : l.Nodup) (h2 : ∀ x, x ∈ l ↔ x ∈ ts) (h3 : l.Pairwise (· ≤ ·)) : l = (nub ts).mergeSort fun a b => decide (a ≤ b) := by
  refine uniq (fun a b c => ?_) (fun a b => ?_) (fun a b => ?_) h1 h2 (h3.imp fun h => ?_)
  · simp only [decide_eq_true_eq]; exact List.le_trans
  · simp only [Bool.or_eq_true, decide_eq_true_eq]; exact List.le_total ..
  · simp only [decide_eq_true_eq]; exact List.le_antisymm
  · simpa using h
section
variable {f : Fr0} {c : Ct} {X : Cx} {g : Cfg} {φ : Phi}
variable {F F' : Fz} {κ κ' : List Addr} {ρ ρ' : Ev} {M M' : Mem} {σ : L2.St} {H H' : Hp}
theorem ints_of {G : Gb} : ∀ {l : List D} {is : List Int} {vs : List V}, intsOf l = some is → Rvs G F κ vs l → vs = is.map V.int ∧ l = is.map D.int
  | [], is, _, h, .nil => by cases h; exact ⟨rfl, rfl⟩
  | d :: l, is, _, h, .cons r t => by
    cases d with
    | int b =>
      simp only [intsOf, Option.map_eq_some_iff] at h
      obtain ⟨js, h1, rfl⟩ := h
      obtain ⟨rfl, rfl⟩ := ints_of h1 t
      cases (show _ = V.int b from r)
      exact ⟨rfl, rfl⟩
    | _ => cases h
theorem tups_of {K : PySem.W.Frag} {G : Gb} (R : RM K G F κ M H) : ∀ {l : List D} {ts : List (List Int)} {vs : List V}, tupsOf l = some ts → Rvs G F κ vs l →
    ∃ ks : List (Addr × List Int), vs = ks.map (fun p => V.ref p.1) ∧ ts = ks.map (·.2) ∧ l = ks.map (fun p => tupD p.2) ∧ ∀ p ∈ ks, F p.1 = some (tupD p.2) ∧ H p.1 = some (.tup (p.2.map V.int))
  | [], ts, _, h, .nil => by cases h; exact ⟨[], rfl, rfl, rfl, fun _ z => nomatch z⟩
  | d :: l, ts, _, h, .cons r t => by
    cases d with
    | tup d =>
      simp only [tupsOf, Option.bind_eq_some_iff, Option.map_eq_some_iff] at h
      obtain ⟨is, h1, ts', h2, rfl⟩ := h
      obtain ⟨ks, rfl, rfl, rfl, e4⟩ := tups_of R h2 t
      obtain ⟨a, rfl, ea⟩ := r
      obtain ⟨us, q1, q2⟩ := R.fz a _ ea
      obtain ⟨rfl, rfl⟩ := ints_of h1 q2
      refine ⟨(a, is) :: ks, rfl, rfl, rfl, fun p hp => ?_⟩
      rcases List.mem_cons.mp hp with rfl | hp
      · exact ⟨ea, q1⟩
      · exact e4 p hp
    | _ => cases h
theorem CallR.or {f : Value} {r r' : List V → Hp → VK → Prop} (h : CallR X f r) (h' : CallR X f r') : CallR X f fun vs H Q => r vs H Q ∨ r' vs H Q := by
  intro pins s σ H vs us Q I rv q
  rcases q with q | q
  · exact h pins s σ H vs us Q I rv q
  · exact h' pins s σ H vs us Q I rv q
theorem boot_set : bootBuiltins ("set" : Str) = some (.type "set") := by first | rfl | decide
theorem s_sset (G : GX f c X) {m : Md} (hm : Ord m) {a : E} {x : Expr} {p p2 pos pos2 : Pos} (hs : ∀ e' p, x ≠ .Starred e' p) (hg : Gl X "sorted") (hmg : X.mg "sorted" = none) (hg2 : Gl X "set") (hmg2 : X.mg "set" = none) (ha : PE X x (dE f .b (ev g φ .b a))) :
    PE X (.Call (.Name "sorted" p) [.Call (.Name "set" p2) [x] [] pos2] [] pos) (dE f m (ev g φ m (.sset a))) := by
  have u := G.un
  refine PE.imp (pe_callB (CallR.or (cr_sortedSet G.calm) (cr_sortedG G.calm u)) hg hmg boot_sorted (pa_cons (pe_callTy (CallR.or (cr_setN G.calm) (cr_setOfT G.calm u)) hg2 hmg2 boot_set (pa_cons ha pa_nil (noStar hs)) (he := noStar hs)) pa_nil)) fun σ H Q ⟨F, κ, ρ, M, R, h⟩ => ?_
  simp only [ev] at h
  refine ⟨F, κ, ρ, M, R, h.bind.imp fun F1 κ1 ρ1 M1 H1 d g1 R1 ⟨_, q⟩ v r => ?_⟩
  have intCase : ∀ {b : Addr} {is : List Int}, (SqL X.K H1 b (is.map V.int) ∨ SqT X.K H1 b (is.map V.int)) → is.length < 64 → Aft f F1 κ1 H1 σ (fun F' κ' ρ' M' H' d => ∀ v, RelQ f m F' κ' ρ' σ H' v d → Q v H') (fin m (.lst (sortI is)) ρ1 M1) →
      (rSetN X.K X.w [V.ref b] H1 fun y H2 => (rSortedSet X.w [y] H2 Q ∨ rSortedG X.K X.prog X.w [y] H2 Q)) := by
    intro b is hb hl q
    refine ⟨b, is, rfl, hb, hl, fun A c hA hc => .inl ⟨A, _, c, rfl, upd_same, hc, fun ns p h1 h2 h3 hp => ?_⟩⟩
    have e : ns = (nub is).mergeSort fun a b => decide (a ≤ b) := uniqI (fun x => by rw [h2 x, decide_eq_true_eq]) h1
    have R2 := R1.new (o := SetO X.w A (fun j => decide (j ∈ is)) c) hA (by intro ps z; unfold SetO at z; cases z)
    have rr : Rvs f.G F1 κ1 (ns.map V.int) (sortI is) := by
      unfold sortI
      rw [← e]
      exact ints_rvs _ _ _ ns
    exact fin_nw hm (R2.new hp) (nw_new R2 hp rr) (q.later ((Go.new hA).trans (Go.new hp)))
  cases es : ssetD d with
  | none => simp only [es] at q; exact q.elim
  | some out =>
    simp only [es] at q
    cases d with
    | lst l =>
      obtain ⟨b, vs, rfl, hb, rs, _⟩ := r
      simp only [ssetD, sortSet] at es
      split at es
      · rename_i hl
        rw [decide_eq_true_eq] at hl
        cases ei : intsOf l with
        | some is =>
          rw [ei] at es
          cases es
          obtain ⟨rfl, rfl⟩ := ints_of ei rs
          exact .inl (intCase (.inl (.inl (.inl hb))) (by simpa using hl) q)
        | none =>
          rw [ei] at es
          simp only [Option.map_eq_some_iff] at es
          obtain ⟨ts, et, rfl⟩ := es
          obtain ⟨ks, rfl, rfl, rfl, k4⟩ := tups_of R1.m et rs
          refine .inr ⟨b, ks, rfl, .inl (.inl hb), fun p hp => .inl (.inl (k4 p hp).2), by simpa using hl, fun A L hA hL1 hL2 => .inr ⟨A, L, rfl, upd_same, fun p hp => .inl (.inl ?_), fun L' p pm nd pw hp => ?_⟩⟩
          · have := (k4 p (hL1 p hp)).2
            rw [upd_ne (fun z => by rw [z, hA] at this; cases this)]
            exact this
          · have e : L'.map (·.2) = (nub (ks.map (·.2))).mergeSort fun a b => decide (a ≤ b) := by
              refine uniqT nd (fun x => ?_) (List.pairwise_map.mpr pw)
              constructor
              · intro hx
                obtain ⟨y, hy, rfl⟩ := List.mem_map.mp hx
                exact List.mem_map.mpr ⟨y, hL1 y (pm.mem_iff.mp hy), rfl⟩
              · intro hx
                obtain ⟨y, hy, rfl⟩ := List.mem_map.mp hx
                obtain ⟨z, hz, e⟩ := List.mem_map.mp (hL2 y hy)
                exact List.mem_map.mpr ⟨z, pm.mem_iff.mpr hz, e⟩
            have R2 := R1.new (o := SetTO X.prog X.w A L) hA (by intro ps z; unfold SetTO at z; cases z)
            have rr : Rvs f.G F1 κ1 (L'.map fun q => V.ref q.1) (sortT (ks.map (·.2))) := by
              unfold sortT
              rw [← e, List.map_map]
              have : ∀ l : List (Addr × List Int), (∀ p ∈ l, p ∈ L') → Rvs f.G F1 κ1 (l.map fun q => V.ref q.1) (l.map (tupD ∘ (·.2))) := by
                intro l
                induction l with
                | nil => exact fun _ => .nil
                | cons y l ih => exact fun hm => .cons ⟨y.1, rfl, (k4 y (hL1 y (pm.mem_iff.mp (hm y List.mem_cons_self)))).1⟩ (ih fun p hp => hm p (List.mem_cons_of_mem _ hp))
              exact this L' fun _ h => h
            exact fin_nw hm (R2.new hp) (nw_new R2 hp rr) (q.later ((Go.new hA).trans (Go.new hp)))
      · cases es
    | tup l =>
      simp only [ssetD] at es
      split at es
      · rename_i hl
        rw [decide_eq_true_eq] at hl
        simp only [Option.map_eq_some_iff] at es
        obtain ⟨is, ei, rfl⟩ := es
        obtain ⟨b, rfl, eb⟩ := r
        obtain ⟨us, q1, q2⟩ := R1.m.fz b _ eb
        obtain ⟨rfl, rfl⟩ := ints_of ei q2
        exact .inl (intCase (.inr (.inl (.inl q1))) (by simpa using hl) q)
      · cases es
    | _ => cases es
end
end DV
end
section
set_option Elab.async false
set_option linter.all false
set_option maxRecDepth 100000
set_option maxHeartbeats 4000000
/-! DV45: list({k: v for ..}), the keys tuples of ints. -/
namespace DV
open PySem PySem.Spec PyProof.Rows L2
section
variable {X : Cx}
theorem dt_put {pins : List (Addr × Obj)} {σ : L2.St} {H : Hp} {s : Shared} {E : Value → Shared → Prop} {D b : Addr} {kvs : List (List Key × V)} {k : List Key} {v : V} {r : Value} {Q : Unit → Shared → Prop} (hu : X.A.units + 64 < cLine) (I : Inv X pins σ H s) (hD : H D = some (.dT kvs)) (hz : kvs.length < sizeLine)
    (eb : H b = some (.tup (k.map kV))) (rv : RelV v r) (h : ∀ s', Inv X pins σ (upd H D (.dT (putK kvs k v))) s' → Q () s') : wpAny (model X.prog X.w) X.A (dictSet D (.ref b) r) Q E s := by
  obtain ⟨z, hd, xs, rel, dd⟩ := dt_of I.hok hD
  have hzx : xs.length ≤ sizeLine := by rw [← Paired.length rel]; exact z
  have hl : (putK kvs k v).length ≤ sizeLine := by have := length_putK kvs k v; omega
  refine wpAny_dictSet_heap (hsz := hzx) (show X.A.units < cLine by omega) (key_of I.hok eb) dd fun h' dd' hs => h _ ?_
  obtain ⟨q, es, ep, hq, h2, h3, h4, _, h5⟩ := dd'
  refine d_write I (by rw [hD]; exact True.intro) hs ⟨q, hq⟩ ⟨hl, hd, _, (rel.put k eb rv).keeps fun c ys ec => ?_, q, es, ep, hq, h2, h3, h4, h5⟩
  rw [upd_ne (ne_of ec hD (fun z => nomatch z))]
  exact ec
/-- the reading: the keys tuples, D the new dict -/
def tDt (wi : TI) (g : TG) (tt : TT) (tk tv : TE) (vs : List Nat) : TE := fun σ H Q => wi σ H fun J H1 => ∀ D, H1 D = none → ∃ W : Nat → Nat → Hp → Prop, (∃ m, W 0 m (upd H1 D (.dT []))) ∧ ∀ i m H, W i m H → (J.stop i H ∧ Q (.ref D) H) ∨ (J.go i H ∧ ∃ Nx : Hp → Prop, (∀ H', Nx H' → ∃ m', m' < m ∧ W (i + 1) m' H') ∧
  ∀ x H', J.yld i H x H' → g x (wipe σ vs) H' fun σ2 H2 => wipe σ2 vs = wipe σ vs ∧ tt σ2 H2 fun b H3 => if b = true then tk σ2 H3 fun y H4 => tv σ2 H4 fun z H5 => ∃ kvs k b, y = .ref b ∧ H5 b = some (.tup (k.map kV)) ∧ H5 D = some (.dT kvs) ∧ kvs.length < sizeLine ∧ Nx (upd H5 D (.dT (putK kvs k z))) else Nx H3)
theorem dt_core {pins : List (Addr × Obj)} {s : Shared} {σ : L2.St} {H : Hp} {Q : VK} {kx vx tg iter : Expr} {ifs : List Expr} {scope : Scope} {own : List (Str × Nat)} {pos pos' : Pos} {wi : TI} {g : TG} {tt : TT} {tk tv : TE} {use : Option (Value → Sem Unit)} {Qf : Value → Shared → Prop} (hc : X.calm = true) (hu : X.A.units + 64 < cLine) (hN : X.N.Nodup) (I : Inv X pins σ H s) (hi : PI X tg iter wi) (ok : BlkOk X.N X.env.scope scope own)
    (hg : ∀ (s : Shared) (H : Hp) (C : Addr) (cl : List (Str × Addr)) (fp : List Addr), PG (X.blk s H scope (compEnvC scope cl C X.env) fp) tg g)
    (ht : ∀ (s : Shared) (H : Hp) (C : Addr) (cl : List (Str × Addr)) (fp : List Addr), PTs (X.blk s H scope (compEnvC scope cl C X.env) fp) ifs tt)
    (hk : ∀ (s : Shared) (H : Hp) (C : Addr) (cl : List (Str × Addr)) (fp : List Addr), PE (X.blk s H scope (compEnvC scope cl C X.env) fp) kx tk) (he : ∀ (s : Shared) (H : Hp) (C : Addr) (cl : List (Str × Addr)) (fp : List Addr), PE (X.blk s H scope (compEnvC scope cl C X.env) fp) vx tv)
    (hs : ∀ x, foldedSetIterable iter X.env x = pure x) (h : tDt wi g tt tk tv (own.map (·.2)) σ H Q) (hR : ∀ D C s' m H', Inv X pins σ H' s' → Q (.ref D) H' → s'.heap.Ns C m → FpOk X pins H' C → compPost (model X.prog X.w) X.A X.xe use Qf (.ref D) C (.ok .next) s') :
    wpAny (model X.prog X.w) X.A (comprehension (.DictComp kx vx [⟨tg, iter, ifs, 0⟩] scope pos) scope X.env pos' newDict false (eval iter X.env) use) Qf X.xe s := by
  have free' : ∀ y ∈ scope.names, y.2 = .free → ∃ c, X.env.cells.lookup y.1 = some c := fun y hy e => (ok.free y hy e).elim (fun k => I.ok.has _ (.inl k)) fun k => I.ok.has _ (.inr k)
  refine wpAny_comprehension_free (use := use) rfl hs (closure_ok free') ok.kind (fun y hy e => by rw [ok.uniq y hy, e]) (thn (hi.run pins s σ H _ I h) fun xv s1 hx => thn hx fun itv s2 ⟨it, fp, tn, J, H2, e, I2, T, st2, f2, q⟩ => ?_)
  subst e
  refine wpAny_newObj_type (newEnv_comp ?_)
  obtain ⟨D, hD⟩ : ∃ D, s2.heap.objs.size = D := ⟨_, rfl⟩
  rw [hD]
  obtain ⟨W, ⟨m0, w0⟩, turn⟩ := q D (I2.hok.fresh (Nat.le_of_eq hD))
  generalize hs3 : (Shared.mk (s2.heap.push { cls := .type "dict", data := .dict #[] }) s2.gens s2.drawn s2.toks s2.os) = s3
  have h3 : s3.heap = s2.heap.push { cls := .type "dict", data := .dict #[] } := by rw [← hs3]
  have I3 : Inv X pins σ (upd H2 D (.dT [])) s3 := by
    rw [← hs3]
    refine I2.laid (t' := s2.toks) (fun b o e => Heap.get?_push_of_some _ e) (Nat.le_of_eq hD) ?_
    rw [← hD]
    exact dt_empty s2.heap I2.big
  have f3 : ∀ b ∈ fp, FpOk X pins (upd H2 D (.dT [])) b ∧ b < s3.heap.objs.size := fun b hb => by
    obtain ⟨o, eo, _⟩ := T.obj _ _ st2 b hb
    have lt := Heap.lt_size eo
    exact ⟨⟨(upd_ne (by rw [← hD]; exact Nat.ne_of_lt lt)).trans (f2 b hb).1, (f2 b hb).2⟩, by rw [h3, Heap.size_push]; exact Nat.lt_succ_of_lt lt⟩
  have st3 : tn 0 s3.heap := T.keep _ _ _ st2 fun b _ o e => h3 ▸ Heap.get?_push_of_some _ e
  have I4 := block_start I3 ok hN f3
  obtain ⟨cl0, hcl⟩ : ∃ cl0, cellsFrom (s3.heap.objs.size + 1) scope.names (cloFrom X.env.cells scope.names []) = cl0 := ⟨_, rfl⟩
  rw [hcl] at I4
  have pg := hg s3 (upd H2 D (.dT [])) s3.heap.objs.size cl0 fp
  have pt := ht s3 (upd H2 D (.dT [])) s3.heap.objs.size cl0 fp
  have pk := hk s3 (upd H2 D (.dT [])) s3.heap.objs.size cl0 fp
  have pv := he s3 (upd H2 D (.dT [])) s3.heap.objs.size cl0 fp
  show codeAny _ _ (.compStart (.DictComp kx vx [⟨tg, iter, ifs, 0⟩] scope pos) 0 (.ref it) (.ref D) (compEnvC scope (cellsFrom (s3.heap.objs.size + 1) scope.names (cloFrom X.env.cells scope.names [])) s3.heap.objs.size X.env)) (compPost (model X.prog X.w) X.A X.xe use Qf (.ref D) s3.heap.objs.size) (Shared.mk (pushCells (s3.heap.push { cls := .type "dict", data := .dict #[] }) scope.names) s3.gens s3.drawn s3.toks s3.os)
  rw [hcl]
  have nfp : ∀ b ∈ fp, (upd H2 D (.dT [])) b = none := fun b hb => (f3 b hb).1.1
  obtain ⟨ce, hce⟩ : ∃ ce, compEnvC scope cl0 s3.heap.objs.size X.env = ce := ⟨_, rfl⟩
  rw [hce] at I4 pg pt pk pv ⊢
  have cL : ce.locals = s3.heap.objs.size := by subst hce; rfl
  obtain ⟨H3, hH3⟩ : ∃ H3, upd H2 D (.dT []) = H3 := ⟨_, rfl⟩
  rw [hH3] at I3 I4 pg pt pk pv w0 nfp f3
  obtain ⟨s4, hs4⟩ : ∃ s4 : Shared, (Shared.mk (pushCells (s3.heap.push { cls := .type "dict", data := .dict #[] }) scope.names) s3.gens s3.drawn s3.toks s3.os) = s4 := ⟨_, rfl⟩
  rw [hs4] at I4 ⊢
  have st4 : tn 0 s4.heap := T.keep _ _ _ st3 fun b _ o e => by rw [← hs4]; exact pushCells_keeps _ _ _ _ (Heap.get?_push_of_some _ e)
  have stat : ∀ {σ1 : L2.St} {H1 : Hp} {u1 : Shared}, Inv (X.blk s3 H3 scope ce fp) [] σ1 H1 u1 → (∀ b ∈ fp, H1 b = none) → ∀ b ∈ fp, FpOk (X.blk s3 H3 scope ce fp) [] H1 b := fun {σ1 H1 u1} I' hn b hb =>
    ⟨hn b hb, (I'.ok.exf b hb).1, I'.ok.exfs b hb, .inl hb, (fun x c e => (I'.ok.exf b hb).2 x c e), fun p hp => absurd (show p ∈ ([] : List (Addr × Obj)) ++ [] from hp) (by simp)⟩
  have loop : codeAny (model X.prog X.w) X.A (.compLoop (.DictComp kx vx [⟨tg, iter, ifs, 0⟩] scope pos) 0 (.ref it) (.ref D) ce) (compPost (model X.prog X.w) X.A X.xe use Qf (.ref D) s3.heap.objs.size) s4 := by
    refine compLoop_anyD (fun n u => ∃ i H1, Inv (X.blk s3 H3 scope ce fp) [] (wipe σ (own.map (·.2))) H1 u ∧ tn i u.heap ∧ (∀ b ∈ fp, H1 b = none) ∧ W i n H1) ?_ m0 ⟨0, H3, I4, st4, nfp, w0⟩
    rintro n s5 ⟨i, H5, I5, st5, n5, w5⟩
    rcases turn i n H5 w5 with ⟨stop, qq⟩ | ⟨go, Nx, hNx, step⟩
    · refine thnF (T.done (X.blk s3 H3 scope ce fp) rfl rfl rfl hc i [] s5 _ H5 (fun _ _ => False) I5 (stat I5 n5) st5 stop) fun r s6 ⟨hr, I6⟩ => ?_
      subst hr
      have I7 : Inv X pins σ H5 s6 := I3.call' (ch := fp) I6.os I6.base I6.hok I6.bare fun b hb => ⟨(f3 b hb).1.2.2.2.1, (f3 b hb).1.2.1, (f3 b hb).1.2.2.2.2.1, (f3 b hb).1.2.2.2.2.2⟩
      have z : H5 ce.locals = none := I6.free
      obtain ⟨m, hn, _⟩ := I6.loc
      have hn' : s6.heap.Ns ce.locals m := hn
      rw [cL] at hn' z
      exact hR D s3.heap.objs.size s6 m H5 I7 qq hn' (I3.fpOk (Nat.le_refl _) z)
    · refine thnF (T.item (X.blk s3 H3 scope ce fp) rfl rfl rfl hc i [] s5 _ H5 (fun _ _ => False) I5 (stat I5 n5) st5 go) fun r s6 ⟨u, hr, h6⟩ => ?_
      subst hr
      refine thnF h6 fun _ s7 ⟨x, H7, I7, r7, y7, st7, n7⟩ => thnF (pg.run _ s7 _ H7 x u _ (I7.pinned (stat I7 n7) (T.obj _ _ st7)) r7 (step x H7 y7)) fun _ s8 ⟨σ8, H8, I8, hw8, q8⟩ => thnF (pt.run _ s8 σ8 H8 _ I8 q8) fun b s9 ⟨H9, I9, q9⟩ => ?_
      have fin : ∀ {u1 : Shared} {H1 : Hp}, Inv (X.blk s3 H3 scope ce fp) ([] ++ pinsAt fp s7.heap) σ8 H1 u1 → Nx H1 → ∃ m, m < n ∧ ∃ i H1, Inv (X.blk s3 H3 scope ce fp) [] (wipe σ (own.map (·.2))) H1 u1 ∧ tn i u1.heap ∧ (∀ b ∈ fp, H1 b = none) ∧ W i m H1 := fun {u1 H1} I' nx => by
        obtain ⟨m', hm, w'⟩ := hNx H1 nx
        have at' : ∀ b ∈ fp, ∀ o, s7.heap.get? b = some o → u1.heap.get? b = some o ∧ H1 b = none := fun b hb o e => by
          have z := I'.pin (b, o) (List.mem_append_right _ (List.mem_append_right _ (mem_pinsAt hb e)))
          exact ⟨z.1, z.2.1⟩
        have hl : (wipe σ (own.map (·.2))).length = σ8.length := by rw [← hw8, wipe_length]
        refine ⟨m', hm, i + 1, H1, (I'.unpinned (pins := [])).weak hl (fun j v e => (wipe_some (hw8 ▸ e)).1), T.keep _ _ _ st7 fun b hb o e => (at' b hb o e).1, fun b hb => ?_, w'⟩
        obtain ⟨o, e, _⟩ := T.obj _ _ st7 b hb
        exact (at' b hb o e).2
      cases b with
      | false =>
        simp only [Bool.false_eq_true, if_false] at q9 ⊢
        exact fin I9 q9
      | true =>
        simp only [if_true] at q9 ⊢
        refine thnF (pk.run _ s9 σ8 H9 _ I9 q9) fun z1 s10 ⟨yk, H10, I10, r10, q10⟩ => thnF (pv.run _ s10 σ8 H10 _ I10 q10) fun z2 s11 ⟨yv, H11, I11, r11, kvs, k, bk, ek, hb11, hD11, hz11, nx⟩ => ?_
        subst ek
        cases r10
        exact dt_put (X := X.blk s3 H3 scope ce fp) hu I11 hD11 hz11 hb11 r11 fun s12 I12 => fin I12 nx
  exact codeAny_compStart_dict loop (T.self X.A 0 _ _ _ st4 loop)
theorem pe_dt {kx vx tg iter : Expr} {ifs : List Expr} {scope : Scope} {own : List (Str × Nat)} {pos : Pos} {wi : TI} {g : TG} {tt : TT} {tk tv : TE} (hc : X.calm = true) (hu : X.A.units + 64 < cLine) (hN : X.N.Nodup) (hi : PI X tg iter wi) (ok : BlkOk X.N X.env.scope scope own)
    (hg : ∀ (s : Shared) (H : Hp) (C : Addr) (cl : List (Str × Addr)) (fp : List Addr), PG (X.blk s H scope (compEnvC scope cl C X.env) fp) tg g)
    (ht : ∀ (s : Shared) (H : Hp) (C : Addr) (cl : List (Str × Addr)) (fp : List Addr), PTs (X.blk s H scope (compEnvC scope cl C X.env) fp) ifs tt)
    (hk : ∀ (s : Shared) (H : Hp) (C : Addr) (cl : List (Str × Addr)) (fp : List Addr), PE (X.blk s H scope (compEnvC scope cl C X.env) fp) kx tk) (he : ∀ (s : Shared) (H : Hp) (C : Addr) (cl : List (Str × Addr)) (fp : List Addr), PE (X.blk s H scope (compEnvC scope cl C X.env) fp) vx tv)
    (hs : ∀ x, foldedSetIterable iter X.env x = pure x) : PE X (.DictComp kx vx [⟨tg, iter, ifs, 0⟩] scope pos) (tDt wi g tt tk tv (own.map (·.2))) := by
  refine ⟨fun pins s σ H Q I h => ?_⟩
  rw [arm_eval_DictComp]
  refine dt_core hc hu hN I hi ok hg ht hk he hs h fun D C s' m H' I' q hn ⟨f0, f1, f2, f3, f4, f5⟩ => ⟨m, hn, fun h2 sb => ?_⟩
  exact ⟨.ref D, H', I'.turned (t' := s'.toks) (fun b o hb e => (sb.2 b hb).trans e) f0 f1 f3 f4 f5, rfl, q⟩
end
end DV
end
section
set_option Elab.async false
set_option linter.all false
set_option maxRecDepth 100000
set_option maxHeartbeats 1000000
/-! DV46: list({k: v for ..}) as a node. -/
namespace DV
open PySem PySem.Spec PyProof.Rows L2
theorem nubF_snoc {α : Type} [DecidableEq α] {a : α} : ∀ {l acc : List α}, nubF acc (l ++ [a]) = if a ∈ nubF acc l then nubF acc l else nubF acc l ++ [a]
  | [], acc => rfl
  | b :: l, acc => by
    rw [List.cons_append]
    unfold nubF
    split
    · exact nubF_snoc
    · exact nubF_snoc
theorem len_nubF {α : Type} [DecidableEq α] : ∀ {l acc : List α}, (nubF acc l).length ≤ acc.length + l.length
  | [], acc => Nat.le_refl _
  | b :: l, acc => by
    unfold nubF
    have h1 := len_nubF (l := l) (acc := acc)
    have h2 := len_nubF (l := l) (acc := acc ++ [b])
    rw [List.length_append] at h2
    simp only [List.length_cons, List.length_nil] at h2 ⊢
    split <;> omega
theorem putK_keys {κ : Type} [DecidableEq κ] {kvs : List (κ × V)} {k : κ} {v : V} : (putK kvs k v).map (·.1) = if k ∈ kvs.map (·.1) then kvs.map (·.1) else kvs.map (·.1) ++ [k] := by
  unfold putK
  have e : (kvs.any fun kv => decide (kv.1 = k)) = true ↔ k ∈ kvs.map (·.1) := by
    rw [List.any_eq_true, List.mem_map]
    constructor
    · rintro ⟨x, hx, h⟩
      exact ⟨x, hx, by simpa using h⟩
    · rintro ⟨x, hx, h⟩
      exact ⟨x, hx, by simpa using h⟩
  by_cases h : k ∈ kvs.map (·.1)
  · rw [if_pos (e.mpr h), if_pos h, List.map_map]
    apply List.map_congr_left
    intro x _
    show (if x.1 = k then (x.1, v) else x).1 = x.1
    split <;> rfl
  · rw [if_neg (fun z => h (e.mp z)), if_neg h, List.map_append]
    rfl
def keyT (t : List Int) : List Key := t.map Sum.inl
theorem keyT_inj {a b : List Int} (h : keyT a = keyT b) : a = b := by
  unfold keyT at h
  exact List.map_inj_right (f := (Sum.inl : Int → Key)) (fun x y z => by cases z; rfl) |>.mp h
theorem keyT_kV (t : List Int) : (keyT t).map kV = t.map V.int := by
  unfold keyT
  rw [List.map_map]
  rfl
theorem mem_keyT {t : List Int} {l : List (List Int)} : keyT t ∈ l.map keyT ↔ t ∈ l := by
  constructor
  · intro h
    obtain ⟨x, hx, e⟩ := List.mem_map.mp h
    rw [← keyT_inj e]
    exact hx
  · exact fun h => List.mem_map_of_mem h
theorem tupsOf_eq : ∀ {l : List D} {ts : List (List Int)}, tupsOf l = some ts → l = ts.map tupD
  | [], ts, h => by cases h; rfl
  | d :: l, ts, h => by
    cases d with
    | tup d =>
      simp only [tupsOf, Option.bind_eq_some_iff, Option.map_eq_some_iff] at h
      obtain ⟨is, h1, ts', h2, rfl⟩ := h
      have e : ∀ {l : List D} {is : List Int}, intsOf l = some is → l = is.map D.int := by
        intro l
        induction l with
        | nil => intro is h; cases h; rfl
        | cons d l ih =>
          intro is h
          cases d with
          | int b =>
            simp only [intsOf, Option.map_eq_some_iff] at h
            obtain ⟨js, h1, rfl⟩ := h
            rw [ih h1]
            rfl
          | _ => cases h
      rw [tupsOf_eq h2, e h1]
      rfl
    | _ => cases h
section
variable {f : Fr0} {c : Ct} {X : Cx} {g : Cfg} {φ : Phi}
variable {F F' : Fz} {κ κ' : List Addr} {ρ ρ' : Ev} {M M' : Mem} {σ : L2.St} {H H' : Hp}
theorem rv_int {G : Gb} {i : Int} {d : D} (h : Rv G F κ (V.int i) d) : d = .int i := by
  cases d with
  | int j => cases (show V.int i = V.int j from h); rfl
  | non => cases (show V.int i = V.non from h)
  | bl b => cases (show V.int i = V.bl b from h)
  | str s => cases (show V.int i = V.str _ from h)
  | ty t => cases (show V.int i = V.ty _ from h)
  | scr => cases (show V.int i = V.ref _ from h)
  | lam _ _ => exact h.elim
  | fn k => obtain ⟨a, _, e⟩ := h; cases e
  | cls k => obtain ⟨a, _, e⟩ := h; cases e
  | cell k => obtain ⟨a, _, e⟩ := h; cases e
  | tup l => obtain ⟨a, e, _⟩ := h; cases e
  | lst l => obtain ⟨a, e, _⟩ := h; cases e
  | dct l k => obtain ⟨a, e, _⟩ := h; cases e
  | set l => obtain ⟨a, e, _⟩ := h; cases e
  | ins k l => obtain ⟨a, e, _⟩ := h; cases e
theorem rvs_int {G : Gb} : ∀ {t : List Int} {l : List D}, Rvs G F κ (t.map V.int) l → l = t.map .int
  | [], _, .nil => rfl
  | i :: t, _, .cons r h => by rw [rv_int r, rvs_int h]; rfl
theorem rvs_ints {G : Gb} : ∀ {t : List Int} {vs : List V}, Rvs G F κ vs (t.map .int) → vs = t.map V.int
  | [], _, .nil => rfl
  | i :: t, _, .cons r h => by cases (show _ = V.int i from r); rw [rvs_ints h]; rfl
theorem freeze_all : ∀ {ts : List (List Int)} {bs : List Addr} {F : Fz}, f.RS F κ ρ M σ H → Paired (fun t b => H b = some (.tup (t.map V.int))) ts bs → ∃ F', Go F κ H F' κ H ∧ f.RS F' κ ρ M σ H ∧ Rvs f.G F' κ (bs.map V.ref) (ts.map tupD)
  | _, _, F, R, .nil => ⟨F, Go.refl _ _ _, R, .nil⟩
  | _, _, F, R, .cons (a := t) (b := b) h hs => by
    obtain ⟨F1, g1, R1, e1⟩ : ∃ F1, Go F κ H F1 κ H ∧ f.RS F1 κ ρ M σ H ∧ F1 b = some (tupD t) := by
      cases e : F b with
      | some d =>
        refine ⟨F, Go.refl _ _ _, R, ?_⟩
        rw [e]
        have z := R.m.fz _ _ e
        cases d with
        | tup l => obtain ⟨vs, z1, z2⟩ := z; rw [h] at z1; cases z1; rw [rvs_int z2]; rfl
        | lst l => obtain ⟨vs, z1, _⟩ := z; rw [h] at z1; cases z1
        | lam _ _ => obtain ⟨L, _, z1⟩ := z; rw [h] at z1; cases z1
        | ins _ _ => obtain ⟨_, _, _, _, _, _, z1, _⟩ := z; rw [h] at z1; cases z1
        | dct _ _ => have z1 := z.1; rw [h] at z1; cases z1
        | _ => exact z.elim
      | none =>
        have nk : b ∉ κ := fun m => by
          obtain ⟨_, co, _, _, _, z⟩ := R.m.cell m
          cases co with
          | lst l => obtain ⟨vs, z1, _⟩ := z; rw [h] at z1; cases z1
          | _ => exact z.elim
        have ex : Ex F (fput F b (tupD t)) := Ex.put e
        refine ⟨_, ⟨ex, Px.refl κ, fun _ m => .inl m, Kp.refl κ H⟩, RS.step R ⟨ex, Px.refl κ, fun _ m => .inl m, Kp.refl κ H⟩ (R.m.freeze e nk ⟨_, h, ints_rvs _ _ _ t⟩) (fun a d q => ?_), fput_same⟩
        by_cases z : a = b
        · subst z
          refine .inr fun o ho ⟨vs, ev⟩ => ?_
          rw [h] at ho
          cases ho
          cases ev
        · rw [fput_ne z] at q
          exact .inl q
    obtain ⟨F2, g2, R2, r2⟩ := freeze_all R1 hs
    exact ⟨F2, g1.trans g2, R2, .cons ⟨b, rfl, g2.ex _ _ e1⟩ r2⟩
theorem dt_off {K : PySem.W.Frag} {G : Gb} {D : Addr} {kvs : List (List Key × V)} (R : RM K G F κ M H) (h : H D = some (.dT kvs)) : F D = none ∧ D ∉ κ := by
  refine ⟨?_, fun m => ?_⟩
  · cases e : F D with
    | none => rfl
    | some d =>
      have z := R.fz _ _ e
      cases d with
      | tup l => obtain ⟨vs, z1, _⟩ := z; rw [h] at z1; cases z1
      | lst l => obtain ⟨vs, z1, _⟩ := z; rw [h] at z1; cases z1
      | lam _ _ => obtain ⟨L, _, z1⟩ := z; rw [h] at z1; cases z1
      | ins _ _ => obtain ⟨_, _, _, _, _, _, z1, _⟩ := z; rw [h] at z1; cases z1
      | dct _ _ => have z1 := z.1; rw [h] at z1; cases z1
      | _ => exact z.elim
  · obtain ⟨_, co, _, _, _, z⟩ := R.cell m
    cases co with
    | lst l => obtain ⟨vs, z1, _⟩ := z; rw [h] at z1; cases z1
    | _ => exact z.elim
theorem LtrK.putT {L : Addr} {xs ys : List (List Key × V)} (l : Ltr f F κ H F' κ' M' H') (R : RM f.K f.G F κ M H) (hn : H L = none) (h : H' L = some (.dT xs)) : Ltr f F κ H F' κ' M' (upd H' L (.dT ys)) := by
  obtain ⟨n, m⟩ := dt_off l.m h
  have ne : ∀ a u, H a = some u → a ≠ L := fun a u e z => by
    rw [z, hn] at e
    cases e
  have kp : Kp κ H (upd H' L (.dT ys)) := ⟨fun a u e q t => by rw [upd_ne (ne a u e)]; exact l.go.kp.all a u e q t, fun a u e q t => by rw [upd_ne (ne a u e)]; exact l.go.kp.cel a u e q t⟩
  exact ⟨⟨l.go.ex, l.go.px, l.go.kf, kp⟩, RM.put l.m h n m (SqL.put R.scr (.of hn) l.m.scr), l.nf⟩
/-- what list() makes of the dict -/
def rListT : List V → Hp → VK → Prop := fun xs H Q => ∃ d kvs, xs = [V.ref d] ∧ Rd H d (.dT kvs) ∧ ∀ p bs, H p = none → IsKeys H kvs bs → Q (.ref p) (upd H p (.lst (bs.map V.ref)))
theorem t_ldk {m : Md} (hm : Ord m) {k v it cc : E} {t : Tg} {own : List (Str × Nat)} (hv : ∀ i, i ∈ own.map (·.2) ↔ i ∈ slots t) {Q : VK} (h : dE f m (ev g φ m (.ldk k v t it cc)) σ H Q) :
    tDt (dI f .i (ev g φ .i it)) (xG f t) (xT f (ev g φ .t cc)) (xE f .v (ev g φ .v k)) (xE f .v (ev g φ .v v)) (own.map (·.2)) σ H fun y H' => rListT [y] H' Q := by
  obtain ⟨F, κ, ρ, M, R, h⟩ := h
  simp only [ev] at h
  refine ⟨F, κ, ρ, M, R, h.bind.imp fun F1 κ1 ρ1 M1 H1 d g1 R1 ⟨_, q⟩ => ?_⟩
  cases d with
  | lst xs =>
    cases el0 : lock (slots t) ρ1 with
    | none => simp only [el0] at q; exact q.elim
    | some ρ' =>
      simp only [el0] at q
      generalize hturn : turnF (fun ρ M => ev g φ .t cc ρ M) (fun ρ M => (ev g φ .v k ρ M).bind fun a ρ M => (ev g φ .v v ρ M).bind fun b ρ M => if lamless b then okE ρ M [a] else none) t ρ' = turn at q
      cases ec : compL turn [] xs M1 with
      | none => simp only [ec] at q; exact q.elim
      | some pr =>
        obtain ⟨ds, M'⟩ := pr
        simp only [ec] at q
        cases et : tupsOf ds with
        | none => simp only [et] at q; exact q.elim
        | some ts =>
          simp only [et] at q
          by_cases hfit : fit ds = true
          · rw [if_pos hfit] at q
            have hds := tupsOf_eq et
            refine ⟨xs, rfl, fun J wk L hL => ?_⟩
            refine ⟨fun i n H5 => ∃ F5 κ5 M5 ts5 kvs5, n = xs.length - i ∧ i ≤ xs.length ∧ Ltr f F1 κ1 H1 F5 κ5 M5 H5 ∧ H5 L = some (.dT kvs5) ∧ kvs5.map (·.1) = (nubF [] ts5).map keyT ∧ compL turn (ts5.map tupD) (xs.drop i) M5 = some (ds, M'),
              ⟨xs.length, F1, κ1, M1, [], [], rfl, Nat.zero_le _, ⟨Go.new hL, R1.m.new hL, Nf.refl _ _⟩, upd_same, rfl, ec⟩, ?_⟩
            rintro i n H5 ⟨F5, κ5, M5, ts5, kvs5, rfl, hi, l5, h5, e5, c5⟩
            by_cases hlt : i < xs.length
            · have hx : xs[i]? = some xs[i] := List.getElem?_eq_getElem hlt
              obtain ⟨w1, w2⟩ := (wk F5 κ5 M5 H5 l5.m l5.go i).1 _ hx
              refine .inr ⟨w1, fun H' => ∃ F5 κ5 M5 ts5 kvs5, Ltr f F1 κ1 H1 F5 κ5 M5 H' ∧ H' L = some (.dT kvs5) ∧ kvs5.map (·.1) = (nubF [] ts5).map keyT ∧ compL turn (ts5.map tupD) (xs.drop (i + 1)) M5 = some (ds, M'),
                fun H' ⟨a1, a2, a3, a4, a5, z⟩ => ⟨xs.length - (i + 1), by omega, a1, a2, a3, a4, a5, rfl, hlt, z⟩, fun v' H6 y => ?_⟩
              obtain ⟨F6, g6, m6, n6, r6⟩ := w2 v' H6 y
              rw [List.drop_eq_getElem_cons hlt] at c5
              simp only [compL] at c5
              generalize hx' : xs[i] = x at c5 r6
              have l6 : Ltr f F1 κ1 H1 F6 κ5 M5 H6 := l5.trans ⟨g6, m6, n6⟩
              have h6 : H6 L = some (.dT kvs5) := g6.kp.all _ _ h5 (dt_off l5.m h5).2 (fun _ z => nomatch z)
              have R6 := RS.lock (R1.at' l6) el0 (ws := own.map (·.2)) fun i m => (hv i).mp m
              have stay : ∀ {F7 κ7 M7 H7}, Ltr f F6 κ5 H6 F7 κ7 M7 H7 → H7 L = some (.dT kvs5) := fun {F7 κ7 M7 H7} l7 => l7.go.kp.all _ _ h6 (dt_off m6 h6).2 (fun _ z => nomatch z)
              cases eb : bindT t x ρ' with
              | none =>
                rw [← hturn] at c5
                simp only [turnF, eb] at c5
                cases c5
              | some ρb =>
                have et' : turn x M5 = ((ev g φ .t cc ρb M5).bind fun b _ M => match b with
                    | .bl true => ((ev g φ .v k ρb M).bind fun a ρ M => (ev g φ .v v ρ M).bind fun b ρ M => if lamless b then okE ρ M [a] else none).bind fun d _ M => okE ρb M (some d)
                    | .bl false => okE ρb M none
                    | _ => none) := by
                  rw [← hturn]
                  simp only [turnF, eb]
                  all_goals rfl
                have ok1 : ∃ o ρz Mz, turn x M5 = some (.ok o ρz Mz) := by
                  cases e : turn x M5 with
                  | none => rw [e] at c5; cases c5
                  | some o =>
                    cases o with
                    | ok a b c => exact ⟨a, b, c, rfl⟩
                    | exc a b c => rw [e] at c5; cases c5
                obtain ⟨o, ρz, Mz, eo⟩ := ok1
                rw [eo] at c5
                rw [et'] at eo
                obtain ⟨b, ρc, Mc, e1, e2⟩ := bind_inv eo
                refine ⟨F6, κ5, H6, F6, κ5, ρ', M5, x, ρb, R6, r6, eb, fun σ2 R7 a7 t7 => ⟨a7.wipe fun i m => (hv i).mpr m, F6, κ5, H6, F6, κ5, ρb, M5, R7, ev_ok e1 fun F8 κ8 H8 g8 R8 => ?_⟩⟩
                cases b with
                | bl b =>
                  refine ⟨b, rfl, ?_⟩
                  cases b with
                  | false =>
                    cases e2
                    exact iteF ⟨F8, κ8, _, ts5, kvs5, l6.trans R8.ltr, stay R8.ltr, e5, c5⟩
                  | true =>
                    have e2 : ((ev g φ .v k ρb Mc).bind fun a ρ M => (ev g φ .v v ρ M).bind fun b ρ M => if lamless b then okE ρ M [a] else none).bind (fun d _ M => okE ρb M (some d)) = some (.ok o ρz Mz) := e2
                    obtain ⟨d1, ρd, Md', e3, e4⟩ := bind_inv e2
                    obtain ⟨d2, ρe, Me, e7, e8⟩ := bind_inv e3
                    obtain ⟨d3, ρf, Mf, e9, e10⟩ := bind_inv e8
                    by_cases hll : lamless d3 = true
                    · rw [if_pos hll] at e10
                      cases e10
                      cases e4
                      obtain ⟨rest, er⟩ := compL_app c5
                      rw [hds] at er
                      obtain ⟨ts6, tr, e11, e12, e13⟩ := List.map_eq_append_iff.mp er
                      obtain ⟨ts7, tq, e14, e15, e16⟩ := List.map_eq_append_iff.mp e12
                      have tq1 : ∃ t2, tq = [t2] ∧ tupD t2 = d2 := by
                        cases tq with
                        | nil => cases e16
                        | cons t2 tq =>
                          rw [List.map_cons] at e16
                          injection e16 with z1 z2
                          cases tq with
                          | nil => exact ⟨t2, rfl, z1⟩
                          | cons _ _ => cases z2
                      obtain ⟨t2, rfl, rfl⟩ := tq1
                      have lz : ts5.length + 1 ≤ ts.length := by
                        have z1 := congrArg List.length e15
                        rw [e11, e14]
                        simp only [List.length_map, List.length_append, List.length_cons, List.length_nil] at z1 ⊢
                        omega
                      have fz : ts.length ≤ sizeLine := by
                        unfold fit at hfit
                        rw [decide_eq_true_eq, hds, List.length_map, line_eq] at hfit
                        exact hfit
                      refine iteT ⟨F6, κ5, H6, F8, κ8, ρb, Mc, R7.at' R8.ltr, ev_ok e7 fun F9 κ9 H9 g9 R9 y ry => ?_⟩
                      obtain ⟨b9, rfl, eb9⟩ := ry
                      obtain ⟨us, ub1, ub2⟩ := R9.m.fz _ _ eb9
                      have ub3 := rvs_ints ub2
                      subst ub3
                      refine ⟨F6, κ5, H6, F9, κ9, ρe, Me, R9, ev_ok e9 fun F10 κ10 H10 g10 R10 y2 ry2 => ?_⟩
                      have hb10 : H10 b9 = some (.tup ((keyT t2).map kV)) := by
                        rw [keyT_kV]
                        exact g10.kp.all _ _ ub1 (R9.m.fcell eb9) (fun _ z => nomatch z)
                      have hL10 := stay R10.ltr
                      have kl : kvs5.length < sizeLine := by
                        have z1 := congrArg List.length e5
                        rw [List.length_map, List.length_map] at z1
                        have z2 := len_nubF (l := ts5) (acc := [])
                        simp only [List.length_nil] at z2
                        omega
                      refine ⟨kvs5, keyT t2, b9, rfl, hb10, hL10, kl, F10, κ10, _, ts5 ++ [t2], putK kvs5 (keyT t2) y2, LtrK.putT (l6.trans R10.ltr) R1.m hL hL10, upd_same, ?_, ?_⟩
                      · rw [putK_keys, e5, nubF_snoc]
                        by_cases hm2 : t2 ∈ nubF [] ts5
                        · rw [if_pos (mem_keyT.mpr hm2), if_pos hm2]
                        · rw [if_neg (fun z => hm2 (mem_keyT.mp z)), if_neg hm2, List.map_append]
                          rfl
                      · rw [List.map_append]
                        exact c5
                    · rw [if_neg hll] at e10
                      cases e10
                | _ => cases e2
            · obtain rfl : i = xs.length := by omega
              have st := (wk F5 κ5 M5 H5 l5.m l5.go xs.length).2 (List.getElem?_eq_none (Nat.le_refl _))
              refine .inl ⟨st, L, kvs5, rfl, .inl h5, fun p bs hp hk => ?_⟩
              rw [List.drop_length] at c5
              cases c5
              have ts_eq : ts5 = ts := by
                have inj : ∀ a b : List Int, tupD a = tupD b → a = b := fun a b z => by
                  unfold tupD at z
                  injection z with z
                  exact (List.map_inj_right (f := D.int) (fun x y w => by cases w; rfl)).mp z
                exact (List.map_inj_right (f := tupD) (fun x y w => inj x y w)).mp hds
              subst ts_eq
              have pk : Paired (fun t b => H5 b = some (.tup (t.map V.int))) (nubF [] ts5) bs := by
                have : ∀ {kvs : List (List Key × V)} {bs : List Addr} {l : List (List Int)}, IsKeys H5 kvs bs → kvs.map (·.1) = l.map keyT → Paired (fun t b => H5 b = some (.tup (t.map V.int))) l bs := by
                  intro kvs bs l z
                  unfold IsKeys at z
                  induction z generalizing l with
                  | nil => intro e; cases l with
                    | nil => exact .nil
                    | cons _ _ => cases e
                  | cons h _ ih =>
                    intro e
                    cases l with
                    | nil => cases e
                    | cons a l =>
                      rw [List.map_cons, List.map_cons] at e
                      injection e with e1 e2
                      refine .cons ?_ (ih e2)
                      rw [h, e1, keyT_kV]
                exact this hk e5
              obtain ⟨F6, g6, R6, r6⟩ := freeze_all (R1.at' l5) pk
              exact fin_nw hm (R6.new hp) (nw_new R6 hp r6) (q.later ((l5.go.trans g6).trans (Go.new hp)))
          · rw [if_neg hfit] at q
            exact q.elim
  | _ => exact q.elim
theorem boot_listT : bootBuiltins ("list" : Str) = some (.type "list") := by first | rfl | decide
theorem s_ldk (G : GX f c X) {m : Md} (hm : Ord m) {k v it cc : E} {t : Tg} {kx vx tg iter : Expr} {ifs : List Expr} {scope : Scope} {own : List (Str × Nat)} {p pos pos2 : Pos} (hgl : Gl X "list") (hml : X.mg "list" = none) (hi : PI X tg iter (dI f .i (ev g φ .i it))) (ok : BlkOk X.N X.env.scope scope own)
    (hv : ∀ i, i ∈ own.map (·.2) ↔ i ∈ slots t) (hg : ∀ F0 κ0 H0, ∀ (s : Shared) (H : Hp) (C : Addr) (cl : List (Str × Addr)) (fp : List Addr), PG (X.blk s H scope (compEnvC scope cl C X.env) fp) tg (dG (f.at F0 κ0 H0) t))
    (ht : ∀ F0 κ0 H0, ∀ (s : Shared) (H : Hp) (C : Addr) (cl : List (Str × Addr)) (fp : List Addr), PTs (X.blk s H scope (compEnvC scope cl C X.env) fp) ifs (dT (f.at F0 κ0 H0) (ev g φ .t cc)))
    (hk : ∀ F0 κ0 H0, ∀ (s : Shared) (H : Hp) (C : Addr) (cl : List (Str × Addr)) (fp : List Addr), PE (X.blk s H scope (compEnvC scope cl C X.env) fp) kx (dE (f.at F0 κ0 H0) .v (ev g φ .v k)))
    (he : ∀ F0 κ0 H0, ∀ (s : Shared) (H : Hp) (C : Addr) (cl : List (Str × Addr)) (fp : List Addr), PE (X.blk s H scope (compEnvC scope cl C X.env) fp) vx (dE (f.at F0 κ0 H0) .v (ev g φ .v v)))
    (hs : ∀ x, foldedSetIterable iter X.env x = pure x) : PE X (.Call (.Name "list" p) [.DictComp kx vx [⟨tg, iter, ifs, 0⟩] scope pos2] [] pos) (dE f m (ev g φ m (.ldk k v t it cc))) :=
  PE.imp (pe_callTy (r := rListT) (call_list_dT G.calm) hgl hml boot_listT (pa_cons (pe_dt G.calm G.un G.nd hi ok (fun s H C cl fp => xG_of fun F0 κ0 H0 => hg F0 κ0 H0 s H C cl fp) (fun s H C cl fp => xT_of fun F0 κ0 H0 => ht F0 κ0 H0 s H C cl fp)
    (fun s H C cl fp => xE_of fun F0 κ0 H0 => hk F0 κ0 H0 s H C cl fp) (fun s H C cl fp => xE_of fun F0 κ0 H0 => he F0 κ0 H0 s H C cl fp) hs) pa_nil)) fun σ H Q h => t_ldk hm hv h
end
end DV
end
section
set_option Elab.async false
set_option linter.all false
set_option maxRecDepth 100000
set_option maxHeartbeats 1000000
/-! DV48: errors raised, caught and kept; their field; keywords in another order; a lambda without arguments. -/
namespace DV
open PySem PySem.Spec PyProof.Rows L2
section
variable {f : Fr0} {c : Ct} {X : Cx} {g : Cfg} {φ : Phi}
variable {F F' : Fz} {κ κ' : List Addr} {ρ ρ' : Ev} {M M' : Mem} {σ : L2.St} {H H' : Hp}
/-- a name is unbound -/
theorem RS.drop (R : f.RS F κ ρ M σ H) (i : Nat) : f.RS F κ (ρ.set i .un) M (σ.set i none) H := by
  refine ⟨R.m, R.go, R.nf, R.s0, by rw [List.length_set, List.length_set]; exact R.len, fun j e hj => ?_, fun j k b e e' h1 h2 h3 h4 h5 h6 => ?_, fun b hb => ?_⟩
  · rcases get_set hj with ⟨rfl, rfl⟩ | ⟨ne, hj⟩
    · trivial
    · rw [List.getElem?_set_ne ne]
      exact R.sl j e hj
  · rcases get_set h1 with ⟨rfl, rfl⟩ | ⟨n1, h1⟩
    · cases h2
    · rcases get_set h4 with ⟨rfl, rfl⟩ | ⟨n2, h4⟩
      · cases h5
      · rw [List.getElem?_set_ne n1] at h3
        rw [List.getElem?_set_ne n2] at h6
        exact R.own j k b e e' h1 h2 h3 h4 h5 h6
  · obtain ⟨h1, h2, h3, h4, h5⟩ := R.gh b hb
    refine ⟨h1, h2, h3, h4, fun j e hj ho => ?_⟩
    rcases get_set hj with ⟨rfl, rfl⟩ | ⟨ne, hj⟩
    · cases ho
    · rw [List.getElem?_set_ne ne]
      exact h5 j e hj ho
theorem rvs_of {G : Gb} {B : Heap} {F : Fz} {κ : List Addr} : ∀ {vs : List V} {ds : List D}, Paired (Rvl G B F κ) vs ds → ds.all lamless = true → Rvs G F κ vs ds
  | [], [], _, _ => .nil
  | v :: vs, d :: ds, h, n => by
    simp only [List.all_cons, Bool.and_eq_true] at n
    cases h with
    | cons a b => exact .cons (Rvl.less a n.1) (rvs_of b n.2)
  | [], _ :: _, h, _ => nomatch h
  | _ :: _, [], h, _ => nomatch h
theorem s_raise (G : GX f c X) {L : List Shp} (C : GC f X φ L) {k : Nat} {x n : Str} {e0 : E} {a : Expr} {p pos pos' : Pos} (hk : (k, x) ∈ c.ers) (hn : c.cnm[k]? = some n) (hg : Gl X n) (hd : (n == ("__debug__" : Str)) = false) (hst : ∀ e' p, a ≠ .Starred e' p) (hse : ∀ e', e0 ≠ .star e')
    (ha : PA X [a] (dA f .v (evs g φ .v [e0]))) : PS X (.Raise (some (.Call (.Name n p) [a] [] pos)) none pos') (dS f (st g φ (.raise k [e0]))) := by
  obtain ⟨K, hr, _⟩ := C.ex
  obtain ⟨C0, hC, hT, hf⟩ := G.ek.er k x hk
  obtain ⟨C1, hC1, hm⟩ := G.ca k n hn
  rw [hC] at hC1
  cases hC1
  have hsu := G.ek.sup (List.ne_nil_of_mem hk)
  refine PS.imp (ps_raise G.calm G.takes (DVE.pmk_er hT hm hsu hr ha hg hd hst)) fun D σ H ⟨F, κ, ρ, M, R, h⟩ => ?_
  simp only [st] at h
  refine ⟨F, κ, ρ, M, R, h.exp.when.imp fun F1 κ1 ρ1 M1 H1 ds g1 R1 ⟨eq, _, q⟩ vs rs => ?_⟩
  have hlen := evs_len (fun e m => by rw [List.mem_singleton.mp m]; exact hse) eq
  by_cases hl : ds.all lamless = true
  · rw [if_pos hl] at q
    have rs' := rvs_of (show Paired (Rvl f.G f.B F1 κ1) vs ds from rs) hl
    cases rs' with
    | nil => cases hlen
    | cons r1 r2 =>
      cases r2 with
      | nil =>
        refine ⟨_, rfl, fun d hd1 => ?_⟩
        exact q F1 κ1 σ _ _ _ (Ex.refl _) (Px.refl _) (RS.new R1 hd1) ⟨C0, d, _, hC, rfl, rfl, upd_same, ⟨hf.symm, List.cons_ne_nil _ _⟩, .cons r1 .nil⟩
      | cons _ _ => cases hlen
  · rw [if_neg hl] at q
    exact q.elim
theorem s_tryas (G : GX f c X) {i j k : Nat} {body : List Stmt} {b : List S} {x n m : Str} {np p1 p2 p3 pos pos' : Pos} (hs : X.stack = X.env :: X.outer) (hf : X.env.frame = some X.env.locals) (hex : X.ex = []) (hi : X.N[i]? = some n) (hj : X.N[j]? = some m) (hij : i ≠ j)
    (hln : X.env.kindOf n = some .local) (hlm : X.env.kindOf m = some .local) (hc : c.cnm[k]? = some x) (hcat : k ∈ c.cat) (hgl : Gl X x) (hdx : (x == ("__debug__" : Str)) = false) (hdn : (n == ("__debug__" : Str)) = false) (hcn : (n == ("__classdict__" : Str)) = false)
    (hb : ∀ (W : WX) (pn : List (Addr × Obj)) (xe : Value → Shared → Prop), L2.Takes (X.tr pn xe) W → PassesOwn (model X.prog X.w) X.A X.env xe → PSs (X.tr pn xe) body (dS { f with W := W } (sts g φ b))) (hcls : g.cls = c.cls) :
    PS X (.Try body [.ExceptHandler (some (.Name x np)) (some n) [.Assign [.Name m p1] (.Name n p2) p3] pos'] [] [] pos) (dS f (st g φ (.tryas b k (some i) [.asg (.nm j) (.var i)]))) := by
  obtain ⟨A0, hA, hmA⟩ := G.ca k x hc
  refine PS.imp (DVE.ps_try_cap (c := .ref A0) (tb := fun W => dS { f with W := W } (sts g φ b)) hs hf hex G.nd hi hj hij hln hlm ⟨hgl, hdx, .inl hmA⟩ G.takes hdn hcn hb) fun D σ H ⟨F, κ, ρ, M, R, h⟩ => ?_
  refine ⟨F, κ, ρ, M, R, ?_⟩
  simp only [st] at h
  cases e : sts g φ b ρ M with
  | none => rw [e] at h; exact h.elim
  | some o =>
    rw [e] at h
    cases o with
    | ok fl ρ1 M1 => exact h
    | exc d ρ1 M1 =>
      cases d with
      | ins k2 fs =>
        intro F' κ' σ' H' cls dx ex px R1 hX
        have h : AftS f F κ D (if below g.cls k2 k = true then (sts g φ [.asg (.nm j) (.var i)] (ρ1.set i (.fz (.ins k2 fs))) M1).bind fun fl ρ M => okE (ρ.set i .un) M fl else some (.exc (.ins k2 fs) ρ1 M1)) := h
        obtain ⟨C2, dx2, nfs, hC2, rfl, rfl, hdx2, hfl, hrv⟩ := id hX
        have hne : f.G.fld k2 ≠ [] := fun z => by
          rw [z] at hfl
          exact hfl.2 (List.map_eq_nil_iff.mp hfl.1)
        refine ⟨below c.cls k2 k, by rw [← G.ek.exm k2 k C2 A0 hne hcat hC2 hA], fun hb1 a oe na hz ⟨vs, hvs⟩ => ?_, fun hb1 => ?_⟩
        · rw [hcls, if_pos hb1] at h
          obtain ⟨hz1, hz2⟩ := hz
          by_cases hil : i < ρ1.length
          · have e1 : sts g φ [.asg (.nm j) (.var i)] (ρ1.set i (.fz (.ins k2 fs))) M1 = okE ((ρ1.set i (.fz (.ins k2 fs))).set j (.fz (.ins k2 fs))) M1 .nx := by
              have e2 : takeD (ρ1.set i (.fz (.ins k2 fs))) i = some (.ins k2 fs, ρ1.set i (.fz (.ins k2 fs))) := by
                simp only [takeD, List.getElem?_set_self hil]
              simp only [sts, st, maker, modeOf, ev, e2, mine, DV.R.bind, okE]
              all_goals rfl
            rw [e1] at h
            have T := RS.tree R1 (p := a) (o := ExT a oe) (d := .ins k2 fs) na (fun F2 x2 => ?_) (by intro _ z; cases z)
            · refine h _ κ' _ _ (ex.trans T.1.ex) px (RS.drop (RS.put (RS.put T.2 (i := i) (v := .ref a) ?_) (i := j) (v := .ref a) ?_) i)
              · exact ⟨a, rfl, fput_same⟩
              · exact ⟨a, rfl, fput_same⟩
            · refine ⟨C2, dx2, nfs, oe, vs, hC2, upd_same, hz1, hz2, hvs, ?_, hfl, hrv.mono x2 (Px.refl _)⟩
              rw [upd_ne]
              · exact hdx2
              · rintro rfl
                rw [na] at hdx2
                cases hdx2
          · have e1 : sts g φ [.asg (.nm j) (.var i)] (ρ1.set i (.fz (.ins k2 fs))) M1 = none := by
              have e2 : takeD (ρ1.set i (.fz (.ins k2 fs))) i = none := by
                unfold takeD
                rw [List.getElem?_eq_none]
                rw [List.length_set]
                omega
              simp only [sts, st, maker, modeOf, ev, e2, mine, DV.R.bind]
              all_goals rfl
            rw [e1] at h
            exact h.elim
        · rw [hcls, if_neg (by rw [hb1]; exact Bool.false_ne_true)] at h
          exact h F' κ' σ' H' _ _ ex px R1 hX
      | _ => exact fun F' κ' σ' H' cls dx _ _ _ hX => hX.elim
/-- where a name first stands -/
theorem lookup_idx {anm : List Str} (nd : anm.Nodup) {k : Nat} {n : Str} (hk : anm[k]? = some n) (hn : n ≠ "") : ∀ {l : List Nat} {nfs : List (Str × V)} {G : Gb} {F : Fz} {κ : List Addr} {fs : List D} {d : D}, nfs.map (·.1) = l.map (fun j => anm.getD j "") → Rvs G F κ (nfs.map (·.2)) fs → l.contains k = true → fs[l.idxOf k]? = some d →
    n ∈ l.map (fun j => anm.getD j "") ∧ ∃ v, nfs.lookup n = some v ∧ Rv G F κ v d
  | [], _, _, _, _, _, _, _, _, h, _ => by cases h
  | j :: l, [], _, _, _, _, _, h, _, _, _ => by cases h
  | j :: l, (x, v) :: nfs, G, F, κ, [], d, h, r, _, _ => by cases r
  | j :: l, (x, v) :: nfs, G, F, κ, e :: fs, d, h, r, hc, hd => by
    simp only [List.map_cons, List.cons.injEq] at h
    obtain ⟨rfl, h⟩ := h
    cases r with
    | cons r1 r2 =>
      by_cases z : j = k
      · subst z
        rw [List.idxOf_cons_self] at hd
        cases hd
        have e1 : anm.getD j "" = n := by rw [List.getD_eq_getElem?_getD, hk]; rfl
        refine ⟨List.mem_map.mpr ⟨j, List.mem_cons_self, e1⟩, v, ?_, r1⟩
        rw [List.lookup_cons, e1, beq_self_eq_true]
      · have hc' : l.contains k = true := by
          rw [List.contains_cons, Bool.or_eq_true, beq_iff_eq] at hc
          rcases hc with hc | hc
          · exact absurd hc.symm z
          · exact hc
        rw [List.idxOf_cons, beq_false_of_ne z] at hd
        obtain ⟨q1, v', q2, q3⟩ := lookup_idx nd hk hn h r2 hc' (by simpa using hd)
        have ne : n ≠ anm.getD j "" := fun e => by
          rw [List.getD_eq_getElem?_getD] at e
          cases q : anm[j]? with
          | none => rw [q] at e; exact hn e
          | some y =>
            rw [q] at e
            have e : n = y := e
            subst e
            exact z ((List.getElem?_inj (List.getElem?_eq_some_iff.mp q).1 nd).mp (q.trans hk.symm))
        refine ⟨List.mem_cons_of_mem _ q1, v', ?_, q3⟩
        rw [List.lookup_cons, beq_false_of_ne ne]
        exact q2
/-- e.n, e an error -/
theorem s_attr (G : GX f c X) {m : Md} (hm : m = .v ∨ m = .b) {e : E} {a : Expr} {k : Nat} {n : Str} {pos : Pos} (hfl : g.fl = c.fl) (hk : c.anm[k]? = some n) (hn : n ≠ "") (ha : PE X a (dE f .b (ev g φ .b e))) (hb : attributeBase a n X.env (eval a X.env) = eval a X.env) :
    PE X (.Attribute a n pos) (dE f m (ev g φ m (.attr e k))) := by
  refine PE.imp (DVE.pe_exf ha hb) fun σ H Q ⟨F, κ, ρ, M, R, h⟩ => ?_
  simp only [ev] at h
  refine ⟨F, κ, ρ, M, R, h.bind.imp fun F1 κ1 ρ1 M1 H1 d g1 R1 ⟨_, q⟩ v rv => ?_⟩
  cases eA : attrD g.fl d k with
  | none => rw [eA] at q; exact q.elim
  | some d' =>
    rw [eA] at q
    cases d with
    | ins cc fs =>
      obtain ⟨a', rfl, hF⟩ := (show Rv f.G F1 κ1 v (.ins cc fs) from rv)
      obtain ⟨C, dx, nfs, oe, vs, h1, h2, h3, h4, h5, h6, h7, h8⟩ := R1.m.fz _ _ hF
      rw [hfl] at eA
      simp only [attrD] at eA
      cases el : c.fl[cc]? with
      | none => rw [el] at eA; cases eA
      | some l =>
        rw [el] at eA
        simp only at eA
        split at eA
        · rename_i hl
          have hfld : f.G.fld cc = l.map fun j => c.anm.getD j "" := by
            rw [G.ek.fl, List.getD_eq_getElem?_getD, el]
            rfl
          obtain ⟨q1, v', q2, q3⟩ := lookup_idx G.ek.nd hk hn (h7.1.trans hfld) h8 hl eA
          refine ⟨a', C, dx, oe, vs, nfs, v', rfl, G.ek.ea cc C n h1 (by rw [hfld]; exact q1), h2, h3, h4, h5, h6, q2, fin_ok hm R1 q3 q⟩
        · cases eA
    | _ => simp [attrD] at eA
/-- a lambda without arguments -/
theorem s_callv0 (G : GX f c X) {L : List Shp} (C : GC f X φ L) {m : Md} (hm : m = .v ∨ m = .b) {i : Nat} {x : Str} {p pos : Pos} (hN : c.N[i]? = some x) (hv : Vis c.sc x) (hd : (x == ("__debug__" : Str)) = false) (hcd : (x == ("__classdict__" : Str)) = false) :
    PE X (.Call (.Name x p) [] [] pos) (dE f m (ev g φ m (.callv i []))) := by
  refine ⟨fun pins s σ H Q I ⟨F, κ, ρ, M, R, h⟩ => ?_⟩
  simp only [ev] at h
  cases e0 : ρ[i]? with
  | none => rw [e0] at h; exact h.elim
  | some en =>
    rw [e0] at h
    cases en with
    | fz d =>
      cases d with
      | lam k caps =>
        obtain ⟨v, hσ, Li, cs, hL, hA, rc⟩ := R.sl i _ e0
        obtain ⟨a, cl, pm, c', ctv, rfl, b1, b2, b3, b4, b5, b6⟩ := hA
        rw [← G.B] at b1 b4 b6
        refine wpAny_Call_Name_kw (thn ((pe_var (pos := p) (i := i) (by rw [G.N]; exact hN) (by rw [G.sc]; exact hv) hd hcd).run pins s σ H (fun v H1 => v = .ref a ∧ H1 = H) I ⟨.ref a, hσ, rfl, rfl⟩) fun u s1 ⟨v, H1, I1, r1, q1⟩ => ?_)
        obtain ⟨ev, eH⟩ := q1
        subst ev
        rw [eH] at I1
        obtain rfl : u = Value.ref a := r1
        have h0 : Aft f F κ H σ (fun F' κ' ρ' M' H' d => ∀ v, RelQ f m F' κ' ρ' σ H' v d → Q v H') (ansO (φ k ([] ++ caps) M) ρ (fin m)) := by
          simpa only [evs, DV.R.bind_ok] using h
        refine PySem.W.callWith_F0 (first := []) ⟨_, _, _, _, I1.bk _ _ b1⟩ ?_
        exact run_lam G C hm hL I1 R (I1.bk _ _ b1) (code_rec I1 R (Ex.refl F) b2) (cells_base G I1 b3 b4 b5 b6) .nil .nil rc h0
      | _ => exact h.elim
    | _ => exact h.elim
theorem permV_at {α : Type} {pm : List Nat} {ws : List α} (h : pm ≠ []) : permV pm ws = pm.filterMap fun j => ws[j]? := by
  cases pm with
  | nil => exact absurd rfl h
  | cons _ _ => rfl
theorem perm_vals : ∀ (pm : List Nat) {zs : List V} {ws : List Value}, Vals zs ws → Vals (pm.filterMap fun j => zs[j]?) (pm.filterMap fun j => ws[j]?)
  | [], _, _, _ => .nil
  | i :: is, zs, ws, r => by
    have ih := perm_vals is r
    rw [List.filterMap_cons, List.filterMap_cons]
    cases e : ws[i]? with
    | some w =>
      obtain ⟨z, hz, rz⟩ := Paired.get r e
      rw [hz]
      exact .cons rz ih
    | none =>
      have : zs[i]? = none := by
        rw [List.getElem?_eq_none_iff] at e ⊢
        have := Paired.length r
        omega
      rw [this]
      exact ih
theorem perm_ds {Pr : V → D → Prop} : ∀ (pm : List Nat) {zs : List V} {ds ds' : List D}, Paired Pr zs ds → permD pm ds = some ds' → Paired Pr (pm.filterMap fun j => zs[j]?) ds'
  | [], _, _, _, _, h => by cases h; exact .nil
  | i :: is, zs, ds, ds', r, h => by
    simp only [permD] at h
    cases e : ds[i]? with
    | none => rw [e] at h; cases h
    | some d =>
      rw [e] at h
      cases e2 : permD is ds with
      | none => rw [e2] at h; cases h
      | some l =>
        rw [e2] at h
        cases h
        obtain ⟨z, hz, rz⟩ := Paired.get r e
        rw [List.filterMap_cons, hz]
        exact .cons rz (perm_ds is r e2)
/-- a def called by keywords alone, in another order -/
theorem s_callp (G : GX f c X) {L : List Shp} (C : GC f X φ L) {m : Md} (hm : m = .v ∨ m = .b) {q : Shp} (hq : q ∈ L) {fs : List E} {kws : List Keyword} {p pos : Pos} (hg : Gl X q.x) (hdb : (q.x == ("__debug__" : Str)) = false) (hp0 : q.p = 0) (hdd : q.dd = []) (hpm : q.pm ≠ [])
    (hkn : ∀ k ∈ kws, k.1.isSome = true) (hks : kws.filterMap (·.1) = q.ks) (hfs : ∀ e ∈ fs, ∀ e', e ≠ .star e') (hfl : fs.length = q.ks.length) (hk : PK X kws (dA f .v (evs g φ .v fs))) :
    PE X (.Call (.Name q.x p) [] kws pos) (dE f m (ev g φ m (.callp q.i fs q.pm))) := by
  obtain ⟨k, hr, hc, _⟩ := C.ex
  obtain ⟨a, fd, ps, ds, dvs, Fo, hmg, hkp, hb, hv, hd⟩ := (hc q hq).ex
  obtain ⟨k1, k2, k3⟩ := kw_names (env := X.env) (pos := pos) kws hkn
  rw [hdd] at hd
  cases dvs with
  | cons _ _ => cases hd
  | nil =>
    cases hv
    refine ⟨fun pins s σ H Q I ⟨F, κ, ρ, M, R, h⟩ => ?_⟩
    simp only [ev] at h
    have two : dA f .v (evs g φ .v fs) σ H fun zs H2 => zs.length = q.ks.length ∧ spD f.K f.G f.B φ q.i (permV q.pm zs) H2 Q (fun cls dx H' => f.W cls dx σ H') := by
      refine ⟨F, κ, ρ, M, R, h.bind.when.imp fun F2 κ2 ρ2 M2 H2 ds2 g2 R2 ⟨eq2, _, q2⟩ zs rz => ⟨by rw [Paired.length rz, evs_len hfs eq2, hfl], ?_⟩⟩
      cases e : permD q.pm ds2 with
      | none => rw [e] at q2; exact q2.elim
      | some ds3 =>
        rw [e] at q2
        rw [permV_at hpm]
        exact call_aft hm R2 (perm_ds q.pm (show Paired (Rvl f.G f.B F2 κ2) zs ds2 from rz) e) q2
    refine wpAny_Call_Name_kw (ld_glob I hg hmg ?_ hdb)
    refine PySem.W.callWith_KW0 (h₀ := X.base) I.ok.mod.kin hkp k1 (thn (hk.run pos pins s σ H _ I two) fun ws s2 ⟨zs, H2, I2, rz, hl2, q2⟩ => ⟨I2.kIn, ?_⟩) (by show (([] : List (Bool × Sem Value)).any (·.1) || _) = false; rw [k2]; rfl)
    rw [k3, hks]
    have hb1 := hb s2 [] ws I2.kIn hp0.symm (rz.length.symm.trans hl2)
    rw [List.append_nil] at hb1
    have rp : Vals (permV q.pm zs) (permV q.pm ws) := by rw [permV_at hpm, permV_at hpm]; exact perm_vals q.pm rz
    exact run_fnE (args := ⟨[], q.ks.zip ws⟩) (by have := Fo X.base (fun _ _ e => by rw [G.B]; exact e); rw [← G.B]; exact this) hr G.gd hb1 I2 rp G.takes (fun _ _ _ z => z) q2
/-- {} -/
theorem s_dnew {m : Md} (hm : Ord m) {pos : Pos} : PE X (.Dict [] [] pos) (dE f m (ev g φ m (.dict [] []))) := by
  refine PE.imp pe_dnewK fun σ H Q ⟨F, κ, ρ, M, R, h⟩ => ?_
  simp only [ev] at h
  exact fun p hp => fin_new (d := .dct [] []) hm R hp (fun _ z => nomatch z) (fun F' ex => ⟨upd_same, rfl, rfl⟩) (fun F' e => ⟨p, rfl, e⟩) h
end
end DV
end
section
set_option Elab.async false
set_option linter.all false
set_option maxRecDepth 100000
set_option maxHeartbeats 1000000
/-! DV30: the look at an expression: that the tree is the text's. -/
namespace DV
open PySem PySem.Spec PyProof.Rows L2
inductive Wt where
  | e (m : Md) | t | i (m : Md) (tg : Expr) | s
def visB (sc : Scope) (x : Str) : Bool := match sc.names.lookup x with
  | some .local => true
  | some .cell => true
  | some .free => true
  | _ => false
def locB (sc : Scope) (x : Str) : Bool := match sc.names.lookup x with
  | some .local => true
  | some .cell => true
  | _ => false
def loclB (sc : Scope) (x : Str) : Bool := match sc.names.lookup x with
  | some .local => true
  | _ => false
def globB (sc : Scope) (x : Str) : Bool := match sc.names.lookup x with
  | some .globalImplicit => true
  | _ => false
def nameB (x : Str) : Bool := !(x == ("__debug__" : Str)) && !(x == ("__classdict__" : Str))
def noDbg (x : Str) : Bool := !(x == ("__debug__" : Str))
def okW (mk : Bool) (x : Expr) : Wt → Bool
  | .e .v => true
  | .e .b => true
  | .e .n => mk
  | .e _ => false
  | .t => plainTest x
  | .i .i _ => true
  | .i .k _ => true
  | .i _ _ => false
  | .s => false
def notSlice : Expr → Bool
  | .Slice .. => false
  | _ => true
def notStarX : Expr → Bool
  | .Starred .. => false
  | _ => true
def notStarE : E → Bool
  | .star _ => false
  | _ => true
def isNo : E → Bool
  | .no => true
  | _ => false
def tyStr (t : Ty) : Str := (tyName t : String)
def litB (c : Ct) : D → Expr → Bool
  | .int i, .Constant (.int j) _ _ => i == j
  | .bl i, .Constant (.bool j) _ _ => i == j
  | .str s, .Constant (.str t) _ _ => decide (toStr s = t)
  | .non, .Constant .none _ _ => true
  | .ty t, .Name y _ => decide (y = tyStr t) && globB c.sc y && c.bi.contains y
  | .cls i, .Name y _ => decide (c.cnm[i]? = some y) && globB c.sc y && noDbg y
  | .fn i, .Name y _ => decide (c.fnm[i]? = some y) && !(y == ("" : Str)) && globB c.sc y && noDbg y
  | d, .Name y _ => (c.cst.any fun p => decide (p.1 = y) && D.beq p.2 d) && (atom d).isSome && globB c.sc y && noDbg y
  | _, _ => false
def biName : Bi → Str
  | .len => "len" | .abs => "abs" | .all => "all" | .any => "any" | .sum => "sum" | .min => "min" | .max => "max" | .int => "int" | .bool => "bool" | .str => "str" | .repr => "repr" | .tuple => "tuple" | .list => "list" | .isi => "isinstance"
  | .set => "set" | .sorted => "sorted" | .dict => "dict"
/-- which built-ins are known -/
def biKn : Bi → Bool
  | .set | .sorted | .dict => false
  | _ => true
def mkB : Bi → Bool
  | .list => true
  | _ => false
/-- the block of a comprehension -/
def ownOf (N : List Str) (sc : Scope) : List (Str × Nat) := (sc.names.filter fun y => (match y.2 with | .local => true | .cell => true | _ => false) && N.contains y.1).map fun y => (y.1, N.idxOf y.1)
def Ct.blk (c : Ct) (scope : Scope) : Ct := { c with sc := relS scope c.sc, fnb := fun x => scope.names.lookup x == some .cell, maker := false }
def sameSet (a b : List Nat) : Bool := a.all (fun i => b.contains i) && b.all (fun i => a.contains i)
mutual
def chkG (c : Ct) : Tg → Expr → Bool
  | .nm i, x => match x with
    | .Name y _ => decide (c.N[i]? = some y) && locB c.sc y && (c.fnb y || loclB c.sc y)
    | _ => false
  | .tu ts, x => match x with
    | .Tuple xs _ _ => chkGs c ts xs
    | _ => false
def chkGs (c : Ct) : List Tg → List Expr → Bool
  | [], [] => true
  | t :: ts, x :: xs => notStarX x && chkG c t x && chkGs c ts xs
  | _, _ => false
end
def rest (o : BoolOp) (q : Expr) (r : List Expr) (pos : Pos) : Expr := match r with
  | [] => q
  | _ :: _ => .BoolOp o (q :: r) pos
def isTT : E → Bool
  | .lit (.bl true) => true
  | _ => false
def chkIf (cc : E) (k : Expr → Bool) (ifs : List Expr) : Bool := match ifs with
  | [] => isTT cc
  | [z] => k z
  | _ => false
def chkEnd (e : E) (k : Expr → Bool) (l : Option Expr) : Bool := match l with
  | none => isNo e
  | some z => !isNo e && k z
def isLit (e : E) (d : D) : Bool := match e with
  | .lit d' => D.beq d' d
  | _ => false
def isTup : Expr → Bool
  | .Tuple .. => true
  | _ => false
/-! ### texts equal as written -/
def eqs {α : Type} (k : α → α → Bool) : List α → List α → Bool
  | [], [] => true
  | a :: l, b :: m => k a b && eqs k l m
  | _, _ => false
def eqArg : Arg → Arg → Bool
  | ⟨a, none, p⟩, ⟨b, none, q⟩ => decide (a = b) && decide (p = q)
  | _, _ => false
def eqArgs : Arguments → Arguments → Bool
  | ⟨[], l, none, [], [], none, []⟩, ⟨[], m, none, [], [], none, []⟩ => eqs eqArg l m
  | _, _ => false
def eqX : Nat → Expr → Expr → Bool
  | 0, _, _ => false
  | n + 1, a, b => match a, b with
    | .Name x p, .Name y q => decide (x = y) && decide (p = q)
    | .Constant x k p, .Constant y j q => decide (x = y) && decide (k = j) && decide (p = q)
    | .Tuple xs k p, .Tuple ys j q => eqs (eqX n) xs ys && decide (k = j) && decide (p = q)
    | .List xs p, .List ys q => eqs (eqX n) xs ys && decide (p = q)
    | .Call f xs [] p, .Call g ys [] q => eqX n f g && eqs (eqX n) xs ys && decide (p = q)
    | .Compare l o xs p, .Compare m o' ys q => eqX n l m && decide (o = o') && eqs (eqX n) xs ys && decide (p = q)
    | .UnaryOp o x p, .UnaryOp o' y q => decide (o = o') && eqX n x y && decide (p = q)
    | .BinOp x o x' p, .BinOp y o' y' q => eqX n x y && decide (o = o') && eqX n x' y' && decide (p = q)
    | .BoolOp o xs p, .BoolOp o' ys q => decide (o = o') && eqs (eqX n) xs ys && decide (p = q)
    | .Dict [] [] p, .Dict [] [] q => decide (p = q)
    | .Subscript x x' p, .Subscript y y' q => eqX n x y && eqX n x' y' && decide (p = q)
    | .Attribute x a p, .Attribute y b q => eqX n x y && decide (a = b) && decide (p = q)
    | .ListComp x [⟨t, i, fs, k⟩] s p, .ListComp y [⟨t', i', fs', k'⟩] s' q => eqX n x y && eqX n t t' && eqX n i i' && eqs (eqX n) fs fs' && decide (k = k') && decide (s = s') && decide (p = q)
    | _, _ => false
/-- a written lambda is that of the table -/
def lamB (c : Ct) (j : Nat) (caps : List Nat) (ps : Arguments) (body : Expr) (sc : Scope) : Bool := c.maker && (match c.lam j with
  | some L => eqArgs L.params ps && eqX 60 L.body body && decide (L.scope = sc) && decide (L.qual = c.qual ++ "<lambda>") && decide (caps.map (fun j => c.N[j]?) = L.fr.map some) &&
    (sc.names.all fun y => match y.2 with | .free => c.sc.names.lookup y.1 == some .cell || c.sc.names.lookup y.1 == some .free | _ => true) && L.fr.all fun y => sc.names.contains (y, .free)
  | none => false)
def lamE (c : Ct) : E → Expr → Bool
  | .lam j caps, .Lambda ps body sc _ => lamB c j caps ps body sc
  | _, _ => false
def keyB (c : Ct) : E → Expr → Bool
  | .lit (.fn i), .Name y _ => (c.shp.any fun q => q.i == i && decide (q.x = y) && q.p == 1 && q.ks.isEmpty && q.dd.isEmpty) && globB c.sc y && noDbg y
  | .lam j caps, .Lambda ps body sc _ => lamB c j caps ps body sc
  | _, _ => false
def isName : Expr → Bool
  | .Name .. => true
  | _ => false
def isDC : Expr → Bool
  | .DictComp .. => true
  | _ => false
mutual
def chk : Ct → Wt → E → Expr → Bool
  | c, w, .var i, x => match x with
    | .Name y _ => okW false x w && decide (c.N[i]? = some y) && visB c.sc y && nameB y
    | _ => false
  | c, w, .lit d, x => okW false x w && litB c d x
  | c, w, .tup es, x => match x with
    | .Tuple xs _ _ => okW false x w && chks c .v es xs
    | _ => false
  | c, w, .lst es, x => match x with
    | .List xs _ => okW true x w && chks c .v es xs
    | _ => false
  | c, w, .cell es, x => match x with
    | .List xs _ => okW false x w && chks c .v es xs
    | _ => false
  | c, w, .neg a, x => match x with
    | .UnaryOp .USub y _ => okW false x w && chk c (.e .v) a y
    | _ => false
  | c, w, .not a, x => match x with
    | .UnaryOp .Not y _ => match w with
      | .t => chk c .t a y
      | .e .v => chk c (.e .b) a y
      | .e .b => chk c (.e .b) a y
      | _ => false
    | _ => false
  | c, w, .bin o a b, x => match x with
    | .BinOp p o' q _ => okW (match o with | .add => true | .mul => true | _ => false) x w && decide (o' = opOf o) && chk c (.e .b) a p && chk c (.e .b) b q
    | _ => false
  | c, w, .and a b, x => match x with
    | .BoolOp .And (p :: q :: r) pos => match w with
      | .t => chk c .t a p && chk c .t b (rest .And q r pos)
      | .e .v => chk c (.e .v) a p && chk c (.e .v) b (rest .And q r pos)
      | .e .b => chk c (.e .b) a p && chk c (.e .b) b (rest .And q r pos)
      | _ => false
    | _ => false
  | c, w, .or a b, x => match x with
    | .BoolOp .Or (p :: q :: r) pos => match w with
      | .t => chk c .t a p && chk c .t b (rest .Or q r pos)
      | .e .v => chk c (.e .v) a p && chk c (.e .v) b (rest .Or q r pos)
      | .e .b => chk c (.e .b) a p && chk c (.e .b) b (rest .Or q r pos)
      | _ => false
    | _ => false
  | c, w, .cmp o a b, x => match x with
    | .Compare p [o'] [q] _ => (match w with | .t => true | .e .v => true | .e .b => true | _ => false) && decide (o' = cmOf o) && noSet q && chk c (.e .b) a p && chk c (.e .b) b q
    | _ => false
  | c, w, .chain o o' a b e, x => match x with
    | .Compare p [o1, o2] [q, r] _ => (match w with | .e .v => true | .e .b => true | _ => false) && decide (o1 = cmOf o) && decide (o2 = cmOf o') && noSet r && chk c (.e .b) a p && chk c (.e .b) b q && chk c (.e .b) e r
    | _ => false
  | c, w, .ife t a b, x => match x with
    | .IfExp u p q _ => match w with
      | .e .v => chk c .t t u && chk c (.e .v) a p && chk c (.e .v) b q
      | .e .b => chk c .t t u && chk c (.e .b) a p && chk c (.e .b) b q
      | _ => false
    | _ => false
  | c, w, .idx a i, x => match x with
    | .Subscript p q _ => okW false x w && notSlice q && chk c (.e .b) a p && chk c (.e .v) i q
    | _ => false
  | c, w, .sl a lo hi, x => match x with
    | .Subscript p (.Slice l h none _) _ => okW true x w && chk c (.e .b) a p && chkEnd lo (fun z => chk c (.e .v) lo z) l && chkEnd hi (fun z => chk c (.e .v) hi z) h
    | _ => false
  | c, w, .rev a, x => match x with
    | .Subscript p (.Slice none none (some (.UnaryOp .USub (.Constant (.int 1) _ _) _)) _) _ => okW true x w && chk c (.e .b) a p
    | _ => false
  | c, w, .call i es, x => match x with
    | .Call (.Name y _) xs kws _ => okW false x w && globB c.sc y && noDbg y && (kws.all fun k => k.1.isSome) && (match c.shp.find? (fun q => q.i == i && decide (q.x = y) && q.p == xs.length && decide (q.ks = kws.filterMap (·.1)) && q.pm.isEmpty) with
      | some q => chkc c q.dd es xs kws || (kws.isEmpty && q.dd.isEmpty && chkl c es xs)
      | none => false)
    | _ => false
  | c, w, .bi b es, x => match x with
    | .Call (.Name y _) xs [] _ => okW (mkB b) x w && biKn b && decide (y = biName b) && globB c.sc y && c.bi.contains y && !xs.isEmpty && xs.all notStarX && chks c .b es xs
    | _ => false
  | c, w, .cp el t it cc, x => match x with
    | .ListComp elt [⟨tg, iter, ifs, 0⟩] scope _ => okW true x w && blkC c.N c.sc scope (ownOf c.N scope) && sameSet ((ownOf c.N scope).map (·.2)) (slots t) && noSet iter && chk c (.i .i tg) it iter && chkG (c.blk scope) t tg && chkIf cc (fun z => chk (c.blk scope) .t cc z) ifs && chk (c.blk scope) (.e .v) el elt
    | _ => false
  | c, w, .cp2 el t it cc t1 it1 cc1, x => match x with
    | .ListComp elt [⟨tg, iter, ifs, 0⟩, ⟨tg1, iter1, ifs1, 0⟩] scope _ => okW true x w && blkC c.N c.sc scope (ownOf c.N scope) && sameSet ((ownOf c.N scope).map (·.2)) (slots t ++ slots t1) && noSet iter && noSet iter1 && chk c (.i .i tg) it iter && chkG (c.blk scope) t tg && chkIf cc (fun z => chk (c.blk scope) .t cc z) ifs && chk (c.blk scope) (.i .k tg1) it1 iter1 && chkG (c.blk scope) t1 tg1 && chkIf cc1 (fun z => chk (c.blk scope) .t cc1 z) ifs1 && chk (c.blk scope) (.e .v) el elt
    | _ => false
  | c, w, .range es, x => match x with
    | .Call (.Name y _) xs [] _ => (match w with | .i .i _ => true | .i .k _ => true | _ => false) && decide (y = ("range" : Str)) && globB c.sc y && c.bi.contains y && (match xs with | [_] => true | [_, _] => true | _ => false) && xs.all notStarX && chks c .v es xs && es.all notStarE
    | _ => false
  | c, w, .zip a b, x => match x with
    | .Call (.Name y _) [p, q] [] _ => decide (y = ("zip" : Str)) && globB c.sc y && c.bi.contains y && notStarX p && notStarX q && (match w with
      | .i .i tg => isTup tg && chk c (.e .b) a p && chk c (.e .b) b q
      | .i .k tg => isTup tg && chk c (.e .v) a p && chk c (.e .v) b q
      | _ => false)
    | _ => false
  | c, w, .enum a, x => match x with
    | .Call (.Name y _) [p] [] _ => decide (y = ("enumerate" : Str)) && globB c.sc y && c.bi.contains y && notStarX p && (match w with
      | .i .i tg => isTup tg && chk c (.e .b) a p
      | .i .k tg => isTup tg && chk c (.e .v) a p
      | _ => false)
    | _ => false
  | c, w, .callv i es, x => match x with
    | .Call (.Name y _) xs [] _ => okW false x w && decide (c.N[i]? = some y) && visB c.sc y && nameB y && xs.all notStarX && chks c .v es xs
    | _ => false
  | c, w, .attr a k, x => match x with
    | .Attribute z n _ => okW false x w && decide (c.anm[k]? = some n) && decide (n ≠ "") && isName z && chk c (.e .b) a z
    | _ => false
  | c, w, .callp i es ps, x => match x with
    | .Call (.Name y _) [] kws _ => okW false x w && globB c.sc y && noDbg y && (kws.all fun k => k.1.isSome) && (match c.shp.find? (fun q => q.i == i && decide (q.x = y) && q.p == 0 && decide (q.ks = kws.filterMap (·.1)) && decide (q.pm = ps)) with
      | some q => chkc c [] es [] kws && q.dd.isEmpty && !ps.isEmpty
      | none => false)
    | _ => false
  | c, w, .dict ks vs, x => match ks, vs, x with
    | [], [], .Dict [] [] _ => okW false x w
    | _, _, _ => false
  | c, w, .sset a, x => match x with
    | .Call (.Name y _) [.Call (.Name y2 _) [z] [] _] [] _ => okW true x w && decide (y = ("sorted" : Str)) && decide (y2 = ("set" : Str)) && globB c.sc y && globB c.sc y2 && c.bi.contains y && c.bi.contains y2 && notStarX z && chk c (.e .b) a z
    | _ => false
  | c, w, .ldk k v t it cc, x => match x with
    | .Call (.Name y _) [.DictComp kx vx [⟨tg, iter, ifs, 0⟩] scope _] [] _ => okW true x w && decide (y = ("list" : Str)) && globB c.sc y && c.bi.contains y && blkC c.N c.sc scope (ownOf c.N scope) && sameSet ((ownOf c.N scope).map (·.2)) (slots t) && noSet iter && chk c (.i .i tg) it iter && chkG (c.blk scope) t tg && chkIf cc (fun z => chk (c.blk scope) .t cc z) ifs && chk (c.blk scope) (.e .v) k kx && chk (c.blk scope) (.e .v) v vx
    | _ => false
  | c, w, .sortk a k _, x => match x with
    | .Call (.Name y _) [z] [⟨some nm, ke, _⟩] _ => okW true x w && decide (y = ("sorted" : Str)) && decide (nm = ("key" : Str)) && globB c.sc y && c.bi.contains y && notStarX z && chk c (.e .b) a z && keyB c k ke
    | _ => false
  | c, w, .star e, x => match x with
    | .Starred y _ => (match w with | .s => true | _ => false) && chk c (.e .b) e y
    | _ => false
  | _, _, _, _ => false
termination_by structural _ _ e => e
def chks : Ct → Md → List E → List Expr → Bool
  | _, _, [], xs => xs.isEmpty
  | c, m, e :: es, xs => match xs with
    | x :: xs => ((notStarE e && notStarX x && chk c (.e m) e x) || chk c .s e x) && chks c m es xs
    | [] => false
termination_by structural _ _ es => es
def chkc : Ct → List D → List E → List Expr → List Keyword → Bool
  | _, dd, [], xs, kws => xs.isEmpty && kws.isEmpty && dd.isEmpty
  | c, dd, e :: es, xs, kws => match xs with
    | x :: xs => notStarE e && notStarX x && chk c (.e .v) e x && chkc c dd es xs kws
    | [] => match kws with
      | k :: kws => notStarE e && chk c (.e .v) e k.2 && chkc c dd es [] kws
      | [] => match dd with
        | d :: dd => isLit e d && chkc c dd es [] []
        | [] => false
termination_by structural _ _ es => es
/-- a row of arguments, a lambda last -/
def chkl : Ct → List E → List Expr → Bool
  | _, [], _ => false
  | c, e :: es, xs => match xs with
    | x :: xs => (es.isEmpty && xs.isEmpty && lamE c e x) || (notStarE e && notStarX x && chk c (.e .v) e x && chkl c es xs)
    | [] => false
termination_by structural _ es => es
end
end DV
end
section
set_option Elab.async false
set_option linter.all false
set_option maxRecDepth 100000
set_option maxHeartbeats 2000000
/-! DV31: what the look gives. -/
namespace DV
open PySem PySem.Spec PyProof.Rows L2
section
variable {f : Fr0} {c : Ct} {X : Cx} {g : Cfg} {φ : Phi}
/-! ### values equal as written -/
mutual
theorem beq_eq : ∀ {a b : D}, D.beq a b = true → a = b
  | .non, b, h => by cases b <;> simp_all [D.beq]
  | .bl x, b, h => by cases b <;> simp_all [D.beq]
  | .int x, b, h => by cases b <;> simp_all [D.beq]
  | .str x, b, h => by cases b <;> simp_all [D.beq]
  | .tup x, b, h => by
    cases b with
    | tup y => simp only [D.beq] at h; rw [beqs_eq h]
    | _ => simp [D.beq] at h
  | .lst x, b, h => by
    cases b with
    | lst y => simp only [D.beq] at h; rw [beqs_eq h]
    | _ => simp [D.beq] at h
  | .dct x y, b, h => by
    cases b with
    | dct z w => simp only [D.beq, Bool.and_eq_true] at h; rw [beqs_eq h.1, beqs_eq h.2]
    | _ => simp [D.beq] at h
  | .set x, b, h => by
    cases b with
    | set y => simp only [D.beq] at h; rw [beqs_eq h]
    | _ => simp [D.beq] at h
  | .ty x, b, h => by cases b <;> simp_all [D.beq]
  | .fn x, b, h => by cases b <;> simp_all [D.beq]
  | .cls x, b, h => by cases b <;> simp_all [D.beq]
  | .lam x y, b, h => by
    cases b with
    | lam z w => simp only [D.beq, Bool.and_eq_true, beq_iff_eq] at h; rw [h.1, beqs_eq h.2]
    | _ => simp [D.beq] at h
  | .ins x y, b, h => by
    cases b with
    | ins z w => simp only [D.beq, Bool.and_eq_true, beq_iff_eq] at h; rw [h.1, beqs_eq h.2]
    | _ => simp [D.beq] at h
  | .cell x, b, h => by cases b <;> simp_all [D.beq]
  | .scr, b, h => by cases b <;> simp_all [D.beq]
theorem beqs_eq : ∀ {a b : List D}, D.beqs a b = true → a = b
  | [], b, h => by cases b <;> simp_all [D.beqs]
  | x :: a, [], h => by simp [D.beqs] at h
  | x :: a, y :: b, h => by
    simp only [D.beqs, Bool.and_eq_true] at h
    rw [beq_eq h.1, beqs_eq h.2]
end
/-! ### names -/
theorem visB_vis {sc : Scope} {x : Str} (h : visB sc x = true) : Vis sc x := by
  unfold visB at h
  split at h <;> first
    | (rename_i e; exact .inl e)
    | (rename_i e; exact .inr (.inl e))
    | (rename_i e; exact .inr (.inr e))
    | cases h
theorem locB_loc {sc : Scope} {x : Str} (h : locB sc x = true) : Loc sc x := by
  unfold locB at h
  split at h <;> first
    | (rename_i e; exact .inl e)
    | (rename_i e; exact .inr e)
    | cases h
theorem loclB_loc {sc : Scope} {x : Str} (h : loclB sc x = true) : sc.names.lookup x = some .local := by
  unfold loclB at h
  split at h <;> first
    | assumption
    | cases h
theorem globB_gl (G : GX f c X) {x : Str} (h : globB c.sc x = true) : Gl X x := by
  unfold globB at h
  split at h <;> first
    | (rename_i e; show X.env.scope.names.lookup x = _; rw [G.sc]; exact e)
    | cases h
theorem nameB_1 {x : Str} (h : nameB x = true) : (x == ("__debug__" : Str)) = false ∧ (x == ("__classdict__" : Str)) = false := by
  simpa [nameB] using h
theorem noDbg_1 {x : Str} (h : noDbg x = true) : (x == ("__debug__" : Str)) = false := by simpa [noDbg] using h
theorem star_x {x : Expr} (h : notStarX x = true) : ∀ e' p, x ≠ .Starred e' p := fun e' p z => by
  subst z
  cases h
theorem star_e {e : E} (h : notStarE e = true) : ∀ e', e ≠ .star e' := fun e' z => by
  subst z
  cases h
theorem slice_x {x : Expr} (h : notSlice x = true) : ∀ l u s p, x ≠ .Slice l u s p := fun l u s p z => by
  subst z
  cases h
/-! ### texts equal as written -/
theorem eqs_eq {α : Type} {k : α → α → Bool} (hk : ∀ a b, k a b = true → a = b) : ∀ {l m : List α}, eqs k l m = true → l = m
  | [], [], _ => rfl
  | [], _ :: _, h => by cases h
  | _ :: _, [], h => by cases h
  | a :: l, b :: m, h => by
    simp only [eqs, Bool.and_eq_true] at h
    rw [hk a b h.1, eqs_eq hk h.2]
theorem eqArg_eq : ∀ a b : Arg, eqArg a b = true → a = b := by
  intro a b h
  obtain ⟨a1, a2, a3⟩ := a
  obtain ⟨b1, b2, b3⟩ := b
  cases a2 with
  | some _ => cases h
  | none =>
    cases b2 with
    | some _ => cases h
    | none =>
      simp only [eqArg, Bool.and_eq_true, decide_eq_true_eq] at h
      rw [h.1, h.2]
theorem eqArgs_eq {a b : Arguments} (h : eqArgs a b = true) : a = b ∧ ∀ env, defaultsOf b env = ([], []) := by
  unfold eqArgs at h
  split at h
  · rw [eqs_eq eqArg_eq h]
    exact ⟨rfl, fun env => rfl⟩
  · cases h
theorem eqX_eq : ∀ (n : Nat) (a b : Expr), eqX n a b = true → a = b
  | 0, _, _, h => by cases h
  | n + 1, a, b, h => by
    have ih := eqX_eq n
    have il := fun {l m} => eqs_eq (l := l) (m := m) ih
    unfold eqX at h
    split at h <;> first
      | (cases h; done)
      | (simp only [Bool.and_eq_true, decide_eq_true_eq] at h
         first
          | (obtain ⟨rfl, rfl⟩ := h; rfl)
          | (subst h; rfl)
          | (obtain ⟨⟨rfl, rfl⟩, rfl⟩ := h; rfl)
          | (obtain ⟨⟨h1, rfl⟩, rfl⟩ := h; rw [il h1])
          | (obtain ⟨h1, rfl⟩ := h; rw [il h1])
          | (obtain ⟨⟨h1, h2⟩, rfl⟩ := h; rw [ih _ _ h1, il h2])
          | (obtain ⟨⟨h1, h2⟩, rfl⟩ := h; rw [ih _ _ h1, ih _ _ h2])
          | (obtain ⟨⟨⟨h1, rfl⟩, h2⟩, rfl⟩ := h; rw [ih _ _ h1, il h2])
          | (obtain ⟨⟨⟨h1, rfl⟩, h2⟩, rfl⟩ := h; rw [ih _ _ h1, ih _ _ h2])
          | (obtain ⟨⟨rfl, h1⟩, rfl⟩ := h; rw [ih _ _ h1])
          | (obtain ⟨⟨rfl, h1⟩, rfl⟩ := h; rw [il h1])
          | (obtain ⟨⟨h1, rfl⟩, rfl⟩ := h; rw [ih _ _ h1])
          | (obtain ⟨⟨⟨⟨⟨⟨h1, h2⟩, h3⟩, h4⟩, rfl⟩, rfl⟩, rfl⟩ := h; rw [ih _ _ h1, ih _ _ h2, ih _ _ h3, il h4]))
theorem lamB_ok (G : GX f c X) {j : Nat} {caps : List Nat} {ps : Arguments} {body : Expr} {sc : Scope} (h : lamB c j caps ps body sc = true) : ∃ L, LamW f X j caps L ps body sc := by
  unfold lamB at h
  rw [Bool.and_eq_true] at h
  obtain ⟨hm, h⟩ := h
  obtain ⟨m1, m2, m3⟩ := G.mkr hm
  cases e : c.lam j with
  | none => rw [e] at h; cases h
  | some L =>
    rw [e] at h
    simp only [Bool.and_eq_true, decide_eq_true_eq, List.all_eq_true] at h
    obtain ⟨⟨⟨⟨⟨⟨h1, h2⟩, h3⟩, h4⟩, h5⟩, h6⟩, h7⟩ := h
    obtain ⟨p1, p2⟩ := eqArgs_eq h1
    refine ⟨L, m1, by rw [← G.lam]; exact e, p1, eqX_eq _ _ _ h2, h3, by rw [h4, m2], by rw [G.N]; exact h5, fun y hy hf => ?_, fun y hy => ?_, p2, m3⟩
    · have z := h6 y hy
      rw [hf] at z
      simp only [Bool.or_eq_true, beq_iff_eq] at z
      rw [G.sc]
      exact z
    · exact List.contains_iff_mem.mp (h7 y hy)
theorem lamE_ok (G : GX f c X) {e : E} {x : Expr} (h : lamE c e x = true) : ∃ j caps ps body sc p L, e = .lam j caps ∧ x = .Lambda ps body sc p ∧ LamW f X j caps L ps body sc := by
  unfold lamE at h
  split at h
  · obtain ⟨L, W⟩ := lamB_ok G h
    exact ⟨_, _, _, _, _, _, L, rfl, rfl, W⟩
  · cases h
/-! ### the block of a comprehension -/
theorem GX.blk (G : GX f c X) {scope : Scope} {s : Shared} {H : Hp} {C : Addr} {cl : List (Str × Addr)} {fp : List Addr} {F0 : Fz} {κ0 : List Addr} {H0 : Hp} : GX (f.at F0 κ0 H0) (c.blk scope) (X.blk s H scope (compEnvC scope cl C X.env) fp) :=
  ⟨G.K, G.B, by show relabel scope X.env = relS scope c.sc; rw [← G.sc]; rfl, G.N, G.nd, G.calm, G.gd, G.fa, G.ca, G.cst, G.bi, LamX.takes0, fun x h => h, G.un, G.lam, G.ek, fun h => nomatch h⟩
theorem GC.blk {L : List Shp} (G : GC f X φ L) {scope : Scope} {s : Shared} {H : Hp} {C : Addr} {cl : List (Str × Addr)} {fp : List Addr} {F0 : Fz} {κ0 : List Addr} {H0 : Hp} : GC (f.at F0 κ0 H0) (X.blk s H scope (compEnvC scope cl C X.env) fp) φ L := by
  obtain ⟨k, hr, hc, hl⟩ := G.ex
  exact ⟨k, hr, fun q hq => ⟨(hc q hq).ex⟩, hl⟩
theorem own_iff {N : List Str} {scope : Scope} {l : List Nat} (h : sameSet ((ownOf N scope).map (·.2)) l = true) : ∀ i, i ∈ (ownOf N scope).map (·.2) ↔ i ∈ l := by
  simp only [sameSet, Bool.and_eq_true, List.all_eq_true, List.contains_iff_mem] at h
  exact fun i => ⟨h.1 i, h.2 i⟩
/-! ### targets -/
mutual
theorem chkG_ok (G : GX f c X) : ∀ {t : Tg} {x : Expr}, chkG c t x = true → PG X x (dG f t)
  | .nm i, x, h => by
    simp only [chkG] at h
    split at h
    · simp only [Bool.and_eq_true, decide_eq_true_eq, Bool.or_eq_true] at h
      obtain ⟨⟨h1, h2⟩, h3⟩ := h
      refine s_gname G.nd (by rw [G.N]; exact h1) (by rw [G.sc]; exact locB_loc h2) ?_
      rcases h3 with h3 | h3
      · exact .inl (G.fn _ h3)
      · exact .inr (by rw [G.sc]; exact loclB_loc h3)
    · cases h
  | .tu ts, x, h => by
    simp only [chkG] at h
    split at h
    · obtain ⟨h1, h2, h3⟩ := chkGs_ok G h
      exact s_gtup G h2 h3 h1
    · cases h
theorem chkGs_ok (G : GX f c X) : ∀ {ts : List Tg} {xs : List Expr}, chkGs c ts xs = true → PGs X xs (dGs f ts) ∧ ts.length = xs.length ∧ ∀ y ∈ xs, ∀ e' p, y ≠ .Starred e' p
  | [], [], h => ⟨s_gnil, rfl, fun y hy => nomatch hy⟩
  | [], _ :: _, h => by simp [chkGs] at h
  | _ :: _, [], h => by simp [chkGs] at h
  | t :: ts, x :: xs, h => by
    simp only [chkGs, Bool.and_eq_true] at h
    obtain ⟨⟨h1, h2⟩, h3⟩ := h
    obtain ⟨k1, k2, k3⟩ := chkGs_ok G h3
    refine ⟨s_gcons (star_x h1) (chkG_ok G h2) k1, by rw [List.length_cons, List.length_cons, k2], fun y hy => ?_⟩
    rcases List.mem_cons.mp hy with rfl | hy
    · exact star_x h1
    · exact k3 y hy
end
/-- the evaluator's own constants are the text's -/
abbrev CfgOk (g : Cfg) (G : Gb) (c : Ct) : Prop := g.ns = G.ns ∧ g.cls = c.cls ∧ g.fl = c.fl
/-! ### what is shown -/
def Ok (f : Fr0) (g : Cfg) (φ : Phi) (X : Cx) (w : Wt) (e : E) (x : Expr) : Prop := match w with
  | .e m => PE X x (dE f m (ev g φ m e))
  | .t => PT X x (dT f (ev g φ .t e)) ∧ ∀ o vs p, x = .BoolOp o vs p → PW X x (dT f (ev g φ .t e))
  | .i m tg => PI X tg x (dI f m (ev g φ m e))
  | .s => ∃ e' y p, e = .star e' ∧ x = .Starred y p ∧ PE X y (dE f .b (ev g φ .b e'))
theorem flat_ok (G : GX f c X) {mk : Bool} {e : E} {x : Expr} {w : Wt} (hf : flat e = true) (hw : okW mk x w = true) (h : ∀ m, (m = .v ∨ m = .b ∨ (mk = true ∧ m = .n)) → PE X x (dE f m (ev g φ m e))) : Ok f g φ X w e x := by
  cases w with
  | e m =>
    cases m <;> first
      | exact h _ (.inl rfl)
      | exact h _ (.inr (.inl rfl))
      | exact h _ (.inr (.inr ⟨hw, rfl⟩))
      | cases hw
  | t => exact ⟨s_truth G hf (plain_test hw) (h .b (.inr (.inl rfl))), fun o vs p z => by subst z; cases hw⟩
  | i m tg =>
    cases m <;> first
      | exact s_iter G (.inl rfl) hf (h .b (.inr (.inl rfl)))
      | exact s_iter G (.inr rfl) hf (h .v (.inl rfl))
      | cases hw
  | s => cases hw
theorem vb_of {m : Md} (h : m = .v ∨ m = .b ∨ (false = true ∧ m = .n)) : m = .v ∨ m = .b := by
  rcases h with h | h | ⟨h, _⟩
  · exact .inl h
  · exact .inr h
  · cases h
theorem ord_of {m : Md} {mk : Bool} (h : m = .v ∨ m = .b ∨ (mk = true ∧ m = .n)) : Ord m := by
  rcases h with h | h | ⟨_, h⟩
  · exact .inl h
  · exact .inr (.inl h)
  · exact .inr (.inr h)
theorem ty_boot (t : Ty) : bootBuiltins (tyStr t) = some (.type (tyName t)) := by
  cases t
  · exact boot_int
  · exact boot_bool
  · exact boot_str
  · exact boot_list
  · exact boot_tuple
  · exact boot_dict
  · exact boot_set
theorem lit_ok (G : GX f c X) {m : Md} (hm : m = .v ∨ m = .b) {d : D} {x : Expr} (h : litB c d x = true) : PE X x (dE f m (ev g φ m (.lit d))) := by
  unfold litB at h
  split at h
  · rename_i i j k pos
    have : i = j := by simpa using h
    subst this
    exact s_atom G rfl pe_int m hm
  · rename_i i j k pos
    have : i = j := by simpa using h
    subst this
    exact s_atom G rfl pe_bl m hm
  · rename_i s t k pos
    have : toStr s = t := by simpa using h
    subst this
    exact s_atom G rfl pe_str m hm
  · exact s_atom G rfl pe_non m hm
  · rename_i t y pos
    simp only [Bool.and_eq_true, decide_eq_true_eq, List.contains_iff_mem] at h
    obtain ⟨⟨rfl, h2⟩, h3⟩ := h
    exact s_bty G hm (globB_gl G h2) (G.bi _ h3) (ty_boot t) (by cases t <;> decide) (by cases t <;> decide)
  · rename_i i y pos
    simp only [Bool.and_eq_true, decide_eq_true_eq] at h
    obtain ⟨⟨h1, h3⟩, h4⟩ := h
    obtain ⟨a, k1, k2⟩ := G.ca i y h1
    exact s_glob G hm (v := .ref a) (globB_gl G h3) k2 (noDbg_1 h4) rfl fun F κ => ⟨a, k1, rfl⟩
  · rename_i i y pos
    simp only [Bool.and_eq_true, decide_eq_true_eq, Bool.not_eq_true'] at h
    obtain ⟨⟨⟨h1, h2⟩, h3⟩, h4⟩ := h
    obtain ⟨a, k1, k2, _⟩ := G.fa i y h1 (fun z => by subst z; simp at h2)
    exact s_glob G hm (v := .ref a) (globB_gl G h3) k2 (noDbg_1 h4) rfl fun F κ => ⟨a, k1, rfl⟩
  · rename_i d y pos _ _
    simp only [Bool.and_eq_true, List.any_eq_true, decide_eq_true_eq] at h
    obtain ⟨⟨⟨⟨p, hp, h1, h2⟩, h3⟩, h4⟩, h5⟩ := h
    have h2 := beq_eq h2
    obtain ⟨py, pd⟩ := p
    simp only at h1 h2
    subst h1 h2
    obtain ⟨v, u, k1, k2, k3⟩ := G.cst _ _ hp
    exact s_glob G hm (globB_gl G h4) k2 (noDbg_1 h5) k3 fun F κ => atom_rv k1
  · cases h
end
end DV
end
section
set_option Elab.async false
set_option linter.all false
set_option maxRecDepth 100000
set_option maxHeartbeats 4000000
/-! DV32: what the look gives: expressions. -/
namespace DV
open PySem PySem.Spec PyProof.Rows L2
section
variable {g : Cfg} {φ : Phi}
theorem rest_and {f : Fr0} {X : Cx} {q : Expr} {r : List Expr} {pos : Pos} {b : E} (h : Ok f g φ X .t b (rest .And q r pos)) : PW X (.BoolOp .And (q :: r) pos) (dT f (ev g φ .t b)) := by
  cases r with
  | nil => exact pw_and1 h.1
  | cons z zs => exact h.2 _ _ _ rfl
theorem rest_or {f : Fr0} {X : Cx} {q : Expr} {r : List Expr} {pos : Pos} {b : E} (h : Ok f g φ X .t b (rest .Or q r pos)) : PW X (.BoolOp .Or (q :: r) pos) (dT f (ev g φ .t b)) := by
  cases r with
  | nil => exact pw_or1 h.1
  | cons z zs => exact h.2 _ _ _ rfl
theorem rest_andV {f : Fr0} {X : Cx} {m : Md} {q : Expr} {r : List Expr} {pos : Pos} {b : E} (h : PE X (rest .And q r pos) (dE f m (ev g φ m b))) : PE X (.BoolOp .And (q :: r) pos) (dE f m (ev g φ m b)) := by
  cases r with
  | nil => exact s_and1 h
  | cons z zs => exact h
theorem rest_orV {f : Fr0} {X : Cx} {m : Md} {q : Expr} {r : List Expr} {pos : Pos} {b : E} (h : PE X (rest .Or q r pos) (dE f m (ev g φ m b))) : PE X (.BoolOp .Or (q :: r) pos) (dE f m (ev g φ m b)) := by
  cases r with
  | nil => exact s_and1 h
  | cons z zs => exact h
theorem pw_ok {f : Fr0} {X : Cx} {x : Expr} {e : E} (h : PW X x (dT f (ev g φ .t e))) : Ok f g φ X .t e x := ⟨h.pt, fun _ _ _ _ => h⟩
/-- a row in which nothing is starred -/
def NoS (f : Fr0) (g : Cfg) (φ : Phi) (X : Cx) (m : Md) (es : List E) (xs : List Expr) : Prop := es.all notStarE = true → Paired (fun e x => PE X x (dE f m (ev g φ m e))) es xs
theorem bi_ok {f : Fr0} {c : Ct} {X : Cx} (G : GX f c X) (hn : CfgOk g f.G c) {b : Bi} {m : Md} (hm : Ord m) {es : List E} {xs : List Expr} {p pos : Pos} (hk : biKn b = true) (hg : Gl X (biName b)) (hb : X.mg (biName b) = none) (hx : xs ≠ []) (hs : ∀ y ∈ xs, ∀ e' p, y ≠ .Starred e' p) (h : PA X xs (dA f .b (evs g φ .b es))) :
    PE X (.Call (.Name (biName b) p) xs [] pos) (dE f m (ev g φ m (.bi b es))) := by
  cases xs with
  | nil => exact absurd rfl hx
  | cons x xs =>
    have u := G.un
    cases b <;> first
      | (cases hk; done)
      | exact s_bi hm (bi_len G) hg hb boot_len h hs (by decide) (by decide)
      | exact s_bi hm bi_abs hg hb boot_abs h hs (by decide) (by decide)
      | exact s_bi hm (bi_all G) hg hb boot_all h hs (by decide) (by decide)
      | exact s_bi hm (bi_any G) hg hb boot_any h hs (by decide) (by decide)
      | exact s_bi hm (bi_sum G) hg hb boot_sum h hs (by decide) (by decide)
      | exact s_bi hm (bi_min G) hg hb boot_min h hs (by decide) (by decide)
      | exact s_bi hm (bi_max G) hg hb boot_max h hs (by decide) (by decide)
      | exact s_biT hm bi_int hg hb boot_int h hs (by decide) (by decide)
      | exact s_biT hm bi_bool hg hb boot_bool h hs (by decide) (by decide)
      | exact s_biT hm bi_str hg hb boot_str h hs (by decide) (by decide)
      | exact s_bi hm (bi_repr G u) hg hb boot_repr h hs (by decide) (by decide)
      | exact s_biT hm (bi_tuple G) hg hb boot_tuple h hs (by decide) (by decide)
      | exact s_biT hm (bi_list G) hg hb boot_list h hs (by decide) (by decide)
      | exact s_bi hm (bi_isi G hn.2.1) hg hb boot_isinstance h hs (by decide) (by decide)
theorem ifs_ok {f : Fr0} {X : Cx} {k : Expr → Bool} {cc : E} {ifs : List Expr} (hk : ∀ z, k z = true → PT X z (dT f (ev g φ .t cc))) (h : chkIf cc k ifs = true) : PTs X ifs (dT f (ev g φ .t cc)) := by
  unfold chkIf at h
  split at h
  · unfold isTT at h
    split at h
    · exact s_tests0
    · cases h
  · exact pts_one (hk _ h)
  · cases h
theorem end_ok {f : Fr0} {X : Cx} {k : Expr → Bool} {e : E} {l : Option Expr} (hk : ∀ z, k z = true → PE X z (dE f .v (ev g φ .v e))) (h : chkEnd e k l = true) : PO X l (dO f (evP g φ e)) := by
  unfold chkEnd at h
  split at h
  · cases e <;> first
      | exact s_no
      | cases h
  · simp only [Bool.and_eq_true, Bool.not_eq_true'] at h
    exact s_end (fun z => by subst z; cases h.1) (hk _ h.2)
mutual
theorem chk_ok : ∀ (e : E) {f : Fr0} {c : Ct} {X : Cx} {w : Wt} {x : Expr}, GX f c X → GC f X φ c.shp → CfgOk g f.G c → chk c w e x = true → Ok f g φ X w e x
  | .var i, f, c, X, w, x, G, C, hn, h => by
    simp only [chk] at h
    split at h
    · simp only [Bool.and_eq_true, decide_eq_true_eq] at h
      obtain ⟨⟨⟨h1, h2⟩, h3⟩, h4⟩ := h
      have nb := nameB_1 h4
      exact flat_ok G rfl h1 fun m hm => by
        rcases vb_of hm with rfl | rfl
        · exact s_varV G h2 (visB_vis h3) nb.1 nb.2
        · exact s_varB G h2 (visB_vis h3) nb.1 nb.2
    · cases h
  | .lit d, f, c, X, w, x, G, C, hn, h => by
    simp only [chk, Bool.and_eq_true] at h
    exact flat_ok G rfl h.1 fun m hm => lit_ok G (vb_of hm) h.2
  | .tup es, f, c, X, w, x, G, C, hn, h => by
    simp only [chk] at h
    split at h
    · simp only [Bool.and_eq_true] at h
      exact flat_ok G rfl h.1 fun m hm => s_tup (ord_of hm) (chks_ok es G C hn (.inl rfl) h.2).1
    · cases h
  | .lst es, f, c, X, w, x, G, C, hn, h => by
    simp only [chk] at h
    split at h
    · simp only [Bool.and_eq_true] at h
      exact flat_ok G rfl h.1 fun m hm => s_lst (ord_of hm) (chks_ok es G C hn (.inl rfl) h.2).1
    · cases h
  | .cell es, f, c, X, w, x, G, C, hn, h => by
    simp only [chk] at h
    split at h
    · simp only [Bool.and_eq_true] at h
      exact flat_ok G rfl h.1 fun m hm => s_cell G (vb_of hm) (chks_ok es G C hn (.inl rfl) h.2).1
    · cases h
  | .neg a, f, c, X, w, x, G, C, hn, h => by
    simp only [chk] at h
    split at h
    · simp only [Bool.and_eq_true] at h
      exact flat_ok G rfl h.1 fun m hm => s_neg (ord_of hm) (chk_ok a (w := .e .v) G C hn h.2)
    · cases h
  | .not a, f, c, X, w, x, G, C, hn, h => by
    simp only [chk] at h
    split at h
    · split at h
      · exact ⟨s_notT (chk_ok a (w := .t) G C hn h).1, fun _ _ _ z => nomatch z⟩
      · exact s_notV (.inl rfl) G (chk_ok a (w := .e .b) G C hn h)
      · exact s_notV (.inr rfl) G (chk_ok a (w := .e .b) G C hn h)
      · cases h
    · cases h
  | .bin o a b, f, c, X, w, x, G, C, hn, h => by
    simp only [chk] at h
    split at h
    · simp only [Bool.and_eq_true, decide_eq_true_eq] at h
      obtain ⟨⟨⟨h1, rfl⟩, h3⟩, h4⟩ := h
      exact flat_ok G rfl h1 fun m hm => s_bin (ord_of hm) (op_all G o) (chk_ok a (w := .e .b) G C hn h3) (chk_ok b (w := .e .b) G C hn h4)
    · cases h
  | .and a b, f, c, X, w, x, G, C, hn, h => by
    simp only [chk] at h
    split at h
    · split at h
      · simp only [Bool.and_eq_true] at h
        exact pw_ok (s_andT (chk_ok a (w := .t) G C hn h.1).1 (rest_and (chk_ok b (w := .t) G C hn h.2)))
      · simp only [Bool.and_eq_true] at h
        exact s_andV G (.inl rfl) (chk_ok a (w := .e .v) G C hn h.1) (rest_andV (chk_ok b (w := .e .v) G C hn h.2))
      · simp only [Bool.and_eq_true] at h
        exact s_andV G (.inr rfl) (chk_ok a (w := .e .b) G C hn h.1) (rest_andV (chk_ok b (w := .e .b) G C hn h.2))
      · cases h
    · cases h
  | .or a b, f, c, X, w, x, G, C, hn, h => by
    simp only [chk] at h
    split at h
    · split at h
      · simp only [Bool.and_eq_true] at h
        exact pw_ok (s_orT (chk_ok a (w := .t) G C hn h.1).1 (rest_or (chk_ok b (w := .t) G C hn h.2)))
      · simp only [Bool.and_eq_true] at h
        exact s_orV G (.inl rfl) (chk_ok a (w := .e .v) G C hn h.1) (rest_orV (chk_ok b (w := .e .v) G C hn h.2))
      · simp only [Bool.and_eq_true] at h
        exact s_orV G (.inr rfl) (chk_ok a (w := .e .b) G C hn h.1) (rest_orV (chk_ok b (w := .e .b) G C hn h.2))
      · cases h
    · cases h
  | .cmp o a b, f, c, X, w, x, G, C, hn, h => by
    simp only [chk] at h
    split at h
    · simp only [Bool.and_eq_true, decide_eq_true_eq] at h
      obtain ⟨⟨⟨⟨h1, rfl⟩, h3⟩, h4⟩, h5⟩ := h
      have ka := chk_ok a (w := .e .b) G C hn h4
      have kb := chk_ok b (w := .e .b) G C hn h5
      split at h1
      · exact ⟨s_cmpT (cm_all G G.un o) ka kb (marks_no h3), fun _ _ _ z => nomatch z⟩
      · exact s_cmp (.inl rfl) (cm_all G G.un o) ka kb (marks_no h3)
      · exact s_cmp (.inr (.inl rfl)) (cm_all G G.un o) ka kb (marks_no h3)
      · cases h1
    · cases h
  | .chain o o' a b e, f, c, X, w, x, G, C, hn, h => by
    simp only [chk] at h
    split at h
    · simp only [Bool.and_eq_true, decide_eq_true_eq] at h
      obtain ⟨⟨⟨⟨⟨⟨h1, rfl⟩, rfl⟩, h3⟩, h4⟩, h5⟩, h6⟩ := h
      have ka := chk_ok a (w := .e .b) G C hn h4
      have kb := chk_ok b (w := .e .b) G C hn h5
      have kc := chk_ok e (w := .e .b) G C hn h6
      split at h1
      · exact s_chain (.inl rfl) (cm_all G G.un o) (cm_all G G.un o') ka kb kc (marks_no h3)
      · exact s_chain (.inr (.inl rfl)) (cm_all G G.un o) (cm_all G G.un o') ka kb kc (marks_no h3)
      · cases h1
    · cases h
  | .ife t a b, f, c, X, w, x, G, C, hn, h => by
    simp only [chk] at h
    split at h
    · split at h
      · simp only [Bool.and_eq_true] at h
        exact s_ifeV (.inl rfl) (chk_ok t (w := .t) G C hn h.1.1).1 (chk_ok a (w := .e .v) G C hn h.1.2) (chk_ok b (w := .e .v) G C hn h.2)
      · simp only [Bool.and_eq_true] at h
        exact s_ifeV (.inr rfl) (chk_ok t (w := .t) G C hn h.1.1).1 (chk_ok a (w := .e .b) G C hn h.1.2) (chk_ok b (w := .e .b) G C hn h.2)
      · cases h
    · cases h
  | .idx a i, f, c, X, w, x, G, C, hn, h => by
    simp only [chk] at h
    split at h
    · simp only [Bool.and_eq_true] at h
      obtain ⟨⟨⟨h1, h2⟩, h3⟩, h4⟩ := h
      exact flat_ok G rfl h1 fun m hm => s_idx (vb_of hm) G (slice_x h2) (chk_ok a (w := .e .b) G C hn h3) (chk_ok i (w := .e .v) G C hn h4)
    · cases h
  | .sl a lo hi, f, c, X, w, x, G, C, hn, h => by
    simp only [chk] at h
    split at h
    · simp only [Bool.and_eq_true] at h
      obtain ⟨⟨⟨h1, h2⟩, h3⟩, h4⟩ := h
      exact flat_ok G rfl h1 fun m hm => s_sl (ord_of hm) G hn.1 (chk_ok a (w := .e .b) G C hn h2) (end_ok (fun z' k => chk_ok lo (w := .e .v) G C hn k) h3) (end_ok (fun z' k => chk_ok hi (w := .e .v) G C hn k) h4)
    · cases h
  | .rev a, f, c, X, w, x, G, C, hn, h => by
    simp only [chk] at h
    split at h
    · simp only [Bool.and_eq_true] at h
      exact flat_ok G rfl h.1 fun m hm => s_rev G (ord_of hm) (chk_ok a (w := .e .b) G C hn h.2)
    · cases h
  | .bi b es, f, c, X, w, x, G, C, hn, h => by
    simp only [chk] at h
    split at h
    · simp only [Bool.and_eq_true, decide_eq_true_eq, List.contains_iff_mem, Bool.not_eq_true', List.all_eq_true] at h
      obtain ⟨⟨⟨⟨⟨⟨⟨h1, h2⟩, rfl⟩, h4⟩, h5⟩, h6⟩, h7⟩, h8⟩ := h
      exact flat_ok G rfl h1 fun m hm => bi_ok G hn (ord_of hm) h2 (globB_gl G h4) (G.bi _ h5) (fun z => by subst z; cases h6) (fun y hy => star_x (h7 y hy)) (chks_ok es G C hn (.inr rfl) h8).1
    · cases h
  | .call i es, f, c, X, w, x, G, C, hn, h => by
    simp only [chk] at h
    split at h
    · simp only [Bool.and_eq_true, List.all_eq_true] at h
      obtain ⟨⟨⟨⟨h1, h2⟩, h3⟩, h4⟩, h5⟩ := h
      split at h5
      · rename_i q hq
        have hm := List.mem_of_find?_eq_some hq
        have hp := List.find?_some hq
        simp only [Bool.and_eq_true, decide_eq_true_eq, beq_iff_eq] at hp
        obtain ⟨⟨⟨⟨rfl, rfl⟩, p3⟩, p4⟩, p5⟩ := hp
        rw [List.isEmpty_iff] at p5
        rw [Bool.or_eq_true] at h5
        rcases h5 with h5 | h5
        rotate_left
        · simp only [Bool.and_eq_true, List.isEmpty_iff] at h5
          obtain ⟨⟨rfl, p6⟩, h5⟩ := h5
          obtain ⟨es1, xs1, j, caps, ps, body, sc, lp, L, rfl, rfl, k1, k2, k3, W⟩ := chkl_ok es G C hn h5
          refine flat_ok G rfl h1 fun m hmm => s_callL G C (vb_of hmm) hm p4 p6 (globB_gl G h2) (noDbg_1 h3) (by rw [p3, List.length_append]; rfl) k1 k2 k3 W
        obtain ⟨es1, es2, rfl, k1, k2, k3, k4, k5, k6, k7⟩ := chkc_ok es G C hn h5
        refine flat_ok G rfl h1 fun m hmm => s_callK G C (vb_of hmm) hm (globB_gl G h2) (noDbg_1 h3) p3.symm k1 k2 k3 h4 p5 p4.symm k6 ?_ k4 k7
        rw [p4, k5]
        have : ∀ {l : List Keyword}, (∀ k ∈ l, k.1.isSome = true) → l.length = (l.filterMap (·.1)).length := by
          intro l hl
          induction l with
          | nil => rfl
          | cons a l ih =>
            have ha := hl a List.mem_cons_self
            cases e : a.1 with
            | none => rw [e] at ha; cases ha
            | some z => simp [e, ih fun k m => hl k (List.mem_cons_of_mem _ m)]
        exact this h4
      · cases h5
    · cases h
  | .cp el t it cc, f, c, X, w, x, G, C, hn, h => by
    simp only [chk] at h
    split at h
    · rename_i elt tg iter ifs scope pos
      simp only [Bool.and_eq_true] at h
      obtain ⟨⟨⟨⟨⟨⟨⟨h1, h2⟩, h3⟩, h4⟩, h5⟩, h6⟩, h7⟩, h8⟩ := h
      refine flat_ok G rfl h1 fun m hm => s_cp G (ord_of hm) (chk_ok it (w := .i .i tg) G C hn h5) (by rw [G.N, G.sc]; exact blkOk_by h2) (own_iff h3) (fun F0 κ0 H0 s H C' cl fp => chkG_ok (GX.blk G) h6) (fun F0 κ0 H0 s H C' cl fp => ?_) (fun F0 κ0 H0 s H C' cl fp => chk_ok el (w := .e .v) (GX.blk G) (GC.blk C) hn h8) (folded_no h4)
      exact ifs_ok (fun z k => (chk_ok cc (w := .t) (GX.blk G) (GC.blk C) hn k).1) h7
    · cases h
  | .cp2 el t it cc t1 it1 cc1, f, c, X, w, x, G, C, hn, h => by
    simp only [chk] at h
    split at h
    · rename_i elt tg iter ifs tg1 iter1 ifs1 scope pos
      simp only [Bool.and_eq_true] at h
      obtain ⟨⟨⟨⟨⟨⟨⟨⟨⟨⟨⟨h1, h2⟩, h3⟩, h4⟩, h4'⟩, h5⟩, h6⟩, h7⟩, h9⟩, h10⟩, h11⟩, h8⟩ := h
      refine flat_ok G rfl h1 fun m hm => s_cp2 G (ord_of hm) (chk_ok it (w := .i .i tg) G C hn h5) (by rw [G.N, G.sc]; exact blkOk_by h2) (own_iff h3) (fun F0 κ0 H0 s H C' cl fp => chkG_ok (GX.blk G) h6) (fun F0 κ0 H0 s H C' cl fp => ?_) (fun F0 κ0 H0 s H C' cl fp => chk_ok it1 (w := .i .k tg1) (GX.blk G) (GC.blk C) hn h9)
        (fun F0 κ0 H0 s H C' cl fp => chkG_ok (GX.blk G) h10) (fun F0 κ0 H0 s H C' cl fp => ?_) (fun F0 κ0 H0 s H C' cl fp => chk_ok el (w := .e .v) (GX.blk G) (GC.blk C) hn h8) (folded_no h4) (fun env => folded_no h4')
      · exact ifs_ok (fun z k => (chk_ok cc (w := .t) (GX.blk G) (GC.blk C) hn k).1) h7
      · exact ifs_ok (fun z k => (chk_ok cc1 (w := .t) (GX.blk G) (GC.blk C) hn k).1) h11
    · cases h
  | .range es, f, c, X, w, x, G, C, hn, h => by
    simp only [chk] at h
    split at h
    · rename_i y p xs pos
      simp only [Bool.and_eq_true, decide_eq_true_eq, List.contains_iff_mem, List.all_eq_true] at h
      obtain ⟨⟨⟨⟨⟨⟨⟨h1, rfl⟩, h3⟩, h4⟩, h5⟩, h6⟩, h7⟩, h8⟩ := h
      have el := (chks_ok es G C hn (.inl rfl) h7).2 (List.all_eq_true.mpr h8)
      have go : ∀ m tg, (m = .i ∨ m = .k) → PI X tg (.Call (.Name "range" p) xs [] pos) (dI f m (ev g φ m (.range es))) := fun m tg hm => by
        split at h5
        · rename_i x1
          cases el with
          | cons r t =>
            cases t
            exact s_range1 G hm (globB_gl G h3) (G.bi _ h4) r (star_e (h8 _ List.mem_cons_self)) (star_x (h6 _ List.mem_cons_self))
        · rename_i x1 x2
          cases el with
          | cons r t =>
            cases t with
            | cons r2 t =>
              cases t
              exact s_range2 G hm (globB_gl G h3) (G.bi _ h4) r r2 (star_e (h8 _ List.mem_cons_self)) (star_e (h8 _ (List.mem_cons_of_mem _ List.mem_cons_self))) (star_x (h6 _ List.mem_cons_self)) (star_x (h6 _ (List.mem_cons_of_mem _ List.mem_cons_self)))
        · cases h5
      split at h1
      · exact go _ _ (.inl rfl)
      · exact go _ _ (.inr rfl)
      · cases h1
    · cases h
  | .zip a b, f, c, X, w, x, G, C, hn, h => by
    simp only [chk] at h
    split at h
    · simp only [Bool.and_eq_true, decide_eq_true_eq, List.contains_iff_mem] at h
      obtain ⟨⟨⟨⟨⟨rfl, h3⟩, h4⟩, h5⟩, h6⟩, h7⟩ := h
      split at h7
      · rename_i tg
        simp only [Bool.and_eq_true] at h7
        cases tg <;> first
          | (cases h7.1.1; done)
          | exact s_zip G (.inl rfl) (globB_gl G h3) (G.bi _ h4) (chk_ok a (w := .e .b) G C hn h7.1.2) (chk_ok b (w := .e .b) G C hn h7.2) (star_x h5) (star_x h6)
      · rename_i tg
        simp only [Bool.and_eq_true] at h7
        cases tg <;> first
          | (cases h7.1.1; done)
          | exact s_zip G (.inr rfl) (globB_gl G h3) (G.bi _ h4) (chk_ok a (w := .e .v) G C hn h7.1.2) (chk_ok b (w := .e .v) G C hn h7.2) (star_x h5) (star_x h6)
      · cases h7
    · cases h
  | .enum a, f, c, X, w, x, G, C, hn, h => by
    simp only [chk] at h
    split at h
    · simp only [Bool.and_eq_true, decide_eq_true_eq, List.contains_iff_mem] at h
      obtain ⟨⟨⟨⟨rfl, h3⟩, h4⟩, h5⟩, h7⟩ := h
      split at h7
      · rename_i tg
        simp only [Bool.and_eq_true] at h7
        cases tg <;> first
          | (cases h7.1; done)
          | exact s_enum G (.inl rfl) (globB_gl G h3) (G.bi _ h4) (chk_ok a (w := .e .b) G C hn h7.2) (star_x h5)
      · rename_i tg
        simp only [Bool.and_eq_true] at h7
        cases tg <;> first
          | (cases h7.1; done)
          | exact s_enum G (.inr rfl) (globB_gl G h3) (G.bi _ h4) (chk_ok a (w := .e .v) G C hn h7.2) (star_x h5)
      · cases h7
    · cases h
  | .star e, f, c, X, w, x, G, C, hn, h => by
    simp only [chk] at h
    split at h
    · simp only [Bool.and_eq_true] at h
      have k := chk_ok e (w := .e .b) G C hn h.2
      have h1 := h.1
      split at h1
      · exact ⟨_, _, _, rfl, rfl, k⟩
      · cases h1
    · cases h
  | .callv i es, f, c, X, w, x, G, C, hn, h => by
    simp only [chk] at h
    split at h
    · rename_i y p xs pos
      simp only [Bool.and_eq_true, decide_eq_true_eq, Bool.not_eq_true', List.all_eq_true] at h
      obtain ⟨⟨⟨⟨⟨h1, h2⟩, h3⟩, h4⟩, h6⟩, h7⟩ := h
      have nb := nameB_1 h4
      have pa := (chks_ok es G C hn (.inl rfl) h7).1
      cases xs with
      | nil =>
        cases es with
        | nil => exact flat_ok G rfl h1 fun m hm => s_callv0 G C (vb_of hm) h2 (visB_vis h3) nb.1 nb.2
        | cons _ _ => simp [chks] at h7
      | cons z zs => exact flat_ok G rfl h1 fun m hm => s_callv G C (vb_of hm) h2 (visB_vis h3) nb.1 nb.2 (fun q hq => star_x (h6 q hq)) pa
    · cases h
  | .sset a, f, c, X, w, x, G, C, hn, h => by
    simp only [chk] at h
    split at h
    · simp only [Bool.and_eq_true, decide_eq_true_eq] at h
      obtain ⟨⟨⟨⟨⟨⟨⟨⟨h1, rfl⟩, rfl⟩, h4⟩, h5⟩, h6⟩, h7⟩, h8⟩, h9⟩ := h
      exact flat_ok G rfl h1 fun m hm => s_sset G (ord_of hm) (star_x h8) (globB_gl G h4) (G.bi _ (List.contains_iff_mem.mp h6)) (globB_gl G h5) (G.bi _ (List.contains_iff_mem.mp h7)) (chk_ok a (w := .e .b) G C hn h9)
    · cases h
  | .ldk k v t it cc, f, c, X, w, x, G, C, hn, h => by
    simp only [chk] at h
    split at h
    · rename_i y py kx vx tg iter ifs scope pos2 pos
      simp only [Bool.and_eq_true, decide_eq_true_eq] at h
      obtain ⟨⟨⟨⟨⟨⟨⟨⟨⟨⟨⟨h1, rfl⟩, g1⟩, g2⟩, h2⟩, h3⟩, h4⟩, h5⟩, h6⟩, h7⟩, h8⟩, h9⟩ := h
      refine flat_ok G rfl h1 fun m hm => s_ldk G (ord_of hm) (globB_gl G g1) (G.bi _ (List.contains_iff_mem.mp g2)) (chk_ok it (w := .i .i tg) G C hn h5) (by rw [G.N, G.sc]; exact blkOk_by h2) (own_iff h3) (fun F0 κ0 H0 s H C' cl fp => chkG_ok (GX.blk G) h6) (fun F0 κ0 H0 s H C' cl fp => ?_)
        (fun F0 κ0 H0 s H C' cl fp => chk_ok k (w := .e .v) (GX.blk G) (GC.blk C) hn h8) (fun F0 κ0 H0 s H C' cl fp => chk_ok v (w := .e .v) (GX.blk G) (GC.blk C) hn h9) (folded_no h4)
      exact ifs_ok (fun z k => (chk_ok cc (w := .t) (GX.blk G) (GC.blk C) hn k).1) h7
    · cases h
  | .sortk a k r, f, c, X, w, x, G, C, hn, h => by
    simp only [chk] at h
    split at h
    · simp only [Bool.and_eq_true, decide_eq_true_eq] at h
      obtain ⟨⟨⟨⟨⟨⟨⟨h1, rfl⟩, rfl⟩, h4⟩, h5⟩, h6⟩, h7⟩, h8⟩ := h
      have pa := chk_ok a (w := .e .b) G C hn h7
      unfold keyB at h8
      split at h8
      · simp only [Bool.and_eq_true, List.any_eq_true, decide_eq_true_eq, beq_iff_eq, List.isEmpty_iff] at h8
        obtain ⟨⟨⟨q, hq, ⟨⟨⟨⟨rfl, rfl⟩, q3⟩, q4⟩, q5⟩⟩, k2⟩, k3⟩ := h8
        exact flat_ok G rfl h1 fun m hm => s_sortF G C (ord_of hm) hq q3 q4 q5 (star_x h6) (globB_gl G h4) (G.bi _ (List.contains_iff_mem.mp h5)) (globB_gl G k2) (noDbg_1 k3) pa
      · obtain ⟨L, W⟩ := lamB_ok G h8
        exact flat_ok G rfl h1 fun m hm => s_sortL G C (ord_of hm) (star_x h6) W (globB_gl G h4) (G.bi _ (List.contains_iff_mem.mp h5)) pa
      · cases h8
    · cases h
  | .mk _ _, _, _, _, _, _, _, _, _, h => by simp [chk] at h
  | .meth _ _ _, _, _, _, _, _, _, _, _, h => by simp [chk] at h
  | .attr a k, f, c, X, w, x, G, C, hn, h => by
    simp only [chk] at h
    split at h
    · rename_i z n pos
      simp only [Bool.and_eq_true, decide_eq_true_eq] at h
      obtain ⟨⟨⟨⟨h1, h2⟩, h3⟩, h4⟩, h5⟩ := h
      have pa := chk_ok a (w := .e .b) G C hn h5
      refine flat_ok G rfl h1 fun m hm => s_attr G (vb_of hm) hn.2.2 h2 h3 pa ?_
      cases z <;> first
        | rfl
        | cases h4
    · cases h
  | .callp i es ps, f, c, X, w, x, G, C, hn, h => by
    simp only [chk] at h
    split at h
    · simp only [Bool.and_eq_true, List.all_eq_true] at h
      obtain ⟨⟨⟨⟨h1, h2⟩, h3⟩, h4⟩, h5⟩ := h
      split at h5
      · rename_i q hq
        have hm := List.mem_of_find?_eq_some hq
        have hp := List.find?_some hq
        simp only [Bool.and_eq_true, decide_eq_true_eq, beq_iff_eq] at hp
        obtain ⟨⟨⟨⟨rfl, rfl⟩, p3⟩, p4⟩, rfl⟩ := hp
        simp only [Bool.and_eq_true, List.isEmpty_iff, Bool.not_eq_true'] at h5
        obtain ⟨⟨h5, h6⟩, h7⟩ := h5
        obtain ⟨es1, es2, rfl, k1, k2, k3, k4, k5, k6, k7⟩ := chkc_ok es G C hn h5
        cases es1 with
        | cons _ _ => cases k1
        | nil =>
          have hl : ∀ {l : List Keyword}, (∀ k ∈ l, k.1.isSome = true) → l.length = (l.filterMap (·.1)).length := by
            intro l hl
            induction l with
            | nil => rfl
            | cons a l ih =>
              have ha := hl a List.mem_cons_self
              cases e : a.1 with
              | none => rw [e] at ha; cases ha
              | some z => simp [e, ih fun k m => hl k (List.mem_cons_of_mem _ m)]
          refine flat_ok G rfl h1 fun m hmm => ?_
          have e0 : ([] : List E) ++ (es2 ++ ([] : List D).map E.lit) = es2 := by simp
          rw [e0]
          exact s_callp G C (vb_of hmm) hm (globB_gl G h2) (noDbg_1 h3) p3 h6 (fun z => by rw [z] at h7; cases h7) h4 p4.symm k6 (by rw [p4, k5]; exact hl h4) k7
      · cases h5
    · cases h
  | .dcp .., _, _, _, _, _, _, _, _, h => by simp [chk] at h
  | .scp .., _, _, _, _, _, _, _, _, h => by simp [chk] at h
  | .lam _ _, _, _, _, _, _, _, _, _, h => by simp [chk] at h
  | .mink .., _, _, _, _, _, _, _, _, h => by simp [chk] at h
  | .items _, _, _, _, _, _, _, _, _, h => by simp [chk] at h
  | .dict ks vs, f, c, X, w, x, G, C, hn, h => by
    simp only [chk] at h
    split at h
    · exact flat_ok G rfl h fun m hm => s_dnew (ord_of (mk := false) hm)
    · cases h
  | .listI _, _, _, _, _, _, _, _, _, h => by simp [chk] at h
  | .no, _, _, _, _, _, _, _, _, h => by simp [chk] at h
termination_by structural e => e
theorem chks_ok : ∀ (es : List E) {f : Fr0} {c : Ct} {X : Cx} {m : Md} {xs : List Expr}, GX f c X → GC f X φ c.shp → CfgOk g f.G c → (m = .v ∨ m = .b) → chks c m es xs = true → PA X xs (dA f m (evs g φ m es)) ∧ NoS f g φ X m es xs
  | [], f, c, X, m, xs, G, C, hn, hm, h => by
    simp only [chks] at h
    cases xs with
    | nil => exact ⟨s_nil, fun _ => .nil⟩
    | cons _ _ => cases h
  | e :: es, f, c, X, m, xs, G, C, hn, hm, h => by
    simp only [chks] at h
    split at h
    · rename_i x xs
      simp only [Bool.and_eq_true, Bool.or_eq_true] at h
      have k2 := chks_ok es G C hn hm h.2
      rcases h.1 with h1 | h1
      · have k1 := chk_ok e (w := .e m) G C hn h1.2
        refine ⟨s_cons hm (star_e h1.1.1) (star_x h1.1.2) k1 k2.1, fun z => ?_⟩
        simp only [List.all_cons, Bool.and_eq_true] at z
        exact .cons k1 (k2.2 z.2)
      · obtain ⟨e', y, p, rfl, rfl, k1⟩ := chk_ok e (w := .s) G C hn h1
        refine ⟨s_star G hm k1 k2.1, fun z => ?_⟩
        simp only [List.all_cons, Bool.and_eq_true] at z
        cases z.1
    · cases h
termination_by structural es => es
theorem chkc_ok : ∀ (es : List E) {f : Fr0} {c : Ct} {X : Cx} {dd : List D} {xs : List Expr} {kws : List Keyword}, GX f c X → GC f X φ c.shp → CfgOk g f.G c → chkc c dd es xs kws = true →
    ∃ es1 es2, es = es1 ++ (es2 ++ dd.map E.lit) ∧ es1.length = xs.length ∧ (∀ e ∈ es1, ∀ e', e ≠ .star e') ∧ (∀ y ∈ xs, ∀ e' p, y ≠ .Starred e' p) ∧ PA X xs (dA f .v (evs g φ .v es1)) ∧ es2.length = kws.length ∧ (∀ e ∈ es2, ∀ e', e ≠ .star e') ∧ PK X kws (dA f .v (evs g φ .v es2))
  | [], f, c, X, dd, xs, kws, G, C, hn, h => by
    simp only [chkc, Bool.and_eq_true, List.isEmpty_iff] at h
    obtain ⟨⟨rfl, rfl⟩, rfl⟩ := h
    exact ⟨[], [], rfl, rfl, (fun _ z => nomatch z), (fun _ z => nomatch z), s_nil, rfl, (fun _ z => nomatch z), s_pknil⟩
  | e :: es, f, c, X, dd, xs, kws, G, C, hn, h => by
    simp only [chkc] at h
    split at h
    · rename_i x xs
      simp only [Bool.and_eq_true] at h
      obtain ⟨es1, es2, rfl, k1, k2, k3, k4, k5, k6, k7⟩ := chkc_ok es G C hn h.2
      have k := chk_ok e (w := .e .v) G C hn h.1.2
      refine ⟨e :: es1, es2, rfl, by rw [List.length_cons, List.length_cons, k1], fun e' he => ?_, fun y hy => ?_, s_cons (.inl rfl) (star_e h.1.1.1) (star_x h.1.1.2) k k4, k5, k6, k7⟩
      · rcases List.mem_cons.mp he with rfl | he
        · exact star_e h.1.1.1
        · exact k2 _ he
      · rcases List.mem_cons.mp hy with rfl | hy
        · exact star_x h.1.1.2
        · exact k3 _ hy
    · split at h
      · rename_i k kws
        obtain ⟨nm, kv, kp⟩ := k
        simp only [Bool.and_eq_true] at h
        obtain ⟨es1, es2, rfl, k1, k2, k3, k4, k5, k6, k7⟩ := chkc_ok es G C hn h.2
        have kk := chk_ok e (w := .e .v) G C hn h.1.2
        cases es1 with
        | cons _ _ => cases k1
        | nil =>
          refine ⟨[], e :: es2, rfl, rfl, k2, k3, k4, by rw [List.length_cons, List.length_cons, k5], fun e' he => ?_, s_pkcons (star_e h.1.1) kk k7⟩
          rcases List.mem_cons.mp he with rfl | he
          · exact star_e h.1.1
          · exact k6 _ he
      · split at h
        · rename_i d dd
          simp only [Bool.and_eq_true] at h
          obtain ⟨es1, es2, rfl, k1, k2, k3, k4, k5, k6, k7⟩ := chkc_ok es G C hn h.2
          cases es1 with
          | cons _ _ => cases k1
          | nil =>
            cases es2 with
            | cons _ _ => cases k5
            | nil =>
              have h1 := h.1
              unfold isLit at h1
              split at h1
              · have := beq_eq h1
                subst this
                exact ⟨[], [], rfl, rfl, k2, k3, k4, rfl, k6, k7⟩
              · cases h1
        · cases h
termination_by structural es => es
theorem chkl_ok : ∀ (es : List E) {f : Fr0} {c : Ct} {X : Cx} {xs : List Expr}, GX f c X → GC f X φ c.shp → CfgOk g f.G c → chkl c es xs = true →
    ∃ es1 xs1 j caps ps body sc p L, es = es1 ++ [.lam j caps] ∧ xs = xs1 ++ [.Lambda ps body sc p] ∧ Paired (fun e x => PE X x (dE f .v (ev g φ .v e))) es1 xs1 ∧ (∀ e ∈ es1, ∀ e', e ≠ .star e') ∧ (∀ x ∈ xs1, ∀ e' p, x ≠ .Starred e' p) ∧ LamW f X j caps L ps body sc
  | [], f, c, X, xs, G, C, hn, h => by simp [chkl] at h
  | e :: es, f, c, X, xs, G, C, hn, h => by
    simp only [chkl] at h
    split at h
    · rename_i x xs
      simp only [Bool.or_eq_true, Bool.and_eq_true, List.isEmpty_iff] at h
      rcases h with h | h
      · obtain ⟨⟨rfl, rfl⟩, h⟩ := h
        obtain ⟨j, caps, ps, body, sc, p, L, rfl, rfl, W⟩ := lamE_ok G h
        exact ⟨[], [], j, caps, ps, body, sc, p, L, rfl, rfl, .nil, (fun _ z => nomatch z), (fun _ z => nomatch z), W⟩
      · obtain ⟨es1, xs1, j, caps, ps, body, sc, p, L, rfl, rfl, k1, k2, k3, W⟩ := chkl_ok es G C hn h.2
        refine ⟨e :: es1, _ :: xs1, j, caps, ps, body, sc, p, L, rfl, rfl, .cons (chk_ok e (w := .e .v) G C hn h.1.2) k1, fun e' he => ?_, fun y hy => ?_, W⟩
        · rcases List.mem_cons.mp he with rfl | he
          · exact star_e h.1.1.1
          · exact k2 _ he
        · rcases List.mem_cons.mp hy with rfl | hy
          · exact star_x h.1.1.2
          · exact k3 _ hy
    · cases h
termination_by structural es => es
end
end
end DV
end
section
set_option Elab.async false
set_option linter.all false
set_option maxRecDepth 100000
set_option maxHeartbeats 4000000
/-! DV33: the look at statements. -/
namespace DV
open PySem PySem.Spec PyProof.Rows L2
def dropDoc : List Stmt → List Stmt
  | .Expr (.Constant (.str _) _ _) _ :: l => dropDoc l
  | l => l
def notTup : Expr → Bool
  | .Tuple .. => false
  | _ => true
/-- names of a target, all on a line, all plain locals -/
def swB (c : Ct) (x : Expr) (line : Nat) : Bool := match x with
  | .Name y p => loclB c.sc y && (p.line == line)
  | _ => false
def headLine (xs : List Expr) : Nat := (xs.head?.map (·.pos.line)).getD 0
def parN (c : Ct) : List Nat → List Expr → Bool
  | [], [] => true
  | i :: is, x :: xs => (match x with
    | .Name y _ => decide (c.N[i]? = some y) && locB c.sc y && (c.fnb y || loclB c.sc y)
    | _ => false) && parN c is xs
  | _, _ => false
def parE (c : Ct) : List E → List Expr → Bool
  | [], [] => true
  | e :: es, y :: ys => notStarX y && chk c (.e (modeOf (maker e))) e y && parE c es ys
  | _, _ => false
def fnB (sc : Scope) : Bool := match sc.kind with
  | .function => true
  | _ => false
def swapped (c : Ct) (xs ys : List Expr) : Bool := xs.all (fun x => swB c x (headLine xs)) && !(ys.all (foldedForSure 8)) && !(ys.all (constantsAlone 8))
def nameOf : Expr → Str
  | .Name y _ => y
  | _ => ""
def lineOf (x : Expr) : Nat := x.pos.line
def asgM (c : Ct) (e : E) (y : Str) (px : Pos) (v : Expr) : Bool :=
        if noComp v || !(loclB c.sc y && (px.line == v.pos.line)) then chk c (.e (modeOf (maker e))) e v
        else match e, v with
          | .cp el t it cc, .ListComp elt [⟨tg, iter, ifs, 0⟩] scope cpos => fnB c.sc && !(scope.names.any fun (n, k) => n == y && (k == .local || k == .cell)) &&
              blkC c.N c.sc scope (ownOf c.N scope) && sameSet ((ownOf c.N scope).map (·.2)) (slots t) && noSet iter && chk c (.i .i tg) it iter && chkG (c.blk scope) t tg && chkIf cc (fun z => chk (c.blk scope) .t cc z) ifs && chk (c.blk scope) (.e .v) el elt
          | .cp2 el t it cc t1 it1 cc1, .ListComp elt [⟨tg, iter, ifs, 0⟩, ⟨tg1, iter1, ifs1, 0⟩] scope cpos => fnB c.sc && !(scope.names.any fun (n, k) => n == y && (k == .local || k == .cell)) &&
              blkC c.N c.sc scope (ownOf c.N scope) && sameSet ((ownOf c.N scope).map (·.2)) (slots t ++ slots t1) && noSet iter && noSet iter1 && chk c (.i .i tg) it iter && chkG (c.blk scope) t tg && chkIf cc (fun z => chk (c.blk scope) .t cc z) ifs &&
              chk (c.blk scope) (.i .k tg1) it1 iter1 && chkG (c.blk scope) t1 tg1 && chkIf cc1 (fun z => chk (c.blk scope) .t cc1 z) ifs1 && chk (c.blk scope) (.e .v) el elt
          | _, _ => false
def parM (c : Ct) (xs ys : List Expr) : Bool :=
        match xs, ys with
        | [_, _], [_, _] => swapped c xs ys || !(xs.all fun x => swB c x (headLine xs))
        | [_, _, _], [_, _, _] => swapped c xs ys || !(xs.all fun x => swB c x (headLine xs))
        | [_], _ => true
        | [_, _, _, _], _ => true
        | [_, _, _, _, _], _ => true
        | _, _ => false
mutual
def chkS (c : Ct) : S → Stmt → Bool
  | .asg t e, s => match t, s with
    | .nm i, .Assign [.Name y px] v pos => decide (c.N[i]? = some y) && locB c.sc y && (c.fnb y || loclB c.sc y) && asgM c e y px v
    | .tu ts, .Assign [.Tuple xs k tp] v pos => noComp v && notTup v && chk c (.e .b) e v && chkG c (.tu ts) (.Tuple xs k tp)
    | _, _ => false
  | .par is es, s => match s with
    | .Assign [.Tuple xs k tp] (.Tuple ys k2 tp2) pos => parN c is xs && parE c es ys && (is.length == es.length) && decide (is.length ≤ 1000) && decide is.Nodup && fnB c.sc && parM c xs ys
    | _ => false
  | .seti a i e, s => match s with
    | .Assign [.Subscript x y _] z _ => noComp z && chk c (.e .v) e z && chk c (.e .b) a x && chk c (.e .v) i y && notSlice y
    | _ => false
  | .app i e, s => match s with
    | .Expr (.Call (.Attribute (.Name x _) a apos) [y] [] cpos) _ => decide (a = ("append" : Str)) && decide (c.N[i]? = some x) && visB c.sc x && nameB x && notStarX y && (apos.endLine == cpos.line) && chk c (.e .v) e y
    | _ => false
  | .ext i e, s => match s with
    | .Expr (.Call (.Attribute (.Name x _) a apos) [y] [] cpos) _ => decide (a = ("extend" : Str)) && decide (c.N[i]? = some x) && visB c.sc x && nameB x && notStarX y && (apos.endLine == cpos.line) && chk c (.e .b) e y
    | _ => false
  | .ex e, s => match s with
    | .Expr y _ => noComp y && chk c (.e .b) e y
    | _ => false
  | .ife t a b, s => match s with
    | .If y as bs _ => chk c .t t y && chkSs c a as && chkSs c b bs
    | _ => false
  | .for t it b, s => match s with
    | .For tg iter bs [] _ => noSet iter && chk c (.i .k tg) it iter && chkG c t tg && chkSs c b bs
    | _ => false
  | .whl t b, s => match s with
    | .While y bs [] _ => chk c .t t y && chkSs c b bs
    | _ => false
  | .ret e, s => match s with
    | .Return (some y) _ => chk c (.e .v) e y
    | .Return none _ => (match e with | .lit .non => true | _ => false)
    | _ => false
  | .pass, s => match s with | .Pass _ => true | _ => false
  | .brk, s => match s with | .Break _ => true | _ => false
  | .cnt, s => match s with | .Continue _ => true | _ => false
  | .bad, _ => true
  | .raise k es, s => match es, s with
    | [e], .Raise (some (.Call (.Name n _) [a] [] _)) none _ => decide (c.cnm[k]? = some n) && (c.ers.any fun p => p.1 == k) && globB c.sc n && noDbg n && notStarX a && notStarE e && chk c (.e .v) e a
    | _, _ => false
  | .tryas b k x h, s => match x, h, s with
    | some i, [.asg (.nm j) (.var i')], .Try body [.ExceptHandler (some (.Name y _)) (some n) [.Assign [.Name m _] (.Name n' _) _] _] [] [] _ =>
      (i' == i) && decide (n' = n) && decide (c.N[i]? = some n) && decide (c.N[j]? = some m) && !(i == j) && loclB c.sc n && loclB c.sc m && decide (c.cnm[k]? = some y) && c.cat.contains k && globB c.sc y && noDbg y && nameB n && chkSs c b body
    | _, _, _ => false
  | _, _ => false
termination_by structural s => s
def chkSs (c : Ct) : List S → List Stmt → Bool
  | [], l => (dropDoc l).isEmpty
  | s :: ss, l => match dropDoc l with
    | x :: xs => chkS c s x && chkSs c ss xs
    | [] => false
termination_by structural ss => ss
end
section
variable {f : Fr0} {c : Ct} {X : Cx} {g : Cfg} {φ : Phi}
theorem doc_ok {t : TS} : ∀ {l : List Stmt}, PSs X (dropDoc l) t → PSs X l t
  | [], h => h
  | s :: l, h => by
    unfold dropDoc at h
    split at h
    · rename_i e
      cases e
      exact s_doc (doc_ok h)
    · exact h
theorem parE_ok (G : GX f c X) (C : GC f X φ c.shp) (hn : CfgOk g f.G c) : ∀ {es : List E} {ys : List Expr}, parE c es ys = true → PA X ys (dP f (evPar g φ es))
  | [], [], _ => s_pnil
  | [], _ :: _, h => by simp [parE] at h
  | _ :: _, [], h => by simp [parE] at h
  | e :: es, y :: ys, h => by
    simp only [parE, Bool.and_eq_true] at h
    exact s_pcons (star_x h.1.1) (fun gs => chk_ok e (f := f.gd gs) (w := .e (modeOf (maker e))) ⟨G.K, G.B, G.sc, G.N, G.nd, G.calm, G.gd, G.fa, G.ca, G.cst, G.bi, G.takes, G.fn, G.un, G.lam, G.ek, fun h => ⟨⟨(G.mkr h).1.ex⟩, (G.mkr h).2⟩⟩ (by obtain ⟨k, hr, hc, hl⟩ := C.ex; exact ⟨k, hr, fun q hq => ⟨(hc q hq).ex⟩, hl⟩) hn h.1.2) (parE_ok G C hn h.2)
theorem parN_ok (G : GX f c X) : ∀ {is : List Nat} {xs : List Expr}, parN c is xs = true → Paired (fun (i : Nat) (x : Expr) => ∃ n p, x = .Name n p ∧ X.N[i]? = some n ∧ Loc X.env.scope n ∧ (X.fn n = true ∨ X.env.scope.names.lookup n = some .local)) is xs
  | [], [], _ => .nil
  | [], _ :: _, h => by simp [parN] at h
  | _ :: _, [], h => by simp [parN] at h
  | i :: is, x :: xs, h => by
    simp only [parN, Bool.and_eq_true] at h
    have h1 := h.1
    split at h1
    · rename_i y p
      simp only [Bool.and_eq_true, decide_eq_true_eq, Bool.or_eq_true] at h1
      refine .cons ⟨y, p, rfl, by rw [G.N]; exact h1.1.1, by rw [G.sc]; exact locB_loc h1.1.2, ?_⟩ (parN_ok G h.2)
      rcases h1.2 with z | z
      · exact .inl (G.fn _ z)
      · exact .inr (by rw [G.sc]; exact loclB_loc z)
    · cases h1
theorem kind_fn (G : GX f c X) (h : fnB c.sc = true) : X.env.blockKind = .function := by
  unfold fnB at h
  split at h
  · rename_i e
    unfold Env.blockKind
    rw [G.sc, e]
    rfl
  · cases h
theorem kind_loc (G : GX f c X) {y : Str} : (X.env.kindOf y == some .local) = loclB c.sc y := by
  show (X.env.scope.names.lookup y == some NameKind.local) = _
  rw [G.sc]
  unfold loclB
  cases c.sc.names.lookup y with
  | none => rfl
  | some k => cases k <;> rfl
end
end DV
end
section
set_option Elab.async false
set_option linter.all false
set_option maxRecDepth 100000
set_option maxHeartbeats 4000000
/-! DV34: what the look gives: statements. -/
namespace DV
open PySem PySem.Spec PyProof.Rows L2
section
variable {f : Fr0} {c : Ct} {X : Cx} {g : Cfg} {φ : Phi}
def nmF (env : Env) (line : Nat) : Expr → Option Str := fun
    | .Name id pos => if env.kindOf id == some .local && pos.line == line then some id else none
    | _ => none
theorem noAny {vs : List Expr} {p : Expr → Bool} (h : ∀ y ∈ vs, ∀ e' p, y ≠ .Starred e' p) (k : ∀ y, (∀ e' q, y ≠ .Starred e' q) → p y = false) : vs.any p = false := by
  rw [List.any_eq_false]
  intro y hy
  rw [k y (h y hy)]
  simp
theorem sw_form (env : Env) (xs ys : List Expr) (k k2 : Nat) (tp tp2 : Pos) (hl : (xs.length == 2 || xs.length == 3) = true) (he : ys.length = xs.length) (hk : env.blockKind = .function) (hs : ∀ y ∈ ys, ∀ e' p, y ≠ .Starred e' p) :
    swappedStores [.Tuple xs k tp] (.Tuple ys k2 tp2) env = (if ((xs.filterMap (nmF env (headLine xs))).length != xs.length || (xs.filterMap (nmF env (headLine xs))).eraseDups.length != (xs.filterMap (nmF env (headLine xs))).length) = true then pure none else if ys.all (foldedForSure 8) = true then pure none else if ys.all (constantsAlone 8) = true then unsupported "assign.tuple-of-constant-expressions:order-of-the-stores" else pure (some (xs.filterMap (nmF env (headLine xs))))) := by
  unfold swappedStores
  have e1 : (!(xs.length == 2 || xs.length == 3) || ys.length != xs.length || env.blockKind != .function) = false := by
    rw [hl, he, hk]
    simp
  simp only [e1, Bool.false_eq_true, if_false]
  rw [if_neg (by rw [noAny hs (fun y h => by cases y <;> first | rfl | exact absurd rfl (h _ _))]; simp)]
  rfl
theorem sw_len (env : Env) (xs ys : List Expr) (k k2 : Nat) (tp tp2 : Pos) (hl : (xs.length == 2 || xs.length == 3) = false) : swappedStores [.Tuple xs k tp] (.Tuple ys k2 tp2) env = pure none := by
  unfold swappedStores
  simp only [hl, Bool.not_false, Bool.true_or, if_true]
theorem fm_all {α β : Type} {p : α → Option β} : ∀ {l : List α}, (l.filterMap p).length = l.length → ∀ x ∈ l, (p x).isSome = true
  | [], _, x, hx => nomatch hx
  | a :: l, h, x, hx => by
    have hle := List.length_filterMap_le p l
    rw [List.filterMap_cons] at h
    cases e : p a with
    | none =>
      rw [e] at h
      simp only [List.length_cons] at h
      omega
    | some b =>
      rw [e] at h
      simp only [List.length_cons, Nat.add_right_cancel_iff] at h
      rcases List.mem_cons.mp hx with rfl | hx
      · rw [e]; rfl
      · exact fm_all h x hx
theorem swB_nm (G : GX f c X) {x : Expr} {line : Nat} : swB c x line = (nmF X.env line x).isSome := by
  unfold swB nmF
  cases x <;> first
    | rfl
    | (simp only [kind_loc G]
       split <;> simp_all)
theorem sw_notall (G : GX f c X) (xs ys : List Expr) (k k2 : Nat) (tp tp2 : Pos) (hl : (xs.length == 2 || xs.length == 3) = true) (he : ys.length = xs.length) (hk : X.env.blockKind = .function) (hs : ∀ y ∈ ys, ∀ e' p, y ≠ .Starred e' p) (h : (xs.all fun x => swB c x (headLine xs)) = false) :
    swappedStores [.Tuple xs k tp] (.Tuple ys k2 tp2) X.env = pure none := by
  rw [sw_form X.env xs ys k k2 tp tp2 hl he hk hs]
  rw [if_pos]
  simp only [Bool.or_eq_true, bne_iff_ne]
  refine .inl fun z => ?_
  have := fm_all z
  rw [List.all_eq_false] at h
  obtain ⟨x, hx, hn⟩ := h
  rw [swB_nm G, this x hx] at hn
  exact hn rfl
theorem sw_all (G : GX f c X) (xs ys : List Expr) (k k2 : Nat) (tp tp2 : Pos) (ns : List Str) (hl : (xs.length == 2 || xs.length == 3) = true) (he : ys.length = xs.length) (hk : X.env.blockKind = .function) (hs : ∀ y ∈ ys, ∀ e' p, y ≠ .Starred e' p) (hx : xs.filterMap (nmF X.env (headLine xs)) = ns) (hn : ns.length = xs.length) (hd : ns.eraseDups.length = ns.length) (h : swapped c xs ys = true) :
    swappedStores [.Tuple xs k tp] (.Tuple ys k2 tp2) X.env = pure (some ns) := by
  rw [sw_form X.env xs ys k k2 tp tp2 hl he hk hs, hx]
  simp only [swapped, Bool.and_eq_true, Bool.not_eq_true'] at h
  rw [if_neg, if_neg, if_neg]
  · rw [h.2]; simp
  · rw [h.1.2]; simp
  · rw [hn, hd]; simp [hn]
theorem swB_1 (G : GX f c X) {x : Expr} {line : Nat} (h : swB c x line = true) : ∃ y p, x = .Name y p ∧ loclB c.sc y = true ∧ p.line = line ∧ nmF X.env line x = some y := by
  have h2 := h
  rw [swB_nm G] at h2
  unfold swB at h
  split at h
  · rename_i y p
    simp only [Bool.and_eq_true, beq_iff_eq] at h
    refine ⟨y, p, rfl, h.1, h.2, ?_⟩
    unfold nmF at h2 ⊢
    simp only at h2 ⊢
    split
    · rfl
    · rename_i z
      rw [if_neg z] at h2
      cases h2
  · cases h
theorem ne_of_idx {N : List Str} {i j : Nat} {x y : Str} (hi : N[i]? = some x) (hj : N[j]? = some y) (h : i ≠ j) (nd : N.Nodup) : x ≠ y := fun e => by
  subst e
  exact h ((List.getElem?_inj (List.getElem?_eq_some_iff.mp hi).1 nd).mp (hi.trans hj.symm))
theorem two_dup {x y : Str} (h : x ≠ y) : [x, y].eraseDups.length = 2 := by
  simp [List.eraseDups_cons, Ne.symm h]
theorem three_dup {x y z : Str} (h : x ≠ y) (h2 : x ≠ z) (h3 : y ≠ z) : [x, y, z].eraseDups.length = 3 := by
  simp [List.eraseDups_cons, Ne.symm h, Ne.symm h2, Ne.symm h3]
end
end DV
end
section
set_option Elab.async false
set_option linter.all false
set_option maxRecDepth 100000
set_option maxHeartbeats 4000000
/-! DV35: what the look gives: statements. -/
namespace DV
open PySem PySem.Spec PyProof.Rows L2
section
variable {f : Fr0} {c : Ct} {X : Cx} {g : Cfg} {φ : Phi}
theorem par_stars {es : List E} {ys : List Expr} (h : parE c es ys = true) : (∀ y ∈ ys, ∀ e' p, y ≠ .Starred e' p) ∧ es.length = ys.length := by
  induction es generalizing ys with
  | nil => cases ys with
    | nil => exact ⟨(fun _ z => nomatch z), rfl⟩
    | cons _ _ => simp [parE] at h
  | cons e es ih => cases ys with
    | nil => simp [parE] at h
    | cons y ys =>
      simp only [parE, Bool.and_eq_true] at h
      obtain ⟨h1, h2⟩ := ih h.2
      refine ⟨fun z hz => ?_, by rw [List.length_cons, List.length_cons, h2]⟩
      rcases List.mem_cons.mp hz with rfl | hz
      · exact star_x h.1.1
      · exact h1 z hz
theorem parN_len {is : List Nat} {xs : List Expr} (h : parN c is xs = true) : is.length = xs.length := by
  induction is generalizing xs with
  | nil => cases xs with
    | nil => rfl
    | cons _ _ => simp [parN] at h
  | cons i is ih => cases xs with
    | nil => simp [parN] at h
    | cons x xs =>
      simp only [parN, Bool.and_eq_true] at h
      rw [List.length_cons, List.length_cons, ih h.2]
theorem par_ok (G : GX f c X) (C : GC f X φ c.shp) (hn : CfgOk g f.G c) {is : List Nat} {es : List E} {xs ys : List Expr} {k k2 : Nat} {tp tp2 pos : Pos} (h1 : parN c is xs = true) (h2 : parE c es ys = true) (h3 : is.length = es.length) (h4 : is.length ≤ 1000) (h5 : is.Nodup) (h6 : fnB c.sc = true)
    (h7 : parM c xs ys = true) : PS X (.Assign [.Tuple xs k tp] (.Tuple ys k2 tp2) pos) (dS f (st g φ (.par is es))) := by
  have pa := parE_ok G C hn h2
  have pn := parN_ok G h1
  obtain ⟨hs, hl⟩ := par_stars h2
  have hl2 := parN_len h1
  have hk := kind_fn G h6
  unfold parM at h7
  split at h7
  · rename_i x1 x2 y1 y2
    simp only [Bool.or_eq_true, Bool.not_eq_true'] at h7
    rcases h7 with h7 | h7
    · match is, es, pn, hl2, h3 with
      | [i, j], [a, b], .cons ⟨n1, p1, e1, a1, b1, _⟩ (.cons ⟨n2, p2, e2, a2, b2, _⟩ .nil), _, _ =>
        subst e1 e2
        have hall : ([Expr.Name n1 p1, Expr.Name n2 p2].all fun x => swB c x (headLine [Expr.Name n1 p1, Expr.Name n2 p2])) = true := by
          simp only [swapped, Bool.and_eq_true] at h7
          exact h7.1.1
        simp only [List.all_cons, List.all_nil, Bool.and_true, Bool.and_eq_true] at hall
        obtain ⟨m1, q1, e1, l1, _, f1⟩ := swB_1 G hall.1
        obtain ⟨m2, q2, e2, l2, _, f2⟩ := swB_1 G hall.2
        cases e1
        cases e2
        have hij : i ≠ j := by simpa using h5
        have hne : n1 ≠ n2 := ne_of_idx a1 a2 hij G.nd
        exact s_par2 G a1 a2 hij (by rw [G.sc]; exact loclB_loc l1) (by rw [G.sc]; exact loclB_loc l2) (sw_all G _ _ k k2 tp tp2 [n1, n2] rfl rfl hk hs (by simp only [List.filterMap_cons, f1, f2, List.filterMap_nil]) rfl (two_dup hne) h7) pa
    · exact s_parN G h3 pn (sw_notall G _ _ k k2 tp tp2 rfl rfl hk hs h7) h4 pa
  · rename_i x1 x2 x3 y1 y2 y3
    simp only [Bool.or_eq_true, Bool.not_eq_true'] at h7
    rcases h7 with h7 | h7
    · match is, es, pn, hl2, h3 with
      | [i, j, l], [a, b, d], .cons ⟨n1, p1, e1, a1, b1, _⟩ (.cons ⟨n2, p2, e2, a2, b2, _⟩ (.cons ⟨n3, p3, e3, a3, b3, _⟩ .nil)), _, _ =>
        subst e1 e2 e3
        have hall : ([Expr.Name n1 p1, Expr.Name n2 p2, Expr.Name n3 p3].all fun x => swB c x (headLine [Expr.Name n1 p1, Expr.Name n2 p2, Expr.Name n3 p3])) = true := by
          simp only [swapped, Bool.and_eq_true] at h7
          exact h7.1.1
        simp only [List.all_cons, List.all_nil, Bool.and_true, Bool.and_eq_true] at hall
        obtain ⟨m1, q1, e1, l1, _, f1⟩ := swB_1 G hall.1
        obtain ⟨m2, q2, e2, l2, _, f2⟩ := swB_1 G hall.2.1
        obtain ⟨m3, q3, e3, l3, _, f3⟩ := swB_1 G hall.2.2
        cases e1
        cases e2
        cases e3
        have hij : i ≠ j := by simp at h5; exact fun e => h5.1.1 e
        have hil : i ≠ l := by simp at h5; exact fun e => h5.1.2 e
        have hjl : j ≠ l := by simp at h5; exact fun e => h5.2 e
        exact s_par3 G a1 a2 a3 hij hil hjl (by rw [G.sc]; exact loclB_loc l1) (by rw [G.sc]; exact loclB_loc l2) (by rw [G.sc]; exact loclB_loc l3) (sw_all G _ _ k k2 tp tp2 [n1, n2, n3] rfl rfl hk hs (by simp only [List.filterMap_cons, f1, f2, f3, List.filterMap_nil]) rfl
          (three_dup (ne_of_idx a1 a2 hij G.nd) (ne_of_idx a1 a3 hil G.nd) (ne_of_idx a2 a3 hjl G.nd)) h7) pa
    · exact s_parN G h3 pn (sw_notall G _ _ k k2 tp tp2 rfl rfl hk hs h7) h4 pa
  · exact s_parN G h3 pn (sw_len _ _ _ k k2 tp tp2 rfl) h4 pa
  · exact s_parN G h3 pn (sw_len _ _ _ k k2 tp tp2 rfl) h4 pa
  · exact s_parN G h3 pn (sw_len _ _ _ k k2 tp tp2 rfl) h4 pa
  · cases h7
theorem asg_ok (G : GX f c X) (C : GC f X φ c.shp) (hn : CfgOk g f.G c) {i : Nat} {e : E} {y : Str} {px pos : Pos} {v : Expr} (h1 : c.N[i]? = some y) (h2 : locB c.sc y = true) (h3 : c.fnb y = true ∨ loclB c.sc y = true)
    (h : asgM c e y px v = true) : PS X (.Assign [.Name y px] v pos) (dS f (st g φ (.asg (.nm i) e))) := by
  have hi : X.N[i]? = some y := by rw [G.N]; exact h1
  have hloc : Loc X.env.scope y := by rw [G.sc]; exact locB_loc h2
  have hf : X.fn y = true ∨ X.env.scope.names.lookup y = some .local := by
    rcases h3 with h3 | h3
    · exact .inl (G.fn _ h3)
    · exact .inr (by rw [G.sc]; exact loclB_loc h3)
  unfold asgM at h
  split at h
  · rename_i hc
    have k := chk_ok e (w := .e (modeOf (maker e))) G C hn h
    simp only [Bool.or_eq_true, Bool.not_eq_true'] at hc
    rcases hc with hc | hc
    · exact s_asg G hi hloc hf hc k
    · refine s_asgCf G hi hloc hf ?_ k
      rw [← hc]
      congr 1
      have := kind_loc G (y := y)
      rw [← this]
      show _ = (X.env.scope.names.lookup y == some NameKind.local)
      cases X.env.scope.names.lookup y with
      | none => rfl
      | some k => cases k <;> rfl
  · rename_i hc
    simp only [Bool.or_eq_true, Bool.not_eq_true', not_or, Bool.not_eq_false, Bool.and_eq_true] at hc
    obtain ⟨_, hl, hline⟩ := hc
    have hyl : X.env.scope.names.lookup y = some .local := by rw [G.sc]; exact loclB_loc hl
    have hkind : ∀ {b : Bool}, fnB c.sc = true → X.env.scope.kind = .function := fun {b} h => by
      unfold fnB at h
      split at h
      · rename_i e; rw [G.sc]; exact e
      · cases h
    split at h
    · rename_i el t it cc elt tg iter ifs scope cpos _
      simp only [Bool.and_eq_true, Bool.not_eq_true'] at h
      obtain ⟨⟨⟨⟨⟨⟨⟨⟨g1, g2⟩, g3⟩, g4⟩, g5⟩, g6⟩, g7⟩, g8⟩, g9⟩ := h
      exact s_asgC G hi hyl (sw_true (hkind (b := true) g1) hyl hline g2) (chk_ok it (w := .i .i tg) G C hn g6) (by rw [G.N, G.sc]; exact blkOk_by g3) (own_iff g4) (fun F0 κ0 H0 s H C' cl fp => chkG_ok (GX.blk G) g7)
        (fun F0 κ0 H0 s H C' cl fp => ifs_ok (fun z k => (chk_ok cc (w := .t) (GX.blk G) (GC.blk C) hn k).1) g8) (fun F0 κ0 H0 s H C' cl fp => chk_ok el (w := .e .v) (GX.blk G) (GC.blk C) hn g9) (folded_no g5)
    · rename_i el t it cc t1 it1 cc1 elt tg iter ifs tg1 iter1 ifs1 scope cpos _
      simp only [Bool.and_eq_true, Bool.not_eq_true'] at h
      obtain ⟨⟨⟨⟨⟨⟨⟨⟨⟨⟨⟨⟨g1, g2⟩, g3⟩, g4⟩, g5⟩, g5'⟩, g6⟩, g7⟩, g8⟩, g9⟩, g10⟩, g11⟩, g12⟩ := h
      exact s_asgC2 G hi hyl (sw_true (hkind (b := true) g1) hyl hline g2) (chk_ok it (w := .i .i tg) G C hn g6) (by rw [G.N, G.sc]; exact blkOk_by g3) (own_iff g4) (fun F0 κ0 H0 s H C' cl fp => chkG_ok (GX.blk G) g7)
        (fun F0 κ0 H0 s H C' cl fp => ifs_ok (fun z k => (chk_ok cc (w := .t) (GX.blk G) (GC.blk C) hn k).1) g8) (fun F0 κ0 H0 s H C' cl fp => chk_ok it1 (w := .i .k tg1) (GX.blk G) (GC.blk C) hn g9) (fun F0 κ0 H0 s H C' cl fp => chkG_ok (GX.blk G) g10)
        (fun F0 κ0 H0 s H C' cl fp => ifs_ok (fun z k => (chk_ok cc1 (w := .t) (GX.blk G) (GC.blk C) hn k).1) g11) (fun F0 κ0 H0 s H C' cl fp => chk_ok el (w := .e .v) (GX.blk G) (GC.blk C) hn g12) (folded_no g5) (fun env => folded_no g5')
    · cases h
/-- what a suite under try asks -/
structure Flt (X : Cx) : Prop where
  p : PassesOwn (model X.prog X.w) X.A X.env X.xe
  s : X.stack = X.env :: X.outer
  f : X.env.frame = some X.env.locals
  e : X.ex = []
mutual
theorem chkS_ok : ∀ (s : S) {f : Fr0} {c : Ct} {X : Cx} {x : Stmt}, GX f c X → GC f X φ c.shp → CfgOk g f.G c → Flt X → chkS c s x = true → PS X x (dS f (st g φ s))
  | .asg t e, f, c, X, x, G, C, hn, hp, h => by
    simp only [chkS] at h
    split at h
    · simp only [Bool.and_eq_true, decide_eq_true_eq, Bool.or_eq_true] at h
      exact asg_ok G C hn h.1.1.1 h.1.1.2 h.1.2 h.2
    · simp only [Bool.and_eq_true] at h
      obtain ⟨⟨⟨h1, h2⟩, h3⟩, h4⟩ := h
      exact s_asgT G h1 (by cases ‹Expr› <;> first | rfl | cases h2) (chk_ok e (w := .e .b) G C hn h3) (chkG_ok G h4)
    · cases h
  | .par is es, f, c, X, x, G, C, hn, hp, h => by
    simp only [chkS] at h
    split at h
    · simp only [Bool.and_eq_true, decide_eq_true_eq, beq_iff_eq] at h
      obtain ⟨⟨⟨⟨⟨⟨h1, h2⟩, h3⟩, h4⟩, h5⟩, h6⟩, h7⟩ := h
      exact par_ok G C hn h1 h2 h3 h4 h5 h6 h7
    · cases h
  | .seti a i e, f, c, X, x, G, C, hn, hp, h => by
    simp only [chkS] at h
    split at h
    · simp only [Bool.and_eq_true] at h
      obtain ⟨⟨⟨⟨h1, h2⟩, h3⟩, h4⟩, h5⟩ := h
      exact s_seti G h1 (chk_ok e (w := .e .v) G C hn h2) (chk_ok a (w := .e .b) G C hn h3) (chk_ok i (w := .e .v) G C hn h4) (slice_x h5)
    · cases h
  | .app i e, f, c, X, x, G, C, hn, hp, h => by
    simp only [chkS] at h
    split at h
    · simp only [Bool.and_eq_true, decide_eq_true_eq] at h
      obtain ⟨⟨⟨⟨⟨⟨rfl, h1⟩, h2⟩, h3⟩, h4⟩, h5⟩, h6⟩ := h
      have nb := nameB_1 h3
      exact s_app G (by rw [G.N]; exact h1) (by rw [G.sc]; exact visB_vis h2) nb.1 nb.2 (star_x h4) h5 (chk_ok e (w := .e .v) G C hn h6)
    · cases h
  | .ext i e, f, c, X, x, G, C, hn, hp, h => by
    simp only [chkS] at h
    split at h
    · simp only [Bool.and_eq_true, decide_eq_true_eq] at h
      obtain ⟨⟨⟨⟨⟨⟨rfl, h1⟩, h2⟩, h3⟩, h4⟩, h5⟩, h6⟩ := h
      have nb := nameB_1 h3
      exact s_ext G (by rw [G.N]; exact h1) (by rw [G.sc]; exact visB_vis h2) nb.1 nb.2 (star_x h4) h5 (chk_ok e (w := .e .b) G C hn h6)
    · cases h
  | .ex e, f, c, X, x, G, C, hn, hp, h => by
    simp only [chkS] at h
    split at h
    · simp only [Bool.and_eq_true] at h
      exact s_ex h.1 (chk_ok e (w := .e .b) G C hn h.2)
    · cases h
  | .ife t a b, f, c, X, x, G, C, hn, hp, h => by
    simp only [chkS] at h
    split at h
    · simp only [Bool.and_eq_true] at h
      exact s_ife (chk_ok t (w := .t) G C hn h.1.1).1 (chkSs_ok a G C hn hp h.1.2) (chkSs_ok b G C hn hp h.2)
    · cases h
  | .for t it b, f, c, X, x, G, C, hn, hp, h => by
    simp only [chkS] at h
    split at h
    · rename_i tg iter bs pos
      simp only [Bool.and_eq_true] at h
      obtain ⟨⟨⟨h1, h2⟩, h3⟩, h4⟩ := h
      exact s_for G hp.p (chk_ok it (w := .i .k tg) G C hn h2) (chkG_ok G h3) (chkSs_ok b G C hn hp h4) (folded_no h1)
    · cases h
  | .whl t b, f, c, X, x, G, C, hn, hp, h => by
    simp only [chkS] at h
    split at h
    · simp only [Bool.and_eq_true] at h
      exact s_whl hp.p (chk_ok t (w := .t) G C hn h.1).1 (chkSs_ok b G C hn hp h.2)
    · cases h
  | .ret e, f, c, X, x, G, C, hn, hp, h => by
    simp only [chkS] at h
    split at h
    · exact s_ret (chk_ok e (w := .e .v) G C hn h)
    · split at h
      · exact s_retN
      · cases h
    · cases h
  | .pass, f, c, X, x, G, C, hn, hp, h => by
    simp only [chkS] at h
    split at h
    · exact s_pass
    · cases h
  | .brk, f, c, X, x, G, C, hn, hp, h => by
    simp only [chkS] at h
    split at h
    · exact s_brk
    · cases h
  | .cnt, f, c, X, x, G, C, hn, hp, h => by
    simp only [chkS] at h
    split at h
    · exact s_cnt
    · cases h
  | .raise k es, f, c, X, x, G, C, hn, hp, h => by
    simp only [chkS] at h
    split at h
    · rename_i e n p1 a p2 p3
      simp only [Bool.and_eq_true, decide_eq_true_eq, List.any_eq_true, beq_iff_eq] at h
      obtain ⟨⟨⟨⟨⟨⟨h1, ⟨k', y⟩, hm, rfl⟩, h3⟩, h4⟩, h5⟩, h6⟩, h7⟩ := h
      exact s_raise G C hm h1 (globB_gl G h3) (noDbg_1 h4) (star_x h5) (star_e h6) (s_cons (.inl rfl) (star_e h6) (star_x h5) (chk_ok e (w := .e .v) G C hn h7) s_nil)
    · cases h
  | .seta _ _ _, f, c, X, x, G, C, hn, hp, h => by simp [chkS] at h
  | .bad, f, c, X, x, G, C, hn, hp, h => PS.imp ps_never fun D σ H ⟨F, κ, ρ, M, R, q⟩ => q.elim
  | .tryas b k x0 hh, f, c, X, x, G, C, hn, hp, h => by
    simp only [chkS] at h
    split at h
    · rename_i i j i' body y np n m p1 n' p2 p3 p4 p5
      simp only [Bool.and_eq_true, decide_eq_true_eq, beq_iff_eq, Bool.not_eq_true', beq_eq_false_iff_ne, List.contains_iff_mem] at h
      obtain ⟨⟨⟨⟨⟨⟨⟨⟨⟨⟨⟨⟨rfl, rfl⟩, h3⟩, h4⟩, h5⟩, h6⟩, h7⟩, h8⟩, h9⟩, h10⟩, h11⟩, h12⟩, h13⟩ := h
      have nb := nameB_1 h12
      refine s_tryas G hp.s hp.f hp.e (by rw [G.N]; exact h3) (by rw [G.N]; exact h4) h5 ?_ ?_ h8 h9 (globB_gl G h10) (noDbg_1 h11) nb.1 nb.2 (fun W pn xe tk pw => ?_) hn.2.1
      · show X.env.scope.names.lookup _ = _
        rw [G.sc]
        exact loclB_loc h6
      · show X.env.scope.names.lookup _ = _
        rw [G.sc]
        exact loclB_loc h7
      · exact chkSs_ok b (f := { f with W := W }) (c := c) (X := X.tr pn xe) ⟨G.K, G.B, G.sc, G.N, G.nd, G.calm, G.gd, G.fa, G.ca, G.cst, G.bi, tk, G.fn, G.un, G.lam, G.ek, fun h => ⟨⟨(G.mkr h).1.ex⟩, (G.mkr h).2⟩⟩ (by obtain ⟨k, hr, hc, hl⟩ := C.ex; exact ⟨k, hr, fun q hq => ⟨(hc q hq).ex⟩, hl⟩) hn ⟨pw, hp.s, hp.f, hp.e⟩ h13
    · cases h
termination_by structural s => s
theorem chkSs_ok : ∀ (ss : List S) {f : Fr0} {c : Ct} {X : Cx} {xs : List Stmt}, GX f c X → GC f X φ c.shp → CfgOk g f.G c → Flt X → chkSs c ss xs = true → PSs X xs (dS f (sts g φ ss))
  | [], f, c, X, xs, G, C, hn, hp, h => by
    simp only [chkSs, List.isEmpty_iff] at h
    refine doc_ok ?_
    rw [h]
    exact s_snil
  | s :: ss, f, c, X, xs, G, C, hn, hp, h => by
    simp only [chkSs] at h
    split at h
    · rename_i x l e
      simp only [Bool.and_eq_true] at h
      refine doc_ok ?_
      rw [e]
      exact s_scons (chkS_ok s G C hn hp h.1) (chkSs_ok ss G C hn hp h.2)
    · cases h
termination_by structural ss => ss
end
end
end DV
end
section
set_option Elab.async false
set_option linter.all false
set_option maxRecDepth 100000
set_option maxHeartbeats 2000000
/-! DV47: the entry of a lambda that has cells of its own and captured ones. -/
namespace DV
open PySem PySem.Spec PyProof.Rows L2
structure LScope (N ps fr : List Str) (sc : Scope) : Prop where
  kind : sc.kind = .function
  co : sc.isCoroutine = false
  gen : sc.isGenerator = false
  nd : N.Nodup
  pre : N.take (ps.length + fr.length) = ps ++ fr
  par : ∀ x ∈ ps, sc.names.lookup x = some .local ∨ sc.names.lookup x = some .cell
  free : ∀ y ∈ sc.names, y.2 = .free → y.1 ∈ fr
  frk : ∀ x ∈ fr, sc.names.lookup x = some .free
  once : (sc.names.map (·.1)).Nodup
def lscB (N ps fr : List Str) (sc : Scope) : Bool :=
  decide (sc.kind = .function) && !sc.isCoroutine && !sc.isGenerator && decide N.Nodup && decide (N.take (ps.length + fr.length) = ps ++ fr) && (ps.all fun x => decide (sc.names.lookup x = some .local) || decide (sc.names.lookup x = some .cell)) &&
    (sc.names.all fun y => !decide (y.2 = .free) || fr.contains y.1) && (fr.all fun x => decide (sc.names.lookup x = some .free)) && decide (sc.names.map (·.1)).Nodup
theorem lscope_by {N ps fr : List Str} {sc : Scope} (h : lscB N ps fr sc = true) : LScope N ps fr sc := by
  unfold lscB at h
  simp only [Bool.and_eq_true, Bool.not_eq_true', decide_eq_true_eq, List.all_eq_true, Bool.or_eq_true, decide_eq_false_iff_not] at h
  obtain ⟨⟨⟨⟨⟨⟨⟨⟨h1, h2⟩, h3⟩, h4⟩, h5⟩, h6⟩, h7⟩, h8⟩, h9⟩ := h
  exact ⟨h1, h2, h3, h4, h5, h6, fun y hy e => (h7 y hy).elim (fun z => absurd e z) List.contains_iff_mem.mp, h8, h9⟩
theorem cellsFrom_app : ∀ (names : List (Str × NameKind)) (n : Nat) (acc : List (Str × Addr)), cellsFrom n names acc = cellsFrom n names [] ++ acc
  | [], n, acc => rfl
  | (y, k) :: r, n, acc => by
    unfold cellsFrom
    split
    · rw [cellsFrom_app r (n + 1) ((y, n) :: acc), cellsFrom_app r (n + 1) [(y, n)], List.append_assoc]
      rfl
    · exact cellsFrom_app r n acc
theorem cellsFrom_mem : ∀ {names : List (Str × NameKind)} {n : Nat} {y : Str} {c : Addr}, (y, c) ∈ cellsFrom n names [] → (y, NameKind.cell) ∈ names
  | [], n, y, c, h => by cases h
  | (z, k) :: r, n, y, c, h => by
    unfold cellsFrom at h
    split at h
    · rename_i hk
      rw [cellsFrom_app] at h
      rcases List.mem_append.mp h with h | h
      · exact List.mem_cons_of_mem _ (cellsFrom_mem h)
      · cases List.mem_singleton.mp h
        have : k = .cell := by simpa using hk
        rw [this]
        exact List.mem_cons_self
    · exact List.mem_cons_of_mem _ (cellsFrom_mem h)
theorem one_kind {l : List (Str × NameKind)} (nd : (l.map (·.1)).Nodup) {y : Str} {k k' : NameKind} (h : (y, k) ∈ l) (h' : (y, k') ∈ l) : k = k' := by
  obtain ⟨i, hi, e⟩ := List.getElem_of_mem h
  obtain ⟨j, hj, e'⟩ := List.getElem_of_mem h'
  have q := (List.getElem_inj (h₀ := by simpa using hi) (h₁ := by simpa using hj) nd).mp (by rw [List.getElem_map, List.getElem_map, e, e'])
  subst q
  rw [e] at e'
  exact (Prod.mk.inj e').2
section
variable {M : Model} {A : Around} {E : Value → Shared → Prop} {s₀ s : Shared} {m cm : Str → Option Value} {env : Env} {own : List (Str × Addr)}
theorem st_loc {n : Str} {v : Value} {Q : Unit → Shared → Prop} (x : InCallC s₀ env.locals m own cm s) (hk : env.scope.kind = .function) (hl : env.kindOf n = some .local) (h : ∀ s', InCallC s₀ env.locals (fun y => if y = n then some v else m y) own cm s' → Q () s') : wpAny M A (storeName env n v) Q E s := by
  obtain ⟨h1, tk, e⟩ := x.toInCall.same
  refine wpAny_storeName_local hl x.toInCall.ns (fun h' hn' hs' => h _ ⟨⟨⟨h', _, by rw [e]⟩, hn', fun b o eb => ?_, x.toInCall.fresh⟩, fun k c hc => (x.cell k c hc).sameBut hs' (Nat.ne_of_gt (x.above k c (PySem.mem_of_lookup hc))), x.apart, x.above⟩) (by rw [hk]; rfl)
  exact hs'.extBut b o (Nat.ne_of_lt (Nat.lt_of_lt_of_le (Heap.lt_size eb) x.toInCall.fresh)) (x.toInCall.keep b o eb)
theorem st_cel {n : Str} {c : Addr} {v : Value} {Q : Unit → Shared → Prop} (x : InCallC s₀ env.locals m own cm s) (hk : env.scope.kind = .function) (hl : env.kindOf n = some .cell) (hc : own.lookup n = some c) (hc' : env.cells.lookup n = some c)
    (h : ∀ s', InCallC s₀ env.locals m own (fun y => if y = n then some v else cm y) s' → Q () s') : wpAny M A (storeName env n v) Q E s := by
  have lt := x.above n c (PySem.mem_of_lookup hc)
  obtain ⟨h1, tk, e⟩ := x.toInCall.same
  refine wpAny_storeName_cell hk hl hc' (x.cell n c hc) fun h' hn' hs' => h _ ⟨⟨⟨h', _, by rw [e]⟩, x.toInCall.ns.sameBut hs' (Nat.ne_of_lt lt), fun b o eb => ?_, x.toInCall.fresh⟩, fun k d hd => ?_, x.apart, x.above⟩
  · exact hs'.extBut b o (Nat.ne_of_lt (Nat.lt_trans (Nat.lt_of_lt_of_le (Heap.lt_size eb) x.toInCall.fresh) lt)) (x.toInCall.keep b o eb)
  · by_cases q : k = n
    · subst q
      rw [hc] at hd
      cases hd
      rw [if_pos rfl]
      exact hn'
    · rw [if_neg q]
      exact (x.cell k d hd).sameBut hs' fun z => q (name_of_addr x.apart (PySem.mem_of_lookup hd) (z ▸ PySem.mem_of_lookup hc))
theorem bind_par (f : Str × Value → PUnit → Sem (ForInStep PUnit)) (hf : ∀ n v u, f (n, v) u = (do storeName env n v; pure (.yield ⟨⟩))) (hk : env.scope.kind = .function) (ho : ∀ n c, own.lookup n = some c → env.cells.lookup n = some c) :
    ∀ (binds : List (Str × Value)) (m cm : Str → Option Value) (s : Shared) (Q : PUnit → Shared → Prop), InCallC s₀ env.locals m own cm s → (∀ x ∈ binds, env.kindOf x.1 = some .local ∨ (env.kindOf x.1 = some .cell ∧ (own.lookup x.1).isSome = true)) →
      (∀ s', InCallC s₀ env.locals (bindL env.kindOf binds m) own (bindC env.kindOf binds cm) s' → Q ⟨⟩ s') → wpAny M A (forIn binds ⟨⟩ f) Q E s
  | [], m, cm, s, Q, x, _, h => by
    rw [List.forIn_nil]
    exact wpAny_pure (h s x)
  | (n, v) :: r, m, cm, s, Q, x, hkd, h => by
    rw [List.forIn_cons, hf]
    have hr := fun y hy => hkd y (List.mem_cons_of_mem _ hy)
    rcases hkd (n, v) List.mem_cons_self with hl | ⟨hl, hc⟩
    · refine wpAny_bind (wpAny_bind (st_loc x hk hl fun s' x' => wpAny_pure (bind_par f hf hk ho r _ _ s' Q x' hr fun s2 x2 => h s2 ?_)))
      unfold bindL bindC
      rw [if_pos hl, if_pos hl]
      exact x2
    · obtain ⟨c, hc⟩ := Option.isSome_iff_exists.mp hc
      have hn : ¬ env.kindOf n = some .local := by rw [hl]; decide
      refine wpAny_bind (wpAny_bind (st_cel x hk hl hc (ho n c hc) fun s' x' => wpAny_pure (bind_par f hf hk ho r _ _ s' Q x' hr fun s2 x2 => h s2 ?_)))
      unfold bindL bindC
      rw [if_neg hn, if_neg hn]
      exact x2
end
section
variable {M : Model} {A : Around} {E : Value → Shared → Prop} {s : Shared}
theorem wp_envC {scope : Scope} {globals : Addr} {cl : List (Str × Addr)} {binds : List (Str × Value)} {qual : Str} {func : Option Addr} {code : Value} {builtins : Addr} {Q : Env → Shared → Prop} (hk : scope.kind = .function)
    (hkd : ∀ x ∈ binds, scope.names.lookup x.1 = some .local ∨ (scope.names.lookup x.1 = some .cell ∧ ((cellsFrom (s.heap.objs.size + 1) scope.names []).lookup x.1).isSome = true))
    (hQ : ∀ s', InCallC s s.heap.objs.size (bindL (fun x => scope.names.lookup x) binds fun _ => none) (cellsFrom (s.heap.objs.size + 1) scope.names []) (bindC (fun x => scope.names.lookup x) binds fun _ => none) s' →
      Q (newEnv scope s.heap.objs.size globals (cellsFrom (s.heap.objs.size + 1) scope.names cl) qual func code none builtins) s') : wpAny M A (newFunctionEnv scope globals cl binds qual func code none builtins) Q E s := by
  simp only [newFunctionEnv, Option.isSome_none, Bool.false_eq_true, if_false]
  refine wpAny_bind (wpAny_alloc (wpAny_bind (wpAny_layCells _ (fun name kind cells => by cases hkc : kind == NameKind.cell <;> simp [hkc]) _ _ _ _ ?_)))
  have sz : (s.heap.push { cls := .type "frame", data := .dict #[] }).objs.size = s.heap.objs.size + 1 := Heap.size_push ..
  have ok := cellsFrom_ok scope.names (s.heap.push { cls := .type "frame", data := .dict #[] }) (s.heap.objs.size + 1) [] ⟨fun _ _ hm => (nomatch hm), List.Pairwise.nil⟩ (Nat.le_of_eq sz.symm)
  rw [sz] at ok
  rw [show ({ s with heap := s.heap.push { cls := .type "frame", data := .dict #[] } } : Shared).heap.objs.size = s.heap.objs.size + 1 from sz]
  refine wpAny_bind (bind_par (s₀ := s) (own := cellsFrom (s.heap.objs.size + 1) scope.names []) (env := newEnv scope s.heap.objs.size globals (cellsFrom (s.heap.objs.size + 1) scope.names cl) qual func code none builtins) _ (fun _ _ _ => rfl) hk (fun n c h => ?_) binds (fun _ => none) (fun _ => none) _ _
    ⟨⟨⟨_, _, rfl⟩, (Heap.Ns.new s.heap (.type "frame")).keeps (pushCells_keeps _ _), (fun b o e => pushCells_keeps _ _ b o (Heap.get?_push_of_some _ e)), Nat.le_refl _⟩, (fun n c hc => (ok.empty n c (PySem.mem_of_lookup hc)).1), ok.apart, fun n c hm => (ok.empty n c hm).2⟩ hkd fun s' x => wpAny_pure (hQ s' x))
  show (cellsFrom (s.heap.objs.size + 1) scope.names cl).lookup n = some c
  rw [cellsFrom_app, List.lookup_append, h]
  rfl
end
section
variable {CX : CXT} {P : Program} {w : World} {K : PySem.W.Frag} {mg : Str → Option Value} {base : Heap} {N ps fr : List Str} {F : NdefX.NF} {f : Addr} {A : Around} {outer : List Env} {s s1 : Shared} {H : Hp} {E : XK} {us : List Value} {vs : List V} {ws : List (Option V)}
/-- F with all its cells -/
def allC (F : NdefX.NF) (n : Nat) : NdefX.NF := { F with cl := cellsFrom (n + 1) F.scope.names F.cl }
theorem inv_startL (S : LScope N ps fr F.scope) (hd : A.handled = none) (e0 : Env0 P w K mg base A outer s H) (hl : vs.length = ps.length) (r : Vals vs us) (C : NdefX.CellsAt F.cl fr ws s.heap H)
    (x : InCallC s s.heap.objs.size (bindL (fun x => F.scope.names.lookup x) (ps.zip us) fun _ => none) (cellsFrom (s.heap.objs.size + 1) F.scope.names []) (bindC (fun x => F.scope.names.lookup x) (ps.zip us) fun _ => none) s1) :
    Inv (NdefX.ncx CX P w K mg base N (allC F s.heap.objs.size) f A outer s H E) [] (NdefX.startF N vs ws) H s1 := by
  have hpl : ps.length + fr.length ≤ N.length := by
    have q := congrArg List.length S.pre
    rw [List.length_take, List.length_append] at q
    omega
  obtain ⟨h1, tk, rfl, kp⟩ := x.done
  have look : ∀ {y : Str} {c : Addr}, (cellsFrom (s.heap.objs.size + 1) F.scope.names F.cl).lookup y = some c → (cellsFrom (s.heap.objs.size + 1) F.scope.names []).lookup y = some c ∨ F.cl.lookup y = some c := fun {y c} e => by
    rw [cellsFrom_app, List.lookup_append] at e
    cases q : (cellsFrom (s.heap.objs.size + 1) F.scope.names []).lookup y with
    | some d => rw [q] at e; exact .inl e
    | none => rw [q] at e; exact .inr e
  have lookO : ∀ {y : Str} {c : Addr}, (cellsFrom (s.heap.objs.size + 1) F.scope.names []).lookup y = some c → (cellsFrom (s.heap.objs.size + 1) F.scope.names F.cl).lookup y = some c := fun {y c} e => by
    rw [cellsFrom_app, List.lookup_append, e]
    rfl
  have lookC : ∀ {y : Str} {c : Addr}, (y, NameKind.free) ∈ F.scope.names → F.cl.lookup y = some c → (cellsFrom (s.heap.objs.size + 1) F.scope.names F.cl).lookup y = some c := fun {y c} hf e => by
    rw [cellsFrom_app, List.lookup_append]
    cases q : (cellsFrom (s.heap.objs.size + 1) F.scope.names []).lookup y with
    | none => exact e
    | some d =>
      have := one_kind S.once hf (cellsFrom_mem (PySem.mem_of_lookup q))
      cases this
  have cellK : ∀ {c : Addr} {v : Option Value}, s.heap.IsCell c v → h1.IsCell c v := fun {c v} ⟨o, ho, hd⟩ => ⟨o, kp _ _ ho, hd⟩
  have oldlt : ∀ {y : Str} {c : Addr}, F.cl.lookup y = some c → c < s.heap.objs.size := fun {y c} e => by
    obtain ⟨v, o, ho, _⟩ := (C.all y c e).2
    exact Heap.lt_size ho
  have newgt : ∀ {y : Str} {c : Addr}, (cellsFrom (s.heap.objs.size + 1) F.scope.names []).lookup y = some c → s.heap.objs.size < c := fun {y c} e => x.above y c (PySem.mem_of_lookup e)
  have noA : ∀ b : Addr, b ∉ (NdefX.ncx CX P w K mg base N (allC F s.heap.objs.size) f A outer s H E).ex := fun b z => nomatch (show b ∈ ([] : List Addr) from z)
  have e0f : ∀ b, s.heap.objs.size ≤ b → H b = none := fun b hb => e0.hok.fresh hb
  refine ⟨⟨e0.mod, S.kind, rfl, rfl, Nat.le_refl _, fun y z c h2 h3 => ?_, fun y hy => ?_, (fun y c z _ => by cases (show false = true from z)), (fun _ => hd), Around.frames_deeper e0.frames, .inr ⟨rfl, rfl⟩, (fun b z => absurd z (noA b)), e0.bs, e0.bsz, (fun b _ _ => noA b), (fun b z => absurd z (noA b)), e0.funs, e0.frf⟩,
    rfl, e0.bare, Un.kept kp, ⟨_, x.toInCall.ns, fun i y v e1 e2 e3 => ?_⟩, fun y c e => ?_, e0f _ (Nat.le_refl _), fun y c e => ?_, (fun q hq => nomatch (show q ∈ ([] : List (Addr × Obj)) ++ [] from hq)), e0.hok.kept kp, ?_⟩
  · rcases look h2 with h2 | h2 <;> rcases look h3 with h3 | h3
    · exact name_of_addr x.apart (PySem.mem_of_lookup h2) (PySem.mem_of_lookup h3)
    · exact absurd (newgt h2) (Nat.not_lt_of_le (Nat.le_of_lt (oldlt h3)))
    · exact absurd (newgt h3) (Nat.not_lt_of_le (Nat.le_of_lt (oldlt h2)))
    · exact C.inj y z c h2 h3
  · have hy : F.scope.names.lookup y = some .cell ∨ F.scope.names.lookup y = some .free := hy
    rcases hy with hy | hy
    · obtain ⟨c, e⟩ := cell_has (n := s.heap.objs.size + 1) hy
      exact ⟨c, lookO e⟩
    · have hm := PySem.mem_of_lookup hy
      obtain ⟨i, hi⟩ := List.mem_iff_getElem?.mp (S.free _ hm rfl)
      obtain ⟨c, hc, _⟩ := C.has i y hi
      exact ⟨c, lookC hm hc⟩
  · have e1 : N[i]? = some y := e1
    have clen := C.len
    unfold NdefX.startF at e2
    by_cases q1 : i < ps.length
    · have hq : (ps ++ fr)[i]? = some y := by
        rw [← S.pre, List.getElem?_take_of_lt (by omega)]
        exact e1
      rw [List.getElem?_append_left q1] at hq
      rw [List.getElem?_append_left (by rw [List.length_map]; omega), List.getElem?_map] at e2
      have ha : vs[i]? = some v := by
        cases e : vs[i]? with
        | none => rw [e] at e2; cases e2
        | some a => rw [e] at e2; cases e2; rfl
      obtain ⟨u, hu, rv⟩ := r.get ha
      have ndP : ps.Nodup := by
        have q := S.nd.sublist (List.take_sublist (ps.length + fr.length) N)
        rw [S.pre] at q
        exact (List.nodup_append.mp q).1
      refine ⟨u, rv, ?_⟩
      rcases S.par y (List.mem_of_getElem? hq) with k | k
      · exact .inl ⟨k, bindL_get ndP hq hu k⟩
      · obtain ⟨c, e⟩ := cell_has (n := s.heap.objs.size + 1) k
        refine .inr ⟨.inl k, c, lookO e, ?_⟩
        have q := x.cell y c e
        rw [bindC_get ndP hq hu (by rw [k]; decide)] at q
        exact q
    · rw [List.getElem?_append_right (by rw [List.length_map]; omega), List.length_map] at e2
      by_cases q2 : i < ps.length + fr.length
      · have hq : (ps ++ fr)[i]? = some y := by
          rw [← S.pre, List.getElem?_take_of_lt (by omega)]
          exact e1
        rw [List.getElem?_append_right (by omega)] at hq
        rw [List.getElem?_append_left (by omega), hl] at e2
        obtain ⟨c, hc, hv⟩ := C.has (i - ps.length) y hq
        obtain ⟨u, ru, hu⟩ := hv v e2
        have kf := S.frk y (List.mem_of_getElem? hq)
        exact ⟨u, ru, .inr ⟨.inr kf, c, lookC (PySem.mem_of_lookup kf) hc, cellK hu⟩⟩
      · rw [List.getElem?_append_right (by omega), List.getElem?_replicate] at e2
        split at e2 <;> cases e2
  · rcases look e with e | e
    · exact ⟨_, x.cell y c e⟩
    · obtain ⟨v, z⟩ := (C.all y c e).2
      exact ⟨v, cellK z⟩
  · rcases look e with e | e
    · exact e0f _ (Nat.le_of_lt (newgt e))
    · exact (C.all y c e).1
  · have clen := C.len
    unfold NdefX.startF
    show _ = N.length
    rw [List.length_append, List.length_append, List.length_map, List.length_replicate]
    omega
end
end DV
end
section
set_option Elab.async false
set_option linter.all false
set_option maxRecDepth 100000
set_option maxHeartbeats 4000000
/-! DV36: a def's promise. -/
namespace DV
open PySem PySem.Spec PyProof.Rows L2
section
variable {P : Program} {w : World} {K : PySem.W.Frag} {mg : Str → Option Value} {base : Heap} {G : Gb} {g : Cfg} {T : List Fn} {top : Ct}
/-- what of the top is known wherever a body runs -/
structure Top (P : Program) (K : PySem.W.Frag) (mg : Str → Option Value) (G : Gb) (top : Ct) : Prop where
  fa : ∀ (i : Nat) (x : Str), top.fnm[i]? = some x → x ≠ "" → ∃ a, G.fa i = some a ∧ mg x = some (.ref a) ∧ PySem.W.keepIn K (.ref a) = true
  ca : ∀ (i : Nat) (x : Str), top.cnm[i]? = some x → ∃ a, G.ca i = some a ∧ mg x = some (.ref a)
  cst : ∀ (x : Str) (d : D), (x, d) ∈ top.cst → ∃ v u, atom d = some v ∧ mg x = some u ∧ RelV v u
  bi : ∀ x ∈ top.bi, mg x = none
  lam : top.lam = G.lam
  ek : Ek G top.ers top.cat top.cls top.fl top.anm P K mg
  mkf : top.maker = false
/-- an entry of the table and the def of the text that it is -/
structure EntOk (top : Ct) (F : Fn) (st : Stmt) (ps N : List Str) (mk : Bool) (qu : Str) : Prop where
  sc : FnScope N ps (C8.fnScope st)
  n : F.n = N.length
  p : F.ps = ps.length
  chk : chkSs { top with sc := C8.fnScope st, N := N, fnb := fun _ => true, maker := mk, qual := qu } F.body (C8.fnBody st) = true
theorem start_rs {F : Fz} {κ : List Addr} {M : Mem} {H : Hp} {W : L2.WX} {vs : List V} {ds : List D} {N : List Str} {n : Nat} (R : RM K G F κ M H) (r : Paired (Rvl G base F κ) vs ds) (hn : n = N.length) (hl : ds.length ≤ n) :
    (Fr0.mk K G base F κ H [] W).RS F κ (startE ds n) M (L2.start N vs) H := by
  have hv := Paired.length r
  have hs : ∀ i e, (startE ds n)[i]? = some e → (∃ d, ds[i]? = some d ∧ e = En.fz d) ∨ e = En.un := fun i e h => by
    unfold startE at h
    by_cases q : i < ds.length
    · rw [List.getElem?_append_left (by simpa using q), List.getElem?_map, List.getElem?_eq_getElem q] at h
      cases h
      exact .inl ⟨_, List.getElem?_eq_getElem q, rfl⟩
    · rw [List.getElem?_append_right (by simpa using q), List.getElem?_replicate] at h
      split at h
      · cases h
        exact .inr rfl
      · cases h
  refine ⟨R, Go.refl _ _ _, Nf.refl _ _, R.scr, ?_, fun i e h => ?_, fun i j a e e' h1 h2 _ _ _ _ => ?_, fun a ha => nomatch ha⟩
  · unfold startE L2.start
    simp only [List.length_append, List.length_map, List.length_replicate]
    omega
  · rcases hs i e h with ⟨d, hd, rfl⟩ | rfl
    · obtain ⟨v, hv, rv⟩ := Paired.get r hd
      refine ⟨v, ?_, rv⟩
      unfold L2.start
      rw [List.getElem?_append_left (by simpa using (List.getElem?_eq_some_iff.mp hv).1), List.getElem?_map, hv]
      rfl
    · trivial
  · rcases hs i e h1 with ⟨d, _, rfl⟩ | rfl <;> cases h2
theorem room_two {k : Nat} {A : Around} (r : Room (k + 1) A) (env : Env) : Room k (A.deeper env).in1.in1 :=
  ⟨r.hd, (by have := r.dp; show A.depth + 1 + 3 * k + 5 < _; omega), (by have := r.un; show A.units + 3 + 1 + 1 + 16 * k + 200 < _; omega)⟩
/-- what a maker of lambdas must have -/
def MkOk (base : Heap) (mg : Str → Option Value) (G : Gb) (fd : FuncData) (qu : Str) : Prop := ∃ cc P, fd.code = .ref cc ∧ LamX.TabB base mg cc P ∧ (P, qu ++ "<lambda>") ∈ G.T ∧ ∀ p ∈ G.T, p.1 = P → p.2 = qu ++ "<lambda>"
theorem deeper_guards (A : Around) (env : Env) : (A.deeper env).guards = A.guards := rfl
/-- a def keeps its promise, its callees' promises given -/
theorem fnG_of {n i : Nat} {F : Fn} {x : Str} {st : Stmt} {ps N : List Str} {mk : Bool} {qu : Str} {a : Addr} {fd : FuncData} (tp : Top P K mg G top) (hT : T[i]? = some F) (D : C8.Def K mg x st a fd) (O : EntOk top F st ps N mk qu) (hq : qu = x ++ ".<locals>.") (hmk : mk = true → MkOk base mg G fd qu) (hns : CfgOk g G top)
    (C : ∀ (f : Fr0) (X : Cx), f.K = K → f.G = G → f.B = base → X.prog = P → X.w = w → X.K = K → X.mg = mg → X.base = base → Room n X.A → Room n X.A.in1.in1 → GC f X (callF g T n) top.shp) :
    FnG P w K mg base (L2.CX P w) (n + 1) a fd ps (spD K G base (callF g T (n + 1)) i) := by
  obtain ⟨oc, od, dV, kV, doc, pm, an, cdv, ct, osl, rfl, lk, hcd⟩ := D.fn.ex
  refine ⟨fun A outer s H args us vs Q E hr hg e0 hb hv hsp => ?_⟩
  obtain ⟨F0, κ0, M, ds, R, rv, h⟩ := hsp
  have hl : ds.length = F.ps ∧ True := by
    by_cases z : ds.length = F.ps
    · exact ⟨z, trivial⟩
    · have e : callF g T (n + 1) i ds M = none := by
        show (match T[i]? with
          | some F => _
          | none => none) = _
        rw [hT]
        simp only [if_neg z]
      rw [e] at h
      exact h.elim
  have hl := hl.1
  have hvl : vs.length = ps.length := by rw [Paired.length rv, hl, O.p]
  refine LamX.run_ofS lk hcd O.sc hr e0 hb hv hvl fun hr' => ?_
  let f : Fr0 := ⟨K, G, base, F0, κ0, H, [], fun cls d _ H' => E cls d H'⟩
  let c : Ct := { top with sc := C8.fnScope st, N := N, fnb := fun _ => true, maker := mk, qual := qu }
  have GXx : GX f c (cxOf (L2.CX P w) P w K mg base N x (C8.fnScope st) a cdv A outer s H E) :=
    ⟨rfl, rfl, rfl, rfl, O.sc.nd, rfl, hg, tp.fa, tp.ca, tp.cst, tp.bi, takes_of rfl rfl rfl rfl, (fun _ _ => rfl), hr'.units, tp.lam, tp.ek, fun h => by
      subst hq
      obtain ⟨cc, P, m1, m2, m3, m4⟩ := hmk h
      exact ⟨⟨cc, P, m1, m2, m3, m4⟩, rfl, fun _ => rfl⟩⟩
  have ps' := chkSs_ok (g := g) (φ := callF g T n) F.body GXx (C f _ rfl rfl rfl rfl rfl rfl rfl rfl hr' (room_two hr _)) hns ⟨passes_of rfl, rfl, rfl, rfl⟩ O.chk
  refine ⟨_, ps', F0, κ0, startE ds F.n, M, start_rs R rv O.n (by
    have := congrArg List.length O.sc.pre
    rw [List.length_take] at this
    rw [hl, O.p, O.n]
    omega), ?_⟩
  have e1 : callF g T (n + 1) i ds M = (match sts g (callF g T n) F.body (startE ds F.n) M with
        | some (.ok .nx _ M) => some (.ok .non M)
        | some (.ok (.rt d) _ M) => if lamless d then some (.ok d M) else none
        | some (.exc x _ M) => some (.exc x M)
        | _ => none) := by
    show (match T[i]? with
      | some F => _
      | none => none) = _
    rw [hT]
    simp only [if_pos hl]
    all_goals rfl
  rw [e1] at h
  cases es : sts g (callF g T n) F.body (startE ds F.n) M with
  | none => rw [es] at h; exact h.elim
  | some o =>
    rw [es] at h
    cases o with
    | ok fl ρ' M' =>
      intro F' κ' σ' H' _ _ R'
      have l : LtrK K G F0 κ0 H F' κ' M' H' := ⟨R'.go, R'.m, R'.nf⟩
      cases fl with
      | nx => exact h F' κ' H' .non l rfl
      | rt d =>
        by_cases z : lamless d = true
        · simp only [z, if_true] at h
          exact fun v r => h F' κ' H' v l (Rvl.less r z)
        · simp only [z] at h
          exact h.elim
      | bk => exact h.elim
      | ct => exact h.elim
    | exc x ρ' M' => exact fun F' κ' σ' H' cls dx _ _ R' X => h F' κ' H' cls dx ⟨R'.go, R'.m, R'.nf⟩ X
/-- an entry of the table and the lambda of the text that it is -/
structure LamOk (top : Ct) (F : Fn) (L : LamI) (e : E) (ps N : List Str) : Prop where
  sc : LScope N ps L.fr L.scope
  n : F.n = N.length
  p : F.ps = ps.length + L.fr.length
  b : F.body = [.ret e]
  chk : chk { top with sc := L.scope, N := N, fnb := fun _ => false } (.e .v) e L.body = true
  bind : ∀ (cl : List (Str × Addr)) (pm cv ctv : Value) (us : List Value), us.length = ps.length → bindArgs (PySem.W.kla_fn "<lambda>" L.qual L.params L.body L.scope cl pm cv ctv) ⟨us, []⟩ = pure (ps.zip us)
theorem start_app (N : List Str) (vs cs : List V) : NdefX.startF N vs (cs.map some) = L2.start N (vs ++ cs) := by
  unfold NdefX.startF L2.start
  rw [List.map_append, List.append_assoc, List.length_map, List.length_append, Nat.sub_sub]
theorem callF_ret {n i : Nat} {F : Fn} {e : E} {ds : List D} {M : Mem} (hT : T[i]? = some F) (hb : F.body = [.ret e]) (hl : ds.length = F.ps) : callF g T (n + 1) i ds M = (match ev g (callF g T n) .v e (startE ds F.n) M with
    | some (.ok d _ M) => if lamless d then some (.ok d M) else none
    | some (.exc x _ M) => some (.exc x M)
    | none => none) := by
  show (match T[i]? with
    | some F => _
    | none => none) = _
  rw [hT]
  simp only [if_pos hl, hb, sts, st]
  cases ev g (callF g T n) .v e (startE ds F.n) M with
  | none => rfl
  | some o => cases o <;> rfl
theorem lam_run {n i : Nat} {F : Fn} {L : LamI} {e : E} {ps N : List Str} {a c' : Addr} {cl : List (Str × Addr)} {pm ctv : Value} (tp : Top P K mg G top) (hT : T[i]? = some F) (O : LamOk top F L e ps N) (hns : CfgOk g G top)
    (C : ∀ (f : Fr0) (X : Cx), f.K = K → f.G = G → f.B = base → X.prog = P → X.w = w → X.K = K → X.mg = mg → X.base = base → Room n X.A → Room n X.A.in1.in1 → GC f X (callF g T n) top.shp)
    {A : Around} {outer : List Env} {s : Shared} {H : Hp} {us : List Value} {vs cs : List V} {Q : VK} {E : XK} (hr : Room (n + 1) A) (hg : A.guards = some []) (e0 : Env0 P w K mg base A outer s H)
    (hf : s.heap.get? a = some (PySem.W.kla_obj "<lambda>" L.qual L.params L.body L.scope cl pm c' ctv)) (hc : s.heap.CodeRec (.ref c') L.qual) (CA : NdefX.CellsAt cl L.fr (cs.map some) s.heap H) (r : Vals vs us)
    (hsp : spD K G base (callF g T (n + 1)) i (vs ++ cs) H Q E) : codeAny (model P w) A (.call (.ref a) ⟨us, []⟩) (CR (L2.CX P w) outer P w H s Q E) s := by
  obtain ⟨F0, κ0, M, ds, R, rv, h⟩ := hsp
  have hcs : cs.length = L.fr.length := by have := CA.len; rw [List.length_map] at this; exact this
  have hl : ds.length = F.ps := by
    by_cases z : ds.length = F.ps
    · exact z
    · have e : callF g T (n + 1) i ds M = none := by
        show (match T[i]? with
          | some F => _
          | none => none) = _
        rw [hT]
        simp only [if_neg z]
      rw [e] at h
      exact h.elim
  have hlv : vs.length = ps.length := by
    have := Paired.length rv
    rw [List.length_append, hcs, hl, O.p] at this
    omega
  rw [callF_ret hT O.b hl] at h
  let NFl : NdefX.NF := ⟨"<lambda>", L.qual, L.params, [], L.scope, cl, c'⟩
  let X : Cx := NdefX.ncx (L2.CX P w) P w K mg base N (allC NFl s.heap.objs.size) a A outer s H E
  let f : Fr0 := ⟨K, G, base, F0, κ0, H, [], fun cls d _ H' => E cls d H'⟩
  let c : Ct := { top with sc := L.scope, N := N, fnb := fun _ => false }
  have lim : s.heap.NoLimit := e0.mod.nolimit.keeps fun b o e => (e0.bs b o e).1
  refine PySem.W.kla_callFunE hr.depth hf rfl O.sc.co O.sc.gen rfl hc ?_
  rw [O.bind cl pm (.ref c') ctv us (by rw [← r.length]; exact hlv)]
  refine wpAny_pure (wp_envC O.sc.kind (fun ⟨n, v⟩ hy => ?_) fun s' x => ⟨lim.keeps x.toInCall.keep, ?_⟩)
  · rcases O.sc.par n (List.of_mem_zip hy).1 with q | q
    · exact .inl q
    · exact .inr ⟨q, PySem.W.cellsFrom_some _ _ _ (.inl q)⟩
  show codeAny _ _ (.expr L.body (NdefX.envF (allC NFl s.heap.objs.size) a s.heap.objs.size)) _ _
  have J : Inv X [] (NdefX.startF N vs (cs.map some)) H s' := inv_startL (F := NFl) O.sc hr.hd e0 hlv r CA x
  rw [start_app] at J
  have hr' : Room n X.A := hr.deeper _
  have GXx : GX f c X := ⟨rfl, rfl, rfl, rfl, O.sc.nd, rfl, hg, tp.fa, tp.ca, tp.cst, tp.bi, takes_of rfl rfl rfl rfl, (fun _ h => nomatch h), hr'.units, tp.lam, tp.ek, fun h => by rw [show c.maker = top.maker from rfl, tp.mkf] at h; cases h⟩
  have pe := chk_ok (g := g) (φ := callF g T n) e (w := .e .v) GXx (C f X rfl rfl rfl rfl rfl rfl rfl rfl hr' (room_two hr _)) hns O.chk
  have want : dE f .v (ev g (callF g T n) .v e) (L2.start N (vs ++ cs)) H Q := by
    refine ⟨F0, κ0, startE ds F.n, M, start_rs R rv O.n (by
      have := congrArg List.length O.sc.pre
      rw [List.length_take, List.length_append] at this
      rw [hl, O.p, O.n]
      omega), ?_⟩
    cases es : ev g (callF g T n) .v e (startE ds F.n) M with
    | none => rw [es] at h; exact h.elim
    | some o =>
      rw [es] at h
      cases o with
      | ok d ρ' M' =>
        intro F' κ' H' _ R' v rv
        by_cases z : lamless d = true
        · simp only [z, if_true] at h
          exact h F' κ' H' v ⟨R'.go, R'.m, R'.nf⟩ (Rvl.less rv z)
        · simp only [z] at h
          exact h.elim
      | exc x ρ' M' => exact fun F' κ' H' cls dx _ R' X => h F' κ' H' cls dx ⟨R'.go, R'.m, R'.nf⟩ X
  refine PySem.W.kla_codeExpr (wpAny_mono (pe.run [] _ _ H Q J want) (fun v s' hq => ?_) fun e s' hq => hq)
  obtain ⟨w', H', J', rv', q⟩ := hq
  exact ⟨w', H', J'.os, J'.bare, J'.base, J'.hok, rv', q⟩
/-- one row of the table: a def of the text -/
structure Row where
  i : Nat
  x : Str
  st : Stmt
  ps : List Str
  N : List Str
/-- how a shape is bound -/
structure ShpOk (K : PySem.W.Frag) (fd : FuncData) (ps : List Str) (q : Shp) : Prop where
  ex : ∃ (ds : List Value) (dvs : List V), (∀ (s : Shared) (us ws : List Value), K.In s.heap → us.length = q.p → ws.length = q.ks.length → BindsTo s fd ⟨us, q.ks.zip ws⟩ (ps.zip (us ++ (permV q.pm ws ++ ds)))) ∧ Vals dvs ds ∧ q.dd.map atom = dvs.map some
/-- the whole table -/
structure Tab (P : Program) (w : World) (K : PySem.W.Frag) (mg : Str → Option Value) (G : Gb) (g : Cfg) (T : List Fn) (top : Ct) (cs : List (Addr × Addr)) : Prop where
  tp : Top P K mg G top
  ns : CfgOk g G top
  lam : ∀ i L, G.lam i = some L → ∃ (F : Fn) (e : E) (ps N : List Str), T[i]? = some F ∧ LamOk top F L e ps N
  row : ∀ q ∈ top.shp, ∃ (F : Fn) (st : Stmt) (ps N : List Str) (mk : Bool) (qu : Str) (a : Addr) (fd : FuncData), T[q.i]? = some F ∧ C8.Def K mg q.x st a fd ∧ EntOk top F st ps N mk qu ∧ ShpOk K fd ps q ∧ qu = q.x ++ ".<locals>." ∧
    (mk = true → ∃ cc P, fd.code = .ref cc ∧ (cc, P) ∈ cs ∧ (P, qu ++ "<lambda>") ∈ G.T ∧ ∀ p ∈ G.T, p.1 = P → p.2 = qu ++ "<lambda>")
theorem tabB_up {B B' : Heap} {mg : Str → Option Value} {c P : Addr} (t : LamX.TabB B mg c P) (k : ∀ b o, B.get? b = some o → B'.get? b = some o) : LamX.TabB B' mg c P := ⟨t.code.keeps k, t.bm.keeps k, t.gP⟩
theorem tab_ok {cs : List (Addr × Addr)} (t : Tab P w K mg G g T top cs) (n : Nat) : ∀ (base : Heap) (f : Fr0) (X : Cx), (∀ p ∈ cs, LamX.TabB base mg p.1 p.2) → f.K = K → f.G = G → f.B = base → X.prog = P → X.w = w → X.K = K → X.mg = mg → X.base = base → Room n X.A → Room n X.A.in1.in1 → GC f X (callF g T n) top.shp := by
  have fin : ∀ {n : Nat} {base : Heap} {f : Fr0} {X : Cx}, (∀ p ∈ cs, LamX.TabB base mg p.1 p.2) → f.K = K → f.G = G → f.B = base → X.prog = P → X.w = w → X.K = K → X.mg = mg → X.base = base → Room n X.A → Room n X.A.in1.in1 →
      (∀ (B : Heap) (q : Shp) (F : Fn) (st : Stmt) (ps N : List Str) (mk : Bool) (qu : Str) (a : Addr) (fd : FuncData), (∀ p ∈ cs, LamX.TabB B mg p.1 p.2) → T[q.i]? = some F → C8.Def K mg q.x st a fd → EntOk top F st ps N mk qu → qu = q.x ++ ".<locals>." → (mk = true → MkOk B mg G fd qu) → FnG P w K mg B (L2.CX P w) n a fd ps (spD K G B (callF g T n) q.i)) →
      (∀ (B : Heap) i L, (∀ p ∈ cs, LamX.TabB B mg p.1 p.2) → G.lam i = some L → LamG P w K mg B G B (callF g T n) n i L) → GC f X (callF g T n) top.shp := by
    intro n base f X hb e1 e2 e3 e4 e5 e6 e7 e8 hr hr2 hF hL
    refine ⟨n, hr, fun q hq => ?_, ?_, hr2⟩
    · obtain ⟨F, st, ps, N, mk, qu, a, fd, hT, D, O, S, hqu, hmk⟩ := t.row q hq
      obtain ⟨ds, dvs, hbi, hv, hd⟩ := S.ex
      refine ⟨a, fd, ps, ds, dvs, fun B kB => ?_, by rw [e7]; exact D.mgf, by rw [e6]; exact D.kp, by rw [e6]; exact hbi, hv, hd⟩
      rw [e1, e2, e4, e5, e6, e7]
      have hB : ∀ p ∈ cs, LamX.TabB B mg p.1 p.2 := fun p hp => tabB_up (hb p hp) (by rw [← e3]; exact kB)
      refine hF B q F st ps N mk qu a fd hB hT D O hqu fun h => ?_
      obtain ⟨cc, Pt, m1, m2, m3, m4⟩ := hmk h
      exact ⟨cc, Pt, m1, hB _ m2, m3, m4⟩
    · rw [e2, e3, e4, e5, e6, e7, e8]
      exact fun i L h => hL base i L hb h
  induction n with
  | zero => exact fun base f X hb e1 e2 e3 e4 e5 e6 e7 e8 hr hr2 => fin hb e1 e2 e3 e4 e5 e6 e7 e8 hr hr2 (fun B q F st ps N mk qu a fd _ hT D O _ _ => ⟨fun A outer s H args us vs Q E _ _ _ _ _ ⟨_, _, _, _, _, _, h⟩ => h.elim⟩) fun B i L _ hL => ⟨fun A outer s H a c' cl pm ctv us vs cs Q E _ _ _ _ _ _ _ ⟨_, _, _, _, _, _, h⟩ => h.elim⟩
  | succ n ih =>
    refine fun base f X hb e1 e2 e3 e4 e5 e6 e7 e8 hr hr2 => fin hb e1 e2 e3 e4 e5 e6 e7 e8 hr hr2 (fun B q F st ps N mk qu a fd hB hT D O hqu hmk => fnG_of t.tp hT D O hqu hmk t.ns fun f X => ih B f X hB) fun B i L hB hL => ?_
    obtain ⟨F, e, ps, N, hT, O⟩ := t.lam i L hL
    exact ⟨fun A outer s H a c' cl pm ctv us vs cs Q E hr hg e0 hf hc CA r h => lam_run t.tp hT O t.ns (fun f X => ih B f X hB) hr hg e0 hf hc CA r h⟩
end
end DV
end
section
set_option Elab.async false
set_option linter.all false
set_option maxRecDepth 100000
/-! DV37: the written lambdas of a text, in order. -/
namespace DV
open PySem
abbrev LamX3 := Arguments × Expr × Scope
def lamsX : Nat → Expr → List LamX3
  | 0, _ => []
  | n + 1, x => match x with
    | .Lambda a b s _ => [(a, b, s)]
    | .BoolOp _ xs _ => xs.flatMap (lamsX n)
    | .BinOp l _ r _ => lamsX n l ++ lamsX n r
    | .UnaryOp _ x _ => lamsX n x
    | .IfExp t a b _ => lamsX n a ++ lamsX n t ++ lamsX n b
    | .ListComp e gs _ _ => lamsX n e ++ gs.flatMap fun g => lamsX n g.iter ++ g.ifs.flatMap (lamsX n)
    | .Compare l _ xs _ => lamsX n l ++ xs.flatMap (lamsX n)
    | .Call f xs ks _ => lamsX n f ++ xs.flatMap (lamsX n) ++ ks.flatMap fun k => lamsX n k.value
    | .Attribute x _ _ => lamsX n x
    | .Subscript x i _ => lamsX n x ++ lamsX n i
    | .Starred x _ => lamsX n x
    | .List xs _ => xs.flatMap (lamsX n)
    | .Tuple xs _ _ => xs.flatMap (lamsX n)
    | _ => []
def lamsS : Nat → Stmt → List LamX3
  | 0, _ => []
  | n + 1, s => match s with
    | .Return (some x) _ => lamsX n x
    | .Assign ts v _ => ts.flatMap (lamsX n) ++ lamsX n v
    | .If t a b _ => lamsX n t ++ a.flatMap (lamsS n) ++ b.flatMap (lamsS n)
    | .For t i b e _ => lamsX n t ++ lamsX n i ++ b.flatMap (lamsS n) ++ e.flatMap (lamsS n)
    | .While t b e _ => lamsX n t ++ b.flatMap (lamsS n) ++ e.flatMap (lamsS n)
    | .Expr x _ => lamsX n x
    | _ => []
/-- the def of this name -/
def defOf (x : Str) : List Stmt → Stmt
  | [] => .Pass default
  | s :: r => match s with
    | .FunctionDef n .. => if n = x then s else defOf x r
    | _ => defOf x r
/-- the i-th written lambda of the def x, what it captures -/
def lamIn (body : List Stmt) (x : Str) (i : Nat) (fr : List Str) : Option LamI := match ((C8.fnBody (defOf x body)).flatMap (lamsS 60))[i]? with
  | some (a, b, s) => some ⟨a, b, s, x ++ ".<locals>." ++ "<lambda>", fr⟩
  | none => none
end DV
end
section
set_option Elab.async false
set_option linter.all false
set_option maxRecDepth 100000
set_option maxHeartbeats 2000000
/-! DV38: the law's own call. -/
namespace DV
open PySem PySem.Spec PyProof.Rows L2
section
variable {P : Program} {w : World} {K : PySem.W.Frag} {mg mb : Str → Option Value} {k : Nat} {fa a : Addr} {cs : List (Addr × Addr)} {fd : FuncData} {x : Str} {sp : Sp} {s1 : Shared} {vs : List Value} {ns : List Int}
/-- what the head gives -/
structure HeadH (K : PySem.W.Frag) (mg mb : Str → Option Value) (cs : List (Addr × Addr)) (s1 : Shared) (a : Addr) (vs : List Value) (ns : List Int) : Prop where
  kin : K.In s1.heap
  gns : s1.heap.Ns mainGlobals mg
  b : s1.heap.Ns builtinsNs mb
  bb : ∀ x : Str, x ≠ "__name__" → mb x = bootBuiltins x
  lim : s1.heap.NoLimit
  gens : s1.gens = #[]
  tab : ∀ p ∈ cs, s1.heap.get? p.2 = some { cls := .none, data := .fields #[] }
  ntab : ∀ p ∈ cs, K.lookup p.2 = none
  code : ∀ p ∈ cs, PySem.W.CodeHd s1.heap p.1 p.2
  bm : ∃ (bm : Addr) (ob : Obj), mg "__builtins__" = some (.ref bm) ∧ bm ≠ builtinsNs ∧ s1.heap.get? bm = some ob ∧ ob.cls = .type "module" ∧ ob.dict = some builtinsNs ∧ ob.data = .plain
  arg : s1.heap.get? a = some { cls := .type "list", data := .seq vs.toArray }
  iv : IntsAre vs ns
  few : ns.length ≤ sizeLine
theorem HeadH.isT (h : HeadH K mg mb cs s1 a vs ns) {b : Addr} (hb : b ∈ cs.map (·.2)) : s1.heap.get? b = some { cls := .none, data := .fields #[] } := by
  obtain ⟨p, hp, rfl⟩ := List.mem_map.mp hb
  exact h.tab p hp
theorem HeadH.aT (h : HeadH K mg mb cs s1 a vs ns) : a ∉ cs.map (·.2) := fun z => by
  have q := h.isT z
  rw [h.arg] at q
  cases q
/-- only the script and the tables may be tracked -/
structure OnlyH (K : PySem.W.Frag) (cs : List (Addr × Addr)) (a : Addr) (ns : List Int) (H : Hp) : Prop where
  tab : ∀ p ∈ cs, H p.2 = some (.tbl #[])
  kind : ∀ b, H b = none ∨ b ∈ cs.map (·.2) ∨ ∃ o xs, H b = some (.frz o (.lst xs))
  sq : SqL K H a (ns.map V.int)
  only : ∀ b, H b ≠ none → b = a ∨ b ∈ cs.map (·.2)
  own : H a ≠ none → K.lookup a = none
variable {H : Hp}
theorem only_none (h : HeadH K mg mb cs s1 a vs ns) (O : OnlyH K cs a ns H) {b : Addr} {o : Obj} (e : s1.heap.get? b = some o) (n1 : ∀ us n, o.data ≠ .seq us n) (n2 : o.data ≠ .fields #[]) : H b = none := by
  cases q : H b with
  | none => rfl
  | some u =>
    rcases O.only b (by rw [q]; simp) with z | z
    · rw [z, h.arg] at e
      cases e
      exact (n1 _ _ rfl).elim
    · rw [h.isT z] at e
      cases e
      exact (n2 rfl).elim
theorem dict_none (h : HeadH K mg mb cs s1 a vs ns) (O : OnlyH K cs a ns H) {b : Addr} {o : Obj} {es : Array DictEntry} {ep : Nat} (e : s1.heap.get? b = some o) (d : o.data = .dict es ep) : H b = none :=
  only_none h O e (fun us n z => by rw [d] at z; cases z) fun z => by rw [d] at z; cases z
theorem ns_hid (h : HeadH K mg mb cs s1 a vs ns) (O : OnlyH K cs a ns H) {b : Addr} {m : Str → Option Value} (n : s1.heap.Ns b m) : (hidT s1.heap H).Ns b m := by
  obtain ⟨o, es, ep, e, d, r⟩ := n
  exact ⟨o, es, ep, hidT_get e (dict_none h O e d), d, r⟩
theorem kin_hid (h : HeadH K mg mb cs s1 a vs ns) (O : OnlyH K cs a ns H) : K.In (hidT s1.heap H) := fun b o e => hidT_get (h.kin b o e) (by
  cases q : H b with
  | none => rfl
  | some u =>
    rcases O.only b (by rw [q]; simp) with z | z
    · rw [z] at e q
      rw [O.own (by rw [q]; simp)] at e
      cases e
    · obtain ⟨p, hp, rfl⟩ := List.mem_map.mp z
      rw [h.ntab p hp] at e
      cases e)
theorem mod_hid (h : HeadH K mg mb cs s1 a vs ns) (O : OnlyH K cs a ns H) : L2.Mod K mg (hidT s1.heap H) := by
  obtain ⟨mc, h1, h2⟩ := h.lim
  exact ⟨kin_hid h O, ns_hid h O h.gns, ⟨mb, ns_hid h O h.b, h.bb⟩, mc, ns_hid h O h1, h2⟩
theorem tab_hid (h : HeadH K mg mb cs s1 a vs ns) (O : OnlyH K cs a ns H) : ∀ p ∈ cs, LamX.TabB (hidT s1.heap H) mg p.1 p.2 := fun p hp => by
  have hTp := h.tab p hp
  obtain ⟨og, eg, epg, e0, d0, _⟩ := h.gns
  refine ⟨?_, ?_, fun z => ?_⟩
  · obtain ⟨o, us, file, tf, flags, tg, inF, text, tt, e1, r1, r2, r3, r⟩ := h.code p hp
    refine ⟨o, us, file, tf, flags, tg, inF, text, tt, hidT_get e1 (only_none h O e1 (fun _ _ z => ?_) fun z => ?_), r1, r2, r3, r⟩
    · rw [r2] at z; cases z
    · rw [r2] at z
      cases z
      simp at r3
  · obtain ⟨bm, ob, b1, b2, b3, b4, b5, b6⟩ := h.bm
    refine ⟨bm, ob, b1, b2, fun q => ?_, fun q => ?_, hidT_get b3 (only_none h O b3 (fun _ _ z => ?_) fun z => ?_), b4, b5, b6⟩
    · rw [q, e0] at b3
      cases b3
      rw [d0] at b6
      cases b6
    · rw [q, hTp] at b3
      cases b3
      cases b6
    · rw [b6] at z; cases z
    · rw [b6] at z; cases z
  · rw [z, hTp] at e0
    cases e0
    cases d0
theorem core_call (h : HeadH K mg mb cs s1 a vs ns) (O : OnlyH K cs a ns H) (hok : HOk P w H s1.heap) (hr : Room k callerA) (F : FnG P w K mg (hidT s1.heap H) (L2.CX P w) k fa fd [x] sp) (hbind : ∀ (s : Shared) (u : Value), BindsTo s fd ⟨[u], []⟩ [(x, u)])
    (hsp : sp [.ref a] H (fun v _ => v = .bl true) fun _ _ _ => False) : codeAny (model P w) callerA (.call (.ref fa) ⟨[.ref a], []⟩) (fun r s' => r = .ok (.ret (.bool true)) ∧ OldK s1.heap s'.heap ∧ s'.os = s1.os ∧ AllBare s'.gens) s1 := by
  have e0 : Env0 P w K mg (hidT s1.heap H) callerA [] s1 H := ⟨rfl, mod_hid h O, fun b o e => of_hidT e, Nat.le_of_eq (hidT_size _ _), trivial, (fun b hb => nomatch (show b ∈ ([] : List Addr) from hb)), hok, .of_eq h.gens⟩
  refine codeAny_mono (F.run callerA [] s1 H ⟨[.ref a], []⟩ [.ref a] [.ref a] _ _ hr rfl e0 (hbind s1 (.ref a)) (.cons rfl .nil) hsp) fun r s' hq => ?_
  cases r with
  | error e =>
    obtain ⟨_, _, _, _, _, _, _, _, _, _, _, _, z⟩ := hq
    exact z.elim
  | ok fl =>
    cases fl with
    | next => exact False.elim hq
    | brk => exact False.elim hq
    | cont => exact False.elim hq
    | ret u =>
      obtain ⟨v, H', os, bare, un, hok', r', q⟩ := hq
      cases (show v = .bl true from q)
      cases (show u = Value.bool true from r')
      have key : ∀ b o, b ∉ cs.map (·.2) → s1.heap.get? b = some o → s'.heap.get? b = some o := fun b o nb e => by
        rcases O.kind b with z | z | ⟨ob, xs, z⟩
        · exact un.keep b o e z (fun y => nomatch (show b ∈ ([] : List Addr) from y)) (fun y => nomatch y)
        · exact absurd z nb
        · obtain ⟨e1, _⟩ := hok b _ z
          obtain ⟨e2, _⟩ := hok' b _ (un.frzs b ob _ z)
          rw [e] at e1
          cases e1
          exact e2
      have grown : ∀ p ∈ cs, ∃ more : Array Value, s'.heap.get? p.2 = some { cls := .none, data := .fields more } := fun p hp => by
        obtain ⟨more, z⟩ := un.tbls p.2 #[] (O.tab p hp)
        exact ⟨_, hok' p.2 _ z⟩
      refine ⟨rfl, ⟨fun b o e => ?_, fun b o e => ?_⟩, os, bare⟩
      · by_cases hb : b ∈ cs.map (·.2)
        · obtain ⟨p, hp, rfl⟩ := List.mem_map.mp hb
          obtain ⟨more, hm⟩ := grown p hp
          rw [h.tab p hp] at e
          cases e
          exact .inr (.inl ⟨((h.code p hp).tab (h.tab p hp)).isCodeTable, rfl, #[], more, rfl, by rw [Array.empty_append]; exact hm⟩)
        · exact .inl (key b o hb e)
      · by_cases hb : b ∈ cs.map (·.2)
        · obtain ⟨p, hp, rfl⟩ := List.mem_map.mp hb
          obtain ⟨more, hm⟩ := grown p hp
          exact ⟨_, hm⟩
        · exact ⟨o, key b o hb e⟩
/-- the heap that tells of the script and the tables -/
def startH (K : PySem.W.Frag) (cs : List (Addr × Addr)) (a : Addr) (vs : List Value) (ns : List Int) : Hp := fun b =>
  if b = a ∧ K.lookup a = none then some (.frz { cls := .type "list", data := .seq vs.toArray } (.lst (ns.map V.int))) else if b ∈ cs.map (·.2) then some (.tbl #[]) else none
theorem startH_at (b : Addr) : (b = a ∧ K.lookup a = none ∧ startH K cs a vs ns b = some (.frz { cls := .type "list", data := .seq vs.toArray } (.lst (ns.map V.int)))) ∨ (¬ (b = a ∧ K.lookup a = none) ∧ b ∈ cs.map (·.2) ∧ startH K cs a vs ns b = some (.tbl #[])) ∨ (¬ (b = a ∧ K.lookup a = none) ∧ b ∉ cs.map (·.2) ∧ startH K cs a vs ns b = none) := by
  unfold startH
  by_cases h1 : b = a ∧ K.lookup a = none
  · rw [if_pos h1]
    exact .inl ⟨h1.1, h1.2, rfl⟩
  · rw [if_neg h1]
    by_cases h2 : b ∈ cs.map (·.2)
    · rw [if_pos h2]
      exact .inr (.inl ⟨h1, h2, rfl⟩)
    · rw [if_neg h2]
      exact .inr (.inr ⟨h1, h2, rfl⟩)
theorem startH_only (h : HeadH K mg mb cs s1 a vs ns) : OnlyH K cs a ns (startH K cs a vs ns) := by
  refine ⟨fun p hp => ?_, fun b => ?_, ?_, fun b z => ?_, fun z => ?_⟩
  · have m : p.2 ∈ cs.map (·.2) := List.mem_map.mpr ⟨p, hp, rfl⟩
    rcases startH_at (K := K) (a := a) (vs := vs) (ns := ns) (cs := cs) p.2 with q | q | q
    · exact absurd (q.1 ▸ m) h.aT
    · exact q.2.2
    · exact absurd m q.2.1
  · rcases startH_at (K := K) (a := a) (vs := vs) (ns := ns) (cs := cs) b with q | q | q
    · exact .inr (.inr ⟨_, _, q.2.2⟩)
    · exact .inr (.inl q.2.1)
    · exact .inl q.2.2
  · cases hk : K.lookup a with
    | none =>
      rcases startH_at (K := K) (a := a) (vs := vs) (ns := ns) (cs := cs) a with q | q | q
      · exact .inl (.inr ⟨_, q.2.2⟩)
      · exact absurd ⟨rfl, hk⟩ q.1
      · exact absurd ⟨rfl, hk⟩ q.1
    | some o =>
      have e := h.kin a o hk
      rw [h.arg] at e
      cases e
      exact .inr ⟨_, vs.toArray, _, hk, rfl, rfl, rfl, by rw [List.size_toArray, h.iv.length]; exact h.few, by simpa using vals_ints h.iv⟩
  · rcases startH_at (K := K) (a := a) (vs := vs) (ns := ns) (cs := cs) b with q | q | q
    · exact .inl q.1
    · exact .inr q.2.1
    · exact absurd q.2.2 z
  · rcases startH_at (K := K) (a := a) (vs := vs) (ns := ns) (cs := cs) a with q | q | q
    · exact q.2.1
    · exact absurd q.2.1 h.aT
    · exact absurd q.2.2 z
theorem startH_ok (h : HeadH K mg mb cs s1 a vs ns) : HOk P w (startH K cs a vs ns) s1.heap := fun b u z => by
  rcases startH_at (K := K) (a := a) (vs := vs) (ns := ns) (cs := cs) b with q | q | q
  · rw [q.2.2] at z
    cases z
    rw [q.1]
    exact ⟨h.arg, by rw [List.length_map]; exact h.few, vs, _, vals_ints h.iv, h.arg⟩
  · rw [q.2.2] at z
    cases z
    exact h.isT q.2.1
  · rw [q.2.2] at z
    cases z
/-- what is known of the law's promise at the head's heap -/
def LawG (l : PySem.W.OpenLaw) (w : World) (K : PySem.W.Frag) (k n : Nat) (x : Str) (mg : Str → Option Value) (fa : Addr) (h : Heap) : Prop :=
  ∃ (fd : FuncData) (cs : List (Addr × Addr)), (∀ p ∈ cs, h.get? p.2 = some { cls := .none, data := .fields #[] }) ∧ (∀ p ∈ cs, K.lookup p.2 = none) ∧ (∀ p ∈ cs, PySem.W.CodeHd h p.1 p.2) ∧ (∀ (s : Shared) (u : Value), BindsTo s fd ⟨[u], []⟩ [(x, u)]) ∧
    ∀ (a : Addr) (ns : List Int), ns.length ≤ n → (∀ z ∈ ns, Builtin.Int.intBits z ≤ 1048576) → ∀ base : Heap, K.In base → base.Ns mainGlobals mg → (∀ p ∈ cs, LamX.TabB base mg p.1 p.2) → ∃ sp : Sp, FnG l.prog w K mg base (L2.CX l.prog w) k fa fd [x] sp ∧
      ∀ H : Hp, (∀ p ∈ cs, H p.2 = some (.tbl #[])) → SqL K H a (ns.map V.int) → sp [.ref a] H (fun v _ => v = .bl true) fun _ _ _ => False
theorem walk_G {l : PySem.W.OpenLaw} {n k : Nat} {q : Program} {loose : List Str} {XP : (Str → Option Value) → Heap → Prop} {YP : World → Heap → Prop} {d : DefRec} {x : Str} (hn : l.most = some n) (hn2 : n ≤ sizeLine) (hdf : d.params.defaults = []) (hr : Room k callerA)
    (F : ∀ (w : World) (mg : Str → Option Value) (fa : Addr) (h : Heap), YP w h → h.Ns mainGlobals mg → mg d.name = some (.ref fa) → ∃ K : PySem.W.Frag, K.In h ∧ LawG l w K k n x mg fa h) :
    PySem.W.WalkO q loose XP YP l.row.toRowW d [] (fun f vs => PySem.call f vs) := by
  refine Att.attach_callB hn hdf fun w s0 s1 mg mb fa o pm cd doc a vs ns G Y ho hd hcd hmg hobj hints hlen hbits hg => ?_
  obtain ⟨K, KX, fd, cs, hT, nT, C, hb, hF⟩ := F w mg fa _ Y G.T.g hmg
  have h : HeadH K mg mb cs s1 a vs ns := ⟨KX, G.T.g, G.T.b, G.T.builtins, G.T.nolimit, hg, hT, nT, C, G.T.bmain, hobj, hints, Nat.le_trans hlen hn2⟩
  have O := startH_only h
  obtain ⟨sp, hF, hsp⟩ := hF a ns hlen hbits _ (kin_hid h O) (ns_hid h O G.T.g) (tab_hid h O)
  exact core_call h O (startH_ok h) hr hF hb (hsp _ O.tab O.sq)
end
end DV
end
section
set_option Elab.async false
set_option linter.all false
set_option maxRecDepth 100000
set_option maxHeartbeats 2000000
/-! DV52: the facts of the errors' classes, as a look at the written part. -/
namespace PySem
namespace DVE
open PySem.W PySem.Calls PyProof.Rows PySem.HandSPX
def clsErB (K : Frag) (C : Addr) : Bool := match K.lookup C with
  | some ⟨.type "type", _, .cls cd, sl⟩ => (match cd.mro, sl.toList with
    | .ref C' :: bm, [_, _, _, _, some (.builtin n), _] => C' == C && n == "ValueError.__new__" && !cd.hasDel && cd.hasDict && refsVE bm && decide (alongIn K "__init__" bm = some (some (.builtin "ValueError.__init__"))) && !bm.contains (.ref C)
    | _, _ => false)
  | _ => false
theorem clsErB_ok {K : Frag} {C : Addr} (h : clsErB K C = true) : ∃ nm q N bs bm sn sub ab col dd k0 k1 k2 k3 k5, K.lookup C = some (excClassObj nm q C N bs bm true sn sub ab col dd k0 k1 k2 k3 k5 "ValueError.__new__") ∧ refsVE bm = true ∧ alongIn K "__init__" bm = some (some (.builtin "ValueError.__init__")) ∧ bm.contains (.ref C) = false := by
  unfold clsErB at h
  split at h
  · rename_i dd cd sl ho
    split at h
    · rename_i C' bm k0 k1 k2 k3 n k5 hm hs
      simp only [Bool.and_eq_true, beq_iff_eq, Bool.not_eq_true', decide_eq_true_eq] at h
      obtain ⟨⟨⟨⟨⟨⟨rfl, rfl⟩, hdel⟩, hdict⟩, ht⟩, ha⟩, hc⟩ := h
      obtain ⟨nm, bs, mro, ns, qn, hd, sn, sub, ab, col, del⟩ := cd
      dsimp only at hm hdel hdict
      subst hm hdel hdict
      have hsl : sl = #[k0, k1, k2, k3, some (.builtin "ValueError.__new__"), k5] := by
        obtain ⟨l⟩ := sl
        simp only at hs
        rw [hs]
      subst hsl
      exact ⟨nm, qn, ns, bs, bm, sn, sub, ab, col, dd, k0, k1, k2, k3, k5, ho, ht, ha, hc⟩
    · cases h
  · cases h
/-- the texts of __init__, taken apart -/
def argsOf : Arguments → Option (Str × Pos × Str × Pos)
  | ⟨[], [⟨s, none, p1⟩, ⟨y, none, p2⟩], none, [], [], none, []⟩ => some (s, p1, y, p2)
  | _ => none
theorem argsOf_ok {a : Arguments} {x : Str} {p1 p2 : Pos} (h : argsOf a = some (("self" : Str), p1, x, p2)) : a = iA x p1 p2 := by
  unfold argsOf at h
  split at h
  · cases h
    rfl
  · cases h
def st1Of : Stmt → Option (Str × Pos × Pos × Str × Pos × Str × Nat × Pos × Pos × Pos)
  | .Expr (.Call (.Attribute (.Call (.Name su a1) [] [] a2) ini a3) [.Constant (.str lit) kd a4] [] a5) a6 => some (su, a1, a2, ini, a3, lit, kd, a4, a5, a6)
  | _ => none
theorem st1Of_ok {s : Stmt} {lit : Str} {kd : Nat} {a1 a2 a3 a4 a5 a6 : Pos} (h : st1Of s = some (("super" : Str), a1, a2, ("__init__" : Str), a3, lit, kd, a4, a5, a6)) : s = .Expr (.Call (.Attribute (.Call (.Name "super" a1) [] [] a2) "__init__" a3) [.Constant (.str lit) kd a4] [] a5) a6 := by
  unfold st1Of at h
  split at h
  · cases h
    rfl
  · cases h
def st2Of : Stmt → Option (Str × Pos × Str × Pos × Str × Pos × Pos)
  | .Assign [.Attribute (.Name se b1) y b2] (.Name z b3) b4 => some (se, b1, y, b2, z, b3, b4)
  | _ => none
theorem st2Of_ok {s : Stmt} {x : Str} {b1 b2 b3 b4 : Pos} (h : st2Of s = some (("self" : Str), b1, x, b2, x, b3, b4)) : s = .Assign [.Attribute (.Name "self" b1) x b2] (.Name x b3) b4 := by
  unfold st2Of at h
  split at h
  · cases h
    rfl
  · cases h
def iniB (x : Str) (sc : Scope) : Bool := decide (sc.names.lookup ("self" : Str) = some .local) && decide (sc.names.lookup x = some .local) && decide (sc.names.lookup ("super" : Str) = some .globalImplicit) && decide (sc.names.lookup ("__class__" : Str) = some .free) &&
  (sc.names.all fun y => decide (y.2 ≠ .cell)) && decide (sc.kind = .function) && !sc.isCoroutine && !sc.isGenerator
theorem iniB_ok {x : Str} {sc : Scope} (h : iniB x sc = true) : IniT x sc := by
  simp only [iniB, Bool.and_eq_true, decide_eq_true_eq, Bool.not_eq_true', List.all_eq_true] at h
  obtain ⟨⟨⟨⟨⟨⟨⟨h1, h2⟩, h3⟩, h4⟩, h5⟩, h6⟩, h7⟩, h8⟩ := h
  exact ⟨h1, h2, h3, h4, h5, h6, h7, h8⟩
def fldNames : List Str := ["part", "at", "item", "word", "deal", "regime", "site", "deals"]
theorem er_bind {x : Str} (h : x ∈ fldNames) (qual : Str) (p1 p2 : Pos) (body : List Stmt) (sc : Scope) (doc pm : Value) (an : Option Addr) (cdv ct : Value) (cc : Addr) (s : Shared) (a v : Value) :
    BindsTo s (ksFn "__init__" qual (iA x p1 p2) body sc .none .none doc pm an cdv ct cc) ⟨[a, v], []⟩ [("self", a), (x, v)] := by
  simp only [fldNames, List.mem_cons, List.not_mem_nil, or_false] at h
  rcases h with rfl | rfl | rfl | rfl | rfl | rfl | rfl | rfl <;> exact BindsTo.of_eq (by first | rfl | with_unfolding_all rfl)
def codeFileB (P : Program) (K : Frag) (cd : Value) : Bool := match cd with
  | .ref a => (match K.lookup a with
    | some ⟨_, _, .fields vs, _⟩ => (match (vs[2]? : Option Value) with
      | some (Value.str file _) => (P.main.file : Str) == file
      | _ => false)
    | _ => false)
  | _ => false
def cellB (K : Frag) (C cc : Addr) : Bool := match K.lookup cc with
  | some ⟨_, _, .cell (some (.ref D)), _⟩ => D == C
  | _ => false
def fnErB (P : Program) (K : Frag) (C : Addr) (x : Str) (fd : FuncData) : Bool :=
  decide (fd.name = "__init__") && decide (fd.globals = mainGlobals) && decide (fd.builtins = builtinsNs) && decide (fd.defaults = .none) && decide (fd.kwdefaults = .none) && iniB x fd.scope && codeIn K fd.code fd.qualname && codeFileB P K fd.code &&
  (match argsOf fd.params with
    | some (s, _, y, _) => decide (s = "self") && decide (y = x)
    | none => false) &&
  (match fd.closure with
    | [(n, cc)] => decide (n = "__class__") && cellB K C cc
    | _ => false) &&
  (match fd.body with
    | .stmts [s1, s2] => (match st1Of s1, st2Of s2 with
      | some (su, _, _, ini, a3, _, _, _, a5, _), some (se, _, y, _, z, _, _) => decide (su = "super") && decide (ini = "__init__") && (a3.endLine == a5.line) && decide (se = "self") && decide (y = x) && decide (z = x)
      | _, _ => false)
    | _ => false)
theorem fnErB_ok {P : Program} {K : Frag} {C : Addr} {x : Str} {fd : FuncData} (h : fnErB P K C x fd = true) : ∃ (cc cda : Addr) (qual : Str) (sc : Scope) (doc pm : Value) (an : Option Addr) (ct : Value) (lit : Str) (kd : Nat) (p1 p2 : Pos) (p : Ps), (p.a3.endLine == p.a5.line) = true ∧
    fd = ksFn "__init__" qual (iA x p1 p2) [st1 lit kd p, st2 x p] sc .none .none doc pm an (.ref cda) ct cc ∧ codeIn K (.ref cda) qual = true ∧ IniT x sc ∧
    (∃ ccl cdd vs ccs file tf, K.lookup cda = some ⟨ccl, cdd, .fields vs, ccs⟩ ∧ vs[2]? = some (.str file tf) ∧ ((P.main.file : Str) == file) = true) ∧
    ∃ cl cld csl, K.lookup cc = some ⟨cl, cld, .cell (some (.ref C)), csl⟩ := by
  obtain ⟨n1, n2, n3, n4, n5, n6, n7, n8, n9, n10, n11, n12, n13, n14, n15⟩ := fd
  simp only [fnErB, Bool.and_eq_true, decide_eq_true_eq] at h
  obtain ⟨⟨⟨⟨⟨⟨⟨⟨⟨⟨rfl, rfl⟩, rfl⟩, rfl⟩, rfl⟩, h6⟩, h7⟩, h8⟩, h9⟩, h10⟩, h11⟩ := h
  have ha : ∃ p1 p2, n3 = iA x p1 p2 := by
    split at h9
    · rename_i s p1 y p2 e
      simp only [Bool.and_eq_true, decide_eq_true_eq] at h9
      obtain ⟨rfl, rfl⟩ := h9
      exact ⟨p1, p2, argsOf_ok e⟩
    · cases h9
  obtain ⟨p1, p2, rfl⟩ := ha
  have hc : ∃ cc, n7 = [(("__class__" : Str), cc)] ∧ cellB K C cc = true := by
    split at h10
    · rename_i n cc
      simp only [Bool.and_eq_true, decide_eq_true_eq] at h10
      obtain ⟨rfl, h10⟩ := h10
      exact ⟨cc, rfl, h10⟩
    · cases h10
  obtain ⟨cc, rfl, hcell⟩ := hc
  have hb : ∃ (lit : Str) (kd : Nat) (p : Ps), (p.a3.endLine == p.a5.line) = true ∧ n4 = .stmts [st1 lit kd p, st2 x p] := by
    split at h11
    · rename_i s1 s2
      split at h11
      · rename_i su a1 a2 ini a3 lit kd a4 a5 a6 se b1 y b2 z b3 b4 e1 e2
        simp only [Bool.and_eq_true, decide_eq_true_eq] at h11
        obtain ⟨⟨⟨⟨⟨rfl, rfl⟩, hl⟩, rfl⟩, rfl⟩, rfl⟩ := h11
        exact ⟨lit, kd, ⟨a1, a2, a3, a4, a5, b1, b2, b3, b4, a6⟩, hl, by rw [st1Of_ok e1, st2Of_ok e2]; rfl⟩
      · cases h11
    · cases h11
  obtain ⟨lit, kd, p, hl, rfl⟩ := hb
  have h8' : ∃ cda ccl cdd vs ccs file tf, n13 = .ref cda ∧ K.lookup cda = some ⟨ccl, cdd, .fields vs, ccs⟩ ∧ vs[2]? = some (.str file tf) ∧ ((P.main.file : Str) == file) = true := by
    unfold codeFileB at h8
    split at h8
    · split at h8
      · rename_i e
        split at h8
        · rename_i e2
          exact ⟨_, _, _, _, _, _, _, rfl, e, e2, h8⟩
        · cases h8
      · cases h8
    · cases h8
  obtain ⟨cda, ccl, cdd, vs, ccs, file, tf, rfl, e1, e2, e3⟩ := h8'
  have hcell' : ∃ cl cld csl, K.lookup cc = some ⟨cl, cld, .cell (some (.ref C)), csl⟩ := by
    unfold cellB at hcell
    split at hcell
    · rename_i e
      rw [beq_iff_eq] at hcell
      subst hcell
      exact ⟨_, _, _, e⟩
    · cases hcell
  exact ⟨cc, cda, n2, n5, n10, n11, n12, n14, lit, kd, p1, p2, p, hl, rfl, h7, iniB_ok h6, ⟨ccl, cdd, vs, ccs, file, tf, e1, e2, e3⟩, hcell'⟩
def initAt (K : Frag) (C : Addr) : Addr := match findIn K (.ref C) "__init__" with
  | some (some (.ref f)) => f
  | _ => 0
def erB (P : Program) (K : Frag) (C : Addr) (x : Str) : Bool :=
  clsErB K C && decide (findIn K (.ref C) "__setattr__" = some (some (.builtin "object.__setattr__"))) && decide (findIn K (.ref C) "__getattribute__" = some (some (.builtin "BaseException.__getattribute__"))) && decide (findIn K (.ref C) "__getattr__" = some none) && decide (findIn K (.ref C) x = some none) &&
  keepIn K (.ref C) && decide (subIn K (.ref C) (.type "BaseException") = some true) && decide (subIn K (.ref C) (.type "ValueError") = some true) && decide (mroIn K C (.ref C) = some true) && decide (typeIn K (.ref C) = some (.type "type")) && hasDictIn K C && decide (nsIn K cStatics "thirdparty.any" = some none) &&
  !(P.main.scope.names.lookup ("super" : Str)).isSome && fldNames.contains x && decide (findIn K (.ref C) "__init__" = some (some (.ref (initAt K C)))) && decide (typeIn K (.ref (initAt K C)) = some (.type "function")) &&
  (match K.lookup (initAt K C) with
    | some ⟨_, _, .func fd, _⟩ => fnErB P K C x fd
    | _ => false)
theorem erB_ok {P : Program} {K : Frag} {C : Addr} {x : Str} (h : erB P K C x = true) : ErT P K C x := by
  simp only [erB, Bool.and_eq_true, decide_eq_true_eq, Bool.not_eq_true', List.contains_iff_mem] at h
  obtain ⟨⟨⟨⟨⟨⟨⟨⟨⟨⟨⟨⟨⟨⟨⟨⟨h1, h2⟩, h3⟩, h4⟩, h5⟩, h6⟩, h7⟩, h8⟩, h9⟩, h10⟩, h11⟩, h12⟩, h13⟩, h14⟩, h15⟩, h16⟩, h17⟩ := h
  refine ⟨clsErB_ok h1, h2, h3, h4, h5, h6, h7, h8, h9, h10, h11, h12, h13, ?_, ?_, ?_⟩
  · simp only [fldNames, List.mem_cons, List.not_mem_nil, or_false] at h14
    rcases h14 with rfl | rfl | rfl | rfl | rfl | rfl | rfl | rfl <;> decide
  · simp only [fldNames, List.mem_cons, List.not_mem_nil, or_false] at h14
    rcases h14 with rfl | rfl | rfl | rfl | rfl | rfl | rfl | rfl <;> decide
  · split at h17
    · rename_i oc od fd osl e
      obtain ⟨cc, cda, qual, sc, doc, pm, an, ct, lit, kd, p1, p2, p, hl, rfl, k1, k2, k3, k4⟩ := fnErB_ok h17
      exact ⟨_, cc, cda, oc, od, qual, sc, doc, pm, an, ct, osl, lit, kd, p1, p2, p, hl, h15, h16, e, k1, k2, fun s a v => er_bind h14 _ _ _ _ _ _ _ _ _ _ _ s a v, k3, k4⟩
    · cases h17
def erAB (K : Frag) (C : Addr) (x : Str) : Bool := decide (findIn K (.ref C) "__getattribute__" = some (some (.builtin "BaseException.__getattribute__"))) && decide (findIn K (.ref C) "__getattr__" = some none) && decide (findIn K (.ref C) x = some none) &&
  decide (subIn K (.ref C) (.type "BaseException") = some true) && hasDictIn K C
theorem erAB_ok {K : Frag} {C : Addr} {x : Str} (h : erAB K C x = true) : ErA K C x := by
  simp only [erAB, Bool.and_eq_true, decide_eq_true_eq] at h
  obtain ⟨⟨⟨⟨h1, h2⟩, h3⟩, h4⟩, h5⟩ := h
  exact ⟨h1, h2, h3, h4, h5⟩
def erIB (K : Frag) (C : Addr) : Bool := (clsIn K C).isSome && decide (findIn K (.ref C) "__getattribute__" = some (some (.builtin "BaseException.__getattribute__"))) && decide (findIn K (.ref C) "__getattr__" = some none) && decide (subIn K (.ref C) (.type "BaseException") = some true) &&
  decide (findIn K (.ref C) "__class__" = some (some (.builtin "object.__class__"))) && decide (specialIn K (.builtin "object.__class__") "__get__" = some (some (.builtin "getset_descriptor.__get__"))) && decide (takesIn K (.builtin "object.__class__") = some true) && decide (mroIn K C (.type "object") = some true)
theorem erIB_ok {K : Frag} {C : Addr} (h : erIB K C = true) : ErI K C := by
  simp only [erIB, Bool.and_eq_true, decide_eq_true_eq] at h
  obtain ⟨⟨⟨⟨⟨⟨⟨h1, h2⟩, h3⟩, h4⟩, h5⟩, h6⟩, h7⟩, h8⟩ := h
  exact ⟨h1, h2, h3, h4, h5, h6, h7, h8⟩
end DVE
end PySem
namespace DV
open PySem PySem.Spec PyProof.Rows L2
/-- the fields of the errors' classes -/
def fldOf (fl : List (List Nat)) (anm : List Str) (k : Nat) : List Str := (fl.getD k []).map fun j => anm.getD j ""
/-- what is asked of the errors, of the written part -/
def ekB (P : Program) (cnm : List Str) (ers : List (Nat × Str)) (cat : List Nat) (cls : Cls) (fl : List (List Nat)) (anm : List Str) (K : PySem.W.Frag) : Bool :=
  (ers.all fun p => (match cnm[p.1]? with
    | some n => PySem.DVE.erB P K (He.ga K n) p.2
    | none => false) && decide (fldOf fl anm p.1 = [p.2])) &&
  ((List.range cnm.length).all fun k => (fldOf fl anm k).isEmpty || ((fldOf fl anm k).all (fun x => PySem.DVE.erAB K (He.ga K (cnm.getD k "")) x) && PySem.DVE.erIB K (He.ga K (cnm.getD k "")) &&
    ((List.range cnm.length).all fun j => decide (PySem.W.kitOne K (.ref (He.ga K (cnm.getD k ""))) (.ref (He.ga K (cnm.getD j ""))) = some (below cls k j)) && (!cat.contains j || decide (PySem.W.exmOne K (.ref (He.ga K (cnm.getD k ""))) (.ref (He.ga K (cnm.getD j ""))) = some (below cls k j))))))
theorem ekB_ok {P : Program} {G : Gb} {cnm : List Str} {ers : List (Nat × Str)} {cat : List Nat} {cls : Cls} {fl : List (List Nat)} {anm : List Str} {K : PySem.W.Frag} {mg : Str → Option Value} (hca : ∀ i, G.ca i = (cnm[i]?).map (He.ga K)) (hfl : ∀ k, G.fld k = fldOf fl anm k) (hs : ers ≠ [] → mg "super" = none) (hnd : anm.Nodup)
    (h : ekB P cnm ers cat cls fl anm K = true) : Ek G ers cat cls fl anm P K mg := by
  simp only [ekB, Bool.and_eq_true, List.all_eq_true, Bool.or_eq_true, decide_eq_true_eq, List.mem_range] at h
  obtain ⟨h1, h2⟩ := h
  have get : ∀ {k : Nat} {C : Addr}, G.ca k = some C → k < cnm.length ∧ C = He.ga K (cnm.getD k "") := fun {k C} e => by
    rw [hca] at e
    cases q : cnm[k]? with
    | none => rw [q] at e; cases e
    | some n =>
      rw [q] at e
      cases e
      refine ⟨(List.getElem?_eq_some_iff.mp q).1, ?_⟩
      rw [List.getD_eq_getElem?_getD, q]
      rfl
  have two : ∀ {k : Nat} {C : Addr}, G.fld k ≠ [] → G.ca k = some C → _ := fun {k C} hne e => (h2 k (get e).1).resolve_left (by rw [List.isEmpty_iff, ← hfl]; exact hne)
  refine ⟨hs, fun k x hm => ?_, fun k C x hc hx => ?_, hfl, hnd, fun k j C D hne hj hc hd => ?_, fun k j C D hne hc hd => ?_⟩
  · obtain ⟨q1, q2⟩ := h1 (k, x) hm
    split at q1
    · rename_i n e
      refine ⟨He.ga K n, ?_, PySem.DVE.erB_ok q1, by rw [hfl]; exact q2⟩
      rw [hca, e]
      rfl
    · cases q1
  · have hne : G.fld k ≠ [] := List.ne_nil_of_mem hx
    obtain ⟨⟨q1, q2⟩, q3⟩ := two hne hc
    rw [(get hc).2]
    exact PySem.DVE.erAB_ok (q1 x (by rw [← hfl]; exact hx))
  · obtain ⟨⟨q1, q2⟩, q3⟩ := two hne hc
    rw [(get hc).2, (get hd).2]
    have := (q3 j (get hd).1).2
    simp only [Bool.not_eq_true', List.contains_iff_mem] at this
    rcases this with z | z
    · exact absurd hj (by simpa using z)
    · exact z
  · obtain ⟨⟨q1, q2⟩, q3⟩ := two hne hc
    rw [(get hc).2, (get hd).2]
    exact ⟨PySem.DVE.erIB_ok q2, (q3 j (get hd).1).1⟩
end DV
end
section
set_option Elab.async false
set_option linter.all false
/-! DV53: what the head tells, the statics' table with it. -/
namespace DV
open PySem PySem.Spec PyProof.Rows L2
section
variable (n : Nat) (fa : List He.Fa) (fn : List He.DefD) (tf : List He.Defn) (ex : PySem.W.Frag → Bool)
/-- the written part: from the globals, and the statics -/
def KW (g : Addr → Option Obj) : PySem.W.Frag := He.frT g (cStatics :: He.asD g n)
def lookW (g : Addr → Option Obj) : He.AlX := let K := KW n g; ⟨He.obsT fa fn [] K, (ex K && He.tabsB g tf K)⟩
variable {n fa fn tf ex}
theorem lookW_says {w : World} {h : Heap} (e : lookW n fa fn tf ex h.get? = He.valX fn [] w) : He.SaysX fa fn [] tf ex w h (KW n h.get?) := by
  have e2 := congrArg Prod.snd e
  have e2 : (ex (KW n h.get?) && He.tabsB h.get? tf (KW n h.get?)) = true := e2
  rw [Bool.and_eq_true] at e2
  have one : ∀ q, q ∈ tf → PySem.W.codeHdIn (KW n h.get?) (He.cT (KW n h.get?) q).1 (He.cT (KW n h.get?) q).2 = true ∧ ∃ u, h.get? (He.cT (KW n h.get?) q).2 = some u ∧ He.emptyTab u = true := by
    intro q hq
    have z := e2.2
    unfold He.tabsB at z
    rw [List.all_eq_true] at z
    have z := z q hq
    rw [Bool.and_eq_true] at z
    refine ⟨z.1, ?_⟩
    have z2 := z.2
    split at z2
    · rename_i u hu
      exact ⟨u, hu, z2⟩
    · cases z2
  constructor
  · exact congrArg Prod.fst e
  · exact e2.1
  · intro q hq
    exact (one q hq).1
  · intro q hq
    obtain ⟨_, u, h1, h2⟩ := one q hq
    exact He.frT_none h1 h2
  · intro q hq
    obtain ⟨_, u, h1, h2⟩ := one q hq
    rw [h1, He.emptyTab_eq h2]
variable (n fa fn tf ex)
def hookW : PySem.W.Hook where
  α := He.AlX
  obs := fun s => lookW n fa fn tf ex s.heap.get?
  val := fun w => He.valX fn [] w
  says := fun w h => ∃ K : PySem.W.Frag, K.In h ∧ He.SaysX fa fn [] tf ex w h K
  of := fun w s e => ⟨_, He.frT_in, lookW_says e⟩
  keeps := by
    intro w h h' hs k
    obtain ⟨K, hK, c⟩ := hs
    refine ⟨K, hK.keeps k, c.t, c.more, c.hd, c.out, ?_⟩
    intro q hq
    exact k _ _ (c.empty q hq)
variable {n fa fn tf ex}
theorem lookW_eq {g : Addr → Option Obj} {s : Shared} (h : ∀ a, g a = s.heap.get? a) : lookW n fa fn tf ex g = (hookW n fa fn tf ex).obs s := by
  have e : s.heap.get? = g := funext fun a => (h a).symm
  show _ = lookW n fa fn tf ex s.heap.get?
  rw [e]
end
end DV
end
section
set_option Elab.async false
set_option linter.all false
set_option maxRecDepth 100000
set_option maxHeartbeats 2000000
/-! DV39: from the head's facts to the law. -/
namespace DV
open PySem PySem.Spec PyProof.Rows L2
/-- the def of the text, as the head tells it -/
def datum (x : Str) (st : Stmt) : He.DefD := ⟨(x, none), x, x, C8.fnArgs st, C8.fnBody st, C8.fnScope st, [], []⟩
section
variable {K : PySem.W.Frag} {mg : Str → Option Value} {h : Heap}
theorem def_of {x : Str} {st : Stmt} {fd : FuncData} (F : FunD K x x (C8.fnArgs st) (C8.fnBody st) (C8.fnScope st) [] [] (He.ga K x) fd) (m : mg x = some (.ref (He.ga K x))) : C8.Def K mg x st (He.ga K x) fd := by
  obtain ⟨oc, od, dV, kV, doc, pm, an, cdv, ct, osl, e, lk, hcd, _⟩ := F.ex
  exact ⟨⟨oc, od, dV, kV, doc, pm, an, cdv, ct, osl, e, lk, hcd⟩, m, F.kp⟩
/-- a def of one, two, .. parameters: how it is bound -/
def BindOk (x : Str) (st : Stmt) (ps ks : List Str) (p : Nat) (pmt : List Nat := []) : Prop := ∀ (kV doc pm : Value) (an : Option Addr) (cdv ct : Value) (us ws : List Value), us.length = p → ws.length = ks.length → bindArgs (PySem.W.fnOf x x (C8.fnArgs st) (C8.fnBody st) (C8.fnScope st) .none kV doc pm an cdv ct) ⟨us, ks.zip ws⟩ = pure (ps.zip (us ++ permV pmt ws))
theorem shp_of {x : Str} {st : Stmt} {fd : FuncData} {ps : List Str} {q : Shp} (F : FunD K x x (C8.fnArgs st) (C8.fnBody st) (C8.fnScope st) [] [] (He.ga K x) fd) (hd : q.dd = []) (b : BindOk x st ps q.ks q.p q.pm) : ShpOk K fd ps q := by
  obtain ⟨oc, od, dV, kV, doc, pm, an, cdv, ct, osl, rfl, lk, hcd, hdv, _⟩ := F.ex
  rcases hdv with ⟨_, rfl⟩ | ⟨z, _⟩
  · refine ⟨[], [], fun s us ws _ h1 h2 => ?_, .nil, by rw [hd]; rfl⟩
    rw [List.append_nil]
    exact .of_eq (b kV doc pm an cdv ct us ws h1 h2)
  · exact absurd rfl z
/-- a row of a text: the entry, its parameters and names, whether it makes lambdas -/
structure Rw where
  i : Nat
  x : Str
  ps : List Str
  N : List Str
  mkr : Bool
def rowB (top : Ct) (T : List Fn) (body : List Stmt) (r : Rw) : Bool := match T[r.i]? with
  | some F => C8.scC r.N r.ps (C8.fnScope (defOf r.x body)) && F.n == r.N.length && F.ps == r.ps.length && chkSs { top with sc := C8.fnScope (defOf r.x body), N := r.N, fnb := fun _ => true, maker := r.mkr, qual := r.x ++ ".<locals>." } F.body (C8.fnBody (defOf r.x body))
  | none => false
theorem rowB_ok {top : Ct} {T : List Fn} {body : List Stmt} {r : Rw} (h : rowB top T body r = true) : ∃ F, T[r.i]? = some F ∧ EntOk top F (defOf r.x body) r.ps r.N r.mkr (r.x ++ ".<locals>.") := by
  unfold rowB at h
  cases e : T[r.i]? with
  | none => rw [e] at h; cases h
  | some F =>
    rw [e] at h
    simp only [Bool.and_eq_true, beq_iff_eq] at h
    exact ⟨F, rfl, C8.fnScope_by h.1.1.1, h.1.1.2, h.1.2, h.2⟩
/-- the look at a lambda of the table -/
def lamRowB (top : Ct) (T : List Fn) (L : LamI) (i : Nat) (ps N : List Str) : Bool := match T[i]? with
  | some F => (match F.body with
    | [.ret e] => F.n == N.length && F.ps == ps.length + L.fr.length && chk { top with sc := L.scope, N := N, fnb := fun _ => false } (.e .v) e L.body
    | _ => false)
  | none => false
theorem lamRow_ok {top : Ct} {T : List Fn} {L : LamI} {i : Nat} {ps N : List Str} (h : lamRowB top T L i ps N = true) (sc : LScope N ps L.fr L.scope)
    (b : ∀ (cl : List (Str × Addr)) (pm cv ctv : Value) (us : List Value), us.length = ps.length → bindArgs (PySem.W.kla_fn "<lambda>" L.qual L.params L.body L.scope cl pm cv ctv) ⟨us, []⟩ = pure (ps.zip us)) : ∃ (F : Fn) (e : E) (ps N : List Str), T[i]? = some F ∧ LamOk top F L e ps N := by
  unfold lamRowB at h
  cases e : T[i]? with
  | none => rw [e] at h; cases h
  | some F =>
    rw [e] at h
    simp only [] at h
    split at h
    · rename_i ex hb
      simp only [Bool.and_eq_true, beq_iff_eq] at h
      exact ⟨F, ex, ps, N, rfl, sc, h.1.1, h.1.2, hb, h.2, b⟩
    · cases h
end
/-- where things stand -/
def gbOf (K : PySem.W.Frag) (top : Ct) (mks : List Str) (lam : Nat → Option LamI) (a : Addr) (ns : List Int) : Gb where
  fa := fun i => match top.fnm[i]? with
    | some x => if x = "" then none else some (He.ga K x)
    | none => none
  ca := fun i => (top.cnm[i]?).map (He.ga K)
  ns := ns
  sa := a
  T := mks.map fun x => ((He.cT K (x, none)).2, x ++ ".<locals>." ++ "<lambda>")
  lam := lam
  fld := fldOf top.fl top.anm
/-- all that is asked of a text, once -/
structure Txt (top : Ct) (T : List Fn) (body : List Stmt) (rows : List Rw) (fn : List He.DefD) (fa : List He.Fa) (mks : List Str) (lam : Nat → Option LamI) : Prop where
  tl : top.lam = lam
  mkf : top.maker = false
  cnm : ∀ x ∈ top.cnm, He.Fa.glo x ∈ fa
  nd : top.anm.Nodup
  sup : top.ers ≠ [] → ("super" : Str) ∈ top.bi
  row : ∀ r ∈ rows, rowB top T body r = true
  dat : ∀ r ∈ rows, datum r.x (defOf r.x body) ∈ fn ∧ He.Fa.glo r.x ∈ fa
  shp : ∀ q ∈ top.shp, ∃ r ∈ rows, r.i = q.i ∧ r.x = q.x ∧ q.dd = [] ∧ BindOk r.x (defOf r.x body) r.ps q.ks q.p q.pm
  fnm : ∀ (i : Nat) (x : Str), top.fnm[i]? = some x → x ≠ "" → ∃ r ∈ rows, r.x = x
  bi : ∀ x ∈ top.bi, He.Fa.free x ∈ fa
  cst : ∀ (x : Str) (d : D), (x, d) ∈ top.cst → ∃ i, d = .int i ∧ He.Fa.int x i ∈ fa
  lams : ∀ i L, lam i = some L → ∃ (F : Fn) (e : E) (ps N : List Str), T[i]? = some F ∧ LamOk top F L e ps N
  mkr : ∀ r ∈ rows, r.mkr = true → r.x ∈ mks
/-- the tables are not one another's; the errors' classes -/
def apart (P : Program) (top : Ct) (mks : List Str) (K : PySem.W.Frag) : Bool := decide ((mks.map fun x => (He.cT K (x, none)).2).Nodup) && ekB P top.cnm top.ers top.cat top.cls top.fl top.anm K
theorem nodup_key {α : Type} {f : α → Addr} {g : α → Str} : ∀ {l : List α}, (l.map f).Nodup → ∀ x ∈ l, ∀ p ∈ l.map (fun y => (f y, g y)), p.1 = f x → p.2 = g x := by
  intro l h x hx p hp e
  obtain ⟨y, hy, rfl⟩ := List.mem_map.mp hp
  have e : f y = f x := e
  have : y = x := by
    obtain ⟨i, hi, rfl⟩ := List.getElem_of_mem hx
    obtain ⟨j, hj, rfl⟩ := List.getElem_of_mem hy
    have q := (List.getElem_inj (h₀ := by simpa using hj) (h₁ := by simpa using hi) h).mp (by rw [List.getElem_map, List.getElem_map]; exact e)
    subst q
    rfl
  rw [this]
section
variable {P : Program} {w : World} {K : PySem.W.Frag} {mg : Str → Option Value} {h : Heap} {top : Ct} {T : List Fn} {body : List Stmt} {rows : List Rw} {fn : List He.DefD} {fa : List He.Fa} {mks : List Str} {lam : Nat → Option LamI} {a : Addr} {ns : List Int}
theorem tab_of (t : Txt top T body rows fn fa mks lam) (X : K.In h) (Gn : h.Ns mainGlobals mg) (c : He.SaysD fa fn K) (ap : apart P top mks K = true) : Tab P w K mg (gbOf K top mks lam a ns) { cls := top.cls, fl := top.fl, ns := ns } T top (mks.map fun x => He.cT K (x, none)) := by
  have glo : ∀ r ∈ rows, mg r.x = some (.ref (He.ga K r.x)) ∧ ∃ fd, FunD K r.x r.x (C8.fnArgs (defOf r.x body)) (C8.fnBody (defOf r.x body)) (C8.fnScope (defOf r.x body)) [] [] (He.ga K r.x) fd := fun r hr => by
    obtain ⟨d1, d2⟩ := t.dat r hr
    exact ⟨He.glo_ok X Gn (c.facts d2), c.defs d1⟩
  refine ⟨⟨fun i x hi hx => ?_, fun i x hi => ?_, fun x d hm => ?_, fun x hx => He.free_ok X Gn (c.facts (t.bi x hx)), t.tl, ekB_ok (fun i => rfl) (fun k => rfl) (fun hn => He.free_ok X Gn (c.facts (t.bi _ (t.sup hn)))) t.nd (by unfold apart at ap; rw [Bool.and_eq_true] at ap; exact ap.2), t.mkf⟩, ⟨rfl, rfl, rfl⟩, t.lams, fun q hq => ?_⟩
  · obtain ⟨r, hr, rfl⟩ := t.fnm i x hi hx
    obtain ⟨g1, fd, F⟩ := glo r hr
    refine ⟨He.ga K r.x, ?_, g1, F.kp⟩
    show (match top.fnm[i]? with
      | some x => if x = "" then none else some (He.ga K x)
      | none => none) = _
    rw [hi]
    exact if_neg hx
  · refine ⟨He.ga K x, ?_, He.glo_ok X Gn (c.facts (t.cnm x (List.mem_of_getElem? hi)))⟩
    show (top.cnm[i]?).map (He.ga K) = _
    rw [hi]
    rfl
  · obtain ⟨i, rfl, hf⟩ := t.cst x d hm
    obtain ⟨tk, e⟩ := He.int_ok X Gn (c.facts hf)
    exact ⟨.int i, _, rfl, e, tk, rfl⟩
  · obtain ⟨r, hr, e1, e2, e3, e4⟩ := t.shp q hq
    obtain ⟨F, hT, O⟩ := rowB_ok (t.row r hr)
    obtain ⟨g1, fd, FD⟩ := glo r hr
    rw [← e1, ← e2]
    refine ⟨F, defOf r.x body, r.ps, r.N, r.mkr, r.x ++ ".<locals>.", He.ga K r.x, fd, hT, def_of FD g1, O, shp_of FD e3 e4, rfl, fun hmk => ?_⟩
    have hx := t.mkr r hr hmk
    obtain ⟨oc, od, dV, kV, doc, pm, an, cdv, ct, osl, rfl, lk, hcd, _⟩ := FD.ex
    obtain ⟨cc, rfl⟩ := He.codeIn_ref hcd
    have ec : He.codeOf K (r.x, none) = cc := He.codeOf_eq lk rfl
    refine ⟨cc, (He.cT K (r.x, none)).2, rfl, List.mem_map.mpr ⟨r.x, hx, ?_⟩, List.mem_map.mpr ⟨r.x, hx, rfl⟩, ?_⟩
    · unfold He.cT
      rw [ec]
    · unfold apart at ap
      rw [Bool.and_eq_true, decide_eq_true_eq] at ap
      have ap := ap.1
      exact nodup_key ap r.x hx
theorem rm_start {K : PySem.W.Frag} {G : Gb} {H : Hp} (tb : LamX.Tabs G.T H) (hS : SqL K H G.sa (G.ns.map V.int)) : RM K G (fun _ => none) [] [] H :=
  ⟨(fun _ _ e => by cases e), rfl, List.nodup_nil, (fun _ _ _ e => by cases e), tb, hS, .inl (fun z => by cases z)⟩
/-- the law's promise -/
theorem lawG_of {l : PySem.W.OpenLaw} {n : Nat} {r0 : Rw} {ts : List He.Tab} {x : Str} (t : Txt top T body rows fn fa mks lam) (X : K.In h) (Gn : h.Ns mainGlobals mg) (c : He.SaysX fa fn ts (mks.map fun x => (x, none)) (apart l.prog top mks) w h K) (hr0 : r0 ∈ rows) (hp : r0.ps = [x]) (hb : BindOk r0.x (defOf r0.x body) [x] [] 1)
    {fa' : Addr} (hfa : mg r0.x = some (.ref fa')) (val : ∀ ns : List Int, ns.length ≤ 63 → ∃ M, callF { cls := top.cls, fl := top.fl, ns := ns } T (n + 1) r0.i [.scr] [] = some (.ok (.bl true) M)) : LawG l w K (n + 1) 63 x mg fa' h := by
  have sd := c.t.d
  obtain ⟨d1, d2⟩ := t.dat r0 hr0
  obtain ⟨fd, FD⟩ := sd.defs d1
  have g1 := He.glo_ok X Gn (sd.facts d2)
  have ea : fa' = He.ga K r0.x := by
    rw [hfa] at g1
    cases g1
    rfl
  subst ea
  have S : ShpOk K fd [x] { i := r0.i, x := r0.x, p := 1, ks := [], dd := [] } := shp_of FD rfl hb
  refine ⟨fd, mks.map fun x => He.cT K (x, none), fun p hp => ?_, fun p hp => ?_, fun p hp => ?_, fun s u => ?_, fun a ns hl _ base KB Bn TB => ?_⟩
  · obtain ⟨y, hy, rfl⟩ := List.mem_map.mp hp
    exact c.empty (y, none) (List.mem_map.mpr ⟨y, hy, rfl⟩)
  · obtain ⟨y, hy, rfl⟩ := List.mem_map.mp hp
    exact c.out (y, none) (List.mem_map.mpr ⟨y, hy, rfl⟩)
  · obtain ⟨y, hy, rfl⟩ := List.mem_map.mp hp
    exact PySem.W.codeHd_of_K X (c.hd (y, none) (List.mem_map.mpr ⟨y, hy, rfl⟩))
  · obtain ⟨oc, od, dV, kV, doc, pm, an, cdv, ct, osl, rfl, lk, hcd, hdv, _⟩ := FD.ex
    rcases hdv with ⟨_, rfl⟩ | ⟨z, _⟩
    · exact .of_eq (hb kV doc pm an cdv ct [u] [] rfl rfl)
    · exact absurd rfl z
  · have tb := tab_of (P := l.prog) (w := w) (a := a) (ns := ns) t X Gn sd c.more
    obtain ⟨F, hT, O⟩ := rowB_ok (t.row r0 hr0)
    rw [hp] at O
    have hmk : r0.mkr = true → MkOk base mg (gbOf K top mks lam a ns) fd (r0.x ++ ".<locals>.") := fun hm => by
      have hx := t.mkr r0 hr0 hm
      obtain ⟨oc, od, dV, kV, doc, pm, an, cdv, ct, osl, rfl, lk, hcd, _⟩ := FD.ex
      obtain ⟨cc, rfl⟩ := He.codeIn_ref hcd
      have ec : He.codeOf K (r0.x, none) = cc := He.codeOf_eq lk rfl
      have mm : He.cT K (r0.x, none) ∈ mks.map fun x => He.cT K (x, none) := List.mem_map.mpr ⟨r0.x, hx, rfl⟩
      have tb0 := TB _ mm
      have e1 : (He.cT K (r0.x, none)).1 = cc := ec
      rw [e1] at tb0
      refine ⟨cc, (He.cT K (r0.x, none)).2, rfl, tb0, List.mem_map.mpr ⟨r0.x, hx, rfl⟩, ?_⟩
      have ap := c.more
      unfold apart at ap
      rw [Bool.and_eq_true, decide_eq_true_eq] at ap
      have ap := ap.1
      exact nodup_key ap r0.x hx
    have FG := fnG_of (base := base) tb.tp hT (def_of FD g1) O rfl hmk ⟨rfl, rfl, rfl⟩ fun f X => tab_ok tb n base f X TB
    refine ⟨_, FG, fun H hH hS => ?_⟩
    have tbs : LamX.Tabs (gbOf K top mks lam a ns).T H := fun p hp => by
      obtain ⟨y, hy, rfl⟩ := List.mem_map.mp hp
      exact LamX.TabS.nil (hH (He.cT K (y, none)) (List.mem_map.mpr ⟨y, hy, rfl⟩))
    have rm := rm_start (K := K) (G := gbOf K top mks lam a ns) tbs hS
    obtain ⟨M, e⟩ := val ns hl
    refine ⟨_, [], [], [.scr], rm, .cons (show V.ref a = V.ref a from rfl) .nil, ?_⟩
    rw [e]
    exact fun F' κ' H' v _ r => r
end
end DV
end
section
set_option linter.all false
set_option maxRecDepth 100000
namespace K24
open DV
/-- BadNumber.__init__(self, part) -/
def F0 : Fn := { ps := 2, n := 2, body := [.bad,
    .seta (.var 0) 0 (.var 1)] }
/-- BadLot.__init__(self, part) -/
def F1 : Fn := { ps := 2, n := 2, body := [.bad,
    .seta (.var 0) 0 (.var 1)] }
/-- BadKind.__init__(self, part) -/
def F2 : Fn := { ps := 2, n := 2, body := [.bad,
    .seta (.var 0) 0 (.var 1)] }
/-- BadRegime.__init__(self, part) -/
def F3 : Fn := { ps := 2, n := 2, body := [.bad,
    .seta (.var 0) 0 (.var 1)] }
/-- BadLadder.__init__(self, part) -/
def F4 : Fn := { ps := 2, n := 2, body := [.bad,
    .seta (.var 0) 0 (.var 1)] }
/-- Misfit.__init__(self, part) -/
def F5 : Fn := { ps := 2, n := 2, body := [.bad,
    .seta (.var 0) 0 (.var 1)] }
/-- is_integer(value) -/
def F6 : Fn := { ps := 1, n := 1, body := [.ret (.and (.bi .isi [.var 0, .lit (.ty .int)]) (.not (.bi .isi [.var 0, .lit (.ty .bool)])))] }
/-- is_within(value, least, most) -/
def F7 : Fn := { ps := 3, n := 3, body := [.ife (.not (.call 6 [.var 0])) [.ret (.lit (.bl false))] [],
    .ret (.and (.or (.cmp .is (.var 1) (.lit .non)) (.cmp .ge (.var 0) (.var 1))) (.or (.cmp .is (.var 2) (.lit .non)) (.cmp .le (.var 0) (.var 2))))] }
/-- is_lot(value, many, each, one, other) -/
def F8 : Fn := { ps := 2, n := 5, body := [.ife (.or (.not (.bi .isi [.var 0, .tup [.lit (.ty .list), .lit (.ty .tuple)]])) (.not (.bi .all [.cp (.call 7 [.var 2, .lit (.int 0), .bin .sub (.var 1) (.lit (.int 1))]) (.nm 2) (.var 0) (.lit (.bl true))]))) [.ret (.lit (.bl false))] [],
    .ret (.bi .all [.cp (.cmp .lt (.var 3) (.var 4)) (.tu [.nm 3, .nm 4]) (.zip (.var 0) (.sl (.var 0) (.lit (.int 1)) (.no))) (.lit (.bl true))])] }
/-- need_number(value, part, least, most) -/
def F9 : Fn := { ps := 4, n := 4, body := [.ife (.not (.call 7 [.var 0, .var 2, .var 3])) [.raise 1 [.var 1]] []] }
/-- holds(lot, other, site) -/
def F10 : Fn := { ps := 2, n := 3, body := [.ret (.bi .all [.cp (.cmp .isin (.var 2) (.var 0)) (.nm 2) (.var 1) (.lit (.bl true))])] }
/-- touches(lot, other, site) -/
def F11 : Fn := { ps := 2, n := 3, body := [.ret (.bi .any [.cp (.cmp .isin (.var 2) (.var 0)) (.nm 2) (.var 1) (.lit (.bl true))])] }
/-- by_size(lot) -/
def F12 : Fn := { ps := 1, n := 1, body := [.ret (.tup [.bi .len [.var 0], .var 0])] }
/-- least_in(lots, found, lot, other) -/
def F13 : Fn := { ps := 1, n := 4, body := [.asg (.nm 1) (.lst []),
    .for (.nm 2) (.sortk (.ldk (.var 2) (.lit (.bl true)) (.nm 2) (.var 0) (.lit (.bl true))) (.lit (.fn 12)) false) [.ife (.not (.bi .any [.cp (.call 10 [.var 2, .var 3]) (.nm 3) (.var 1) (.lit (.bl true))])) [.app 1 (.var 2)] []],
    .ret (.bi .tuple [.var 1])] }
/-- lots_below(sites, found, site, lot) -/
def F14 : Fn := { ps := 1, n := 4, body := [.asg (.nm 1) (.lst [.tup []]),
    .for (.nm 2) (.range [.var 0]) [.ext 1 (.cp (.tup [.star (.var 3), .var 2]) (.nm 3) (.var 1) (.lit (.bl true)))],
    .ret (.bi .tuple [.sortk (.var 1) (.lit (.fn 12)) false])] }
/-- is_family_of(value, sites, lots, lot) -/
def F15 : Fn := { ps := 2, n := 4, body := [.ife (.or (.not (.bi .isi [.var 0, .tup [.lit (.ty .list), .lit (.ty .tuple)]])) (.cmp .gt (.bi .len [.var 0]) (.lit (.int 32)))) [.ret (.lit (.bl false))] [],
    .ife (.not (.bi .all [.cp (.call 8 [.var 3, .var 1]) (.nm 3) (.var 0) (.lit (.bl true))])) [.ret (.lit (.bl false))] [],
    .asg (.nm 2) (.bi .tuple [.cp (.bi .tuple [.var 3]) (.nm 3) (.var 0) (.lit (.bl true))]),
    .ret (.cmp .eq (.var 2) (.call 13 [.var 2]))] }
/-- need_sites(value) -/
def F16 : Fn := { ps := 1, n := 1, body := [.ex (.call 9 [.var 0, .lit (.str [115, 105, 116, 101, 115]), .lit (.int 1), .lit (.int 5)])] }
/-- need_any_family(value, part, sites, lot) -/
def F17 : Fn := { ps := 3, n := 4, body := [.ife (.not (.call 15 [.var 0, .var 2])) [.raise 2 [.var 1]] [],
    .ret (.bi .tuple [.cp (.bi .tuple [.var 3]) (.nm 3) (.var 0) (.lit (.bl true))])] }
/-- need_family(value, part, sites, is_empty_let, found) -/
def F18 : Fn := { ps := 4, n := 5, body := [.asg (.nm 4) (.call 17 [.var 0, .var 1, .var 2]),
    .ife (.or (.cmp .eq (.var 4) (.tup [])) (.and (.cmp .eq (.var 4) (.tup [.tup []])) (.not (.var 3)))) [.raise 2 [.var 1]] [],
    .ret (.var 4)] }
/-- is_family(value, sites) -/
def F19 : Fn := { ps := 2, n := 2, body := [.ex (.call 16 [.var 1]),
    .ret (.call 15 [.var 0, .var 1])] }
/-- all_lots(sites) -/
def F20 : Fn := { ps := 1, n := 1, body := [.ex (.call 16 [.var 0]),
    .ret (.call 14 [.var 0])] }
/-- least_of(lots, lot) -/
def F21 : Fn := { ps := 1, n := 2, body := [.ife (.or (.not (.bi .isi [.var 0, .tup [.lit (.ty .list), .lit (.ty .tuple)]])) (.not (.bi .all [.cp (.call 8 [.var 1, .lit (.int 5)]) (.nm 1) (.var 0) (.lit (.bl true))]))) [.raise 2 [.lit (.str [108, 111, 116, 115])]] [],
    .ret (.call 13 [.cp (.bi .tuple [.var 1]) (.nm 1) (.var 0) (.lit (.bl true))])] }
/-- does(family, lot, each) -/
def F22 : Fn := { ps := 2, n := 3, body := [.ret (.bi .any [.cp (.call 10 [.var 1, .var 2]) (.nm 2) (.var 0) (.lit (.bl true))])] }
/-- do_meet(one, other, lot) -/
def F23 : Fn := { ps := 2, n := 3, body := [.ret (.bi .all [.cp (.cmp .is (.call 24 [.var 1, .var 2]) (.lit .non)) (.nm 2) (.var 0) (.lit (.bl true))])] }
/-- apart_from(family, lot, each) -/
def F24 : Fn := { ps := 2, n := 3, body := [.for (.nm 2) (.var 0) [.ife (.not (.call 11 [.var 1, .var 2])) [.ret (.bi .tuple [.var 2])] []],
    .ret (.lit .non)] }
/-- blockers_of(family, sites, lot, each) -/
def F25 : Fn := { ps := 2, n := 4, body := [.ret (.call 13 [.cp (.var 2) (.nm 2) (.call 14 [.var 1]) (.bi .all [.cp (.call 11 [.var 2, .var 3]) (.nm 3) (.var 0) (.lit (.bl true))])])] }
/-- hits(family, sites) -/
def F26 : Fn := { ps := 2, n := 2, body := [.ex (.call 16 [.var 1]),
    .ret (.call 25 [.call 17 [.var 0, .lit (.str [102, 97, 109, 105, 108, 121]), .var 1], .var 1])] }
/-- widened(family, sites, found, more, lot) -/
def F27 : Fn := { ps := 2, n := 5, body := [.ex (.call 16 [.var 1]),
    .asg (.nm 2) (.call 18 [.var 0, .lit (.str [102, 97, 109, 105, 108, 121]), .var 1, .lit (.bl false)]),
    .ife (.not (.call 23 [.var 2, .var 2])) [.raise 6 [.lit (.str [102, 97, 109, 105, 108, 121])]] [],
    .asg (.nm 3) (.cp (.var 4) (.nm 4) (.call 25 [.var 2, .var 1]) (.not (.call 22 [.var 2, .var 4]))),
    .whl (.cmp .ne (.var 3) (.lst [])) [.asg (.nm 2) (.call 13 [.lst [.star (.var 2), .idx (.var 3) (.lit (.int 0))]]), .asg (.nm 3) (.cp (.var 4) (.nm 4) (.call 25 [.var 2, .var 1]) (.not (.call 22 [.var 2, .var 4])))],
    .ret (.var 2)] }
/-- _law_pen(script) -/
def F28 : Fn := { ps := 1, n := 1, body := [.ret (.cell [.bi .list [.sl (.var 0) (.no) (.lit (.int 63))], .lit (.int 0), .lit (.int 0)])] }
/-- _law_draw(pen, many, digit, at, cell, great, blend) -/
def F29 : Fn := { ps := 2, n := 7, body := [.ife (.cmp .gt (.idx (.var 0) (.lit (.int 2))) (.lit (.int 0))) [.asg (.nm 2) (.bin .mod (.bi .int [.idx (.var 0) (.lit (.int 2))]) (.var 1)), .seti (.var 0) (.lit (.int 2)) (.bin .fdiv (.bi .int [.idx (.var 0) (.lit (.int 2))]) (.var 1)), .ret (.var 2)] [],
    .asg (.nm 3) (.idx (.var 0) (.lit (.int 1))),
    .seti (.var 0) (.lit (.int 1)) (.bin .add (.var 3) (.lit (.int 1))),
    .asg (.nm 4) (.bin .add (.bin .mul (.lit (.int 31019)) (.var 3)) (.lit (.int 1721))),
    .ife (.cmp .ne (.idx (.var 0) (.lit (.int 0))) (.lst [])) [.asg (.nm 4) (.idx (.idx (.var 0) (.lit (.int 0))) (.bin .mod (.bi .int [.var 3]) (.bi .len [.idx (.var 0) (.lit (.int 0))])))] [],
    .ife (.and (.cmp .lt (.var 3) (.bi .len [.idx (.var 0) (.lit (.int 0))])) (.cmp .ge (.bi .abs [.var 4]) (.bin .pow (.lit (.int 10)) (.lit (.int 18))))) [.asg (.nm 5) (.bin .add (.bin .mul (.lit (.int 2)) (.bin .sub (.bi .abs [.var 4]) (.bin .pow (.lit (.int 10)) (.lit (.int 18))))) (.bi .int [.cmp .lt (.var 4) (.lit (.int 0))])), .seti (.var 0) (.lit (.int 2)) (.bin .fdiv (.bi .int [.var 5]) (.var 1)), .ret (.bin .mod (.bi .int [.var 5]) (.var 1))] [],
    .asg (.nm 6) (.bin .mod (.bi .int [.bin .pow (.bin .add (.bin .add (.bin .mod (.bi .int [.var 4]) (.lit (.int 2147483549))) (.bin .mul (.lit (.int 31019)) (.var 3))) (.lit (.int 1721))) (.lit (.int 5))]) (.lit (.int 2147483629))),
    .ret (.bin .mod (.bi .int [.bin .fdiv (.var 6) (.lit (.int 64))]) (.var 1))] }
/-- _law_pick(pen, some) -/
def F30 : Fn := { ps := 2, n := 2, body := [.ret (.idx (.var 1) (.call 29 [.var 0, .bi .len [.var 1]]))] }
/-- _law_least(lots, some, found, lot, one, site) -/
def F31 : Fn := { ps := 1, n := 6, body := [.asg (.nm 1) (.sset (.var 0)),
    .asg (.nm 2) (.cp (.var 3) (.nm 3) (.var 1) (.cmp .eq (.cp (.var 4) (.nm 4) (.var 1) (.and (.cmp .ne (.var 4) (.var 3)) (.cmp .eq (.cp (.var 5) (.nm 5) (.var 4) (.cmp .notin (.var 5) (.var 3))) (.lst [])))) (.lst []))),
    .ret (.bi .tuple [.sortk (.var 2) (.lam 40 []) false])] }
/-- _law_all(sites, found, number, site) -/
def F32 : Fn := { ps := 1, n := 4, body := [.asg (.nm 1) (.lst []),
    .for (.nm 2) (.range [.idx (.lst [.lit (.int 1), .lit (.int 2), .lit (.int 4), .lit (.int 8), .lit (.int 16), .lit (.int 32)]) (.var 0)]) [.app 1 (.bi .tuple [.cp (.var 3) (.nm 3) (.range [.var 0]) (.cmp .eq (.bin .mod (.bi .int [.bin .fdiv (.var 2) (.idx (.lst [.lit (.int 1), .lit (.int 2), .lit (.int 4), .lit (.int 8), .lit (.int 16)]) (.var 3))]) (.lit (.int 2))) (.lit (.int 1)))])],
    .ret (.sortk (.var 1) (.lam 41 []) false)] }
/-- _law_word_of(ask, caught, found, error) -/
def F33 : Fn := { ps := 1, n := 4, body := [.par [1, 2] [.lit .non, .lst []],
    .tryas [.ex (.callv 0 [])] 0 (some 3) [.asg (.nm 1) (.var 3)],
    .ife (.cmp .is (.var 1) (.lit .non)) [.ret (.lit .non)] [],
    .ife (.bi .isi [.var 1, .lit (.cls 1)]) [.app 2 (.tup [.lit (.str [110, 117, 109, 98, 101, 114]), .attr (.var 1) 0])] [],
    .ife (.bi .isi [.var 1, .lit (.cls 2)]) [.app 2 (.tup [.lit (.str [108, 111, 116]), .attr (.var 1) 0])] [],
    .ife (.bi .isi [.var 1, .lit (.cls 3)]) [.app 2 (.tup [.lit (.str [107, 105, 110, 100]), .attr (.var 1) 0])] [],
    .ife (.bi .isi [.var 1, .lit (.cls 4)]) [.app 2 (.tup [.lit (.str [114, 101, 103, 105, 109, 101]), .attr (.var 1) 0])] [],
    .ife (.bi .isi [.var 1, .lit (.cls 5)]) [.app 2 (.tup [.lit (.str [108, 97, 100, 100, 101, 114]), .attr (.var 1) 0])] [],
    .ife (.bi .isi [.var 1, .lit (.cls 6)]) [.app 2 (.tup [.lit (.str [109, 105, 115, 102, 105, 116]), .attr (.var 1) 0])] [],
    .ret (.ife (.cmp .eq (.bi .len [.var 2]) (.lit (.int 1))) (.idx (.var 2) (.lit (.int 0))) (.tup [.lit (.str [111, 100, 100])]))] }
/-- _law_odd_lot(pen, sites) -/
def F34 : Fn := { ps := 2, n := 2, body := [.ret (.call 30 [.var 0, .lst [.lit .non, .lit (.int 0), .lit (.str [48, 49]), .tup [.var 1], .tup [.neg (.lit (.int 1))], .tup [.lit (.int 0), .lit (.int 0)], .tup [.lit (.bl true)], .tup [.tup [.lit (.int 0)]], .dict [] [], .tup [.lit (.int 1), .lit (.int 0)]]])] }
/-- _law_odd_family(pen, sites, some) -/
def F35 : Fn := { ps := 2, n := 3, body := [.asg (.nm 2) (.lst [.lit .non, .lit (.int 0), .lit (.str [48]), .dict [] [], .tup [.lit (.int 0)], .tup [.tup [.lit (.int 0)], .tup [.lit (.int 0)]], .tup [.tup [.lit (.int 0)], .tup []], .tup [.tup [], .tup [.lit (.int 0)]], .tup [.tup [.var 1]], .tup [.call 34 [.var 0, .var 1]], .lst [.lst [.lit (.int 0)], .tup [.lit (.int 0), .lit (.int 0)]]]),
    .ife (.cmp .gt (.var 1) (.lit (.int 1))) [.asg (.nm 2) (.bin .add (.var 2) (.lst [.tup [.tup [.lit (.int 1)], .tup [.lit (.int 0)]], .tup [.tup [.lit (.int 0), .lit (.int 1)], .tup [.lit (.int 0)]], .tup [.tup [.lit (.int 0)], .tup [.lit (.int 0), .lit (.int 1)]], .tup [.tup [.tup [.lit (.int 0), .lit (.int 1)]]], .tup [.tup [.lit (.int 1), .lit (.int 0)]]]))] [],
    .ret (.call 30 [.var 0, .var 2])] }
/-- _law_turned(pen, lots, found, lot, at) -/
def F36 : Fn := { ps := 2, n := 5, body := [.asg (.nm 2) (.lst []),
    .for (.nm 3) (.bin .add (.var 1) (.sl (.var 1) (.no) (.call 29 [.var 0, .lit (.int 3)]))) [.asg (.nm 4) (.call 29 [.var 0, .bin .add (.bi .len [.var 2]) (.lit (.int 1))]), .asg (.nm 2) (.bin .add (.bin .add (.sl (.var 2) (.no) (.var 4)) (.lst [.ife (.cmp .eq (.call 29 [.var 0, .lit (.int 2)]) (.lit (.int 0))) (.bi .list [.var 3]) (.var 3)])) (.sl (.var 2) (.var 4) (.no)))],
    .ret (.ife (.cmp .eq (.call 29 [.var 0, .lit (.int 2)]) (.lit (.int 0))) (.var 2) (.bi .tuple [.var 2]))] }
/-- _law_is_family(value, sites, lots, lot) -/
def F37 : Fn := { ps := 2, n := 4, body := [.asg (.nm 2) (.cp (.bi .tuple [.var 3]) (.nm 3) (.var 0) (.lit (.bl true))),
    .ret (.cmp .eq (.bi .tuple [.var 2]) (.call 31 [.var 2]))] }
/-- law(script, pen, turn, sites, lots, due, told, kept, odd, number, heard, one, lot) -/
def F38 : Fn := { ps := 1, n := 13, body := [.asg (.nm 1) (.call 28 [.var 0]),
    .for (.nm 2) (.range [.lit (.int 5)]) [.asg (.nm 3) (.bin .add (.lit (.int 1)) (.call 29 [.var 1, .lit (.int 5)])), .ife (.or (.cmp .ne (.bi .repr [.call 20 [.var 3]]) (.bi .repr [.bi .tuple [.call 32 [.var 3]]])) (.cmp .ne (.bi .repr [.call 20 [.var 3]]) (.bi .repr [.bi .tuple [.call 32 [.var 3]]]))) [.ret (.lit (.bl false))] [], .asg (.nm 4) (.cp (.call 30 [.var 1, .call 32 [.var 3]]) (.nm 11) (.range [.call 29 [.var 1, .lit (.int 8)]]) (.lit (.bl true))), .asg (.nm 5) (.call 31 [.var 4]), .asg (.nm 6) (.call 36 [.var 1, .var 4]), .asg (.nm 7) (.bi .repr [.var 6]), .ife (.or (.cmp .ne (.bi .repr [.call 21 [.var 6]]) (.bi .repr [.var 5])) (.or (.cmp .ne (.bi .repr [.call 21 [.var 6]]) (.bi .repr [.var 5])) (.cmp .ne (.bi .repr [.var 6]) (.var 7)))) [.ret (.lit (.bl false))] [], .ife (.or (.cmp .isnot (.call 19 [.var 5, .var 3]) (.lit (.bl true))) (.cmp .isnot (.callp 19 [.var 3, .cp (.bi .list [.var 12]) (.nm 12) (.var 5) (.lit (.bl true))] [1, 0]) (.lit (.bl true)))) [.ret (.lit (.bl false))] [], .ife (.or (.cmp .ne (.bi .repr [.call 19 [.var 6, .var 3]]) (.bi .repr [.call 37 [.var 6, .var 3]])) (.cmp .isnot (.call 19 [.call 35 [.var 1, .var 3], .var 3]) (.lit (.bl false)))) [.ret (.lit (.bl false))] [], .par [8, 9] [.call 35 [.var 1, .var 3], .call 30 [.var 1, .lst [.lit .non, .lit (.int 0), .lit (.int 6), .lit (.bl true), .lit (.str [50]), .neg (.lit (.int 1)), .tup [.lit (.int 2)], .bin .pow (.lit (.int 10)) (.lit (.int 30))]]], .asg (.nm 10) (.lst [.call 33 [.lam 42 [9]], .call 33 [.lam 43 [8, 9]], .call 33 [.lam 44 [8, 9]]]), .ext 10 (.lst [.call 33 [.lam 45 [8, 9]], .call 33 [.lam 46 [8, 3]], .call 33 [.lam 47 [8, 3]]]), .ife (.cmp .ne (.var 10) (.bin .add (.bin .mul (.lst [.tup [.lit (.str [110, 117, 109, 98, 101, 114]), .lit (.str [115, 105, 116, 101, 115])]]) (.lit (.int 4))) (.bin .mul (.lst [.tup [.lit (.str [108, 111, 116]), .lit (.str [102, 97, 109, 105, 108, 121])]]) (.lit (.int 2))))) [.ret (.lit (.bl false))] [], .asg (.nm 10) (.lst [.call 33 [.lam 48 [3]], .call 33 [.lam 49 [3]], .call 33 [.lam 50 [1]]]), .ife (.or (.cmp .ne (.var 10) (.bin .add (.bin .mul (.lst [.tup [.lit (.str [108, 111, 116]), .lit (.str [102, 97, 109, 105, 108, 121])]]) (.lit (.int 2))) (.lst [.tup [.lit (.str [108, 111, 116]), .lit (.str [108, 111, 116, 115])]]))) (.cmp .ne (.call 33 [.lam 51 [1]]) (.tup [.lit (.str [108, 111, 116]), .lit (.str [108, 111, 116, 115])]))) [.ret (.lit (.bl false))] []],
    .ret (.lit (.bl true))] }
/-- _law_least.<lambda>39(lot) -/
def F39 : Fn := { ps := 1, n := 1, body := [.ret (.tup [.bi .len [.var 0], .var 0])] }
/-- _law_least.<lambda>40(lot) -/
def F40 : Fn := { ps := 1, n := 1, body := [.ret (.tup [.bi .len [.var 0], .var 0])] }
/-- _law_all.<lambda>41(lot) -/
def F41 : Fn := { ps := 1, n := 1, body := [.ret (.tup [.bi .len [.var 0], .var 0])] }
/-- law.<lambda>42(number) -/
def F42 : Fn := { ps := 1, n := 1, body := [.ret (.call 20 [.var 0])] }
/-- law.<lambda>43(odd, number) -/
def F43 : Fn := { ps := 2, n := 2, body := [.ret (.call 19 [.var 0, .var 1])] }
/-- law.<lambda>44(odd, number) -/
def F44 : Fn := { ps := 2, n := 2, body := [.ret (.call 26 [.var 0, .var 1])] }
/-- law.<lambda>45(odd, number) -/
def F45 : Fn := { ps := 2, n := 2, body := [.ret (.call 27 [.var 0, .var 1])] }
/-- law.<lambda>46(odd, sites) -/
def F46 : Fn := { ps := 2, n := 2, body := [.ret (.call 26 [.var 0, .var 1])] }
/-- law.<lambda>47(odd, sites) -/
def F47 : Fn := { ps := 2, n := 2, body := [.ret (.call 27 [.var 0, .var 1])] }
/-- law.<lambda>48(sites) -/
def F48 : Fn := { ps := 1, n := 1, body := [.ret (.call 27 [.tup [], .var 0])] }
/-- law.<lambda>49(sites) -/
def F49 : Fn := { ps := 1, n := 1, body := [.ret (.call 27 [.lst [.tup []], .var 0])] }
/-- law.<lambda>50(pen) -/
def F50 : Fn := { ps := 1, n := 1, body := [.ret (.call 21 [.lst [.call 34 [.var 0, .lit (.int 5)]]])] }
/-- law.<lambda>51(pen) -/
def F51 : Fn := { ps := 1, n := 1, body := [.ret (.call 21 [.call 30 [.var 0, .lst [.lit .non, .lit (.int 5), .lit (.str []), .dict [] []]]])] }
def T : List Fn := [F0, F1, F2, F3, F4, F5, F6, F7, F8, F9, F10, F11, F12, F13, F14, F15, F16, F17, F18, F19, F20, F21, F22, F23, F24, F25, F26, F27, F28, F29, F30, F31, F32, F33, F34, F35, F36, F37, F38, F39, F40, F41, F42, F43, F44, F45, F46, F47, F48, F49, F50, F51]
def cls : Cls := [[0], [1, 0], [2, 0], [3, 0], [4, 0], [5, 0], [6, 0]]
def fl : List (List Nat) := [[], [0], [0], [0], [0], [0], [0]]
end K24
end
section
set_option Elab.async false
set_option linter.all false
set_option maxRecDepth 100000
/-! PL1: families of lots, in plain Lean. -/
namespace PL
open DV
abbrev Lot := List Int
def sub (a b : Lot) : Prop := ∀ x ∈ a, x ∈ b
structure LotOk (m : Int) (a : Lot) : Prop where
  st : a.Pairwise (· < ·)
  bd : ∀ x ∈ a, 0 ≤ x ∧ x < m
def leLen (a b : Lot) : Bool := decide (a.length < b.length ∨ (a.length = b.length ∧ a ≤ b))
def up (f : List Lot) (a : Lot) : Prop := ∃ o ∈ f, sub o a
structure Can (m : Int) (f : List Lot) : Prop where
  srt : f.Pairwise fun a b => leLen a b = true
  nd : f.Nodup
  ok : ∀ a ∈ f, LotOk m a
  anti : ∀ a ∈ f, ∀ b ∈ f, sub a b → a = b
theorem leLen_tr (a b c : Lot) (h : leLen a b = true) (k : leLen b c = true) : leLen a c = true := by
  unfold leLen at *
  rw [decide_eq_true_eq] at *
  rcases h with h | ⟨h, h'⟩ <;> rcases k with k | ⟨k, k'⟩
  · exact .inl (by omega)
  · exact .inl (by omega)
  · exact .inl (by omega)
  · exact .inr ⟨h.trans k, List.le_trans h' k'⟩
theorem leLen_tot (a b : Lot) : (leLen a b || leLen b a) = true := by
  unfold leLen
  rw [Bool.or_eq_true, decide_eq_true_eq, decide_eq_true_eq]
  rcases Nat.lt_trichotomy a.length b.length with h | h | h
  · exact .inl (.inl h)
  · rcases List.le_total a b with k | k
    · exact .inl (.inr ⟨h, k⟩)
    · exact .inr (.inr ⟨h.symm, k⟩)
  · exact .inr (.inl h)
theorem leLen_anti (a b : Lot) (h : leLen a b = true) (k : leLen b a = true) : a = b := by
  unfold leLen at *
  rw [decide_eq_true_eq] at *
  rcases h with h | ⟨h, h'⟩ <;> rcases k with k | ⟨k, k'⟩
  · omega
  · omega
  · omega
  · exact List.le_antisymm h' k'
theorem st_nodup {a : Lot} (h : a.Pairwise (· < ·)) : a.Nodup := h.imp fun h => Int.ne_of_lt h
theorem sub_len : ∀ {a b : Lot}, a.Nodup → sub a b → a.length ≤ b.length
  | [], b, _, _ => Nat.zero_le _
  | x :: a, b, hn, h => by
    obtain ⟨h1, h2⟩ := List.nodup_cons.mp hn
    have hx := h x List.mem_cons_self
    have := sub_len (b := b.erase x) h2 fun y hy => (List.mem_erase_of_ne (by rintro rfl; exact h1 hy)).mpr (h y (List.mem_cons_of_mem _ hy))
    rw [List.length_erase_of_mem hx] at this
    have hb : 0 < b.length := List.length_pos_of_mem hx
    simp only [List.length_cons]
    omega
theorem sub_eq {a b : Lot} (ha : a.Pairwise (· < ·)) (hb : b.Pairwise (· < ·)) (h : sub a b) (k : sub b a) : a = b := by
  have p : a.Perm b := (List.perm_ext_iff_of_nodup (st_nodup ha) (st_nodup hb)).mpr fun x => ⟨h x, k x⟩
  exact p.eq_of_pairwise (le := (· < ·)) (fun x y _ _ h k => by omega) ha hb
theorem sub_eq_len {a b : Lot} (ha : a.Pairwise (· < ·)) (hb : b.Pairwise (· < ·)) (h : sub a b) (l : b.length ≤ a.length) : a = b := by
  refine sub_eq ha hb h fun y hy => ?_
  by_cases q : y ∈ a
  · exact q
  · have := sub_len (b := b.erase y) (st_nodup ha) fun z hz => (List.mem_erase_of_ne (by rintro rfl; exact q hz)).mpr (h z hz)
    rw [List.length_erase_of_mem hy] at this
    have hb : 0 < b.length := List.length_pos_of_mem hy
    omega
/-- canonical families with the same lots above them are one -/
theorem can_uniq {m : Int} {f g : List Lot} (hf : Can m f) (hg : Can m g) (h : ∀ a, LotOk m a → (up f a ↔ up g a)) : f = g := by
  have half : ∀ {f g : List Lot}, Can m f → Can m g → (∀ a, LotOk m a → (up f a ↔ up g a)) → ∀ a ∈ f, a ∈ g := fun {f g} hf hg h a ha => by
    obtain ⟨b, hb, sb⟩ := (h a (hf.ok a ha)).mp ⟨a, ha, fun _ z => z⟩
    obtain ⟨c, hc, sc⟩ := (h b (hg.ok b hb)).mpr ⟨b, hb, fun _ z => z⟩
    have e : c = a := hf.anti c hc a ha fun x hx => sb x (sc x hx)
    subst e
    have e2 : c = b := sub_eq (hf.ok c ha).st (hg.ok b hb).st sc sb
    rw [e2]
    exact hb
  have p : f.Perm g := (List.perm_ext_iff_of_nodup hf.nd hg.nd).mpr fun a => ⟨half hf hg h a, half hg hf (fun a ha => (h a ha).symm) a⟩
  exact p.eq_of_pairwise (le := fun a b => leLen a b = true) (fun a b _ _ h k => leLen_anti a b h k) hf.srt hg.srt
/-! ### the greedy way -/
def subB (a b : Lot) : Bool := a.all fun x => decide (x ∈ b)
theorem subB_iff {a b : Lot} : subB a b = true ↔ sub a b := by
  unfold subB sub
  simp
def greedy : List Lot → List Lot → List Lot
  | acc, [] => acc
  | acc, a :: l => if acc.any (fun o => subB o a) then greedy acc l else greedy (acc ++ [a]) l
theorem greedy_mem : ∀ {l acc : List Lot} {a : Lot}, a ∈ greedy acc l → a ∈ acc ∨ a ∈ l
  | [], acc, a, h => .inl h
  | b :: l, acc, a, h => by
    unfold greedy at h
    split at h
    · rcases greedy_mem h with z | z
      · exact .inl z
      · exact .inr (List.mem_cons_of_mem _ z)
    · rcases greedy_mem h with z | z
      · rcases List.mem_append.mp z with z | z
        · exact .inl z
        · exact .inr (by rw [List.mem_singleton.mp z]; exact List.mem_cons_self)
      · exact .inr (List.mem_cons_of_mem _ z)
theorem greedy_acc : ∀ {l acc : List Lot} {a : Lot}, a ∈ acc → a ∈ greedy acc l
  | [], acc, a, h => h
  | b :: l, acc, a, h => by
    unfold greedy
    split
    · exact greedy_acc h
    · exact greedy_acc (List.mem_append_left _ h)
theorem greedy_up : ∀ {l acc : List Lot} {a : Lot}, a ∈ l → up (greedy acc l) a
  | b :: l, acc, a, h => by
    unfold greedy
    rcases List.mem_cons.mp h with rfl | h
    · split
      · rename_i q
        obtain ⟨o, ho, hs⟩ := List.any_eq_true.mp q
        exact ⟨o, greedy_acc ho, subB_iff.mp hs⟩
      · exact ⟨a, greedy_acc (List.mem_append_right _ List.mem_cons_self), fun _ z => z⟩
    · split <;> exact greedy_up h
theorem greedy_sub : ∀ {l acc : List Lot}, (greedy acc l).Sublist (acc ++ l)
  | [], acc => by rw [List.append_nil]; exact List.Sublist.refl _
  | b :: l, acc => by
    unfold greedy
    split
    · exact greedy_sub.trans (List.Sublist.append (List.Sublist.refl _) (List.sublist_cons_self _ _))
    · have := greedy_sub (l := l) (acc := acc ++ [b])
      rw [List.append_assoc] at this
      exact this
theorem greedy_anti : ∀ {l acc : List Lot}, acc.Pairwise (fun a b => ¬ sub a b) → (greedy acc l).Pairwise fun a b => ¬ sub a b
  | [], acc, h => h
  | b :: l, acc, h => by
    unfold greedy
    split
    · exact greedy_anti h
    · rename_i q
      refine greedy_anti (List.pairwise_append.mpr ⟨h, List.pairwise_singleton _ _, fun x hx y hy => ?_⟩)
      rw [List.mem_singleton.mp hy]
      intro z
      exact q (List.any_eq_true.mpr ⟨x, hx, subB_iff.mpr z⟩)
def minF (ls : List Lot) : List Lot := greedy [] ((nubF [] ls).mergeSort leLen)
theorem mem_nubF {α : Type} [DecidableEq α] {x : α} : ∀ {l acc : List α}, x ∈ nubF acc l ↔ x ∈ acc ∨ x ∈ l
  | [], acc => by simp [nubF]
  | a :: l, acc => by
    unfold nubF
    split
    · rename_i h
      rw [mem_nubF, List.mem_cons]
      constructor
      · rintro (z | z)
        · exact .inl z
        · exact .inr (.inr z)
      · rintro (z | rfl | z)
        · exact .inl z
        · exact .inl h
        · exact .inr z
    · rw [mem_nubF, List.mem_append, List.mem_cons (a := x) (b := a) (l := l), List.mem_singleton, or_assoc]
theorem nodup_nubF {α : Type} [DecidableEq α] : ∀ {l acc : List α}, acc.Nodup → (nubF acc l).Nodup
  | [], acc, h => h
  | a :: l, acc, h => by
    unfold nubF
    split
    · exact nodup_nubF h
    · rename_i q
      refine nodup_nubF (List.nodup_append.mpr ⟨h, List.pairwise_singleton _ _, fun x hx y hy e => ?_⟩)
      rw [List.mem_singleton.mp hy] at e
      rw [e] at hx
      exact q hx
theorem sorted_len (l : List Lot) : (l.mergeSort leLen).Pairwise fun a b => leLen a b = true := List.pairwise_mergeSort leLen_tr leLen_tot l
theorem can_of {m : Int} {s f : List Lot} (hs : s.Pairwise fun a b => leLen a b = true) (hn : s.Nodup) (ho : ∀ a ∈ s, LotOk m a) (hf : f.Sublist s) (ha : f.Pairwise fun a b => ¬ sub a b) : Can m f := by
  have srt := hs.sublist hf
  have nd := hn.sublist hf
  have ok : ∀ a ∈ f, LotOk m a := fun a h => ho a (hf.subset h)
  refine ⟨srt, nd, ok, fun a h b k sb => ?_⟩
  by_cases e : a = b
  · exact e
  · obtain ⟨i, hi, rfl⟩ := List.getElem_of_mem h
    obtain ⟨j, hj, rfl⟩ := List.getElem_of_mem k
    have ne : i ≠ j := fun z => e (by subst z; rfl)
    rcases Nat.lt_or_gt_of_ne ne with lt | gt
    · exact absurd sb (List.pairwise_iff_getElem.mp ha i j hi hj lt)
    · have le := List.pairwise_iff_getElem.mp srt j i hj hi gt
      have hl : f[j].length ≤ f[i].length := by
        unfold leLen at le
        rw [decide_eq_true_eq] at le
        omega
      exact sub_eq_len (ok _ h).st (ok _ k).st sb hl
theorem can_minF {m : Int} {ls : List Lot} (h : ∀ a ∈ ls, LotOk m a) : Can m (minF ls) := by
  have mem : ∀ a, a ∈ (nubF [] ls).mergeSort leLen ↔ a ∈ ls := fun a => by
    rw [List.mem_mergeSort, mem_nubF]
    simp
  refine can_of (sorted_len (nubF [] ls)) ((List.mergeSort_perm _ _).nodup_iff.mpr (nodup_nubF List.nodup_nil)) (fun a ha => h a ((mem a).mp ha)) (by have := greedy_sub (l := (nubF [] ls).mergeSort leLen) (acc := []); rw [List.nil_append] at this; exact this) (greedy_anti List.Pairwise.nil)
theorem up_minF {ls : List Lot} {a : Lot} : up (minF ls) a ↔ up ls a := by
  have mem : ∀ a, a ∈ (nubF [] ls).mergeSort leLen ↔ a ∈ ls := fun a => by
    rw [List.mem_mergeSort, mem_nubF]
    simp
  constructor
  · rintro ⟨o, ho, hs⟩
    rcases greedy_mem ho with z | z
    · cases z
    · exact ⟨o, (mem o).mp z, hs⟩
  · rintro ⟨o, ho, hs⟩
    obtain ⟨b, hb, sb⟩ := greedy_up (acc := []) ((mem o).mpr ho)
    exact ⟨b, hb, fun x hx => hs x (sb x hx)⟩
/-- a canonical family is its own least lots -/
theorem minF_can {m : Int} {f : List Lot} (h : Can m f) : minF f = f := can_uniq (can_minF h.ok) h fun a _ => up_minF
/-! ### the law's own way -/
def minL (ls : List Lot) : List Lot := (((nub ls).mergeSort fun a b => decide (a ≤ b)).filter fun a => ((nub ls).mergeSort fun a b => decide (a ≤ b)).all fun o => decide (o = a) || !subB o a).mergeSort leLen
theorem mem_minL {ls : List Lot} {a : Lot} : a ∈ minL ls ↔ a ∈ ls ∧ ∀ o ∈ ls, sub o a → o = a := by
  unfold minL
  rw [List.mem_mergeSort, List.mem_filter, List.mem_mergeSort, mem_nub, List.all_eq_true]
  refine and_congr_right fun _ => ?_
  constructor
  · intro h o ho s
    have := h o (by rw [List.mem_mergeSort, mem_nub]; exact ho)
    rw [Bool.or_eq_true, decide_eq_true_eq, Bool.not_eq_true'] at this
    rcases this with z | z
    · exact z
    · rw [subB_iff.mpr s] at z
      cases z
  · intro h o ho
    rw [List.mem_mergeSort, mem_nub] at ho
    rw [Bool.or_eq_true, decide_eq_true_eq, Bool.not_eq_true']
    by_cases s : sub o a
    · exact .inl (h o ho s)
    · refine .inr ?_
      cases q : subB o a with
      | false => rfl
      | true => exact absurd (subB_iff.mp q) s
theorem can_minL {m : Int} {ls : List Lot} (h : ∀ a ∈ ls, LotOk m a) : Can m (minL ls) := by
  refine ⟨sorted_len _, ?_, fun a ha => h a (mem_minL.mp ha).1, fun a ha b hb s => (mem_minL.mp hb).2 a (mem_minL.mp ha).1 s⟩
  unfold minL
  refine (List.mergeSort_perm _ _).nodup_iff.mpr (List.Nodup.sublist List.filter_sublist ?_)
  exact (List.mergeSort_perm _ _).nodup_iff.mpr (nodup_nub ls)
theorem up_minL {m : Int} {ls : List Lot} (h : ∀ a ∈ ls, LotOk m a) {a : Lot} : up (minL ls) a ↔ up ls a := by
  constructor
  · rintro ⟨o, ho, hs⟩
    exact ⟨o, (mem_minL.mp ho).1, hs⟩
  · have main : ∀ (n : Nat) (o : Lot), o.length ≤ n → o ∈ ls → ∃ b ∈ minL ls, sub b o := by
      intro n
      induction n with
      | zero =>
        intro o hl ho
        refine ⟨o, mem_minL.mpr ⟨ho, fun p hp sp => ?_⟩, fun _ z => z⟩
        have := sub_len (st_nodup (h p hp).st) sp
        exact sub_eq_len (h p hp).st (h o ho).st sp (by omega)
      | succ n ih =>
        intro o hl ho
        by_cases q : ∀ p ∈ ls, sub p o → p = o
        · exact ⟨o, mem_minL.mpr ⟨ho, q⟩, fun _ z => z⟩
        · have q : ∃ p, p ∈ ls ∧ sub p o ∧ p ≠ o := by
            refine Classical.byContradiction fun z => q fun p hp sp => Classical.byContradiction fun ne => z ⟨p, hp, sp, ne⟩
          obtain ⟨p, hp, sp, ne⟩ := q
          have lt : p.length < o.length := by
            have := sub_len (st_nodup (h p hp).st) sp
            rcases Nat.lt_or_eq_of_le this with z | z
            · exact z
            · exact absurd (sub_eq_len (h p hp).st (h o ho).st sp (by omega)) ne
          obtain ⟨b, hb, sb⟩ := ih p (by omega) hp
          exact ⟨b, hb, fun x hx => sp x (sb x hx)⟩
    rintro ⟨o, ho, hs⟩
    obtain ⟨b, hb, sb⟩ := main o.length o (Nat.le_refl _) ho
    exact ⟨b, hb, fun x hx => hs x (sb x hx)⟩
theorem minL_minF {m : Int} {ls : List Lot} (h : ∀ a ∈ ls, LotOk m a) : minL ls = minF ls := can_uniq (can_minL h) (can_minF h) fun a _ => (up_minL h).trans up_minF.symm
end PL
end
section
set_option Elab.async false
set_option linter.all false
set_option maxRecDepth 100000
/-! PL2: hits, both, either. -/
namespace PL
open DV
/-- all lots of the sites 0 .. m-1 -/
def subs : Nat → List Lot
  | 0 => [[]]
  | n + 1 => subs n ++ (subs n).map fun a => a ++ [(n : Int)]
theorem mem_subs : ∀ {n : Nat} {a : Lot}, a ∈ subs n ↔ LotOk n a
  | 0, a => by
    unfold subs
    rw [List.mem_singleton]
    constructor
    · rintro rfl
      exact ⟨List.Pairwise.nil, fun x hx => nomatch hx⟩
    · intro h
      cases a with
      | nil => rfl
      | cons x a =>
        have := h.bd x List.mem_cons_self
        omega
  | n + 1, a => by
    unfold subs
    rw [List.mem_append, List.mem_map, mem_subs]
    constructor
    · rintro (h | ⟨b, hb, rfl⟩)
      · exact ⟨h.st, fun x hx => by have := h.bd x hx; omega⟩
      · have hb := mem_subs.mp hb
        refine ⟨List.pairwise_append.mpr ⟨hb.st, List.pairwise_singleton _ _, fun x hx y hy => ?_⟩, fun x hx => ?_⟩
        · rw [List.mem_singleton.mp hy]
          exact (hb.bd x hx).2
        · rcases List.mem_append.mp hx with hx | hx
          · have := hb.bd x hx
            omega
          · rw [List.mem_singleton.mp hx]
            omega
    · intro h
      by_cases q : (n : Int) ∈ a
      · right
        obtain ⟨s, t, rfl⟩ := List.append_of_mem q
        have h1 := h.st
        rw [List.pairwise_append] at h1
        obtain ⟨p1, p2, p3⟩ := h1
        have ht : t = [] := by
          cases t with
          | nil => rfl
          | cons y t =>
            have l1 := (List.pairwise_cons.mp p2).1 y List.mem_cons_self
            have l2 := h.bd y (by simp)
            omega
        subst ht
        refine ⟨s, mem_subs.mpr ⟨p1, fun x hx => ?_⟩, rfl⟩
        have l1 := p3 x hx n List.mem_cons_self
        have l2 := h.bd x (List.mem_append_left _ hx)
        omega
      · left
        refine ⟨h.st, fun x hx => ?_⟩
        have l := h.bd x hx
        have : x ≠ n := fun e => q (e ▸ hx)
        omega
theorem nodup_subs : ∀ n : Nat, (subs n).Nodup
  | 0 => by unfold subs; exact List.nodup_cons.mpr ⟨(fun z => nomatch z), List.nodup_nil⟩
  | n + 1 => by
    unfold subs
    refine List.nodup_append.mpr ⟨nodup_subs n, ?_, fun a ha b hb e => ?_⟩
    · refine List.pairwise_map.mpr ((nodup_subs n).imp fun {a b} h e => h ?_)
      exact List.append_cancel_right e
    · subst e
      obtain ⟨c, hc, rfl⟩ := List.mem_map.mp hb
      have := (mem_subs.mp ha).bd n (by simp)
      omega
def allB (n : Nat) : List Lot := (subs n).mergeSort leLen
theorem mem_allB {n : Nat} {a : Lot} : a ∈ allB n ↔ LotOk n a := by
  unfold allB
  rw [List.mem_mergeSort, mem_subs]
/-- whatever lists them once each, sorted -/
theorem all_eq {n : Nat} {l : List Lot} (hn : l.Nodup) (hm : ∀ a, a ∈ l ↔ LotOk n a) : l.mergeSort leLen = allB n := by
  have p : (l.mergeSort leLen).Perm (allB n) := (List.perm_ext_iff_of_nodup ((List.mergeSort_perm _ _).nodup_iff.mpr hn) ((List.mergeSort_perm _ _).nodup_iff.mpr (nodup_subs n))).mpr fun a => by
    rw [List.mem_mergeSort, hm]
    exact mem_allB.symm
  exact p.eq_of_pairwise (le := fun a b => leLen a b = true) (fun a b _ _ h k => leLen_anti a b h k) (sorted_len _) (sorted_len _)
def range (n : Nat) : Lot := (List.range n).map fun (k : Nat) => (k : Int)
def rest (n : Nat) (a : Lot) : Lot := (range n).filter fun x => !decide (x ∈ a)
theorem mem_rest {n : Nat} {a : Lot} {x : Int} : x ∈ rest n a ↔ (0 ≤ x ∧ x < n) ∧ x ∉ a := by
  unfold rest range
  rw [List.mem_filter, List.mem_map]
  simp only [Bool.not_eq_true', decide_eq_false_iff_not, List.mem_range]
  refine and_congr_left fun _ => ?_
  constructor
  · rintro ⟨k, hk, rfl⟩
    omega
  · intro h
    exact ⟨x.toNat, by omega, by omega⟩
theorem rest_ok (n : Nat) (a : Lot) : LotOk n (rest n a) := by
  refine ⟨?_, fun x hx => (mem_rest.mp hx).1⟩
  unfold rest range
  refine List.Pairwise.sublist List.filter_sublist ?_
  exact List.pairwise_map.mpr (List.pairwise_lt_range.imp fun h => by omega)
theorem rest_rest {n : Nat} {a : Lot} (h : LotOk n a) : rest n (rest n a) = a := by
  refine sub_eq (rest_ok n _).st h.st (fun x hx => ?_) fun x hx => ?_
  · rw [mem_rest, mem_rest] at hx
    by_cases q : x ∈ a
    · exact q
    · exact absurd ⟨hx.1, q⟩ hx.2
  · rw [mem_rest, mem_rest]
    exact ⟨h.bd x hx, fun z => z.2 hx⟩
def touB (a b : Lot) : Bool := b.any fun x => decide (x ∈ a)
theorem touB_iff {a b : Lot} : touB a b = true ↔ ∃ x ∈ b, x ∈ a := by
  unfold touB
  simp
theorem tou_rest {n : Nat} {a e : Lot} (he : LotOk n e) : touB a e = true ↔ ¬ sub e (rest n a) := by
  rw [touB_iff]
  constructor
  · rintro ⟨x, hx, ha⟩ s
    exact (mem_rest.mp (s x hx)).2 ha
  · intro h
    refine Classical.byContradiction fun z => h fun x hx => ?_
    exact mem_rest.mpr ⟨he.bd x hx, fun ha => z ⟨x, hx, ha⟩⟩
def hitsF (n : Nat) (f : List Lot) : List Lot := minF ((allB n).filter fun a => f.all fun e => touB a e)
theorem hits_can (n : Nat) (f : List Lot) : Can n (hitsF n f) := can_minF fun a ha => mem_allB.mp (List.mem_filter.mp ha).1
theorem up_hits {n : Nat} {f : List Lot} {a : Lot} (ha : LotOk n a) : up (hitsF n f) a ↔ ∀ e ∈ f, touB a e = true := by
  unfold hitsF
  rw [up_minF]
  constructor
  · rintro ⟨o, ho, s⟩ e he
    have := List.all_eq_true.mp (List.mem_filter.mp ho).2 e he
    rw [touB_iff] at this ⊢
    obtain ⟨x, hx, hxo⟩ := this
    exact ⟨x, hx, s x hxo⟩
  · exact fun h => ⟨a, List.mem_filter.mpr ⟨mem_allB.mpr ha, List.all_eq_true.mpr h⟩, fun _ z => z⟩
theorem up_hits' {n : Nat} {f : List Lot} {a : Lot} (hf : ∀ e ∈ f, LotOk n e) (ha : LotOk n a) : up (hitsF n f) a ↔ ¬ up f (rest n a) := by
  rw [up_hits ha]
  constructor
  · rintro h ⟨e, he, s⟩
    exact (tou_rest (hf e he)).mp (h e he) s
  · exact fun h e he => (tou_rest (hf e he)).mpr fun s => h ⟨e, he, s⟩
theorem hits_hits {n : Nat} {f : List Lot} (h : Can n f) : hitsF n (hitsF n f) = f := can_uniq (hits_can n _) h fun a ha => by
  rw [up_hits' (hits_can n f).ok ha, up_hits' h.ok (rest_ok n a), rest_rest ha, Classical.not_not]
def joinF (a b : Lot) : Lot := (nub (a ++ b)).mergeSort fun x y => decide (x ≤ y)
theorem mem_joinF {a b : Lot} {x : Int} : x ∈ joinF a b ↔ x ∈ a ∨ x ∈ b := by
  unfold joinF
  rw [List.mem_mergeSort, mem_nub, List.mem_append]
theorem joinF_ok {m : Int} {a b : Lot} (ha : LotOk m a) (hb : LotOk m b) : LotOk m (joinF a b) := by
  refine ⟨?_, fun x hx => ?_⟩
  · have h1 : (joinF a b).Pairwise fun x y => decide (x ≤ y) = true := List.pairwise_mergeSort (fun x y z => by simp only [decide_eq_true_eq]; omega) (fun x y => by simp only [Bool.or_eq_true, decide_eq_true_eq]; omega) _
    have h2 : (joinF a b).Nodup := (List.mergeSort_perm _ _).nodup_iff.mpr (nodup_nub _)
    refine (h1.and h2).imp fun {x y} h => ?_
    have := of_decide_eq_true h.1
    have := h.2
    omega
  · rcases mem_joinF.mp hx with h | h
    · exact ha.bd x h
    · exact hb.bd x h
def bothF (f g : List Lot) : List Lot := minF (f.flatMap fun a => g.map fun b => joinF a b)
def eitherF (f g : List Lot) : List Lot := minF (f ++ g)
section
variable {m : Int} {f g h : List Lot}
theorem both_can (hf : ∀ a ∈ f, LotOk m a) (hg : ∀ a ∈ g, LotOk m a) : Can m (bothF f g) := can_minF fun a ha => by
  obtain ⟨b, hb, hc⟩ := List.mem_flatMap.mp ha
  obtain ⟨c, hc2, rfl⟩ := List.mem_map.mp hc
  exact joinF_ok (hf b hb) (hg c hc2)
theorem either_can (hf : ∀ a ∈ f, LotOk m a) (hg : ∀ a ∈ g, LotOk m a) : Can m (eitherF f g) := can_minF fun a ha => (List.mem_append.mp ha).elim (hf a) (hg a)
theorem up_both {a : Lot} : up (bothF f g) a ↔ up f a ∧ up g a := by
  unfold bothF
  rw [up_minF]
  constructor
  · rintro ⟨o, ho, s⟩
    obtain ⟨b, hb, hc⟩ := List.mem_flatMap.mp ho
    obtain ⟨c, hc2, rfl⟩ := List.mem_map.mp hc
    exact ⟨⟨b, hb, fun x hx => s x (mem_joinF.mpr (.inl hx))⟩, c, hc2, fun x hx => s x (mem_joinF.mpr (.inr hx))⟩
  · rintro ⟨⟨b, hb, sb⟩, c, hc, sc⟩
    exact ⟨joinF b c, List.mem_flatMap.mpr ⟨b, hb, List.mem_map.mpr ⟨c, hc, rfl⟩⟩, fun x hx => (mem_joinF.mp hx).elim (sb x) (sc x)⟩
theorem up_either {a : Lot} : up (eitherF f g) a ↔ up f a ∨ up g a := by
  unfold eitherF
  rw [up_minF]
  constructor
  · rintro ⟨o, ho, s⟩
    rcases List.mem_append.mp ho with ho | ho
    · exact .inl ⟨o, ho, s⟩
    · exact .inr ⟨o, ho, s⟩
  · rintro (⟨o, ho, s⟩ | ⟨o, ho, s⟩)
    · exact ⟨o, List.mem_append_left _ ho, s⟩
    · exact ⟨o, List.mem_append_right _ ho, s⟩
theorem hits_both {n : Nat} (hf : Can n f) (hg : Can n g) : hitsF n (bothF f g) = eitherF (hitsF n f) (hitsF n g) :=
  can_uniq (hits_can n _) (either_can (hits_can n f).ok (hits_can n g).ok) fun a ha => by
    rw [up_hits' (both_can hf.ok hg.ok).ok ha, up_both, up_either, up_hits' hf.ok ha, up_hits' hg.ok ha, Classical.not_and_iff_not_or_not]
theorem hits_either {n : Nat} (hf : Can n f) (hg : Can n g) : hitsF n (eitherF f g) = bothF (hitsF n f) (hitsF n g) :=
  can_uniq (hits_can n _) (both_can (hits_can n f).ok (hits_can n g).ok) fun a ha => by
    rw [up_hits' (either_can hf.ok hg.ok).ok ha, up_either, up_both, up_hits' hf.ok ha, up_hits' hg.ok ha, not_or]
theorem both_either (hf : Can m f) (hg : Can m g) (hh : Can m h) : bothF f (eitherF g h) = eitherF (bothF f g) (bothF f h) :=
  can_uniq (both_can hf.ok (either_can hg.ok hh.ok).ok) (either_can (both_can hf.ok hg.ok).ok (both_can hf.ok hh.ok).ok) fun a ha => by
    rw [up_both, up_either, up_either, up_both, up_both, and_or_left]
theorem both_both (hf : Can m f) (hg : Can m g) (hh : Can m h) : bothF (bothF f g) h = bothF f (bothF h g) :=
  can_uniq (both_can (both_can hf.ok hg.ok).ok hh.ok) (both_can hf.ok (both_can hh.ok hg.ok).ok) fun a ha => by
    rw [up_both, up_both, up_both, up_both, and_assoc, and_comm (a := up g a)]
theorem least3 (hf : Can m f) (hg : Can m g) (hh : Can m h) : minF (f ++ g ++ h) = eitherF (eitherF h g) f :=
  can_uniq (can_minF fun a ha => by
    rcases List.mem_append.mp ha with ha | ha
    · rcases List.mem_append.mp ha with ha | ha
      · exact hf.ok a ha
      · exact hg.ok a ha
    · exact hh.ok a ha) (either_can (either_can hh.ok hg.ok).ok hf.ok) fun a ha => by
    rw [up_either, up_either, show minF (f ++ g ++ h) = eitherF (f ++ g) h from rfl, up_either]
    have e : up (f ++ g) a ↔ up f a ∨ up g a := by rw [← up_minF, show minF (f ++ g) = eitherF f g from rfl, up_either]
    rw [e]
    constructor
    · rintro ((x | x) | x)
      · exact .inr x
      · exact .inl (.inr x)
      · exact .inl (.inl x)
    · rintro ((x | x) | x)
      · exact .inr x
      · exact .inl (.inr x)
      · exact .inl (.inl x)
end
end PL
end
section
set_option Elab.async false
set_option linter.all false
set_option maxRecDepth 100000
/-! PL14: families that meet themselves, widened. -/
namespace PL
open DV
theorem mem_minF {ls : List Lot} {a : Lot} (h : a ∈ minF ls) : a ∈ ls := by
  unfold minF at h
  rcases greedy_mem h with z | z
  · cases z
  · rw [List.mem_mergeSort, mem_nubF] at z
    exact z.resolve_left fun y => nomatch y
theorem touB_comm (a b : Lot) : touB a b = touB b a := by
  have h : touB a b = true ↔ touB b a = true := by
    rw [touB_iff, touB_iff]
    exact ⟨fun ⟨x, h1, h2⟩ => ⟨x, h2, h1⟩, fun ⟨x, h1, h2⟩ => ⟨x, h2, h1⟩⟩
  cases h1 : touB a b <;> cases h2 : touB b a <;> simp_all
theorem touB_nil (a : Lot) : touB a [] = false := rfl
theorem touB_self {a : Lot} : touB a a = true ↔ a ≠ [] := by
  rw [touB_iff]
  constructor
  · rintro ⟨x, h, _⟩ rfl
    cases h
  · intro h
    cases a with
    | nil => exact absurd rfl h
    | cons x a => exact ⟨x, List.mem_cons_self, List.mem_cons_self⟩
theorem touB_up {a b c : Lot} (h : touB a b = true) (s : sub a c) : touB c b = true := by
  rw [touB_iff] at h ⊢
  obtain ⟨x, h1, h2⟩ := h
  exact ⟨x, h1, s x h2⟩
/-- a family that meets itself -/
structure Mt (k : Nat) (f : List Lot) : Prop where
  can : Can k f
  ne : f ≠ []
  me : ∀ a ∈ f, ∀ b ∈ f, touB a b = true
section
variable {k : Nat} {f : List Lot} {a b : Lot}
theorem Mt.full (h : Mt k f) (m : a ∈ f) : a ≠ [] := touB_self.mp (h.me a m a m)
theorem Mt.one (h : Mt k f) : f ≠ [[]] := fun e => h.full (a := []) (by rw [e]; exact List.mem_singleton.mpr rfl) rfl
def doesB (f : List Lot) (a : Lot) : Bool := f.any fun e => subB e a
theorem doesB_iff : doesB f a = true ↔ up f a := by
  unfold doesB up
  rw [List.any_eq_true]
  exact ⟨fun ⟨x, h1, h2⟩ => ⟨x, h1, subB_iff.mp h2⟩, fun ⟨x, h1, h2⟩ => ⟨x, h1, subB_iff.mpr h2⟩⟩
def moreF (k : Nat) (f : List Lot) : List Lot := (hitsF k f).filter fun a => !doesB f a
theorem more_mem (h : a ∈ moreF k f) : a ∈ hitsF k f ∧ ¬ up f a := by
  unfold moreF at h
  rw [List.mem_filter, Bool.not_eq_true', ← Bool.not_eq_true, doesB_iff] at h
  exact h
theorem more_tou (h : a ∈ moreF k f) (hb : b ∈ f) : touB a b = true := by
  have h1 := (more_mem h).1
  exact (up_hits ((hits_can k f).ok a h1)).mp ⟨a, h1, fun _ z => z⟩ b hb
theorem step_mt (h : Mt k f) (ha : a ∈ moreF k f) : Mt k (minF (f ++ [a])) := by
  have h1 := (more_mem ha).1
  have ao := (hits_can k f).ok a h1
  have ok : ∀ x ∈ f ++ [a], LotOk k x := fun x hx => by
    rcases List.mem_append.mp hx with hx | hx
    · exact h.can.ok x hx
    · rw [List.mem_singleton.mp hx]
      exact ao
  have aa : touB a a = true := by
    rw [touB_self]
    rintro rfl
    cases f with
    | nil => exact h.ne rfl
    | cons e f =>
      have := more_tou ha (b := e) List.mem_cons_self
      rw [touB_comm, touB_nil] at this
      cases this
  refine ⟨can_minF ok, fun e => ?_, fun x hx y hy => ?_⟩
  · have : up (minF (f ++ [a])) a := up_minF.mpr ⟨a, List.mem_append_right _ (List.mem_singleton.mpr rfl), fun _ z => z⟩
    rw [e] at this
    obtain ⟨_, z, _⟩ := this
    cases z
  · rcases List.mem_append.mp (mem_minF hx) with hx | hx <;> rcases List.mem_append.mp (mem_minF hy) with hy | hy
    · exact h.me x hx y hy
    · rw [List.mem_singleton.mp hy, touB_comm]
      exact more_tou ha hx
    · rw [List.mem_singleton.mp hx]
      exact more_tou ha hy
    · rw [List.mem_singleton.mp hx, List.mem_singleton.mp hy]
      exact aa
theorem step_up (h : up f b) : up (minF (f ++ [a])) b := by
  rw [up_minF]
  obtain ⟨o, h1, h2⟩ := h
  exact ⟨o, List.mem_append_left _ h1, h2⟩
theorem step_new : up (minF (f ++ [a])) a := by
  rw [up_minF]
  exact ⟨a, List.mem_append_right _ (List.mem_singleton.mpr rfl), fun _ z => z⟩
/-- how many lots do not do -/
def cnt (k : Nat) (f : List Lot) : Nat := ((allB k).filter fun a => !doesB f a).length
theorem filter_lt {α : Type} {p q : α → Bool} {l : List α} {x : α} (h : ∀ y ∈ l, q y = true → p y = true) (hx : x ∈ l) (hp : p x = true) (hq : q x = false) : (l.filter q).length < (l.filter p).length := by
  induction l with
  | nil => cases hx
  | cons y l ih =>
    have le : ∀ l : List α, (∀ y ∈ l, q y = true → p y = true) → (l.filter q).length ≤ (l.filter p).length := by
      intro l
      induction l with
      | nil => exact fun _ => Nat.le_refl _
      | cons z l ih =>
        intro h
        have := ih fun y hy => h y (List.mem_cons_of_mem _ hy)
        rw [List.filter_cons, List.filter_cons]
        cases e : q z with
        | true =>
          rw [h z List.mem_cons_self e]
          simp only [if_true, List.length_cons]
          omega
        | false =>
          simp only [Bool.false_eq_true, if_false]
          split
          · simp only [List.length_cons]
            omega
          · exact this
    have h' : ∀ y ∈ l, q y = true → p y = true := fun y hy => h y (List.mem_cons_of_mem _ hy)
    rw [List.filter_cons, List.filter_cons]
    rcases List.mem_cons.mp hx with rfl | hx
    · rw [hp, hq]
      have := le l h'
      simp only [Bool.false_eq_true, if_false, if_true, List.length_cons]
      omega
    · have := ih h' hx
      cases e : q y with
      | true =>
        rw [h y List.mem_cons_self e]
        simp only [if_true, List.length_cons]
        omega
      | false =>
        simp only [Bool.false_eq_true, if_false]
        split
        · simp only [List.length_cons]
          omega
        · exact this
theorem step_cnt (ha : a ∈ moreF k f) : cnt k (minF (f ++ [a])) < cnt k f := by
  obtain ⟨h1, h2⟩ := more_mem ha
  refine filter_lt (x := a) (fun y _ hy => ?_) (mem_allB.mpr ((hits_can k f).ok a h1)) ?_ ?_
  · rw [Bool.not_eq_true', ← Bool.not_eq_true, doesB_iff] at hy ⊢
    exact fun z => hy (step_up z)
  · rw [Bool.not_eq_true', ← Bool.not_eq_true, doesB_iff]
    exact h2
  · rw [Bool.not_eq_false', doesB_iff]
    exact step_new
theorem done_hits (h : Mt k f) (d : moreF k f = []) : hitsF k f = f := can_uniq (hits_can k f) h.can fun x hx => by
  constructor
  · rintro ⟨o, ho, s⟩
    have : up f o := by
      refine Classical.byContradiction fun z => ?_
      have m : o ∈ moreF k f := List.mem_filter.mpr ⟨ho, by rw [Bool.not_eq_true', ← Bool.not_eq_true, doesB_iff]; exact z⟩
      rw [d] at m
      cases m
    obtain ⟨e, he, s2⟩ := this
    exact ⟨e, he, fun y hy => s y (s2 y hy)⟩
  · rintro ⟨e, he, s⟩
    rw [up_hits hx]
    exact fun e' he' => touB_up (h.me e he e' he') s
theorem hits_done (e : hitsF k f = f) : moreF k f = [] := by
  unfold moreF
  rw [e, List.filter_eq_nil_iff]
  intro x hx z
  rw [Bool.not_eq_true', ← Bool.not_eq_true, doesB_iff] at z
  exact z ⟨x, hx, fun _ y => y⟩
theorem done_rest (h : Can k f) (e : hitsF k f = f) (ha : LotOk k a) : doesB f a = !doesB f (rest k a) := by
  have q := up_hits' (n := k) h.ok ha
  rw [e] at q
  have q2 : doesB f a = true ↔ ¬ doesB f (rest k a) = true := by rw [doesB_iff, doesB_iff]; exact q
  cases h1 : doesB f a <;> cases h2 : doesB f (rest k a) <;> simp_all
/-- widened -/
def widF (k : Nat) : Nat → List Lot → List Lot
  | 0, f => f
  | n + 1, f => match moreF k f with
    | [] => f
    | a :: _ => widF k n (minF (f ++ [a]))
theorem wid_ok : ∀ {n : Nat} {f : List Lot}, Mt k f → cnt k f ≤ n → Mt k (widF k n f) ∧ moreF k (widF k n f) = [] ∧ ∀ b, up f b → up (widF k n f) b
  | 0, f, h, l => by
    refine ⟨h, ?_, fun _ z => z⟩
    show moreF k f = []
    cases e : moreF k f with
    | nil => rfl
    | cons a r =>
      have := step_cnt (k := k) (f := f) (a := a) (by rw [e]; exact List.mem_cons_self)
      omega
  | n + 1, f, h, l => by
    unfold widF
    cases e : moreF k f with
    | nil => exact ⟨h, e, fun _ z => z⟩
    | cons a r =>
      have m : a ∈ moreF k f := by rw [e]; exact List.mem_cons_self
      have := step_cnt m
      obtain ⟨q1, q2, q3⟩ := wid_ok (n := n) (step_mt h m) (by omega)
      exact ⟨q1, q2, fun b hb => q3 b (step_up hb)⟩
end
end PL
end
section
set_option Elab.async false
set_option linter.all false
set_option maxRecDepth 100000
/-! PL15: families that meet themselves: of more than half, of supersets. -/
namespace PL
open DV
theorem mt_minL {k : Nat} {ls : List Lot} (ok : ∀ a ∈ ls, LotOk k a) (ne : ls ≠ []) (me : ∀ a ∈ ls, ∀ b ∈ ls, touB a b = true) : Mt k (minL ls) := by
  refine ⟨can_minL ok, fun e => ?_, fun a ha b hb => me a (mem_minL.mp ha).1 b (mem_minL.mp hb).1⟩
  cases ls with
  | nil => exact ne rfl
  | cons a l =>
    have : up (minL (a :: l)) a := (up_minL ok).mpr ⟨a, List.mem_cons_self, fun _ z => z⟩
    rw [e] at this
    obtain ⟨_, z, _⟩ := this
    cases z
theorem sub_joinL {a b : Lot} : sub a (joinF a b) := fun x hx => mem_joinF.mpr (.inl hx)
theorem tou_sup {a b c d : Lot} (h : touB a b = true) (s : sub a c) (t : sub b d) : touB c d = true := by
  have h1 := touB_up h s
  rw [touB_comm] at h1 ⊢
  exact touB_up h1 t
def vt (ws : List Int) (a : Lot) : Int := (a.map fun x => ws.getD x.toNat 0).sum
theorem filter_self {k : Nat} {a : Lot} (h : LotOk k a) : (range k).filter (fun x => decide (x ∈ a)) = a := by
  have e : (range k).filter (fun x => decide (x ∈ a)) = rest k (rest k a) := by
    unfold rest
    refine List.filter_congr fun x hx => ?_
    have : x ∈ (range k).filter (fun x => !decide (x ∈ a)) ↔ x ∉ a := by
      rw [List.mem_filter, Bool.not_eq_true', decide_eq_false_iff_not]
      exact ⟨fun z => z.2, fun z => ⟨hx, z⟩⟩
    by_cases q : x ∈ a <;> simp [q, hx]
  rw [e, rest_rest h]
theorem sum_filter (f : Int → Int) (p : Int → Bool) : ∀ l : List Int, ((l.filter p).map f).sum = (l.map fun x => if p x then f x else 0).sum
  | [] => rfl
  | x :: l => by
    rw [List.filter_cons]
    cases q : p x with
    | true => simp [sum_filter f p l, q]
    | false => simp [sum_filter f p l, q]
theorem sum_two {f p q : Int → Int} : ∀ {l : List Int}, (∀ x ∈ l, p x + q x ≤ f x) → (l.map p).sum + (l.map q).sum ≤ (l.map f).sum
  | [], _ => by simp
  | x :: l, h => by
    have h1 := h x List.mem_cons_self
    have h2 := sum_two (l := l) fun y hy => h y (List.mem_cons_of_mem _ hy)
    simp only [List.map_cons, List.sum_cons]
    omega
theorem map_getD : ∀ ws : List Int, (List.range ws.length).map (fun (i : Nat) => ws.getD i 0) = ws := fun ws => by
  refine List.ext_getElem (by simp) fun i h1 h2 => ?_
  simp at h1
  simp [h1]
theorem lot_range (k : Nat) : LotOk k (range k) := by
  have := rest_ok k []
  have e : rest k [] = range k := by
    unfold rest
    rw [List.filter_eq_self]
    intro x _
    simp
  rw [e] at this
  exact this
theorem vt_full {k : Nat} {ws : List Int} (hw : ws.length = k) : vt ws (range k) = ws.sum := by
  subst hw
  unfold vt range
  rw [List.map_map]
  have e : ((fun (x : Int) => ws.getD x.toNat 0) ∘ fun (j : Nat) => (j : Int)) = fun (i : Nat) => ws.getD i 0 := by
    funext i
    simp
  rw [e, map_getD]
theorem vt_eq {k : Nat} {ws : List Int} {a : Lot} (h : LotOk k a) : vt ws a = ((range k).map fun x => if decide (x ∈ a) then ws.getD x.toNat 0 else 0).sum := by
  have := sum_filter (fun x => ws.getD x.toNat 0) (fun x => decide (x ∈ a)) (range k)
  rw [filter_self h] at this
  exact this
theorem vt_two {k : Nat} {ws : List Int} (hw : ws.length = k) (h0 : ∀ w ∈ ws, 0 ≤ w) {a b : Lot} (ha : LotOk k a) (hb : LotOk k b) (d : touB a b = false) : vt ws a + vt ws b ≤ ws.sum := by
  rw [vt_eq ha, vt_eq hb, ← vt_full hw]
  unfold vt
  refine sum_two fun x hx => ?_
  have g0 : 0 ≤ ws.getD x.toNat 0 := by
    rw [List.getD_eq_getElem?_getD]
    cases e : ws[x.toNat]? with
    | none => simp
    | some w => exact h0 w (List.mem_of_getElem? e)
  have nb : ¬ (x ∈ a ∧ x ∈ b) := fun ⟨h1, h2⟩ => by
    have := touB_iff.mpr ⟨x, h2, h1⟩
    rw [d] at this
    cases this
  by_cases q1 : x ∈ a
  · have q2 : x ∉ b := fun z => nb ⟨q1, z⟩
    simp [q1, q2]
  · by_cases q2 : x ∈ b
    · simp [q1, q2]
    · rw [List.getD_eq_getElem?_getD] at g0
      simp [q1, q2, g0]
theorem major_mt {k : Nat} {ws : List Int} (hw : ws.length = k) (h0 : ∀ w ∈ ws, 0 ≤ w) (hs : 0 < ws.sum) : Mt k (minL ((allB k).filter fun a => decide (ws.sum < 2 * vt ws a))) := by
  have mem : ∀ a, a ∈ (allB k).filter (fun a => decide (ws.sum < 2 * vt ws a)) → LotOk k a ∧ ws.sum < 2 * vt ws a := fun a ha => by
    rw [List.mem_filter, decide_eq_true_eq, mem_allB] at ha
    exact ha
  refine mt_minL (fun a ha => (mem a ha).1) (fun e => ?_) fun a ha b hb => ?_
  · have : range k ∈ (allB k).filter (fun a => decide (ws.sum < 2 * vt ws a)) := by
      rw [List.mem_filter, decide_eq_true_eq, mem_allB, vt_full hw]
      refine ⟨lot_range k, by omega⟩
    rw [e] at this
    cases this
  · cases q : touB a b with
    | true => rfl
    | false =>
      have h1 := vt_two hw h0 (mem a ha).1 (mem b hb).1 q
      have h2 := (mem a ha).2
      have h3 := (mem b hb).2
      omega
end PL
end
section
set_option Elab.async false
set_option linter.all false
set_option maxRecDepth 100000
set_option maxHeartbeats 1000000
/-! PL3: what the defs of k25 compute. -/
namespace K24
open DV PL
abbrev g (ns : List Int) : Cfg := { cls := cls, fl := fl, ns := ns }
abbrev Ph (ns : List Int) (n : Nat) : Phi := callF (g ns) T n
section
variable {ns : List Int} {n : Nat} {M M' : Mem} {ρ ρ' : Ev}
theorem call_rt {i : Nat} {F : Fn} {ds : List D} {d : D} (hT : T[i]? = some F) (hl : ds.length = F.ps) (hd : lamless d = true) (h : ∃ ρ', sts (g ns) (Ph ns n) F.body (startE ds F.n) M = some (.ok (.rt d) ρ' M')) : Ph ns (n + 1) i ds M = some (.ok d M') := by
  obtain ⟨ρ', h⟩ := h
  show (match T[i]? with
    | some F => _
    | none => none) = _
  rw [hT]
  simp only [if_pos hl, h, hd, if_true]
theorem call_nx {i : Nat} {F : Fn} {ds : List D} (hT : T[i]? = some F) (hl : ds.length = F.ps) (h : ∃ ρ', sts (g ns) (Ph ns n) F.body (startE ds F.n) M = some (.ok .nx ρ' M')) : Ph ns (n + 1) i ds M = some (.ok .non M') := by
  obtain ⟨ρ', h⟩ := h
  show (match T[i]? with
    | some F => _
    | none => none) = _
  rw [hT]
  simp only [if_pos hl, h]
theorem isIn_ints (x : Int) : ∀ l : List Int, isIn (.int x) (l.map .int) = decide (x ∈ l)
  | [] => rfl
  | a :: l => by
    rw [List.map_cons]
    unfold isIn
    rw [isIn_ints x l]
    by_cases h : a = x
    · subst h
      simp [D.eq]
    · have h' : ¬ x = a := fun z => h z.symm
      simp [D.eq, h, h']
theorem flat_ints (l : List Int) : (l.map D.int).all flatD = true := by simp [flatD]
theorem inD_tup (x : Int) (l : List Int) : inD (.int x) (.tup (l.map .int)) = some (decide (x ∈ l)) := by
  unfold inD
  simp only [flatD, flat_ints, Bool.and_self, if_true, isIn_ints]
theorem comp_gen {α : Type} {turn : D → Mem → R (Option (List D))} {c : α → D} {k : α → Option (List D)} : ∀ {l : List α} {acc : List D}, (∀ x ∈ l, ∃ ρ, turn (c x) M = some (.ok (k x) ρ M)) → compL turn acc (l.map c) M = some (acc ++ l.flatMap (fun x => (k x).getD []), M)
  | [], acc, _ => by simp [compL]
  | a :: l, acc, h => by
    obtain ⟨ρ, e⟩ := h a List.mem_cons_self
    have ih := fun acc => comp_gen (l := l) (acc := acc) fun x hx => h x (List.mem_cons_of_mem _ hx)
    rw [List.map_cons]
    unfold compL
    rw [e]
    cases q : k a with
    | none => simp [ih, q]
    | some d => simp [ih, q]
theorem comp_map {α : Type} {turn : D → Mem → R (Option (List D))} {c : α → D} {f : α → D} {l : List α} (h : ∀ x ∈ l, ∃ ρ, turn (c x) M = some (.ok (some [f x]) ρ M)) : compL turn [] (l.map c) M = some (l.map f, M) := by
  rw [comp_gen (k := fun x => some [f x]) h]
  congr 2
  rw [List.nil_append]
  clear h
  induction l with
  | nil => rfl
  | cons a l ih => rw [List.flatMap_cons, ih]; rfl
theorem comp_filter {α : Type} {turn : D → Mem → R (Option (List D))} {c f : α → D} {p : α → Bool} {l : List α} (h : ∀ x ∈ l, ∃ ρ, turn (c x) M = some (.ok (if p x then some [f x] else none) ρ M)) : compL turn [] (l.map c) M = some ((l.filter p).map f, M) := by
  rw [comp_gen (k := fun x => if p x then some [f x] else none) h]
  congr 2
  rw [List.nil_append]
  clear h
  induction l with
  | nil => rfl
  | cons a l ih =>
    rw [List.flatMap_cons, ih, List.filter_cons]
    cases p a <;> rfl
theorem bools_map {α : Type} (f : α → Bool) : ∀ l : List α, boolsD (l.map fun x => D.bl (f x)) = some (l.map f)
  | [] => rfl
  | a :: l => by
    rw [List.map_cons]
    unfold boolsD
    rw [bools_map f l]
    rfl
theorem mkL_of {α : Type} {f : α → D} {l : List α} (h : l.length ≤ LINE) (hf : ∀ x ∈ l, lamless (f x) = true) : mkL (l.map f) = some (.lst (l.map f)) := by
  unfold mkL fit
  rw [if_pos]
  simp only [Bool.and_eq_true, decide_eq_true_eq, List.length_map, h, true_and, List.all_eq_true, List.mem_map]
  rintro x ⟨y, hy, rfl⟩
  exact hf y hy
theorem bind_some {α β : Type} (a : α) (ρ : Ev) (M : Mem) (k : α → Ev → Mem → R β) : R.bind (some (.ok a ρ M)) k = k a ρ M := rfl
theorem holds_ok (a b : Lot) (hb : b.length ≤ LINE) : Ph ns (n + 1) 10 [tupD a, tupD b] M = some (.ok (.bl (subB b a)) M) := by
  refine call_rt (F := F10) rfl rfl rfl ?_
  simp only [F10, sts, st, ev, evs, evPar, startE, viewD, takeD, lock, clear, reset, lock1, isOwn, slots, slotsL, modeOf, maker, mine, turnF, bindT, bindTs, bind_some, okE, fin, lift, iterD, lamless, tru, tupD, onInt, see, ansO, setAll, deref, Option.bind, Option.map, List.map, List.replicate, List.cons_append, List.nil_append, List.append_nil, List.getElem?_cons_zero, List.getElem?_cons_succ, List.set, List.length_cons, List.length_nil, Nat.sub_self, Nat.reduceAdd, Nat.reduceSub, if_true, Bool.false_eq_true, if_false, reduceCtorEq, Nat.zero_add]
  rw [comp_map (c := D.int) (l := b) (f := fun x => .bl (decide (x ∈ a)))]
  · simp only []
    rw [mkL_of (f := fun x => D.bl (decide (x ∈ a))) hb fun _ _ => rfl]
    simp only [sts, st, ev, evs, evPar, startE, viewD, takeD, lock, clear, reset, lock1, isOwn, slots, slotsL, modeOf, maker, mine, turnF, bindT, bindTs, bind_some, okE, fin, lift, iterD, lamless, tru, tupD, onInt, see, ansO, setAll, deref, Option.bind, Option.map, List.map, List.replicate, List.cons_append, List.nil_append, List.append_nil, List.getElem?_cons_zero, List.getElem?_cons_succ, List.set, List.length_cons, List.length_nil, Nat.sub_self, Nat.reduceAdd, Nat.reduceSub, if_true, Bool.false_eq_true, if_false, reduceCtorEq, Nat.zero_add, biD, bools_map, List.all_map]
    exact ⟨_, rfl⟩
  · intro x _
    simp only [sts, st, ev, evs, evPar, startE, viewD, takeD, lock, clear, reset, lock1, isOwn, slots, slotsL, modeOf, maker, mine, turnF, bindT, bindTs, bind_some, okE, fin, lift, iterD, lamless, tru, tupD, onInt, see, ansO, setAll, deref, Option.bind, Option.map, List.map, List.replicate, List.cons_append, List.nil_append, List.append_nil, List.getElem?_cons_zero, List.getElem?_cons_succ, List.set, List.length_cons, List.length_nil, Nat.sub_self, Nat.reduceAdd, Nat.reduceSub, if_true, Bool.false_eq_true, if_false, reduceCtorEq, Nat.zero_add, cmD, inD_tup]
    exact ⟨_, rfl⟩
theorem touches_ok (a b : Lot) (hb : b.length ≤ LINE) : Ph ns (n + 1) 11 [tupD a, tupD b] M = some (.ok (.bl (touB a b)) M) := by
  refine call_rt (F := F11) rfl rfl rfl ?_
  simp only [F11, sts, st, ev, evs, evPar, startE, viewD, takeD, lock, clear, reset, lock1, isOwn, slots, slotsL, modeOf, maker, mine, turnF, bindT, bindTs, bind_some, okE, fin, lift, iterD, lamless, tru, tupD, onInt, see, ansO, setAll, deref, Option.bind, Option.map, List.map, List.replicate, List.cons_append, List.nil_append, List.append_nil, List.getElem?_cons_zero, List.getElem?_cons_succ, List.set, List.length_cons, List.length_nil, Nat.sub_self, Nat.reduceAdd, Nat.reduceSub, if_true, Bool.false_eq_true, if_false, reduceCtorEq, Nat.zero_add]
  rw [comp_map (c := D.int) (l := b) (f := fun x => .bl (decide (x ∈ a)))]
  · simp only []
    rw [mkL_of (f := fun x => D.bl (decide (x ∈ a))) hb fun _ _ => rfl]
    simp only [sts, st, ev, evs, evPar, startE, viewD, takeD, lock, clear, reset, lock1, isOwn, slots, slotsL, modeOf, maker, mine, turnF, bindT, bindTs, bind_some, okE, fin, lift, iterD, lamless, tru, tupD, onInt, see, ansO, setAll, deref, Option.bind, Option.map, List.map, List.replicate, List.cons_append, List.nil_append, List.append_nil, List.getElem?_cons_zero, List.getElem?_cons_succ, List.set, List.length_cons, List.length_nil, Nat.sub_self, Nat.reduceAdd, Nat.reduceSub, if_true, Bool.false_eq_true, if_false, reduceCtorEq, Nat.zero_add, biD, bools_map, List.any_map]
    exact ⟨_, rfl⟩
  · intro x _
    simp only [sts, st, ev, evs, evPar, startE, viewD, takeD, lock, clear, reset, lock1, isOwn, slots, slotsL, modeOf, maker, mine, turnF, bindT, bindTs, bind_some, okE, fin, lift, iterD, lamless, tru, tupD, onInt, see, ansO, setAll, deref, Option.bind, Option.map, List.map, List.replicate, List.cons_append, List.nil_append, List.append_nil, List.getElem?_cons_zero, List.getElem?_cons_succ, List.set, List.length_cons, List.length_nil, Nat.sub_self, Nat.reduceAdd, Nat.reduceSub, if_true, Bool.false_eq_true, if_false, reduceCtorEq, Nat.zero_add, cmD, inD_tup]
    exact ⟨_, rfl⟩
theorem mkT2 (a b : D) (h : lamless a = true) (k : lamless b = true) : mkT [a, b] = some (.tup [a, b]) := by
  unfold mkT fit
  rw [if_pos]
  simp [h, k, LINE]
def keyD (a : Lot) : D := .tup [.int a.length, tupD a]
theorem by_size_ok (a : Lot) : Ph ns (n + 1) 12 [tupD a] M = some (.ok (keyD a) M) := by
  refine call_rt (F := F12) rfl rfl rfl ?_
  simp only [F12, sts, st, ev, evs, evPar, startE, viewD, takeD, lock, clear, reset, lock1, isOwn, slots, slotsL, modeOf, maker, mine, turnF, bindT, bindTs, bind_some, okE, fin, lift, iterD, lamless, tru, tupD, onInt, see, ansO, setAll, deref, Option.bind, Option.map, List.map, List.replicate, List.cons_append, List.nil_append, List.append_nil, List.getElem?_cons_zero, List.getElem?_cons_succ, List.set, List.length_cons, List.length_nil, Nat.sub_self, Nat.reduceAdd, Nat.reduceSub, if_true, Bool.false_eq_true, if_false, reduceCtorEq, Nat.zero_add, biD, List.length_map]
  rw [mkT2 _ _ rfl rfl]
  simp only [sts, st, ev, evs, evPar, startE, viewD, takeD, lock, clear, reset, lock1, isOwn, slots, slotsL, modeOf, maker, mine, turnF, bindT, bindTs, bind_some, okE, fin, lift, iterD, lamless, tru, tupD, onInt, see, ansO, setAll, deref, Option.bind, Option.map, List.map, List.replicate, List.cons_append, List.nil_append, List.append_nil, List.getElem?_cons_zero, List.getElem?_cons_succ, List.set, List.length_cons, List.length_nil, Nat.sub_self, Nat.reduceAdd, Nat.reduceSub, if_true, Bool.false_eq_true, if_false, reduceCtorEq, Nat.zero_add]
  exact ⟨_, rfl⟩
theorem intsOf_map : ∀ l : List Int, intsOf (l.map .int) = some l
  | [] => rfl
  | a :: l => by
    rw [List.map_cons]
    unfold intsOf
    rw [intsOf_map l]
    rfl
theorem is_integer_ok (i : Int) : Ph ns (n + 1) 6 [.int i] M = some (.ok (.bl true) M) := by
  refine call_rt (F := F6) rfl rfl rfl ?_
  simp only [F6, sts, st, ev, evs, evPar, startE, viewD, takeD, lock, clear, reset, lock1, isOwn, slots, slotsL, modeOf, maker, mine, turnF, bindT, bindTs, bind_some, okE, fin, lift, iterD, lamless, tru, tupD, onInt, see, ansO, setAll, deref, Option.bind, Option.map, List.map, List.replicate, List.cons_append, List.nil_append, List.append_nil, List.getElem?_cons_zero, List.getElem?_cons_succ, List.set, List.length_cons, List.length_nil, Nat.sub_self, Nat.reduceAdd, Nat.reduceSub, if_true, Bool.false_eq_true, if_false, reduceCtorEq, Nat.zero_add, biD, isOne, isTy, Bool.not_false]
  exact ⟨_, rfl⟩
theorem is_within_ok (v lo hi : Int) (h1 : lo ≤ v) (h2 : v ≤ hi) : Ph ns (n + 2) 7 [.int v, .int lo, .int hi] M = some (.ok (.bl true) M) := by
  refine call_rt (F := F7) rfl rfl rfl ?_
  simp only [F7, sts, st, ev, evs, evPar, startE, viewD, takeD, lock, clear, reset, lock1, isOwn, slots, slotsL, modeOf, maker, mine, turnF, bindT, bindTs, bind_some, okE, fin, lift, iterD, lamless, tru, tupD, onInt, see, ansO, setAll, deref, Option.bind, Option.map, List.map, List.replicate, List.cons_append, List.nil_append, List.append_nil, List.getElem?_cons_zero, List.getElem?_cons_succ, List.set, List.length_cons, List.length_nil, Nat.sub_self, Nat.reduceAdd, Nat.reduceSub, if_true, Bool.false_eq_true, if_false, reduceCtorEq, Nat.zero_add, is_integer_ok, cmD, isD, h1, h2, decide_true, Bool.not_true]
  exact ⟨_, rfl⟩
theorem need_number_ok (v lo hi : Int) (s : List Nat) (h1 : lo ≤ v) (h2 : v ≤ hi) : Ph ns (n + 3) 9 [.int v, .str s, .int lo, .int hi] M = some (.ok .non M) := by
  refine call_nx (F := F9) rfl rfl ?_
  simp only [F9, sts, st, ev, evs, evPar, startE, viewD, takeD, lock, clear, reset, lock1, isOwn, slots, slotsL, modeOf, maker, mine, turnF, bindT, bindTs, bind_some, okE, fin, lift, iterD, lamless, tru, tupD, onInt, see, ansO, setAll, deref, Option.bind, Option.map, List.map, List.replicate, List.cons_append, List.nil_append, List.append_nil, List.getElem?_cons_zero, List.getElem?_cons_succ, List.set, List.length_cons, List.length_nil, Nat.sub_self, Nat.reduceAdd, Nat.reduceSub, if_true, Bool.false_eq_true, if_false, reduceCtorEq, Nat.zero_add, is_within_ok v lo hi h1 h2, Bool.not_true]
  exact ⟨_, rfl⟩
theorem need_sites_ok (m : Int) (h1 : 1 ≤ m) (h2 : m ≤ 5) : Ph ns (n + 4) 16 [.int m] M = some (.ok .non M) := by
  refine call_nx (F := F16) rfl rfl ?_
  simp only [F16, sts, st, ev, evs, evPar, startE, viewD, takeD, lock, clear, reset, lock1, isOwn, slots, slotsL, modeOf, maker, mine, turnF, bindT, bindTs, bind_some, okE, fin, lift, iterD, lamless, tru, tupD, onInt, see, ansO, setAll, deref, Option.bind, Option.map, List.map, List.replicate, List.cons_append, List.nil_append, List.append_nil, List.getElem?_cons_zero, List.getElem?_cons_succ, List.set, List.length_cons, List.length_nil, Nat.sub_self, Nat.reduceAdd, Nat.reduceSub, if_true, Bool.false_eq_true, if_false, reduceCtorEq, Nat.zero_add, need_number_ok m 1 5 _ h1 h2]
  exact ⟨_, rfl⟩
/-- a lot as a tuple, as a list -/
def sq (b : Bool) (l : List D) : D := if b then .tup l else .lst l
theorem zip_st : ∀ {a : Lot}, a.Pairwise (· < ·) → ∀ x ∈ zipD (a.map .int) ((a.map .int).drop 1), ∃ p q : Int, x = .tup [.int p, .int q] ∧ p < q
  | [], _, x, hx => by cases hx
  | [p], _, x, hx => by cases hx
  | p :: q :: a, h, x, hx => by
    simp only [List.map_cons, List.drop_succ_cons, List.drop_zero, zipD] at hx
    rcases List.mem_cons.mp hx with rfl | hx
    · exact ⟨p, q, rfl, (List.pairwise_cons.mp h).1 q List.mem_cons_self⟩
    · exact zip_st (a := q :: a) (List.pairwise_cons.mp h).2 x (by simpa using hx)
theorem len_zip : ∀ l k : List D, (zipD l k).length ≤ l.length
  | [], _ => by simp [zipD]
  | _ :: _, [] => by simp [zipD]
  | a :: l, b :: k => by
    have := len_zip l k
    simp only [zipD, List.length_cons]
    omega
theorem all_true {α : Type} (l : List α) : boolsD (l.map fun _ => D.bl true) = some (l.map fun _ => true) := bools_map (fun _ => true) l
theorem all_id {α : Type} (l : List α) : (l.map fun _ => true).all id = true := by simp
theorem drop_min (l : List D) : (l.take l.length).drop (min 1 l.length) = l.drop 1 := by
  rw [List.take_length]
  cases l with
  | nil => rfl
  | cons a l => simp
theorem sl_tail (b : Bool) (l : List D) : slD (sq b l) (.int 1) .non = some (sq b (l.drop 1)) := by
  have h := drop_min l
  cases b with
  | true =>
    show some (D.tup _) = some (D.tup _)
    rw [← h]
    rfl
  | false =>
    show some (D.lst _) = some (D.lst _)
    rw [← h]
    rfl
theorem zipV_sq (b : Bool) (l k : List D) : zipV (sq b l) (sq b k) = some (zipD l k) := by cases b <;> rfl
theorem iter_sq (b : Bool) (l : List D) : iterD (sq b l) = some l := by cases b <;> rfl
theorem lam_sq (b : Bool) (l : List D) : lamless (sq b l) = true := by cases b <;> rfl
theorem see_sq (b : Bool) (l : List D) (ns : List Int) : DV.see ns (sq b l) = sq b l := by cases b <;> rfl
theorem isi_sq (b : Bool) (l : List D) : biD cls .isi [sq b l, .tup [.ty .list, .ty .tuple]] = some (.bl true) := by cases b <;> rfl
theorem seq_sq (b : Bool) (l : List D) : seqD (sq b l) = some l := by cases b <;> rfl
theorem is_lot_ok (b : Bool) (a : Lot) (m : Int) (h : LotOk m a) (hl : a.length ≤ LINE) : Ph ns (n + 3) 8 [sq b (a.map .int), .int m] M = some (.ok (.bl true) M) := by
  refine call_rt (F := F8) rfl rfl rfl ?_
  have w : ∀ x ∈ a, Ph ns (n + 2) 7 [.int x, .int 0, .int (m - 1)] M = some (.ok (.bl true) M) := fun x hx => is_within_ok x 0 (m - 1) (h.bd x hx).1 (by have := (h.bd x hx).2; omega)
  have z := zip_st h.st
  have zl := len_zip (a.map .int) ((a.map .int).drop 1)
  rw [List.length_map] at zl
  have t1 := sl_tail true (a.map .int)
  have t2 := sl_tail false (a.map .int)
  simp only [sq, Bool.false_eq_true, if_true, if_false] at t1 t2
  cases b
  all_goals
    simp only [sq, F8, sts, st, ev, evs, evPar, startE, viewD, takeD, lock, clear, reset, lock1, isOwn, slots, slotsL, modeOf, maker, mine, turnF, bindT, bindTs, bind_some, okE, fin, lift, iterD, lamless, tru, tupD, onInt, see, ansO, setAll, deref, Option.bind, Option.map, List.map, List.replicate, List.cons_append, List.nil_append, List.append_nil, List.getElem?_cons_zero, List.getElem?_cons_succ, List.set, List.length_cons, List.length_nil, Nat.sub_self, Nat.reduceAdd, Nat.reduceSub, if_true, Bool.false_eq_true, if_false, reduceCtorEq, Nat.zero_add, mkT2 (.ty .list) (.ty .tuple) rfl rfl, biD, isAny, isTyD, isOne, isTy, Bool.or_false, Bool.or_true, Bool.not_true]
    rw [comp_map (c := D.int) (l := a) (f := fun _ => .bl true)]
    · simp only []
      rw [mkL_of (f := fun _ => D.bl true) hl fun _ _ => rfl]
      simp only [sts, st, ev, evs, evPar, startE, viewD, takeD, lock, clear, reset, lock1, isOwn, slots, slotsL, modeOf, maker, mine, turnF, bindT, bindTs, bind_some, okE, fin, lift, iterD, lamless, tru, tupD, onInt, see, ansO, setAll, deref, Option.bind, Option.map, List.map, List.replicate, List.cons_append, List.nil_append, List.append_nil, List.getElem?_cons_zero, List.getElem?_cons_succ, List.set, List.length_cons, List.length_nil, Nat.sub_self, Nat.reduceAdd, Nat.reduceSub, if_true, Bool.false_eq_true, if_false, reduceCtorEq, Nat.zero_add, biD, all_true, all_id, Bool.not_true, t1, t2, zipV]
      have e : zipD (a.map .int) ((a.map .int).drop 1) = (zipD (a.map .int) ((a.map .int).drop 1)).map id := by simp
      rw [e, comp_map (c := id) (l := zipD (a.map .int) ((a.map .int).drop 1)) (f := fun _ => .bl true)]
      · simp only []
        rw [mkL_of (f := fun _ => D.bl true) (Nat.le_trans zl hl) fun _ _ => rfl]
        simp only [sts, st, ev, evs, evPar, startE, viewD, takeD, lock, clear, reset, lock1, isOwn, slots, slotsL, modeOf, maker, mine, turnF, bindT, bindTs, bind_some, okE, fin, lift, iterD, lamless, tru, tupD, onInt, see, ansO, setAll, deref, Option.bind, Option.map, List.map, List.replicate, List.cons_append, List.nil_append, List.append_nil, List.getElem?_cons_zero, List.getElem?_cons_succ, List.set, List.length_cons, List.length_nil, Nat.sub_self, Nat.reduceAdd, Nat.reduceSub, if_true, Bool.false_eq_true, if_false, reduceCtorEq, Nat.zero_add, biD, all_true, all_id]
        exact ⟨_, rfl⟩
      · intro x hx
        obtain ⟨p, q, rfl, lt⟩ := z x hx
        simp only [sts, st, ev, evs, evPar, startE, viewD, takeD, lock, clear, reset, lock1, isOwn, slots, slotsL, modeOf, maker, mine, turnF, bindT, bindTs, bind_some, okE, fin, lift, iterD, lamless, tru, tupD, onInt, see, ansO, setAll, deref, Option.bind, Option.map, List.map, List.replicate, List.cons_append, List.nil_append, List.append_nil, List.getElem?_cons_zero, List.getElem?_cons_succ, List.set, List.length_cons, List.length_nil, Nat.sub_self, Nat.reduceAdd, Nat.reduceSub, if_true, Bool.false_eq_true, if_false, reduceCtorEq, Nat.zero_add, id, cmD, lt, decide_true]
        exact ⟨_, rfl⟩
    · intro x hx
      simp only [sts, st, ev, evs, evPar, startE, viewD, takeD, lock, clear, reset, lock1, isOwn, slots, slotsL, modeOf, maker, mine, turnF, bindT, bindTs, bind_some, okE, fin, lift, iterD, lamless, tru, tupD, onInt, see, ansO, setAll, deref, Option.bind, Option.map, List.map, List.replicate, List.cons_append, List.nil_append, List.append_nil, List.getElem?_cons_zero, List.getElem?_cons_succ, List.set, List.length_cons, List.length_nil, Nat.sub_self, Nat.reduceAdd, Nat.reduceSub, if_true, Bool.false_eq_true, if_false, reduceCtorEq, Nat.zero_add, opD, w x hx]
      exact ⟨_, rfl⟩
end
end K24
end
section
set_option Elab.async false
set_option linter.all false
set_option maxRecDepth 100000
set_option maxHeartbeats 1000000
/-! PL4: the package's families. -/
namespace K24
open DV PL
section
variable {ns : List Int} {n : Nat} {M M' : Mem} {ρ ρ' : Ev}
theorem tupsOf_map : ∀ ls : List Lot, tupsOf (ls.map tupD) = some ls
  | [] => rfl
  | a :: ls => by
    rw [List.map_cons]
    unfold tupD tupsOf
    rw [intsOf_map a]
    show (Option.map (a :: ·) (tupsOf (ls.map tupD))) = _
    rw [tupsOf_map ls]
    rfl
theorem plains_ints (l : List Int) : D.plains (l.map .int) = true := by
  induction l with
  | nil => rfl
  | cons a l ih => simp [D.plains, D.plain, ih]
theorem deps_ints (l : List Int) : D.deps (l.map .int) = 0 := by
  induction l with
  | nil => rfl
  | cons a l ih => simp [D.deps, D.dep, ih]
theorem toPys_ints (l : List Int) : toPys (l.map .int) = l.map PySem.PyData.int := by
  induction l with
  | nil => rfl
  | cons a l ih =>
    rw [List.map_cons, List.map_cons]
    unfold toPys
    rw [ih]
    rfl
theorem toPy_tup (a : Lot) : toPy (tupD a) = .tuple (a.map .int) := by
  unfold tupD toPy
  rw [toPys_ints]
theorem toPy_key (a : Lot) : toPy (keyD a) = .tuple [.int a.length, .tuple (a.map .int)] := by
  unfold keyD toPy toPys toPys toPys
  rw [toPy_tup]
  rfl
theorem eqv_ints : ∀ a b : Lot, PySem.PyData.eqvAll (a.map .int) (b.map .int) = decide (a = b)
  | [], [] => by simp [PySem.PyData.eqvAll]
  | [], _ :: _ => by simp [PySem.PyData.eqvAll]
  | _ :: _, [] => by simp [PySem.PyData.eqvAll]
  | x :: a, y :: b => by
    have ih := eqv_ints a b
    simp only [List.map_cons, PySem.PyData.eqvAll, PySem.PyData.eqv, ih]
    by_cases h1 : x = y <;> by_cases h2 : a = b <;> simp [h1, h2]
theorem alike_key (a b : Lot) : PySem.W.alike (toPy (keyD a)) (toPy (keyD b)) = true := by
  rw [toPy_key, toPy_key]
  have := alike_tt a b
  simp only [PySem.W.alike] at this
  simp [PySem.W.alike, PySem.W.alikeAll, this]
theorem le_key (a b : Lot) : leK (keyD a, tupD a) (keyD b, tupD b) = leLen a b := by
  unfold leK leLen
  show (!PySem.W.dataLt (toPy (keyD b)) (toPy (keyD a))) = _
  rw [toPy_key, toPy_key, PySem.W.dataLt_pair (by simp [PySem.W.alike]) (alike_tt b a), dataLt_tt, PySem.W.dataLt_int]
  simp only [PySem.PyData.eqv, eqv_ints]
  by_cases h : (b.length : Int) = a.length
  · have h1 : b.length = a.length := by omega
    rw [show ((b.length : Int) == (a.length : Int)) = true by simpa using h, if_pos rfl]
    by_cases e : b = a
    · subst e
      simp
    · rw [if_neg (by simpa using e)]
      by_cases l : b < a
      · have l' : ¬ a ≤ b := fun r => List.not_lt.mpr r l
        simp [l, l', h1]
      · have l' : a ≤ b := List.not_lt.mp l
        simp [l, l', h1]
  · rw [show ((b.length : Int) == (a.length : Int)) = false by simpa using h, if_neg (by simp)]
    by_cases l : (b.length : Int) < a.length
    · have : ¬ (a.length < b.length ∨ (a.length = b.length ∧ a ≤ b)) := by omega
      simp [l, this]
    · have : a.length < b.length ∨ (a.length = b.length ∧ a ≤ b) := .inl (by omega)
      simp [l, this]
theorem easy_key (a : Lot) : easy (keyD a) = true := by
  unfold easy keyD tupD
  simp [D.plain, D.plains, plains_ints, D.dep, D.deps, deps_ints]
theorem zip_same {α β γ : Type} (f : α → β) (k : α → γ) : ∀ l : List α, (l.map f).zip (l.map k) = l.map fun x => (f x, k x)
  | [] => rfl
  | a :: l => by simp [zip_same f k l]
theorem sortK_len (ls : List Lot) (hl : ls.length ≤ LINE) : sortK (ls.map keyD) (ls.map tupD) = some ((ls.mergeSort leLen).map tupD) := by
  unfold sortK
  rw [if_pos]
  · rw [zip_same, ← List.map_mergeSort (r := leLen) (f := fun x => (keyD x, tupD x)) fun a _ b _ => (le_key a b).symm, List.map_map]
    rfl
  · unfold sortOk
    simp only [Bool.and_eq_true, decide_eq_true_eq, List.length_map, hl, List.all_eq_true, List.mem_map, and_true, true_and]
    refine ⟨⟨⟨?_, ?_⟩, ?_⟩, ?_⟩
    · rintro x ⟨a, _, rfl⟩
      exact easy_key a
    · rintro x ⟨a, _, rfl⟩ y ⟨b, _, rfl⟩
      exact alike_key a b
    · rintro x ⟨a, _, rfl⟩
      rfl
    · rintro x ⟨a, _, rfl⟩
      rfl
theorem keysOf_map {φ : Phi} {kf : D} {α : Type} {c k : α → D} : ∀ {l : List α}, (∀ x ∈ l, callD φ kf [c x] M = some (.ok (k x) M)) → keysOf φ kf (l.map c) M = some (l.map k, M)
  | [], _ => rfl
  | a :: l, h => by
    rw [List.map_cons, List.map_cons]
    unfold keysOf
    rw [h a List.mem_cons_self]
    simp only []
    rw [keysOf_map fun x hx => h x (List.mem_cons_of_mem _ hx)]
    rfl
theorem lam_tups (l : List Lot) : (l.map tupD).all lamless = true := by simp [tupD, lamless]
theorem mkL_tups (l : List Lot) (h : l.length ≤ LINE) : mkL (l.map tupD) = some (.lst (l.map tupD)) := mkL_of h fun _ _ => rfl
theorem mkL_nil : mkL [] = some (.lst []) := rfl
def bodyL : List S := [.ife (.not (.bi .any [.cp (.call 10 [.var 2, .var 3]) (.nm 3) (.var 1) (.lit (.bl true))])) [.app 1 (.var 2)] []]
theorem loop_least (L : En) (hL : isOwn (lock1 L) = false) : ∀ {l acc : List Lot} {e2 : En}, (∀ a ∈ acc, a.length ≤ LINE) → (∀ a ∈ l, a.length ≤ LINE) → acc.length + l.length ≤ LINE → ∃ e2', forL (fun ρ M => sts (g ns) (Ph ns (n + 1)) bodyL ρ M) (.nm 2) (l.map tupD) [L, .ow (acc.map tupD), e2, .un] M = some (.ok .nx [L, .ow ((greedy acc l).map tupD), e2', .un] M)
  | [], acc, e2, _, _, _ => ⟨e2, rfl⟩
  | a :: l, acc, e2, h1, h2, h3 => by
    have ih1 := fun e2 => loop_least L hL (l := l) (acc := acc) (e2 := e2) h1 (fun x hx => h2 x (List.mem_cons_of_mem _ hx)) (by simp only [List.length_cons] at h3; omega)
    have ih2 := fun e2 => loop_least L hL (l := l) (acc := acc ++ [a]) (e2 := e2) (fun x hx => by
      rcases List.mem_append.mp hx with hx | hx
      · exact h1 x hx
      · rw [List.mem_singleton.mp hx]
        exact h2 a List.mem_cons_self) (fun x hx => h2 x (List.mem_cons_of_mem _ hx)) (by simp only [List.length_cons, List.length_append, List.length_nil] at h3 ⊢; omega)
    simp only [List.length_cons] at h3
    rw [List.map_cons]
    unfold forL
    have body : ∃ f', sts (g ns) (Ph ns (n + 1)) bodyL [L, .ow (acc.map tupD), .fz (tupD a), .un] M = some (.ok .nx [L, .ow ((if acc.any (fun o => subB o a) then acc else acc ++ [a]).map tupD), f', .un] M) := by
      simp only [bodyL, sts, st, ev, evs, evPar, startE, viewD, takeD, lock, clear, reset, lock1, isOwn, slots, slotsL, modeOf, maker, mine, turnF, bindT, bindTs, bind_some, okE, fin, lift, iterD, lamless, tru, tupD, onInt, see, ansO, setAll, deref, Option.bind, Option.map, List.map, List.replicate, List.cons_append, List.nil_append, List.append_nil, List.getElem?_cons_zero, List.getElem?_cons_succ, List.set, List.length_cons, List.length_nil, Nat.sub_self, Nat.reduceAdd, Nat.reduceSub, if_true, Bool.false_eq_true, if_false, reduceCtorEq, Nat.zero_add]
      rw [comp_map (c := tupD) (l := acc) (f := fun o => .bl (subB o a))]
      · simp only []
        rw [mkL_of (f := fun o => D.bl (subB o a)) (by omega) fun _ _ => rfl]
        simp only [sts, st, ev, evs, evPar, startE, viewD, takeD, lock, clear, reset, lock1, isOwn, slots, slotsL, modeOf, maker, mine, turnF, bindT, bindTs, bind_some, okE, fin, lift, iterD, lamless, tru, tupD, onInt, see, ansO, setAll, deref, Option.bind, Option.map, List.map, List.replicate, List.cons_append, List.nil_append, List.append_nil, List.getElem?_cons_zero, List.getElem?_cons_succ, List.set, List.length_cons, List.length_nil, Nat.sub_self, Nat.reduceAdd, Nat.reduceSub, if_true, Bool.false_eq_true, if_false, reduceCtorEq, Nat.zero_add, biD, bools_map, List.any_map]
        cases q : acc.any (fun o => subB o a) with
        | true =>
          have q' : acc.any (id ∘ fun o => subB o a) = true := q
          simp only [q', sts, st, ev, evs, evPar, startE, viewD, takeD, lock, clear, reset, lock1, isOwn, slots, slotsL, modeOf, maker, mine, turnF, bindT, bindTs, bind_some, okE, fin, lift, iterD, lamless, tru, tupD, onInt, see, ansO, setAll, deref, Option.bind, Option.map, List.map, List.replicate, List.cons_append, List.nil_append, List.append_nil, List.getElem?_cons_zero, List.getElem?_cons_succ, List.set, List.length_cons, List.length_nil, Nat.sub_self, Nat.reduceAdd, Nat.reduceSub, if_true, Bool.false_eq_true, if_false, reduceCtorEq, Nat.zero_add, Bool.not_true]
          exact ⟨_, rfl⟩
        | false =>
          have q' : acc.any (id ∘ fun o => subB o a) = false := q
          simp only [q', sts, st, ev, evs, evPar, startE, viewD, takeD, lock, clear, reset, lock1, isOwn, slots, slotsL, modeOf, maker, mine, turnF, bindT, bindTs, bind_some, okE, fin, lift, iterD, lamless, tru, tupD, onInt, see, ansO, setAll, deref, Option.bind, Option.map, List.map, List.replicate, List.cons_append, List.nil_append, List.append_nil, List.getElem?_cons_zero, List.getElem?_cons_succ, List.set, List.length_cons, List.length_nil, Nat.sub_self, Nat.reduceAdd, Nat.reduceSub, if_true, Bool.false_eq_true, if_false, reduceCtorEq, Nat.zero_add, Bool.not_false, fit, List.length_append, List.length_map]
          rw [if_pos (by simp; omega)]
          refine ⟨.fz (tupD a), ?_⟩
          rw [List.map_append]
          rfl
      · intro o ho
        have := holds_ok (ns := ns) (n := n) (M := M) a o (h1 o ho)
        unfold tupD at this
        simp only [sts, st, ev, evs, evPar, startE, viewD, takeD, lock, clear, reset, lock1, isOwn, slots, slotsL, modeOf, maker, mine, turnF, bindT, bindTs, bind_some, okE, fin, lift, iterD, lamless, tru, tupD, onInt, see, ansO, setAll, deref, Option.bind, Option.map, List.map, List.replicate, List.cons_append, List.nil_append, List.append_nil, List.getElem?_cons_zero, List.getElem?_cons_succ, List.set, List.length_cons, List.length_nil, Nat.sub_self, Nat.reduceAdd, Nat.reduceSub, if_true, Bool.false_eq_true, if_false, reduceCtorEq, Nat.zero_add, this]
        exact ⟨_, rfl⟩
    obtain ⟨f', body⟩ := body
    simp only [bindT, List.set, body, bind_some]
    unfold greedy
    by_cases q : acc.any (fun o => subB o a) = true
    · rw [if_pos q, if_pos q]
      exact ih1 f'
    · rw [if_neg q, if_neg q]
      exact ih2 f'
theorem sts_nx {φ : Phi} {s : S} {r : List S} {ρ ρ1 : Ev} {M M1 : Mem} (h : st (g ns) φ s ρ M = some (.ok .nx ρ1 M1)) : sts (g ns) φ (s :: r) ρ M = sts (g ns) φ r ρ1 M1 := by
  simp only [sts, h, bind_some]
theorem sts_rt {φ : Phi} {s : S} {r : List S} {d : D} {ρ ρ1 : Ev} {M M1 : Mem} (h : st (g ns) φ s ρ M = some (.ok (.rt d) ρ1 M1)) : sts (g ns) φ (s :: r) ρ M = some (.ok (.rt d) ρ1 M1) := by
  simp only [sts, h, bind_some, okE]
theorem for_of {φ : Phi} {t : Tg} {it : E} {b : List S} {xs : List D} {ρ ρ1 : Ev} {M M1 : Mem} {r : R Fl} (h1 : ev (g ns) φ .k it ρ M = some (.ok (.lst xs) ρ1 M1)) (h2 : forL (fun ρ M => sts (g ns) φ b ρ M) t xs ρ1 M1 = r) : st (g ns) φ (.for t it b) ρ M = r := by
  simp only [st, h1, bind_some, h2]
theorem least_in_ok (b : Bool) (ls : List Lot) (h1 : ls.length ≤ LINE) (h2 : ∀ a ∈ ls, a.length ≤ LINE) : Ph ns (n + 2) 13 [sq b (ls.map tupD)] M = some (.ok (.tup ((minF ls).map tupD)) M) := by
  refine call_rt (F := F13) rfl rfl rfl ?_
  have hn : (nubF [] ls).length ≤ LINE := by
    have := len_nubF (l := ls) (acc := [])
    simp only [List.length_nil] at this
    omega
  have hs : ((nubF [] ls).mergeSort leLen).length ≤ LINE := by rw [List.length_mergeSort]; exact hn
  have ks : keysOf (Ph ns (n + 1)) (.fn 12) ((nubF [] ls).map tupD) M = some ((nubF [] ls).map keyD, M) := keysOf_map fun x _ => (show Ph ns (n + 1) 12 [tupD x] M = _ from by_size_ok x)
  obtain ⟨e2', lp⟩ := loop_least (ns := ns) (n := n) (M := M) (.fz (sq b (ls.map tupD))) rfl (l := (nubF [] ls).mergeSort leLen) (acc := []) (e2 := .un) (fun _ z => nomatch z) (fun a ha => by
    rw [List.mem_mergeSort, mem_nubF] at ha
    exact h2 a (ha.resolve_left fun z => nomatch z)) (by simpa using hs)
  refine ⟨_, (sts_nx (ρ1 := [.fz (sq b (ls.map tupD)), .ow [], .un, .un]) (M1 := M) ?_).trans ((sts_nx (for_of (ρ1 := [.fz (sq b (ls.map tupD)), .ow [], .un, .un]) (M1 := M) (xs := ((nubF [] ls).mergeSort leLen).map tupD) ?_ lp)).trans (sts_rt (M1 := M) (ρ1 := [.fz (sq b (ls.map tupD)), .ow ((minF ls).map tupD), e2', .un]) ?_))⟩
  · simp only [sts, st, ev, evs, evPar, startE, viewD, takeD, lock, clear, reset, lock1, isOwn, slots, slotsL, modeOf, maker, mine, turnF, bindT, bindTs, bind_some, okE, fin, lift, iterD, lamless, tru, tupD, onInt, see, ansO, setAll, deref, Option.bind, Option.map, List.map, List.replicate, List.cons_append, List.nil_append, List.append_nil, List.getElem?_cons_zero, List.getElem?_cons_succ, List.set, List.length_cons, List.length_nil, Nat.sub_self, Nat.reduceAdd, Nat.reduceSub, if_true, Bool.false_eq_true, if_false, reduceCtorEq, Nat.zero_add, mkL_nil]
    rfl
  · cases b
    all_goals
      simp only [sq, sts, st, ev, evs, evPar, startE, viewD, takeD, lock, clear, reset, lock1, isOwn, slots, slotsL, modeOf, maker, mine, turnF, bindT, bindTs, bind_some, okE, fin, lift, iterD, lamless, tru, tupD, onInt, see, ansO, setAll, deref, Option.bind, Option.map, List.map, List.replicate, List.cons_append, List.nil_append, List.append_nil, List.getElem?_cons_zero, List.getElem?_cons_succ, List.set, List.length_cons, List.length_nil, Nat.sub_self, Nat.reduceAdd, Nat.reduceSub, if_true, Bool.false_eq_true, if_false, reduceCtorEq, Nat.zero_add]
      rw [comp_map (c := tupD) (l := ls) (f := tupD)]
      · simp only [tupsOf_map, fit, List.length_map, h1, decide_true, bind_some, okE, sortN, ks, sortK_len _ hn, fin, if_true, iterD, lift, Option.map]
      · intro x hx
        simp only [sts, st, ev, evs, evPar, startE, viewD, takeD, lock, clear, reset, lock1, isOwn, slots, slotsL, modeOf, maker, mine, turnF, bindT, bindTs, bind_some, okE, fin, lift, iterD, lamless, tru, tupD, onInt, see, ansO, setAll, deref, Option.bind, Option.map, List.map, List.replicate, List.cons_append, List.nil_append, List.append_nil, List.getElem?_cons_zero, List.getElem?_cons_succ, List.set, List.length_cons, List.length_nil, Nat.sub_self, Nat.reduceAdd, Nat.reduceSub, if_true, Bool.false_eq_true, if_false, reduceCtorEq, Nat.zero_add]
        exact ⟨_, rfl⟩
  · simp only [sts, st, ev, evs, evPar, startE, viewD, takeD, lock, clear, reset, lock1, isOwn, slots, slotsL, modeOf, maker, mine, turnF, bindT, bindTs, bind_some, okE, fin, lift, iterD, lamless, tru, tupD, onInt, see, ansO, setAll, deref, Option.bind, Option.map, List.map, List.replicate, List.cons_append, List.nil_append, List.append_nil, List.getElem?_cons_zero, List.getElem?_cons_succ, List.set, List.length_cons, List.length_nil, Nat.sub_self, Nat.reduceAdd, Nat.reduceSub, if_true, Bool.false_eq_true, if_false, reduceCtorEq, Nat.zero_add, biD, seqD]
    rfl
end
end K24
end
section
set_option Elab.async false
set_option linter.all false
set_option maxRecDepth 100000
set_option maxHeartbeats 1000000
/-! PL5: the package's families, on. -/
namespace K24
open DV PL
section
variable {ns : List Int} {n : Nat} {M M' : Mem} {ρ ρ' : Ev}
theorem lot_len {k : Nat} {a : Lot} (h : LotOk k a) : a.length ≤ k := by
  have := sub_len (b := range k) (st_nodup h.st) fun x hx => by
    have := h.bd x hx
    unfold range
    exact List.mem_map.mpr ⟨x.toNat, by rw [List.mem_range]; omega, by omega⟩
  unfold range at this
  simpa using this
theorem len_subs : ∀ k : Nat, (subs k).length = 2 ^ k
  | 0 => rfl
  | k + 1 => by
    unfold subs
    rw [List.length_append, List.length_map, len_subs k, Nat.pow_succ]
    omega
theorem len_all (k : Nat) : (allB k).length = 2 ^ k := by
  unfold allB
  rw [List.length_mergeSort, len_subs]
theorem pow5 {k : Nat} (h : k ≤ 5) : 2 ^ k ≤ 32 := by
  have := Nat.pow_le_pow_right (n := 2) (by decide) h
  omega
theorem can_len {k : Nat} {f : List Lot} (h : Can k f) (hk : k ≤ 5) : f.length ≤ 32 := by
  have : f.length ≤ (allB k).length := by
    have : ∀ {f l : List Lot}, f.Nodup → (∀ a ∈ f, a ∈ l) → f.length ≤ l.length := by
      intro f
      induction f with
      | nil => exact fun _ _ => Nat.zero_le _
      | cons x f ih =>
        intro l hn hs
        obtain ⟨h1, h2⟩ := List.nodup_cons.mp hn
        have hx := hs x List.mem_cons_self
        have := ih (l := l.erase x) h2 fun y hy => (List.mem_erase_of_ne (by rintro rfl; exact h1 hy)).mpr (hs y (List.mem_cons_of_mem _ hy))
        rw [List.length_erase_of_mem hx] at this
        have : 0 < l.length := List.length_pos_of_mem hx
        simp only [List.length_cons]
        omega
    exact this h.nd fun a ha => mem_allB.mpr (h.ok a ha)
  rw [len_all] at this
  have := pow5 hk
  omega
theorem sort_run {φ : Phi} {kf : D} (ls : List Lot) (hl : ls.length ≤ LINE) (hk : ∀ a ∈ ls, callD φ kf [tupD a] M = some (.ok (keyD a) M)) (m : Md) : sortN φ m (.lst (ls.map tupD)) kf ρ M = fin m (.lst ((ls.mergeSort leLen).map tupD)) ρ M := by
  unfold sortN
  simp only []
  rw [keysOf_map (k := keyD) hk]
  simp only []
  rw [sortK_len ls hl]
def bodyB : List S := [.ext 1 (.cp (.tup [.star (.var 3), .var 2]) (.nm 3) (.var 1) (.lit (.bl true)))]
theorem mkT_nil : mkT [] = some (.tup []) := by
  unfold mkT fit
  rw [if_pos]
  simp
theorem mkL_one (d : D) (h : lamless d = true := by rfl) : mkL [d] = some (.lst [d]) := by
  unfold mkL fit
  rw [if_pos]
  simp [h, LINE]
theorem mkT_tup (a : Lot) (j : Int) (h : a.length + 1 ≤ LINE) : mkT (a.map .int ++ [.int j]) = some (.tup (a.map .int ++ [.int j])) := by
  unfold mkT fit
  rw [if_pos]
  simp [lamless]
  omega
theorem subs_tups (j : Nat) : (subs (j + 1)).map tupD = (subs j).map tupD ++ (subs j).map fun a => D.tup (a.map D.int ++ [D.int (j : Int)]) := by
  simp [subs, tupD]
theorem loop_below (L : En) (hL : isOwn (lock1 L) = false) {φ : Phi} {k : Nat} (hk : k ≤ 5) : ∀ {c j : Nat} {e2 : En}, j + c = k → ∃ e2', forL (fun ρ M => sts (g ns) φ bodyB ρ M) (.nm 2) ((List.range' j c).map fun (i : Nat) => .int i) [L, .ow ((subs j).map tupD), e2, .un] M = some (.ok .nx [L, .ow ((subs k).map tupD), e2', .un] M)
  | 0, j, e2, h => ⟨e2, by rw [← h]; rfl⟩
  | c + 1, j, e2, h => by
    have ih := fun e2 => loop_below L hL (φ := φ) hk (c := c) (j := j + 1) (e2 := e2) (by omega)
    rw [List.range'_succ, List.map_cons]
    unfold forL
    have l1 := len_subs j
    have l2 := pow5 (k := j) (by omega)
    have body : ∃ e', sts (g ns) φ bodyB [L, .ow ((subs j).map tupD), .fz (.int j), .un] M = some (.ok .nx [L, .ow ((subs (j + 1)).map tupD), e', .un] M) := by
      refine ⟨.fz (.int j), ?_⟩
      simp only [bodyB, sts, st, ev, evs, evPar, startE, viewD, takeD, lock, clear, reset, lock1, isOwn, slots, slotsL, modeOf, maker, mine, turnF, bindT, bindTs, bind_some, okE, fin, lift, iterD, lamless, tru, tupD, onInt, see, ansO, setAll, deref, Option.bind, Option.map, List.map, List.replicate, List.cons_append, List.nil_append, List.append_nil, List.getElem?_cons_zero, List.getElem?_cons_succ, List.set, List.length_cons, List.length_nil, Nat.sub_self, Nat.reduceAdd, Nat.reduceSub, if_true, Bool.false_eq_true, if_false, reduceCtorEq, Nat.zero_add]
      rw [comp_map (c := tupD) (l := subs j) (f := fun a => D.tup (a.map D.int ++ [D.int (j : Int)]))]
      · simp only []
        rw [mkL_of (f := fun (a : Lot) => D.tup (a.map D.int ++ [D.int (j : Int)])) (by rw [l1]; unfold LINE; omega) fun _ _ => rfl]
        simp only [sts, st, ev, evs, evPar, startE, viewD, takeD, lock, clear, reset, lock1, isOwn, slots, slotsL, modeOf, maker, mine, turnF, bindT, bindTs, bind_some, okE, fin, lift, iterD, lamless, tru, tupD, onInt, see, ansO, setAll, deref, Option.bind, Option.map, List.map, List.replicate, List.cons_append, List.nil_append, List.append_nil, List.getElem?_cons_zero, List.getElem?_cons_succ, List.set, List.length_cons, List.length_nil, Nat.sub_self, Nat.reduceAdd, Nat.reduceSub, if_true, Bool.false_eq_true, if_false, reduceCtorEq, Nat.zero_add, fit, List.length_append, List.length_map, l1]
        rw [if_pos (by rw [decide_eq_true_eq]; unfold LINE; omega)]
        rw [subs_tups]
        rfl
      · intro a ha
        have la := lot_len (mem_subs.mp ha)
        simp only [sts, st, ev, evs, evPar, startE, viewD, takeD, lock, clear, reset, lock1, isOwn, slots, slotsL, modeOf, maker, mine, turnF, bindT, bindTs, bind_some, okE, fin, lift, iterD, lamless, tru, tupD, onInt, see, ansO, setAll, deref, Option.bind, Option.map, List.map, List.replicate, List.cons_append, List.nil_append, List.append_nil, List.getElem?_cons_zero, List.getElem?_cons_succ, List.set, List.length_cons, List.length_nil, Nat.sub_self, Nat.reduceAdd, Nat.reduceSub, if_true, Bool.false_eq_true, if_false, reduceCtorEq, Nat.zero_add, seqD]
        rw [mkT_tup a j (by unfold LINE; omega)]
        simp only [sts, st, ev, evs, evPar, startE, viewD, takeD, lock, clear, reset, lock1, isOwn, slots, slotsL, modeOf, maker, mine, turnF, bindT, bindTs, bind_some, okE, fin, lift, iterD, lamless, tru, tupD, onInt, see, ansO, setAll, deref, Option.bind, Option.map, List.map, List.replicate, List.cons_append, List.nil_append, List.append_nil, List.getElem?_cons_zero, List.getElem?_cons_succ, List.set, List.length_cons, List.length_nil, Nat.sub_self, Nat.reduceAdd, Nat.reduceSub, if_true, Bool.false_eq_true, if_false, reduceCtorEq, Nat.zero_add]
        exact ⟨_, rfl⟩
    obtain ⟨e', body⟩ := body
    simp only [bindT, List.set, body, bind_some]
    exact ih e'
theorem range_map (k : Nat) : (List.range k).map (fun (i : Nat) => D.int i) = (List.range' 0 k).map fun (i : Nat) => D.int i := by rw [List.range_eq_range']
theorem rangeD_nat (k : Nat) (h : k ≤ 64) : rangeD [.int (k : Int)] = some ((List.range' 0 k).map fun (i : Nat) => D.int i) := by
  unfold rangeD
  simp only []
  rw [if_pos (by simp; omega)]
  rw [← range_map]
  rfl
theorem ev_rangeK {φ : Phi} {r : Ev} {i : Int} {l : List D} (rg : rangeD [.int i] = some l) : ev (g ns) φ .k (.range [.var 0]) (.fz (.int i) :: r) M = some (.ok (.lst l) (.fz (.int i) :: r) M) := by
  have e : ev (g ns) φ .k (.range [.var 0]) (.fz (.int i) :: r) M = (match Md.k, rangeD [.int i] with
    | .i, some l => okE (.fz (.int i) :: r) M (.lst l)
    | .k, some l => okE (.fz (.int i) :: r) M (.lst l)
    | _, _ => none) := by
    simp only [ev, evs, takeD, List.getElem?_cons_zero, bind_some, okE]
    all_goals rfl
  rw [e, rg]
  rfl
theorem ev_rangeI {φ : Phi} {r : Ev} {i : Int} {l : List D} (rg : rangeD [.int i] = some l) : ev (g ns) φ .i (.range [.var 0]) (.fz (.int i) :: r) M = some (.ok (.lst l) (.fz (.int i) :: r) M) := by
  have e : ev (g ns) φ .i (.range [.var 0]) (.fz (.int i) :: r) M = (match Md.i, rangeD [.int i] with
    | .i, some l => okE (.fz (.int i) :: r) M (.lst l)
    | .k, some l => okE (.fz (.int i) :: r) M (.lst l)
    | _, _ => none) := by
    simp only [ev, evs, takeD, List.getElem?_cons_zero, bind_some, okE]
    all_goals rfl
  rw [e, rg]
  rfl
theorem lots_below_ok (k : Nat) (hk : k ≤ 5) : Ph ns (n + 2) 14 [.int (k : Int)] M = some (.ok (.tup ((allB k).map tupD)) M) := by
  refine call_rt (F := F14) rfl rfl rfl ?_
  obtain ⟨e2', lp⟩ := loop_below (ns := ns) (M := M) (.fz (.int (k : Int))) rfl (φ := Ph ns (n + 1)) hk (c := k) (j := 0) (e2 := .un) (by omega)
  have l1 := len_subs k
  have l2 := pow5 hk
  have ks : keysOf (Ph ns (n + 1)) (.fn 12) ((subs k).map tupD) M = some ((subs k).map keyD, M) := keysOf_map fun x _ => (show Ph ns (n + 1) 12 [tupD x] M = _ from by_size_ok x)
  have sk := sortK_len (subs k) (by rw [l1]; unfold LINE; omega)
  refine ⟨_, (sts_nx (ρ1 := [.fz (.int (k : Int)), .ow ((subs 0).map tupD), .un, .un]) (M1 := M) ?_).trans ((sts_nx (for_of (ρ1 := [.fz (.int (k : Int)), .ow ((subs 0).map tupD), .un, .un]) (M1 := M) (xs := (List.range' 0 k).map fun (i : Nat) => D.int i) ?_ lp)).trans (sts_rt (M1 := M) (ρ1 := [.fz (.int (k : Int)), .ow ((subs k).map tupD), e2', .un]) ?_))⟩
  · simp only [sts, st, ev, evs, evPar, startE, viewD, takeD, lock, clear, reset, lock1, isOwn, slots, slotsL, modeOf, maker, mine, turnF, bindT, bindTs, bind_some, okE, fin, lift, iterD, lamless, tru, tupD, onInt, see, ansO, setAll, deref, Option.bind, Option.map, List.map, List.replicate, List.cons_append, List.nil_append, List.append_nil, List.getElem?_cons_zero, List.getElem?_cons_succ, List.set, List.length_cons, List.length_nil, Nat.sub_self, Nat.reduceAdd, Nat.reduceSub, if_true, Bool.false_eq_true, if_false, reduceCtorEq, Nat.zero_add, mkT_nil, mkL_one]
    rfl
  · exact ev_rangeK (rangeD_nat k (by omega))
  · simp only [sts, st, ev, evs, evPar, startE, viewD, takeD, lock, clear, reset, lock1, isOwn, slots, slotsL, modeOf, maker, mine, turnF, bindT, bindTs, bind_some, okE, fin, lift, iterD, lamless, tru, tupD, onInt, see, ansO, setAll, deref, Option.bind, Option.map, List.map, List.replicate, List.cons_append, List.nil_append, List.append_nil, List.getElem?_cons_zero, List.getElem?_cons_succ, List.set, List.length_cons, List.length_nil, Nat.sub_self, Nat.reduceAdd, Nat.reduceSub, if_true, Bool.false_eq_true, if_false, reduceCtorEq, Nat.zero_add, ks, sk, biD, seqD]
    rfl
/-! ### is_family_of -/
theorem plains_tups (f : List Lot) : D.plains (f.map tupD) = true := by
  induction f with
  | nil => rfl
  | cons a l ih => simp [D.plains, D.plain, tupD, plains_ints] at ih ⊢; exact ih
theorem deps_tups (f : List Lot) : D.deps (f.map tupD) ≤ 1 := by
  induction f with
  | nil => exact Nat.zero_le _
  | cons a l ih =>
    simp only [List.map_cons, D.deps, tupD, D.dep, deps_ints] at ih ⊢
    omega
theorem easy_fam (f : List Lot) : easy (.tup (f.map tupD)) = true := by
  unfold easy
  have h := deps_tups f
  have h2 : D.deps (f.map tupD) + 1 ≤ 40 := by omega
  simp [D.plain, plains_tups, D.dep, h2]
theorem eqs_ints (l : List Int) : D.eqs (l.map .int) (l.map .int) = true := by
  induction l with
  | nil => rfl
  | cons a l ih => simp [D.eqs, D.eq, ih]
theorem eqs_tups (f : List Lot) : D.eqs (f.map tupD) (f.map tupD) = true := by
  induction f with
  | nil => rfl
  | cons a l ih =>
    simp only [List.map_cons, D.eqs, ih, Bool.and_true]
    simp only [tupD, D.eq, eqs_ints]
theorem eq_fam (f : List Lot) : cmD .eq (.tup (f.map tupD)) (.tup (f.map tupD)) = some true := by
  unfold cmD
  simp only [easy_fam, Bool.and_self, if_true, D.eq, eqs_tups]
theorem eq_famD (f : List Lot) : D.eq (.tup (f.map tupD)) (.tup (f.map tupD)) = true := by
  have := eq_fam f
  unfold cmD at this
  simp only [easy_fam, Bool.and_self, if_true] at this
  exact Option.some.inj this
def famV (b : Bool) (f : List Lot) : D := sq b (f.map fun a => sq b (a.map .int))
theorem line32 {k : Nat} (h : k ≤ 32) : k ≤ LINE := by unfold LINE; omega
theorem line5 {k : Nat} (h : k ≤ 5) : k ≤ LINE := by unfold LINE; omega
theorem is_family_ok (b : Bool) {k : Nat} {f : List Lot} (hc : Can k f) (hk : k ≤ 5) : Ph ns (n + 4) 15 [famV b f, .int (k : Int)] M = some (.ok (.bl true) M) := by
  refine call_rt (F := F15) rfl rfl rfl ?_
  have hl := can_len hc hk
  have ll : ∀ a ∈ f, a.length ≤ 5 := fun a ha => Nat.le_trans (lot_len (hc.ok a ha)) hk
  have il : ∀ a ∈ f, Ph ns (n + 3) 8 [sq b (a.map .int), .int (k : Int)] M = some (.ok (.bl true) M) := fun a ha => is_lot_ok b a k (hc.ok a ha) (line5 (ll a ha))
  have li := least_in_ok (ns := ns) (n := n + 1) (M := M) true f (line32 hl) fun a ha => line5 (ll a ha)
  rw [minF_can hc] at li
  have lt : ¬ (32 : Int) < f.length := by omega
  cases b
  all_goals
    simp only [sq, Bool.false_eq_true, if_true, if_false] at il li
    simp only [famV, sq, F15, sts, st, ev, evs, evPar, startE, viewD, takeD, lock, clear, reset, lock1, isOwn, slots, slotsL, modeOf, maker, mine, turnF, bindT, bindTs, bind_some, okE, fin, lift, iterD, lamless, tru, tupD, onInt, see, ansO, setAll, deref, Option.bind, Option.map, List.map, List.replicate, List.cons_append, List.nil_append, List.append_nil, List.getElem?_cons_zero, List.getElem?_cons_succ, List.set, List.length_cons, List.length_nil, Nat.sub_self, Nat.reduceAdd, Nat.reduceSub, if_true, Bool.false_eq_true, if_false, reduceCtorEq, Nat.zero_add, mkT2 (.ty .list) (.ty .tuple) rfl rfl, biD, isAny, isTyD, isOne, isTy, Bool.or_false, Bool.or_true, Bool.not_true, List.length_map, cmD, lt, decide_false]
    rw [comp_map (l := f) (f := fun _ => .bl true)]
    · simp only []
      rw [mkL_of (f := fun _ => D.bl true) (line32 hl) fun _ _ => rfl]
      simp only [sts, st, ev, evs, evPar, startE, viewD, takeD, lock, clear, reset, lock1, isOwn, slots, slotsL, modeOf, maker, mine, turnF, bindT, bindTs, bind_some, okE, fin, lift, iterD, lamless, tru, tupD, onInt, see, ansO, setAll, deref, Option.bind, Option.map, List.map, List.replicate, List.cons_append, List.nil_append, List.append_nil, List.getElem?_cons_zero, List.getElem?_cons_succ, List.set, List.length_cons, List.length_nil, Nat.sub_self, Nat.reduceAdd, Nat.reduceSub, if_true, Bool.false_eq_true, if_false, reduceCtorEq, Nat.zero_add, biD, all_true, all_id, Bool.not_true]
      rw [comp_map (l := f) (f := tupD)]
      · simp only []
        rw [mkL_tups f (line32 hl)]
        simp only [sts, st, ev, evs, evPar, startE, viewD, takeD, lock, clear, reset, lock1, isOwn, slots, slotsL, modeOf, maker, mine, turnF, bindT, bindTs, bind_some, okE, fin, lift, iterD, lamless, tru, tupD, onInt, see, ansO, setAll, deref, Option.bind, Option.map, List.map, List.replicate, List.cons_append, List.nil_append, List.append_nil, List.getElem?_cons_zero, List.getElem?_cons_succ, List.set, List.length_cons, List.length_nil, Nat.sub_self, Nat.reduceAdd, Nat.reduceSub, if_true, Bool.false_eq_true, if_false, reduceCtorEq, Nat.zero_add, biD, seqD, li, easy_fam, Bool.and_self, eq_famD]
        exact ⟨_, rfl⟩
      · intro x hx
        simp only [sts, st, ev, evs, evPar, startE, viewD, takeD, lock, clear, reset, lock1, isOwn, slots, slotsL, modeOf, maker, mine, turnF, bindT, bindTs, bind_some, okE, fin, lift, iterD, lamless, tru, tupD, onInt, see, ansO, setAll, deref, Option.bind, Option.map, List.map, List.replicate, List.cons_append, List.nil_append, List.append_nil, List.getElem?_cons_zero, List.getElem?_cons_succ, List.set, List.length_cons, List.length_nil, Nat.sub_self, Nat.reduceAdd, Nat.reduceSub, if_true, Bool.false_eq_true, if_false, reduceCtorEq, Nat.zero_add, biD, seqD]
        exact ⟨_, rfl⟩
    · intro x hx
      simp only [sts, st, ev, evs, evPar, startE, viewD, takeD, lock, clear, reset, lock1, isOwn, slots, slotsL, modeOf, maker, mine, turnF, bindT, bindTs, bind_some, okE, fin, lift, iterD, lamless, tru, tupD, onInt, see, ansO, setAll, deref, Option.bind, Option.map, List.map, List.replicate, List.cons_append, List.nil_append, List.append_nil, List.getElem?_cons_zero, List.getElem?_cons_succ, List.set, List.length_cons, List.length_nil, Nat.sub_self, Nat.reduceAdd, Nat.reduceSub, if_true, Bool.false_eq_true, if_false, reduceCtorEq, Nat.zero_add, sq, il x hx]
      exact ⟨_, rfl⟩
theorem need_family_ok (b : Bool) {k : Nat} {f : List Lot} (hc : Can k f) (hk : k ≤ 5) (t : List Nat) : Ph ns (n + 5) 17 [famV b f, .str t, .int (k : Int)] M = some (.ok (.tup (f.map tupD)) M) := by
  refine call_rt (F := F17) rfl rfl rfl ?_
  have hl := can_len hc hk
  have fo := is_family_ok (ns := ns) (n := n) (M := M) b hc hk
  cases b
  all_goals
    simp only [famV, sq, Bool.false_eq_true, if_true, if_false] at fo
    simp only [famV, sq, F17, sts, st, ev, evs, evPar, startE, viewD, takeD, lock, clear, reset, lock1, isOwn, slots, slotsL, modeOf, maker, mine, turnF, bindT, bindTs, bind_some, okE, fin, lift, iterD, lamless, tru, tupD, onInt, see, ansO, setAll, deref, Option.bind, Option.map, List.map, List.replicate, List.cons_append, List.nil_append, List.append_nil, List.getElem?_cons_zero, List.getElem?_cons_succ, List.set, List.length_cons, List.length_nil, Nat.sub_self, Nat.reduceAdd, Nat.reduceSub, if_true, Bool.false_eq_true, if_false, reduceCtorEq, Nat.zero_add, fo, Bool.not_true]
    rw [comp_map (l := f) (f := tupD)]
    · simp only []
      rw [mkL_tups f (line32 hl)]
      simp only [sts, st, ev, evs, evPar, startE, viewD, takeD, lock, clear, reset, lock1, isOwn, slots, slotsL, modeOf, maker, mine, turnF, bindT, bindTs, bind_some, okE, fin, lift, iterD, lamless, tru, tupD, onInt, see, ansO, setAll, deref, Option.bind, Option.map, List.map, List.replicate, List.cons_append, List.nil_append, List.append_nil, List.getElem?_cons_zero, List.getElem?_cons_succ, List.set, List.length_cons, List.length_nil, Nat.sub_self, Nat.reduceAdd, Nat.reduceSub, if_true, Bool.false_eq_true, if_false, reduceCtorEq, Nat.zero_add, biD, seqD]
      exact ⟨_, rfl⟩
    · intro x hx
      simp only [sts, st, ev, evs, evPar, startE, viewD, takeD, lock, clear, reset, lock1, isOwn, slots, slotsL, modeOf, maker, mine, turnF, bindT, bindTs, bind_some, okE, fin, lift, iterD, lamless, tru, tupD, onInt, see, ansO, setAll, deref, Option.bind, Option.map, List.map, List.replicate, List.cons_append, List.nil_append, List.append_nil, List.getElem?_cons_zero, List.getElem?_cons_succ, List.set, List.length_cons, List.length_nil, Nat.sub_self, Nat.reduceAdd, Nat.reduceSub, if_true, Bool.false_eq_true, if_false, reduceCtorEq, Nat.zero_add, biD, seqD]
      exact ⟨_, rfl⟩
theorem does_ok (f : List Lot) (a : Lot) (hl : f.length ≤ LINE) (h : ∀ e ∈ f, e.length ≤ LINE) : Ph ns (n + 2) 22 [.tup (f.map tupD), tupD a] M = some (.ok (.bl (f.any fun e => subB e a)) M) := by
  refine call_rt (F := F22) rfl rfl rfl ?_
  simp only [F22, sts, st, ev, evs, evPar, startE, viewD, takeD, lock, clear, reset, lock1, isOwn, slots, slotsL, modeOf, maker, mine, turnF, bindT, bindTs, bind_some, okE, fin, lift, iterD, lamless, tru, tupD, onInt, see, ansO, setAll, deref, Option.bind, Option.map, List.map, List.replicate, List.cons_append, List.nil_append, List.append_nil, List.getElem?_cons_zero, List.getElem?_cons_succ, List.set, List.length_cons, List.length_nil, Nat.sub_self, Nat.reduceAdd, Nat.reduceSub, if_true, Bool.false_eq_true, if_false, reduceCtorEq, Nat.zero_add]
  rw [comp_map (l := f) (c := tupD) (f := fun e => .bl (subB e a))]
  · simp only []
    rw [mkL_of (f := fun e => D.bl (subB e a)) hl fun _ _ => rfl]
    simp only [sts, st, ev, evs, evPar, startE, viewD, takeD, lock, clear, reset, lock1, isOwn, slots, slotsL, modeOf, maker, mine, turnF, bindT, bindTs, bind_some, okE, fin, lift, iterD, lamless, tru, tupD, onInt, see, ansO, setAll, deref, Option.bind, Option.map, List.map, List.replicate, List.cons_append, List.nil_append, List.append_nil, List.getElem?_cons_zero, List.getElem?_cons_succ, List.set, List.length_cons, List.length_nil, Nat.sub_self, Nat.reduceAdd, Nat.reduceSub, if_true, Bool.false_eq_true, if_false, reduceCtorEq, Nat.zero_add, biD, bools_map, List.any_map]
    exact ⟨_, rfl⟩
  · intro x hx
    have := holds_ok (ns := ns) (n := n) (M := M) a x (h x hx)
    unfold tupD at this
    simp only [sts, st, ev, evs, evPar, startE, viewD, takeD, lock, clear, reset, lock1, isOwn, slots, slotsL, modeOf, maker, mine, turnF, bindT, bindTs, bind_some, okE, fin, lift, iterD, lamless, tru, tupD, onInt, see, ansO, setAll, deref, Option.bind, Option.map, List.map, List.replicate, List.cons_append, List.nil_append, List.append_nil, List.getElem?_cons_zero, List.getElem?_cons_succ, List.set, List.length_cons, List.length_nil, Nat.sub_self, Nat.reduceAdd, Nat.reduceSub, if_true, Bool.false_eq_true, if_false, reduceCtorEq, Nat.zero_add, this]
    exact ⟨_, rfl⟩
def apartD (a : Lot) : List Lot → D
  | [] => .non
  | e :: l => if touB a e then apartD a l else tupD e
def bodyA : List S := [.ife (.not (.call 11 [.var 1, .var 2])) [.ret (.bi .tuple [.var 2])] []]
theorem loop_apart (L : En) (a : Lot) : ∀ {l : List Lot} {e2 : En}, (∀ e ∈ l, e.length ≤ LINE) → ∃ e2', forL (fun ρ M => sts (g ns) (Ph ns (n + 1)) bodyA ρ M) (.nm 2) (l.map tupD) [L, .fz (tupD a), e2] M = some (.ok (if l.all (fun e => touB a e) then .nx else .rt (apartD a l)) [L, .fz (tupD a), e2'] M)
  | [], e2, _ => ⟨e2, rfl⟩
  | e :: l, e2, h => by
    have ih := fun e2 => loop_apart L a (l := l) (e2 := e2) fun x hx => h x (List.mem_cons_of_mem _ hx)
    have t := touches_ok (ns := ns) (n := n) (M := M) a e (h e List.mem_cons_self)
    unfold tupD at t
    rw [List.map_cons]
    unfold forL
    cases q : touB a e with
    | true =>
      have body : sts (g ns) (Ph ns (n + 1)) bodyA [L, .fz (tupD a), .fz (tupD e)] M = some (.ok .nx [L, .fz (tupD a), .fz (tupD e)] M) := by
        simp only [bodyA, sts, st, ev, evs, evPar, startE, viewD, takeD, lock, clear, reset, lock1, isOwn, slots, slotsL, modeOf, maker, mine, turnF, bindT, bindTs, bind_some, okE, fin, lift, iterD, lamless, tru, tupD, onInt, see, ansO, setAll, deref, Option.bind, Option.map, List.map, List.replicate, List.cons_append, List.nil_append, List.append_nil, List.getElem?_cons_zero, List.getElem?_cons_succ, List.set, List.length_cons, List.length_nil, Nat.sub_self, Nat.reduceAdd, Nat.reduceSub, if_true, Bool.false_eq_true, if_false, reduceCtorEq, Nat.zero_add, t, q, Bool.not_true]
      simp only [bindT, List.set, body, bind_some, List.all_cons, q, Bool.true_and]
      unfold apartD
      rw [q, if_pos rfl]
      exact ih (.fz (tupD e))
    | false =>
      have body : sts (g ns) (Ph ns (n + 1)) bodyA [L, .fz (tupD a), .fz (tupD e)] M = some (.ok (.rt (tupD e)) [L, .fz (tupD a), .fz (tupD e)] M) := by
        simp only [bodyA, sts, st, ev, evs, evPar, startE, viewD, takeD, lock, clear, reset, lock1, isOwn, slots, slotsL, modeOf, maker, mine, turnF, bindT, bindTs, bind_some, okE, fin, lift, iterD, lamless, tru, tupD, onInt, see, ansO, setAll, deref, Option.bind, Option.map, List.map, List.replicate, List.cons_append, List.nil_append, List.append_nil, List.getElem?_cons_zero, List.getElem?_cons_succ, List.set, List.length_cons, List.length_nil, Nat.sub_self, Nat.reduceAdd, Nat.reduceSub, if_true, Bool.false_eq_true, if_false, reduceCtorEq, Nat.zero_add, t, q, Bool.not_false, biD, seqD]
      simp only [bindT, List.set, body, bind_some, List.all_cons, q, Bool.false_and]
      unfold apartD
      rw [q]
      exact ⟨_, rfl⟩
theorem apart_all (a : Lot) : ∀ l : List Lot, (match apartD a l with | .non => true | _ => false) = l.all fun e => touB a e
  | [] => rfl
  | e :: l => by
    unfold apartD
    rw [List.all_cons]
    cases touB a e with
    | true => rw [if_pos rfl, apart_all a l]; rfl
    | false => rfl
theorem apart_ok (f : List Lot) (a : Lot) (h : ∀ e ∈ f, e.length ≤ LINE) : Ph ns (n + 2) 24 [.tup (f.map tupD), tupD a] M = some (.ok (apartD a f) M) := by
  have hl : lamless (apartD a f) = true := by
    induction f with
    | nil => rfl
    | cons e l ih =>
      unfold apartD
      split
      · exact ih fun x hx => h x (List.mem_cons_of_mem _ hx)
      · rfl
  refine call_rt (F := F24) rfl rfl hl ?_
  obtain ⟨e2', lp⟩ := loop_apart (ns := ns) (n := n) (M := M) (.fz (.tup (f.map tupD))) a (l := f) (e2 := .un) h
  have f1 := for_of (ns := ns) (φ := Ph ns (n + 1)) (t := .nm 2) (it := .var 0) (b := bodyA) (ρ := [.fz (.tup (f.map tupD)), .fz (tupD a), .un]) (ρ1 := [.fz (.tup (f.map tupD)), .fz (tupD a), .un]) (M := M) (M1 := M) (xs := f.map tupD) (by simp only [sts, st, ev, evs, evPar, startE, viewD, takeD, lock, clear, reset, lock1, isOwn, slots, slotsL, modeOf, maker, mine, turnF, bindT, bindTs, bind_some, okE, fin, lift, iterD, lamless, tru, tupD, onInt, see, ansO, setAll, deref, Option.bind, Option.map, List.map, List.replicate, List.cons_append, List.nil_append, List.append_nil, List.getElem?_cons_zero, List.getElem?_cons_succ, List.set, List.length_cons, List.length_nil, Nat.sub_self, Nat.reduceAdd, Nat.reduceSub, if_true, Bool.false_eq_true, if_false, reduceCtorEq, Nat.zero_add]) lp
  by_cases q : f.all (fun e => touB a e) = true
  · rw [if_pos q] at f1
    have e : apartD a f = .non := by
      have := apart_all a f
      rw [q] at this
      split at this
      · assumption
      · cases this
    refine ⟨_, (sts_nx f1).trans (sts_rt (ρ1 := [.fz (.tup (f.map tupD)), .fz (tupD a), e2']) (M1 := M) ?_)⟩
    rw [e]
    simp only [sts, st, ev, evs, evPar, startE, viewD, takeD, lock, clear, reset, lock1, isOwn, slots, slotsL, modeOf, maker, mine, turnF, bindT, bindTs, bind_some, okE, fin, lift, iterD, lamless, tru, tupD, onInt, see, ansO, setAll, deref, Option.bind, Option.map, List.map, List.replicate, List.cons_append, List.nil_append, List.append_nil, List.getElem?_cons_zero, List.getElem?_cons_succ, List.set, List.length_cons, List.length_nil, Nat.sub_self, Nat.reduceAdd, Nat.reduceSub, if_true, Bool.false_eq_true, if_false, reduceCtorEq, Nat.zero_add]
  · rw [if_neg q] at f1
    exact ⟨_, sts_rt f1⟩
theorem isD_non (a : Lot) (l : List Lot) : isD (apartD a l) .non = some (l.all fun e => touB a e) := by
  rw [← apart_all]
  cases apartD a l <;> rfl
theorem lam_apart (a : Lot) : ∀ l : List Lot, lamless (apartD a l) = true
  | [] => rfl
  | e :: l => by
    unfold apartD
    split
    · exact lam_apart a l
    · rfl
theorem do_meet_ok (f h : List Lot) (hl : f.length ≤ LINE) (hh : ∀ e ∈ h, e.length ≤ LINE) : Ph ns (n + 3) 23 [.tup (f.map tupD), .tup (h.map tupD)] M = some (.ok (.bl (f.all fun a => h.all fun e => touB a e)) M) := by
  refine call_rt (F := F23) rfl rfl rfl ?_
  simp only [F23, sts, st, ev, evs, evPar, startE, viewD, takeD, lock, clear, reset, lock1, isOwn, slots, slotsL, modeOf, maker, mine, turnF, bindT, bindTs, bind_some, okE, fin, lift, iterD, lamless, tru, tupD, onInt, see, ansO, setAll, deref, Option.bind, Option.map, List.map, List.replicate, List.cons_append, List.nil_append, List.append_nil, List.getElem?_cons_zero, List.getElem?_cons_succ, List.set, List.length_cons, List.length_nil, Nat.sub_self, Nat.reduceAdd, Nat.reduceSub, if_true, Bool.false_eq_true, if_false, reduceCtorEq, Nat.zero_add]
  rw [comp_map (l := f) (c := tupD) (f := fun a => .bl (h.all fun e => touB a e))]
  · simp only []
    rw [mkL_of (f := fun a => D.bl (h.all fun e => touB a e)) hl fun _ _ => rfl]
    simp only [sts, st, ev, evs, evPar, startE, viewD, takeD, lock, clear, reset, lock1, isOwn, slots, slotsL, modeOf, maker, mine, turnF, bindT, bindTs, bind_some, okE, fin, lift, iterD, lamless, tru, tupD, onInt, see, ansO, setAll, deref, Option.bind, Option.map, List.map, List.replicate, List.cons_append, List.nil_append, List.append_nil, List.getElem?_cons_zero, List.getElem?_cons_succ, List.set, List.length_cons, List.length_nil, Nat.sub_self, Nat.reduceAdd, Nat.reduceSub, if_true, Bool.false_eq_true, if_false, reduceCtorEq, Nat.zero_add, biD, bools_map, List.all_map]
    exact ⟨_, rfl⟩
  · intro x hx
    have this : Ph ns (n + 2) 24 [.tup (h.map tupD), D.tup (x.map D.int)] M = _ := apart_ok (ns := ns) (n := n) (M := M) h x hh
    simp only [sts, st, ev, evs, evPar, startE, viewD, takeD, lock, clear, reset, lock1, isOwn, slots, slotsL, modeOf, maker, mine, turnF, bindT, bindTs, bind_some, okE, fin, lift, iterD, lamless, tru, tupD, onInt, see, ansO, setAll, deref, Option.bind, Option.map, List.map, List.replicate, List.cons_append, List.nil_append, List.append_nil, List.getElem?_cons_zero, List.getElem?_cons_succ, List.set, List.length_cons, List.length_nil, Nat.sub_self, Nat.reduceAdd, Nat.reduceSub, if_true, Bool.false_eq_true, if_false, reduceCtorEq, Nat.zero_add, this, cmD, isD_non]
    exact ⟨_, rfl⟩
end
end K24
end
section
set_option Elab.async false
set_option linter.all false
set_option maxRecDepth 100000
set_option maxHeartbeats 1000000
/-! PL60: rules, one for each form. -/
namespace K24
open DV PL
section
variable {ns : List Int} {φ : Phi} {m : Md} {M M1 M2 M3 : Mem} {ρ ρ1 ρ2 ρ3 : Ev}
theorem ev_call {i : Nat} {es : List E} {ds : List D} {d : D} (h : evs (g ns) φ .v es ρ M = some (.ok ds ρ1 M1)) (h2 : φ i ds M1 = some (.ok d M2)) : ev (g ns) φ m (.call i es) ρ M = fin m d ρ1 M2 := by
  simp only [ev, h, bind_some, h2, ansO]
theorem ev_callv {i f : Nat} {caps : List D} {es : List E} {ds : List D} {d : D} (h0 : ρ[i]? = some (.fz (.lam f caps))) (h : evs (g ns) φ .v es ρ M = some (.ok ds ρ1 M1)) (h2 : φ f (ds ++ caps) M1 = some (.ok d M2)) : ev (g ns) φ m (.callv i es) ρ M = fin m d ρ1 M2 := by
  simp only [ev, h0, h, bind_some, h2, ansO]
theorem ev_cp {el it c : E} {t : Tg} {xs ds : List D} {d : D} (h : ev (g ns) φ .i it ρ M = some (.ok (.lst xs) ρ1 M1)) (h2 : lock (slots t) ρ1 = some ρ2) (h3 : compL (turnF (fun ρ M => ev (g ns) φ .t c ρ M) (fun ρ M => (ev (g ns) φ .v el ρ M).bind fun d ρ M => okE ρ M [d]) t ρ2) [] xs M1 = some (ds, M2)) (h4 : mkL ds = some d) : ev (g ns) φ m (.cp el t it c) ρ M = fin m d ρ1 M2 := by
  simp only [ev, h, bind_some, h2, h3, h4]
theorem ev_bi {b : Bi} {es : List E} {ds : List D} {d : D} (h : evs (g ns) φ .b es ρ M = some (.ok ds ρ1 M1)) (h2 : biD cls b ds = some d) : ev (g ns) φ m (.bi b es) ρ M = fin m d ρ1 M1 := by
  simp only [ev, h, bind_some, h2]
theorem ev_cmp {o : Cm} {a b : E} {x y : D} {c : Bool} (h : ev (g ns) φ .b a ρ M = some (.ok x ρ1 M1)) (h2 : ev (g ns) φ .b b ρ1 M1 = some (.ok y ρ2 M2)) (h3 : cmD o x y = some c) : ev (g ns) φ m (.cmp o a b) ρ M = fin m (.bl c) ρ2 M2 := by
  simp only [ev, h, bind_some, h2, h3]
theorem ev_bin {o : Op} {a b : E} {x y d : D} (h : ev (g ns) φ .b a ρ M = some (.ok x ρ1 M1)) (h2 : ev (g ns) φ .b b ρ1 M1 = some (.ok y ρ2 M2)) (h3 : opD o x y = some d) : ev (g ns) φ m (.bin o a b) ρ M = fin m d ρ2 M2 := by
  simp only [ev, h, bind_some, h2, h3]
theorem ev_not {a : E} {b : Bool} (h : ev (g ns) φ .b a ρ M = some (.ok (.bl b) ρ1 M1)) : ev (g ns) φ .b (.not a) ρ M = some (.ok (.bl (!b)) ρ1 M1) := by
  simp only [ev, h, bind_some, tru, fin, okE]
theorem ev_notT {a : E} {b : Bool} (h : ev (g ns) φ .t a ρ M = some (.ok (.bl b) ρ1 M1)) : ev (g ns) φ .t (.not a) ρ M = some (.ok (.bl (!b)) ρ1 M1) := by
  simp only [ev, h, bind_some, tru, fin, okE]
theorem evs_nil : evs (g ns) φ m [] ρ M = some (.ok [] ρ M) := by simp only [evs, okE]
theorem evs_1 {a : E} {x : D} (h : ev (g ns) φ m a ρ M = some (.ok x ρ1 M1)) : (∀ e, a ≠ .star e) → evs (g ns) φ m [a] ρ M = some (.ok [x] ρ1 M1) := by
  intro k
  cases a
  case star e => exact absurd rfl (k e)
  all_goals simp only [evs, h, bind_some, okE]
theorem evs_2 {a b : E} {x y : D} (h : ev (g ns) φ m a ρ M = some (.ok x ρ1 M1)) (h2 : ev (g ns) φ m b ρ1 M1 = some (.ok y ρ2 M2)) : (∀ e, a ≠ .star e) → (∀ e, b ≠ .star e) → evs (g ns) φ m [a, b] ρ M = some (.ok [x, y] ρ2 M2) := by
  intro k k2
  have := evs_1 (φ := φ) h2 k2
  cases a
  case star e => exact absurd rfl (k e)
  all_goals
    unfold evs
    simp only [h, bind_some]
    rw [this]
    simp only [bind_some, okE]
theorem evs_3 {a b c : E} {x y z : D} (h : ev (g ns) φ m a ρ M = some (.ok x ρ1 M1)) (h2 : ev (g ns) φ m b ρ1 M1 = some (.ok y ρ2 M2)) (h3 : ev (g ns) φ m c ρ2 M2 = some (.ok z ρ3 M3)) : (∀ e, a ≠ .star e) → (∀ e, b ≠ .star e) → (∀ e, c ≠ .star e) → evs (g ns) φ m [a, b, c] ρ M = some (.ok [x, y, z] ρ3 M3) := by
  intro k k2 k3
  have := evs_2 (φ := φ) h2 h3 k2 k3
  cases a
  case star e => exact absurd rfl (k e)
  all_goals
    unfold evs
    simp only [h, bind_some]
    rw [this]
    simp only [bind_some, okE]
/-- a name, in the reading ways -/
theorem ev_var {i : Nat} {d : D} (h : viewD ρ i = some d) (hl : lamless d = true) : ev (g ns) φ .b (.var i) ρ M = some (.ok d ρ M) := by
  simp only [ev, h, hl, if_true, fin, okE]
theorem ev_varv {i : Nat} {d : D} (h : takeD ρ i = some (d, ρ1)) : ev (g ns) φ .v (.var i) ρ M = some (.ok d ρ1 M) := by
  simp only [ev, h, okE]
theorem ev_lit {d : D} : ev (g ns) φ m (.lit d) ρ M = fin m d ρ M := by simp only [ev]
/-! ### statements -/
theorem sts_ret {e : E} {r : List S} {d : D} (h : ev (g ns) φ .v e ρ M = some (.ok d ρ1 M1)) : sts (g ns) φ (.ret e :: r) ρ M = some (.ok (.rt d) ρ1 M1) := by
  simp only [sts, st, h, bind_some, okE]
theorem st_ex {e : E} {d : D} (h : ev (g ns) φ .b e ρ M = some (.ok d ρ1 M1)) : st (g ns) φ (.ex e) ρ M = some (.ok .nx ρ1 M1) := by
  simp only [st, h, bind_some, okE]
theorem st_asg {i : Nat} {e : E} {d : D} {x : En} (h : ev (g ns) φ (modeOf (maker e)) e ρ M = some (.ok d ρ1 M1)) (h2 : mine (maker e) d = some x) : st (g ns) φ (.asg (.nm i) e) ρ M = some (.ok .nx (ρ1.set i x) M1) := by
  simp only [st, h, bind_some, h2, okE]
theorem st_ifF {t : E} {a : List S} (h : ev (g ns) φ .t t ρ M = some (.ok (.bl false) ρ1 M1)) : st (g ns) φ (.ife t a []) ρ M = some (.ok .nx ρ1 M1) := by
  simp only [st, h, bind_some, sts, okE]
theorem st_if {t : E} {a b : List S} {c : Bool} (h : ev (g ns) φ .t t ρ M = some (.ok (.bl c) ρ1 M1)) : st (g ns) φ (.ife t a b) ρ M = sts (g ns) φ (if c then a else b) ρ1 M1 := by
  cases c <;> simp only [st, h, bind_some, if_true, Bool.false_eq_true, if_false]
theorem sts_nil : sts (g ns) φ [] ρ M = some (.ok .nx ρ M) := by simp only [sts, okE]
theorem st_par2 {i j : Nat} {a b : E} {x y : En} (h : evPar (g ns) φ [a, b] ρ M = some (.ok [x, y] ρ1 M1)) : st (g ns) φ (.par [i, j] [a, b]) ρ M = some (.ok .nx (setAll [i, j] [x, y] ρ1) M1) := by
  simp only [st, h, bind_some, okE]
end
end K24
end
section
set_option Elab.async false
set_option linter.all false
set_option maxRecDepth 100000
set_option maxHeartbeats 1000000
/-! PL6: both, either, hits. -/
namespace K24
open DV PL
section
variable {ns : List Int} {n : Nat} {M M' : Mem} {ρ ρ' : Ev}
theorem blockers_ok {k : Nat} (hk : k ≤ 5) {f : List Lot} (hf : f.length ≤ 32) (f5 : ∀ e ∈ f, e.length ≤ 5) : Ph ns (n + 3) 25 [.tup (f.map tupD), .int (k : Int)] M = some (.ok (.tup ((hitsF k f).map tupD)) M) := by
  have lb : Ph ns (n + 2) 14 [.int (k : Int)] M = _ := lots_below_ok (ns := ns) (n := n) (M := M) k hk
  have l1 := len_all k
  have l2 := pow5 hk
  have fl : ((allB k).filter fun a => f.all fun e => touB a e).length ≤ LINE := Nat.le_trans (List.length_filter_le _ _) (by rw [l1]; unfold LINE; omega)
  have li := least_in_ok (ns := ns) (n := n) (M := M) false ((allB k).filter fun a => f.all fun e => touB a e) fl fun a ha => line5 (Nat.le_trans (lot_len (mem_allB.mp (List.mem_filter.mp ha).1)) hk)
  simp only [sq, Bool.false_eq_true, if_false] at li
  have t : ∀ x, ∀ e ∈ f, Ph ns (n + 2) 11 [.tup (x.map .int), .tup (e.map .int)] M = some (.ok (.bl (touB x e)) M) := fun x e he => touches_ok (n := n + 1) x e (line5 (f5 e he))
  generalize (k : Int) = i at lb ⊢
  refine call_rt (F := F25) rfl rfl rfl ⟨[.fz (.tup (f.map tupD)), .fz (.int i), .un, .un], ?_⟩
  have e1 : ev (g ns) (Ph ns (n + 2)) .i (.call 14 [.var 1]) [.fz (.tup (f.map tupD)), .fz (.int i), .un, .un] M = some (.ok (.lst ((allB k).map tupD)) [.fz (.tup (f.map tupD)), .fz (.int i), .un, .un] M) := ev_call (evs_1 (ev_varv rfl) nofun) lb
  refine sts_ret ((ev_call (evs_1 (ev_cp e1 rfl (comp_filter (l := allB k) (c := tupD) (f := tupD) (p := fun a => f.all fun e => touB a e) ?_) (mkL_tups _ fl)) nofun) li))
  intro x hx
  simp only [sts, st, ev, evs, evPar, startE, viewD, takeD, lock, clear, reset, lock1, isOwn, slots, slotsL, modeOf, maker, mine, turnF, bindT, bindTs, bind_some, okE, fin, lift, iterD, lamless, tru, tupD, onInt, see, ansO, setAll, deref, Option.bind, Option.map, List.map, List.replicate, List.cons_append, List.nil_append, List.append_nil, List.getElem?_cons_zero, List.getElem?_cons_succ, List.set, List.length_cons, List.length_nil, Nat.sub_self, Nat.reduceAdd, Nat.reduceSub, if_true, Bool.false_eq_true, if_false, reduceCtorEq, Nat.zero_add]
  rw [comp_map (l := f) (c := tupD) (f := fun e => .bl (touB x e))]
  · simp only []
    rw [mkL_of (f := fun e => D.bl (touB x e)) (line32 hf) fun _ _ => rfl]
    simp only [sts, st, ev, evs, evPar, startE, viewD, takeD, lock, clear, reset, lock1, isOwn, slots, slotsL, modeOf, maker, mine, turnF, bindT, bindTs, bind_some, okE, fin, lift, iterD, lamless, tru, tupD, onInt, see, ansO, setAll, deref, Option.bind, Option.map, List.map, List.replicate, List.cons_append, List.nil_append, List.append_nil, List.getElem?_cons_zero, List.getElem?_cons_succ, List.set, List.length_cons, List.length_nil, Nat.sub_self, Nat.reduceAdd, Nat.reduceSub, if_true, Bool.false_eq_true, if_false, reduceCtorEq, Nat.zero_add, biD, bools_map, List.all_map]
    cases q : f.all (fun e => touB x e) with
    | true =>
      have q' : f.all (id ∘ fun e => touB x e) = true := q
      simp only [q', sts, st, ev, evs, evPar, startE, viewD, takeD, lock, clear, reset, lock1, isOwn, slots, slotsL, modeOf, maker, mine, turnF, bindT, bindTs, bind_some, okE, fin, lift, iterD, lamless, tru, tupD, onInt, see, ansO, setAll, deref, Option.bind, Option.map, List.map, List.replicate, List.cons_append, List.nil_append, List.append_nil, List.getElem?_cons_zero, List.getElem?_cons_succ, List.set, List.length_cons, List.length_nil, Nat.sub_self, Nat.reduceAdd, Nat.reduceSub, if_true, Bool.false_eq_true, if_false, reduceCtorEq, Nat.zero_add]
      exact ⟨_, rfl⟩
    | false =>
      have q' : f.all (id ∘ fun e => touB x e) = false := q
      simp only [q', sts, st, ev, evs, evPar, startE, viewD, takeD, lock, clear, reset, lock1, isOwn, slots, slotsL, modeOf, maker, mine, turnF, bindT, bindTs, bind_some, okE, fin, lift, iterD, lamless, tru, tupD, onInt, see, ansO, setAll, deref, Option.bind, Option.map, List.map, List.replicate, List.cons_append, List.nil_append, List.append_nil, List.getElem?_cons_zero, List.getElem?_cons_succ, List.set, List.length_cons, List.length_nil, Nat.sub_self, Nat.reduceAdd, Nat.reduceSub, if_true, Bool.false_eq_true, if_false, reduceCtorEq, Nat.zero_add]
      exact ⟨_, rfl⟩
  · intro e he
    simp only [sts, st, ev, evs, evPar, startE, viewD, takeD, lock, clear, reset, lock1, isOwn, slots, slotsL, modeOf, maker, mine, turnF, bindT, bindTs, bind_some, okE, fin, lift, iterD, lamless, tru, tupD, onInt, see, ansO, setAll, deref, Option.bind, Option.map, List.map, List.replicate, List.cons_append, List.nil_append, List.append_nil, List.getElem?_cons_zero, List.getElem?_cons_succ, List.set, List.length_cons, List.length_nil, Nat.sub_self, Nat.reduceAdd, Nat.reduceSub, if_true, Bool.false_eq_true, if_false, reduceCtorEq, Nat.zero_add, t x e he]
    exact ⟨_, rfl⟩
theorem hits_ok (b : Bool) {k : Nat} (h1 : 1 ≤ k) (hk : k ≤ 5) {f : List Lot} (hc : Can k f) : Ph ns (n + 6) 26 [famV b f, .int (k : Int)] M = some (.ok (.tup ((hitsF k f).map tupD)) M) := by
  have l32 := can_len hc hk
  have l5 : ∀ e ∈ f, e.length ≤ 5 := fun e he => Nat.le_trans (lot_len (hc.ok e he)) hk
  have s : Ph ns (n + 5) 16 [.int (k : Int)] M = _ := need_sites_ok (ns := ns) (n := n + 1) (M := M) k (by omega) (by omega)
  have nf : ∀ t, Ph ns (n + 5) 17 [famV b f, .str t, .int (k : Int)] M = _ := fun t => need_family_ok (ns := ns) (n := n) (M := M) b hc hk t
  have bl : Ph ns (n + 5) 25 [.tup (f.map tupD), .int (k : Int)] M = _ := blockers_ok (ns := ns) (n := n + 2) (M := M) hk l32 l5
  have fv : lamless (famV b f) = true := by cases b <;> rfl
  generalize (k : Int) = i at s nf bl ⊢
  generalize famV b f = v at nf fv ⊢
  refine call_rt (F := F26) rfl rfl rfl ⟨[.fz v, .fz (.int i)], ?_⟩
  refine (sts_nx (st_ex (ev_call (evs_1 (ev_varv rfl) nofun) s))).trans (sts_ret (ev_call (evs_2 (ev_call (evs_3 (ev_varv rfl) ev_lit (ev_varv rfl) nofun nofun nofun) (nf _)) (ev_varv rfl) nofun nofun) bl))
theorem least_of_ok {k : Nat} (hk : k ≤ 5) {f : List Lot} (hl : f.length ≤ 96) (ho : ∀ a ∈ f, LotOk k a) : Ph ns (n + 4) 21 [.tup (f.map tupD)] M = some (.ok (.tup ((minF f).map tupD)) M) := by
  refine call_rt (F := F21) rfl rfl rfl ?_
  have hL : f.length ≤ LINE := by unfold LINE; omega
  have l5 : ∀ e ∈ f, e.length ≤ 5 := fun e he => Nat.le_trans (lot_len (ho e he)) hk
  have li := least_in_ok (ns := ns) (n := n + 1) (M := M) false f hL fun a ha => line5 (l5 a ha)
  simp only [sq, Bool.false_eq_true, if_false] at li
  have il : ∀ a ∈ f, Ph ns (n + 3) 8 [.tup (a.map .int), .int 5] M = some (.ok (.bl true) M) := fun a ha => is_lot_ok true a 5 ⟨(ho a ha).st, fun x hx => by have := (ho a ha).bd x hx; omega⟩ (line5 (l5 a ha))
  simp only [F21, sts, st, ev, evs, evPar, startE, viewD, takeD, lock, clear, reset, lock1, isOwn, slots, slotsL, modeOf, maker, mine, turnF, bindT, bindTs, bind_some, okE, fin, lift, iterD, lamless, tru, tupD, onInt, see, ansO, setAll, deref, Option.bind, Option.map, List.map, List.replicate, List.cons_append, List.nil_append, List.append_nil, List.getElem?_cons_zero, List.getElem?_cons_succ, List.set, List.length_cons, List.length_nil, Nat.sub_self, Nat.reduceAdd, Nat.reduceSub, if_true, Bool.false_eq_true, if_false, reduceCtorEq, Nat.zero_add, mkT2 (.ty .list) (.ty .tuple) rfl rfl, biD, isAny, isTyD, isOne, isTy, Bool.or_false, Bool.or_true, Bool.not_true]
  rw [comp_map (l := f) (c := tupD) (f := fun _ => .bl true)]
  · simp only []
    rw [mkL_of (f := fun _ => D.bl true) hL fun _ _ => rfl]
    simp only [sts, st, ev, evs, evPar, startE, viewD, takeD, lock, clear, reset, lock1, isOwn, slots, slotsL, modeOf, maker, mine, turnF, bindT, bindTs, bind_some, okE, fin, lift, iterD, lamless, tru, tupD, onInt, see, ansO, setAll, deref, Option.bind, Option.map, List.map, List.replicate, List.cons_append, List.nil_append, List.append_nil, List.getElem?_cons_zero, List.getElem?_cons_succ, List.set, List.length_cons, List.length_nil, Nat.sub_self, Nat.reduceAdd, Nat.reduceSub, if_true, Bool.false_eq_true, if_false, reduceCtorEq, Nat.zero_add, biD, all_true, all_id, Bool.not_true]
    rw [comp_map (l := f) (c := tupD) (f := tupD)]
    · simp only []
      rw [mkL_tups f hL]
      simp only [sts, st, ev, evs, evPar, startE, viewD, takeD, lock, clear, reset, lock1, isOwn, slots, slotsL, modeOf, maker, mine, turnF, bindT, bindTs, bind_some, okE, fin, lift, iterD, lamless, tru, tupD, onInt, see, ansO, setAll, deref, Option.bind, Option.map, List.map, List.replicate, List.cons_append, List.nil_append, List.append_nil, List.getElem?_cons_zero, List.getElem?_cons_succ, List.set, List.length_cons, List.length_nil, Nat.sub_self, Nat.reduceAdd, Nat.reduceSub, if_true, Bool.false_eq_true, if_false, reduceCtorEq, Nat.zero_add, li]
      exact ⟨_, rfl⟩
    · intro x hx
      simp only [sts, st, ev, evs, evPar, startE, viewD, takeD, lock, clear, reset, lock1, isOwn, slots, slotsL, modeOf, maker, mine, turnF, bindT, bindTs, bind_some, okE, fin, lift, iterD, lamless, tru, tupD, onInt, see, ansO, setAll, deref, Option.bind, Option.map, List.map, List.replicate, List.cons_append, List.nil_append, List.append_nil, List.getElem?_cons_zero, List.getElem?_cons_succ, List.set, List.length_cons, List.length_nil, Nat.sub_self, Nat.reduceAdd, Nat.reduceSub, if_true, Bool.false_eq_true, if_false, reduceCtorEq, Nat.zero_add, biD, seqD]
      exact ⟨_, rfl⟩
  · intro x hx
    simp only [sts, st, ev, evs, evPar, startE, viewD, takeD, lock, clear, reset, lock1, isOwn, slots, slotsL, modeOf, maker, mine, turnF, bindT, bindTs, bind_some, okE, fin, lift, iterD, lamless, tru, tupD, onInt, see, ansO, setAll, deref, Option.bind, Option.map, List.map, List.replicate, List.cons_append, List.nil_append, List.append_nil, List.getElem?_cons_zero, List.getElem?_cons_succ, List.set, List.length_cons, List.length_nil, Nat.sub_self, Nat.reduceAdd, Nat.reduceSub, if_true, Bool.false_eq_true, if_false, reduceCtorEq, Nat.zero_add, il x hx]
    exact ⟨_, rfl⟩
end
end K24
end
section
set_option Elab.async false
set_option linter.all false
set_option maxRecDepth 100000
set_option maxHeartbeats 1000000
/-! PL7: the law's pen. -/
namespace K24
open DV PL
section
variable {ns : List Int} {n : Nat} {M M' : Mem} {ρ ρ' : Ev}
def penM (l : List Int) (a r : Int) : Mem := [.lst [.lst (l.map .int), .int a, .int r]]
theorem ix0 (a b c : D) : idxD (.lst [a, b, c]) (.int 0) = some a := rfl
theorem ix1 (a b c : D) : idxD (.lst [a, b, c]) (.int 1) = some b := rfl
theorem ix2 (a b c : D) : idxD (.lst [a, b, c]) (.int 2) = some c := rfl
theorem mod_ok {a m : Int} (h : 0 < m) : opD .mod (.int a) (.int m) = some (.int (a % m)) := by simp [opD, h]
theorem div_ok {a m : Int} (h : 0 < m) (k : m < 1073741824) : opD .fdiv (.int a) (.int m) = some (.int (a / m)) := by simp [opD, h, k]
theorem add_ok {a b : Int} : opD .add (.int a) (.int b) = some (.int (a + b)) := rfl
theorem sub_ok {a b : Int} : opD .sub (.int a) (.int b) = some (.int (a - b)) := rfl
theorem mul31 {b : Int} : opD .mul (.int 31019) (.int b) = some (.int (31019 * b)) := by
  have : small64 31019 = true := by decide
  simp only [opD, mulD, this, Bool.true_or, if_true]
theorem mul2 {b : Int} : opD .mul (.int 2) (.int b) = some (.int (2 * b)) := by
  have : small64 2 = true := by decide
  simp only [opD, mulD, this, Bool.true_or, if_true]
theorem pl1 : place 1 3 = some 1 := rfl
theorem pl2 : place 2 3 = some 2 := rfl
theorem easy_lints (l : List Int) : easy (.lst (l.map .int)) = true := by
  unfold easy
  simp [D.plain, plains_ints, D.dep, deps_ints]
theorem eq_lnil (l : List Int) : cmD .ne (.lst (l.map .int)) (.lst []) = some (!l.isEmpty) := by
  have : easy (.lst []) = true := rfl
  unfold cmD
  simp only [easy_lints, this, Bool.and_self, if_true]
  cases l <;> rfl
theorem ix_int {l : List Int} {i : Int} (h : 0 ≤ i) (k : i < l.length) : ∃ c : Int, idxD (.lst (l.map .int)) (.int i) = some (.int c) := by
  unfold idxD place
  simp only [List.length_map, h, k, decide_true, if_true]
  have : i.toNat < l.length := by omega
  exact ⟨l[i.toNat], by simp [this]⟩
def P1 : S := .ife (.cmp .gt (.idx (.var 0) (.lit (.int 2))) (.lit (.int 0))) [.asg (.nm 2) (.bin .mod (.bi .int [.idx (.var 0) (.lit (.int 2))]) (.var 1)), .seti (.var 0) (.lit (.int 2)) (.bin .fdiv (.bi .int [.idx (.var 0) (.lit (.int 2))]) (.var 1)), .ret (.var 2)] []
def P2 : S := .asg (.nm 3) (.idx (.var 0) (.lit (.int 1)))
def P3 : S := .seti (.var 0) (.lit (.int 1)) (.bin .add (.var 3) (.lit (.int 1)))
def P4 : S := .asg (.nm 4) (.bin .add (.bin .mul (.lit (.int 31019)) (.var 3)) (.lit (.int 1721)))
def P5 : S := .ife (.cmp .ne (.idx (.var 0) (.lit (.int 0))) (.lst [])) [.asg (.nm 4) (.idx (.idx (.var 0) (.lit (.int 0))) (.bin .mod (.bi .int [.var 3]) (.bi .len [.idx (.var 0) (.lit (.int 0))])))] []
def P6 : S := .ife (.and (.cmp .lt (.var 3) (.bi .len [.idx (.var 0) (.lit (.int 0))])) (.cmp .ge (.bi .abs [.var 4]) (.bin .pow (.lit (.int 10)) (.lit (.int 18))))) [.asg (.nm 5) (.bin .add (.bin .mul (.lit (.int 2)) (.bin .sub (.bi .abs [.var 4]) (.bin .pow (.lit (.int 10)) (.lit (.int 18))))) (.bi .int [.cmp .lt (.var 4) (.lit (.int 0))])), .seti (.var 0) (.lit (.int 2)) (.bin .fdiv (.bi .int [.var 5]) (.var 1)), .ret (.bin .mod (.bi .int [.var 5]) (.var 1))] []
def P7 : S := .asg (.nm 6) (.bin .mod (.bi .int [.bin .pow (.bin .add (.bin .add (.bin .mod (.bi .int [.var 4]) (.lit (.int 2147483549))) (.bin .mul (.lit (.int 31019)) (.var 3))) (.lit (.int 1721))) (.lit (.int 5))]) (.lit (.int 2147483629)))
def P8 : S := .ret (.bin .mod (.bi .int [.bin .fdiv (.var 6) (.lit (.int 64))]) (.var 1))
theorem F29_body : F29.body = [P1, P2, P3, P4, P5, P6, P7, P8] := rfl
variable {φ : Phi} {l : List Int} {a r m c : Int}
theorem p1_hit (h3 : 0 < m) (h4 : m < 1073741824) (hr : 0 < r) : ∃ ρ', st (g ns) φ P1 [.fz (.cell 0), .fz (.int m), .un, .un, .un, .un, .un] (penM l a r) = some (.ok (.rt (.int (r % m))) ρ' (penM l a (r / m))) := by
  simp only [P1, penM, sts, st, ev, evs, evPar, startE, viewD, takeD, lock, clear, reset, lock1, isOwn, slots, slotsL, modeOf, maker, mine, turnF, bindT, bindTs, bind_some, okE, fin, lift, iterD, lamless, tru, tupD, onInt, see, ansO, setAll, deref, Option.bind, Option.map, List.map, List.replicate, List.cons_append, List.nil_append, List.append_nil, List.getElem?_cons_zero, List.getElem?_cons_succ, List.set, List.length_cons, List.length_nil, Nat.sub_self, Nat.reduceAdd, Nat.reduceSub, if_true, Bool.false_eq_true, if_false, reduceCtorEq, Nat.zero_add, ix2, cmD, hr, decide_true, biD, mod_ok h3, div_ok h3 h4, pl1, pl2]
  exact ⟨_, rfl⟩
theorem p1_miss (hr : ¬ 0 < r) : st (g ns) φ P1 [.fz (.cell 0), .fz (.int m), .un, .un, .un, .un, .un] (penM l a r) = some (.ok .nx [.fz (.cell 0), .fz (.int m), .un, .un, .un, .un, .un] (penM l a r)) := by
  simp only [P1, penM, sts, st, ev, evs, evPar, startE, viewD, takeD, lock, clear, reset, lock1, isOwn, slots, slotsL, modeOf, maker, mine, turnF, bindT, bindTs, bind_some, okE, fin, lift, iterD, lamless, tru, tupD, onInt, see, ansO, setAll, deref, Option.bind, Option.map, List.map, List.replicate, List.cons_append, List.nil_append, List.append_nil, List.getElem?_cons_zero, List.getElem?_cons_succ, List.set, List.length_cons, List.length_nil, Nat.sub_self, Nat.reduceAdd, Nat.reduceSub, if_true, Bool.false_eq_true, if_false, reduceCtorEq, Nat.zero_add, ix2, cmD, hr, decide_false]
theorem p234 {s : List S} : sts (g ns) φ (P2 :: P3 :: P4 :: s) [.fz (.cell 0), .fz (.int m), .un, .un, .un, .un, .un] (penM l a r) = sts (g ns) φ s [.fz (.cell 0), .fz (.int m), .un, .fz (.int a), .fz (.int (31019 * a + 1721)), .un, .un] (penM l (a + 1) r) := by
  refine (sts_nx (ρ1 := [.fz (.cell 0), .fz (.int m), .un, .fz (.int a), .un, .un, .un]) (M1 := penM l a r) ?_).trans ((sts_nx (ρ1 := [.fz (.cell 0), .fz (.int m), .un, .fz (.int a), .un, .un, .un]) (M1 := penM l (a + 1) r) ?_).trans (sts_nx ?_))
  · simp only [P2, penM, sts, st, ev, evs, evPar, startE, viewD, takeD, lock, clear, reset, lock1, isOwn, slots, slotsL, modeOf, maker, mine, turnF, bindT, bindTs, bind_some, okE, fin, lift, iterD, lamless, tru, tupD, onInt, see, ansO, setAll, deref, Option.bind, Option.map, List.map, List.replicate, List.cons_append, List.nil_append, List.append_nil, List.getElem?_cons_zero, List.getElem?_cons_succ, List.set, List.length_cons, List.length_nil, Nat.sub_self, Nat.reduceAdd, Nat.reduceSub, if_true, Bool.false_eq_true, if_false, reduceCtorEq, Nat.zero_add, ix1]
  · simp only [P3, penM, sts, st, ev, evs, evPar, startE, viewD, takeD, lock, clear, reset, lock1, isOwn, slots, slotsL, modeOf, maker, mine, turnF, bindT, bindTs, bind_some, okE, fin, lift, iterD, lamless, tru, tupD, onInt, see, ansO, setAll, deref, Option.bind, Option.map, List.map, List.replicate, List.cons_append, List.nil_append, List.append_nil, List.getElem?_cons_zero, List.getElem?_cons_succ, List.set, List.length_cons, List.length_nil, Nat.sub_self, Nat.reduceAdd, Nat.reduceSub, if_true, Bool.false_eq_true, if_false, reduceCtorEq, Nat.zero_add, add_ok, pl1]
  · simp only [P4, penM, sts, st, ev, evs, evPar, startE, viewD, takeD, lock, clear, reset, lock1, isOwn, slots, slotsL, modeOf, maker, mine, turnF, bindT, bindTs, bind_some, okE, fin, lift, iterD, lamless, tru, tupD, onInt, see, ansO, setAll, deref, Option.bind, Option.map, List.map, List.replicate, List.cons_append, List.nil_append, List.append_nil, List.getElem?_cons_zero, List.getElem?_cons_succ, List.set, List.length_cons, List.length_nil, Nat.sub_self, Nat.reduceAdd, Nat.reduceSub, if_true, Bool.false_eq_true, if_false, reduceCtorEq, Nat.zero_add, add_ok, mul31, mul2]
theorem p5_ok (ha : 0 ≤ a) : ∃ c', st (g ns) φ P5 [.fz (.cell 0), .fz (.int m), .un, .fz (.int a), .fz (.int c), .un, .un] (penM l (a + 1) r) = some (.ok .nx [.fz (.cell 0), .fz (.int m), .un, .fz (.int a), .fz (.int c'), .un, .un] (penM l (a + 1) r)) := by
  cases q : l with
  | nil =>
    refine ⟨c, ?_⟩
    have := eq_lnil l
    rw [q] at this
    simp only [List.map] at this
    simp only [P5, penM, sts, st, ev, evs, evPar, startE, viewD, takeD, lock, clear, reset, lock1, isOwn, slots, slotsL, modeOf, maker, mine, turnF, bindT, bindTs, bind_some, okE, fin, lift, iterD, lamless, tru, tupD, onInt, see, ansO, setAll, deref, Option.bind, Option.map, List.map, List.replicate, List.cons_append, List.nil_append, List.append_nil, List.getElem?_cons_zero, List.getElem?_cons_succ, List.set, List.length_cons, List.length_nil, Nat.sub_self, Nat.reduceAdd, Nat.reduceSub, if_true, Bool.false_eq_true, if_false, reduceCtorEq, Nat.zero_add, ix0, mkL_nil, this, List.isEmpty, Bool.not_true]
  | cons x l' =>
    have hp : (0 : Int) < (x :: l').length := by simp only [List.length_cons]; omega
    obtain ⟨c', hc⟩ := ix_int (l := x :: l') (i := a % ((x :: l').length : Int)) (Int.emod_nonneg _ (by omega)) (Int.emod_lt_of_pos _ hp)
    refine ⟨c', ?_⟩
    have := eq_lnil (x :: l')
    generalize x :: l' = k at *
    have e : k.isEmpty = false := by cases k; · simp at hp
                                     · rfl
    rw [e] at this
    simp only [P5, penM, sts, st, ev, evs, evPar, startE, viewD, takeD, lock, clear, reset, lock1, isOwn, slots, slotsL, modeOf, maker, mine, turnF, bindT, bindTs, bind_some, okE, fin, lift, iterD, lamless, tru, tupD, onInt, see, ansO, setAll, deref, Option.bind, Option.map, List.map, List.replicate, List.cons_append, List.nil_append, List.append_nil, List.getElem?_cons_zero, List.getElem?_cons_succ, List.set, List.length_cons, List.length_nil, Nat.sub_self, Nat.reduceAdd, Nat.reduceSub, if_true, Bool.false_eq_true, if_false, reduceCtorEq, Nat.zero_add, ix0, mkL_nil, this, Bool.not_false, biD, List.length_map, mod_ok hp, hc]
theorem ten18 : opD .pow (.int 10) (.int 18) = some (.int 1000000000000000000) := by rfl
theorem p6_ok (h3 : 0 < m) (h4 : m < 1073741824) : (∃ v r' ρ', 0 ≤ v ∧ v < m ∧ 0 ≤ r' ∧ st (g ns) φ P6 [.fz (.cell 0), .fz (.int m), .un, .fz (.int a), .fz (.int c), .un, .un] (penM l (a + 1) r) = some (.ok (.rt (.int v)) ρ' (penM l (a + 1) r'))) ∨ st (g ns) φ P6 [.fz (.cell 0), .fz (.int m), .un, .fz (.int a), .fz (.int c), .un, .un] (penM l (a + 1) r) = some (.ok .nx [.fz (.cell 0), .fz (.int m), .un, .fz (.int a), .fz (.int c), .un, .un] (penM l (a + 1) r)) := by
  by_cases h1 : a < (l.length : Int)
  · by_cases h2 : (1000000000000000000 : Int) ≤ (if c < 0 then -c else c)
    · left
      have e : ∃ z : Int, (0 ≤ z) ∧ z = 2 * ((if c < 0 then -c else c) - 1000000000000000000) + (if decide (c < 0) = true then 1 else 0) := ⟨_, by split <;> split <;> omega, rfl⟩
      obtain ⟨z, hz, ez⟩ := e
      refine ⟨z % m, z / m, ?_⟩
      simp only [P6, penM, sts, st, ev, evs, evPar, startE, viewD, takeD, lock, clear, reset, lock1, isOwn, slots, slotsL, modeOf, maker, mine, turnF, bindT, bindTs, bind_some, okE, fin, lift, iterD, lamless, tru, tupD, onInt, see, ansO, setAll, deref, Option.bind, Option.map, List.map, List.replicate, List.cons_append, List.nil_append, List.append_nil, List.getElem?_cons_zero, List.getElem?_cons_succ, List.set, List.length_cons, List.length_nil, Nat.sub_self, Nat.reduceAdd, Nat.reduceSub, if_true, Bool.false_eq_true, if_false, reduceCtorEq, Nat.zero_add, ix0, cmD, biD, List.length_map, h1, h2, decide_true, ten18, sub_ok, mul31, mul2, add_ok, ← ez, div_ok h3 h4, mod_ok h3, pl1, pl2]
      exact ⟨_, Int.emod_nonneg _ (by omega), Int.emod_lt_of_pos _ h3, Int.ediv_nonneg hz (by omega), rfl⟩
    · right
      simp only [P6, penM, sts, st, ev, evs, evPar, startE, viewD, takeD, lock, clear, reset, lock1, isOwn, slots, slotsL, modeOf, maker, mine, turnF, bindT, bindTs, bind_some, okE, fin, lift, iterD, lamless, tru, tupD, onInt, see, ansO, setAll, deref, Option.bind, Option.map, List.map, List.replicate, List.cons_append, List.nil_append, List.append_nil, List.getElem?_cons_zero, List.getElem?_cons_succ, List.set, List.length_cons, List.length_nil, Nat.sub_self, Nat.reduceAdd, Nat.reduceSub, if_true, Bool.false_eq_true, if_false, reduceCtorEq, Nat.zero_add, ix0, cmD, biD, List.length_map, h1, h2, decide_true, decide_false, ten18]
  · right
    simp only [P6, penM, sts, st, ev, evs, evPar, startE, viewD, takeD, lock, clear, reset, lock1, isOwn, slots, slotsL, modeOf, maker, mine, turnF, bindT, bindTs, bind_some, okE, fin, lift, iterD, lamless, tru, tupD, onInt, see, ansO, setAll, deref, Option.bind, Option.map, List.map, List.replicate, List.cons_append, List.nil_append, List.append_nil, List.getElem?_cons_zero, List.getElem?_cons_succ, List.set, List.length_cons, List.length_nil, Nat.sub_self, Nat.reduceAdd, Nat.reduceSub, if_true, Bool.false_eq_true, if_false, reduceCtorEq, Nat.zero_add, ix0, cmD, biD, List.length_map, h1, decide_false]
theorem p7_ok (h0 : 0 ≤ a) (h1 : a ≤ 1000000) : ∃ b : Int, st (g ns) φ P7 [.fz (.cell 0), .fz (.int m), .un, .fz (.int a), .fz (.int c), .un, .un] (penM l (a + 1) r) = some (.ok .nx [.fz (.cell 0), .fz (.int m), .un, .fz (.int a), .fz (.int c), .un, .fz (.int b)] (penM l (a + 1) r)) := by
  have e : ∃ z : Int, z = c % 2147483549 + 31019 * a + 1721 ∧ small64 z = true := ⟨_, rfl, by
    have h2 := Int.emod_nonneg c (b := 2147483549) (by decide)
    have h3 := Int.emod_lt_of_pos c (b := 2147483549) (by decide)
    unfold small64 BIG
    simp only [Bool.and_eq_true, decide_eq_true_eq]
    omega⟩
  obtain ⟨z, ez, sz⟩ := e
  have pw : opD .pow (.int z) (.int 5) = some (.int (z ^ 5)) := by
    have h5 : (decide ((0 : Int) ≤ 5) && decide ((5 : Int) ≤ 1000000)) = true := by decide
    simp only [opD, sz, h5, Bool.and_true, if_true]
    rfl
  refine ⟨z ^ 5 % 2147483629, ?_⟩
  simp only [P7, penM, sts, st, ev, evs, evPar, startE, viewD, takeD, lock, clear, reset, lock1, isOwn, slots, slotsL, modeOf, maker, mine, turnF, bindT, bindTs, bind_some, okE, fin, lift, iterD, lamless, tru, tupD, onInt, see, ansO, setAll, deref, Option.bind, Option.map, List.map, List.replicate, List.cons_append, List.nil_append, List.append_nil, List.getElem?_cons_zero, List.getElem?_cons_succ, List.set, List.length_cons, List.length_nil, Nat.sub_self, Nat.reduceAdd, Nat.reduceSub, if_true, Bool.false_eq_true, if_false, reduceCtorEq, Nat.zero_add, biD, mul31, mul2, add_ok, mod_ok (m := 2147483549) (by decide), ← ez, pw, mod_ok (m := 2147483629) (by decide)]
theorem p8_ok {b : Int} (h3 : 0 < m) : ∃ ρ', st (g ns) φ P8 [.fz (.cell 0), .fz (.int m), .un, .fz (.int a), .fz (.int c), .un, .fz (.int b)] (penM l (a + 1) r) = some (.ok (.rt (.int (b / 64 % m))) ρ' (penM l (a + 1) r)) := by
  simp only [P8, penM, sts, st, ev, evs, evPar, startE, viewD, takeD, lock, clear, reset, lock1, isOwn, slots, slotsL, modeOf, maker, mine, turnF, bindT, bindTs, bind_some, okE, fin, lift, iterD, lamless, tru, tupD, onInt, see, ansO, setAll, deref, Option.bind, Option.map, List.map, List.replicate, List.cons_append, List.nil_append, List.append_nil, List.getElem?_cons_zero, List.getElem?_cons_succ, List.set, List.length_cons, List.length_nil, Nat.sub_self, Nat.reduceAdd, Nat.reduceSub, if_true, Bool.false_eq_true, if_false, reduceCtorEq, Nat.zero_add, biD, div_ok (m := 64) (by decide) (by decide), mod_ok h3]
  exact ⟨_, rfl⟩
theorem draw_ok (h0 : 0 ≤ a) (h1 : a ≤ 1000000) (h2 : 0 ≤ r) (h3 : 0 < m) (h4 : m < 1073741824) : ∃ v a' r', 0 ≤ v ∧ v < m ∧ 0 ≤ a' ∧ a' ≤ a + 1 ∧ 0 ≤ r' ∧ Ph ns (n + 1) 29 [.cell 0, .int m] (penM l a r) = some (.ok (.int v) (penM l a' r')) := by
  by_cases hr : 0 < r
  · obtain ⟨ρ', e⟩ := p1_hit (ns := ns) (φ := Ph ns n) (l := l) (a := a) h3 h4 hr
    exact ⟨r % m, a, r / m, Int.emod_nonneg _ (by omega), Int.emod_lt_of_pos _ h3, h0, by omega, Int.ediv_nonneg h2 (by omega), call_rt (F := F29) rfl rfl rfl ⟨_, sts_rt e⟩⟩
  · have e1 := p1_miss (ns := ns) (φ := Ph ns n) (l := l) (a := a) (m := m) hr
    obtain ⟨c, e5⟩ := p5_ok (ns := ns) (φ := Ph ns n) (l := l) (a := a) (m := m) (r := r) (c := 31019 * a + 1721) h0
    rcases p6_ok (ns := ns) (φ := Ph ns n) (l := l) (a := a) (m := m) (r := r) (c := c) h3 h4 with ⟨v, r', ρ', v0, v1, r0, e6⟩ | e6
    · exact ⟨v, a + 1, r', v0, v1, by omega, by omega, r0, call_rt (F := F29) rfl rfl rfl ⟨_, (sts_nx e1).trans (p234.trans ((sts_nx e5).trans (sts_rt e6)))⟩⟩
    · obtain ⟨b, e7⟩ := p7_ok (ns := ns) (φ := Ph ns n) (l := l) (m := m) (r := r) (c := c) h0 h1
      obtain ⟨ρ', e8⟩ := p8_ok (ns := ns) (φ := Ph ns n) (l := l) (a := a) (m := m) (r := r) (c := c) (b := b) h3
      exact ⟨b / 64 % m, a + 1, r, Int.emod_nonneg _ (by omega), Int.emod_lt_of_pos _ h3, by omega, by omega, h2, call_rt (F := F29) rfl rfl rfl ⟨_, (sts_nx e1).trans (p234.trans ((sts_nx e5).trans ((sts_nx e6).trans ((sts_nx e7).trans (sts_rt e8)))))⟩⟩
/-- the pen, with draws to spare -/
def Pen (ns : List Int) (c : Nat) (M : Mem) : Prop := ∃ a r : Int, 0 ≤ a ∧ a + c ≤ 1000000 ∧ 0 ≤ r ∧ M = penM ns a r
theorem Pen.le {c c' : Nat} (h : Pen ns c M) (k : c' ≤ c) : Pen ns c' M := by
  obtain ⟨a, r, h0, h1, h2, e⟩ := h
  exact ⟨a, r, h0, by omega, h2, e⟩
theorem draw {c : Nat} (h : Pen ns (c + 1) M) (h3 : 0 < m) (h4 : m < 1073741824) : ∃ v M', 0 ≤ v ∧ v < m ∧ Pen ns c M' ∧ Ph ns (n + 1) 29 [.cell 0, .int m] M = some (.ok (.int v) M') := by
  obtain ⟨a, r, h0, h1, h2, rfl⟩ := h
  obtain ⟨v, a', r', v0, v1, a0, a1, r0, e⟩ := draw_ok (ns := ns) (n := n) (l := ns) h0 (by omega) h2 h3 h4
  exact ⟨v, _, v0, v1, ⟨a', r', a0, by omega, r0, rfl⟩, e⟩
theorem take_63 (h : ns.length ≤ 63) : ns.take 63 = ns := List.take_of_length_le h
theorem pen_ok (h : ns.length ≤ 63) : Ph ns (n + 1) 28 [.scr] [] = some (.ok (.cell 0) (penM ns 0 0)) := by
  have e : slD (.lst (ns.map .int)) .non (.int 63) = some (.lst (ns.map .int)) := by
    show some (D.lst _) = _
    rw [List.drop_zero, List.take_of_length_le]
    simp only [decide_true, if_true, List.length_map]
    show _ ≤ min 63 _
    omega
  refine call_rt (F := F28) rfl rfl rfl ?_
  simp only [F28, sts, st, ev, evs, evPar, startE, viewD, takeD, lock, clear, reset, lock1, isOwn, slots, slotsL, modeOf, maker, mine, turnF, bindT, bindTs, bind_some, okE, fin, lift, iterD, lamless, tru, tupD, onInt, see, ansO, setAll, deref, Option.bind, Option.map, List.map, List.replicate, List.cons_append, List.nil_append, List.append_nil, List.getElem?_cons_zero, List.getElem?_cons_succ, List.set, List.length_cons, List.length_nil, Nat.sub_self, Nat.reduceAdd, Nat.reduceSub, if_true, Bool.false_eq_true, if_false, reduceCtorEq, Nat.zero_add, e, biD, seqD, mkL, fit, List.all_cons, lamless, List.all_nil, Bool.and_self, Bool.and_true]
  exact ⟨_, rfl⟩
end
end K24
end
section
set_option Elab.async false
set_option linter.all false
set_option maxRecDepth 100000
set_option maxHeartbeats 1000000
/-! PL8: the law's own lots. -/
namespace K24
open DV PL
section
variable {ns : List Int} {n : Nat} {M M' : Mem} {ρ ρ' : Ev}
theorem easy_nil : easy (.lst []) = true := rfl
theorem easy_ltups (f : List Lot) : easy (.lst (f.map tupD)) = true := by
  unfold easy
  have h := deps_tups f
  have h2 : D.deps (f.map tupD) + 1 ≤ 40 := by omega
  simp [D.plain, plains_tups, D.dep, h2]
theorem easy_tup (a : Lot) : easy (.tup (a.map .int)) = true := by
  unfold easy
  simp [D.plain, plains_ints, D.dep, deps_ints]
theorem eqnil (l : List Int) : cmD .eq (.lst (l.map .int)) (.lst []) = some l.isEmpty := by
  unfold cmD
  simp only [easy_lints, easy_nil, Bool.and_self, if_true]
  cases l <;> rfl
theorem eqnilT (l : List Lot) : cmD .eq (.lst (l.map tupD)) (.lst []) = some l.isEmpty := by
  unfold cmD
  simp only [easy_ltups, easy_nil, Bool.and_self, if_true]
  cases l <;> rfl
theorem nenilT (l : List Lot) : cmD .ne (.lst (l.map tupD)) (.lst []) = some (!l.isEmpty) := by
  unfold cmD
  simp only [easy_ltups, easy_nil, Bool.and_self, if_true]
  cases l <;> rfl
theorem eqs_intsB : ∀ a b : Lot, D.eqs (a.map .int) (b.map .int) = decide (a = b)
  | [], [] => by simp [D.eqs]
  | [], _ :: _ => by simp [D.eqs]
  | _ :: _, [] => by simp [D.eqs]
  | x :: a, y :: b => by
    have ih := eqs_intsB a b
    simp only [List.map_cons, D.eqs, D.eq, ih]
    by_cases h1 : x = y <;> by_cases h2 : a = b <;> simp [h1, h2]
theorem ne_tup (a b : Lot) : cmD .ne (.tup (a.map .int)) (.tup (b.map .int)) = some (!decide (a = b)) := by
  unfold cmD
  simp only [easy_tup, Bool.and_self, if_true, D.eq, eqs_intsB]
theorem eq_int (a b : Int) : cmD .eq (.int a) (.int b) = some (decide (a = b)) := by
  unfold cmD
  have : ∀ i : Int, easy (.int i) = true := fun _ => rfl
  simp only [this, Bool.and_self, if_true, D.eq]
  by_cases h : a = b <;> simp [h]
theorem notin_ints (x : Int) (l : List Int) : cmD .notin (.int x) (.tup (l.map .int)) = some (!decide (x ∈ l)) := by
  simp only [cmD, inD_tup, Option.map]
theorem isin_ints (x : Int) (l : List Int) : cmD .isin (.int x) (.tup (l.map .int)) = some (decide (x ∈ l)) := by
  simp only [cmD, inD_tup]
theorem filt_sub (a : Lot) : ∀ b : Lot, (b.filter fun x => !decide (x ∈ a)).isEmpty = subB b a
  | [] => rfl
  | x :: b => by
    unfold subB
    rw [List.filter_cons, List.all_cons]
    by_cases h : x ∈ a
    · have := filt_sub a b
      unfold subB at this
      simp only [h, decide_true, Bool.not_true, Bool.false_eq_true, if_false, Bool.true_and, this]
    · simp [h]
theorem filt_tou (a : Lot) : ∀ b : Lot, (!(b.filter fun x => decide (x ∈ a)).isEmpty) = touB a b
  | [] => rfl
  | x :: b => by
    unfold touB
    rw [List.filter_cons, List.any_cons]
    by_cases h : x ∈ a
    · simp [h]
    · have := filt_tou a b
      unfold touB at this
      simp only [h, decide_false, Bool.false_eq_true, if_false, Bool.false_or, this]
theorem filt_any {α : Type} (p : α → Bool) : ∀ l : List α, (!(l.filter p).isEmpty) = l.any p
  | [] => rfl
  | x :: l => by
    rw [List.filter_cons, List.any_cons, ← filt_any p l]
    cases p x <;> simp
theorem filt_all {α : Type} (p : α → Bool) : ∀ l : List α, (l.filter fun x => !p x).isEmpty = l.all p
  | [] => rfl
  | x :: l => by
    rw [List.filter_cons, List.all_cons, ← filt_all p l]
    cases p x <;> simp
theorem rangeD_ints (k : Nat) (h : k ≤ 64) : rangeD [.int (k : Int)] = some ((range k).map .int) := by
  rw [rangeD_nat k h]
  unfold range
  rw [List.map_map, List.range_eq_range']
  rfl
theorem ev_rg {φ : Phi} {m : Md} {es : List E} {ds l : List D} {ρ1 : Ev} {M1 : Mem} (hm : m = .i ∨ m = .k) (h : evs (g ns) φ .v es ρ M = some (.ok ds ρ1 M1)) (h2 : rangeD ds = some l) : ev (g ns) φ m (.range es) ρ M = some (.ok (.lst l) ρ1 M1) := by
  rcases hm with rfl | rfl <;> simp only [ev, h, bind_some, h2, okE]
theorem len_range (k : Nat) : (range k).length = k := by
  unfold range
  rw [List.length_map, List.length_range]
theorem lam38_ok (a : Lot) : Ph ns (n + 1) 40 [tupD a] M = some (.ok (keyD a) M) := by
  refine call_rt (F := F40) rfl rfl rfl ?_
  simp only [F40, sts, st, ev, evs, evPar, startE, viewD, takeD, lock, clear, reset, lock1, isOwn, slots, slotsL, modeOf, maker, mine, turnF, bindT, bindTs, bind_some, okE, fin, lift, iterD, lamless, tru, tupD, onInt, see, ansO, setAll, deref, Option.bind, Option.map, List.map, List.replicate, List.cons_append, List.nil_append, List.append_nil, List.getElem?_cons_zero, List.getElem?_cons_succ, List.set, List.length_cons, List.length_nil, Nat.sub_self, Nat.reduceAdd, Nat.reduceSub, if_true, Bool.false_eq_true, if_false, reduceCtorEq, Nat.zero_add, biD, List.length_map]
  rw [mkT2 _ _ rfl rfl]
  simp only [sts, st, ev, evs, evPar, startE, viewD, takeD, lock, clear, reset, lock1, isOwn, slots, slotsL, modeOf, maker, mine, turnF, bindT, bindTs, bind_some, okE, fin, lift, iterD, lamless, tru, tupD, onInt, see, ansO, setAll, deref, Option.bind, Option.map, List.map, List.replicate, List.cons_append, List.nil_append, List.append_nil, List.getElem?_cons_zero, List.getElem?_cons_succ, List.set, List.length_cons, List.length_nil, Nat.sub_self, Nat.reduceAdd, Nat.reduceSub, if_true, Bool.false_eq_true, if_false, reduceCtorEq, Nat.zero_add]
  exact ⟨_, rfl⟩
theorem lam39_ok (a : Lot) : Ph ns (n + 1) 41 [tupD a] M = some (.ok (keyD a) M) := by
  refine call_rt (F := F41) rfl rfl rfl ?_
  simp only [F41, sts, st, ev, evs, evPar, startE, viewD, takeD, lock, clear, reset, lock1, isOwn, slots, slotsL, modeOf, maker, mine, turnF, bindT, bindTs, bind_some, okE, fin, lift, iterD, lamless, tru, tupD, onInt, see, ansO, setAll, deref, Option.bind, Option.map, List.map, List.replicate, List.cons_append, List.nil_append, List.append_nil, List.getElem?_cons_zero, List.getElem?_cons_succ, List.set, List.length_cons, List.length_nil, Nat.sub_self, Nat.reduceAdd, Nat.reduceSub, if_true, Bool.false_eq_true, if_false, reduceCtorEq, Nat.zero_add, biD, List.length_map]
  rw [mkT2 _ _ rfl rfl]
  simp only [sts, st, ev, evs, evPar, startE, viewD, takeD, lock, clear, reset, lock1, isOwn, slots, slotsL, modeOf, maker, mine, turnF, bindT, bindTs, bind_some, okE, fin, lift, iterD, lamless, tru, tupD, onInt, see, ansO, setAll, deref, Option.bind, Option.map, List.map, List.replicate, List.cons_append, List.nil_append, List.append_nil, List.getElem?_cons_zero, List.getElem?_cons_succ, List.set, List.length_cons, List.length_nil, Nat.sub_self, Nat.reduceAdd, Nat.reduceSub, if_true, Bool.false_eq_true, if_false, reduceCtorEq, Nat.zero_add]
  exact ⟨_, rfl⟩
def sm (ls : List Lot) : List Lot := (nub ls).mergeSort fun a b => decide (a ≤ b)
theorem len_nub {α : Type} [DecidableEq α] : ∀ l : List α, (nub l).length ≤ l.length
  | [] => Nat.le_refl _
  | x :: l => by
    have ih := len_nub l
    unfold nub
    split <;> simp only [List.length_cons] <;> omega
theorem len_sm (ls : List Lot) : (sm ls).length ≤ ls.length := by
  unfold sm
  rw [List.length_mergeSort]
  exact len_nub ls
theorem sset_tups (ls : List Lot) (h : ls.length < 64) : ssetD (.lst (ls.map tupD)) = some ((sm ls).map tupD) := by
  unfold ssetD sortSet
  simp only [List.length_map, h, decide_true, if_true]
  cases ls with
  | nil => simp [sm, sortI, nub, intsOf]
  | cons a l =>
    have : intsOf ((a :: l).map tupD) = none := rfl
    rw [this, tupsOf_map]
    rfl
theorem minL_sm (ls : List Lot) : minL ls = ((sm ls).filter fun a => (sm ls).all fun o => decide (o = a) || !subB o a).mergeSort leLen := rfl
def S1 : S := .asg (.nm 1) (.sset (.var 0))
def S2 : S := .asg (.nm 2) (.cp (.var 3) (.nm 3) (.var 1) (.cmp .eq (.cp (.var 4) (.nm 4) (.var 1) (.and (.cmp .ne (.var 4) (.var 3)) (.cmp .eq (.cp (.var 5) (.nm 5) (.var 4) (.cmp .notin (.var 5) (.var 3))) (.lst [])))) (.lst [])))
def S3 : S := .ret (.bi .tuple [.sortk (.var 2) (.lam 40 []) false])
theorem F31_body : F31.body = [S1, S2, S3] := rfl
theorem s2_ok {φ : Phi} {s : List Lot} {L : En} (hL : lock1 L = L) (hs : s.length ≤ LINE) (h : ∀ a ∈ s, a.length ≤ LINE) : st (g ns) φ S2 [L, .ow (s.map tupD), .un, .un, .un, .un] M = some (.ok .nx [L, .ow (s.map tupD), .ow ((s.filter fun a => s.all fun o => decide (o = a) || !subB o a).map tupD), .un, .un, .un] M) := by
  simp only [S2, sts, st, ev, evs, evPar, startE, viewD, takeD, lock, clear, reset, lock1, isOwn, slots, slotsL, modeOf, maker, mine, turnF, bindT, bindTs, bind_some, okE, fin, lift, iterD, lamless, tru, tupD, onInt, see, ansO, setAll, deref, Option.bind, Option.map, List.map, List.replicate, List.cons_append, List.nil_append, List.append_nil, List.getElem?_cons_zero, List.getElem?_cons_succ, List.set, List.length_cons, List.length_nil, Nat.sub_self, Nat.reduceAdd, Nat.reduceSub, if_true, Bool.false_eq_true, if_false, reduceCtorEq, Nat.zero_add, hL]
  rw [comp_filter (c := tupD) (l := s) (f := tupD) (p := fun a => s.all fun o => decide (o = a) || !subB o a)]
  · simp only []
    rw [mkL_tups _ (Nat.le_trans (List.length_filter_le _ _) hs)]
    simp only [sts, st, ev, evs, evPar, startE, viewD, takeD, lock, clear, reset, lock1, isOwn, slots, slotsL, modeOf, maker, mine, turnF, bindT, bindTs, bind_some, okE, fin, lift, iterD, lamless, tru, tupD, onInt, see, ansO, setAll, deref, Option.bind, Option.map, List.map, List.replicate, List.cons_append, List.nil_append, List.append_nil, List.getElem?_cons_zero, List.getElem?_cons_succ, List.set, List.length_cons, List.length_nil, Nat.sub_self, Nat.reduceAdd, Nat.reduceSub, if_true, Bool.false_eq_true, if_false, reduceCtorEq, Nat.zero_add]
  · intro a ha
    simp only [sts, st, ev, evs, evPar, startE, viewD, takeD, lock, clear, reset, lock1, isOwn, slots, slotsL, modeOf, maker, mine, turnF, bindT, bindTs, bind_some, okE, fin, lift, iterD, lamless, tru, tupD, onInt, see, ansO, setAll, deref, Option.bind, Option.map, List.map, List.replicate, List.cons_append, List.nil_append, List.append_nil, List.getElem?_cons_zero, List.getElem?_cons_succ, List.set, List.length_cons, List.length_nil, Nat.sub_self, Nat.reduceAdd, Nat.reduceSub, if_true, Bool.false_eq_true, if_false, reduceCtorEq, Nat.zero_add]
    rw [comp_filter (c := tupD) (l := s) (f := tupD) (p := fun o => !(decide (o = a) || !subB o a))]
    · simp only []
      rw [mkL_tups _ (Nat.le_trans (List.length_filter_le _ _) hs)]
      simp only [sts, st, ev, evs, evPar, startE, viewD, takeD, lock, clear, reset, lock1, isOwn, slots, slotsL, modeOf, maker, mine, turnF, bindT, bindTs, bind_some, okE, fin, lift, iterD, lamless, tru, tupD, onInt, see, ansO, setAll, deref, Option.bind, Option.map, List.map, List.replicate, List.cons_append, List.nil_append, List.append_nil, List.getElem?_cons_zero, List.getElem?_cons_succ, List.set, List.length_cons, List.length_nil, Nat.sub_self, Nat.reduceAdd, Nat.reduceSub, if_true, Bool.false_eq_true, if_false, reduceCtorEq, Nat.zero_add, mkL_nil, eqnilT, filt_all (fun o => decide (o = a) || !subB o a)]
      cases q : s.all (fun o => decide (o = a) || !subB o a) with
      | true =>
        simp only [q, sts, st, ev, evs, evPar, startE, viewD, takeD, lock, clear, reset, lock1, isOwn, slots, slotsL, modeOf, maker, mine, turnF, bindT, bindTs, bind_some, okE, fin, lift, iterD, lamless, tru, tupD, onInt, see, ansO, setAll, deref, Option.bind, Option.map, List.map, List.replicate, List.cons_append, List.nil_append, List.append_nil, List.getElem?_cons_zero, List.getElem?_cons_succ, List.set, List.length_cons, List.length_nil, Nat.sub_self, Nat.reduceAdd, Nat.reduceSub, if_true, Bool.false_eq_true, if_false, reduceCtorEq, Nat.zero_add]
        exact ⟨_, rfl⟩
      | false =>
        simp only [q, sts, st, ev, evs, evPar, startE, viewD, takeD, lock, clear, reset, lock1, isOwn, slots, slotsL, modeOf, maker, mine, turnF, bindT, bindTs, bind_some, okE, fin, lift, iterD, lamless, tru, tupD, onInt, see, ansO, setAll, deref, Option.bind, Option.map, List.map, List.replicate, List.cons_append, List.nil_append, List.append_nil, List.getElem?_cons_zero, List.getElem?_cons_succ, List.set, List.length_cons, List.length_nil, Nat.sub_self, Nat.reduceAdd, Nat.reduceSub, if_true, Bool.false_eq_true, if_false, reduceCtorEq, Nat.zero_add]
        exact ⟨_, rfl⟩
    · intro o ho
      simp only [sts, st, ev, evs, evPar, startE, viewD, takeD, lock, clear, reset, lock1, isOwn, slots, slotsL, modeOf, maker, mine, turnF, bindT, bindTs, bind_some, okE, fin, lift, iterD, lamless, tru, tupD, onInt, see, ansO, setAll, deref, Option.bind, Option.map, List.map, List.replicate, List.cons_append, List.nil_append, List.append_nil, List.getElem?_cons_zero, List.getElem?_cons_succ, List.set, List.length_cons, List.length_nil, Nat.sub_self, Nat.reduceAdd, Nat.reduceSub, if_true, Bool.false_eq_true, if_false, reduceCtorEq, Nat.zero_add, ne_tup]
      by_cases e : o = a
      · simp only [e, decide_true, Bool.not_true, sts, st, ev, evs, evPar, startE, viewD, takeD, lock, clear, reset, lock1, isOwn, slots, slotsL, modeOf, maker, mine, turnF, bindT, bindTs, bind_some, okE, fin, lift, iterD, lamless, tru, tupD, onInt, see, ansO, setAll, deref, Option.bind, Option.map, List.map, List.replicate, List.cons_append, List.nil_append, List.append_nil, List.getElem?_cons_zero, List.getElem?_cons_succ, List.set, List.length_cons, List.length_nil, Nat.sub_self, Nat.reduceAdd, Nat.reduceSub, if_true, Bool.false_eq_true, if_false, reduceCtorEq, Nat.zero_add, Bool.true_or]
        exact ⟨_, rfl⟩
      · simp only [e, decide_false, Bool.not_false, sts, st, ev, evs, evPar, startE, viewD, takeD, lock, clear, reset, lock1, isOwn, slots, slotsL, modeOf, maker, mine, turnF, bindT, bindTs, bind_some, okE, fin, lift, iterD, lamless, tru, tupD, onInt, see, ansO, setAll, deref, Option.bind, Option.map, List.map, List.replicate, List.cons_append, List.nil_append, List.append_nil, List.getElem?_cons_zero, List.getElem?_cons_succ, List.set, List.length_cons, List.length_nil, Nat.sub_self, Nat.reduceAdd, Nat.reduceSub, if_true, Bool.false_eq_true, if_false, reduceCtorEq, Nat.zero_add, Bool.false_or, Bool.not_not]
        rw [comp_filter (c := D.int) (l := o) (f := D.int) (p := fun x => !decide (x ∈ a))]
        · simp only []
          rw [mkL_of (f := D.int) (Nat.le_trans (List.length_filter_le _ _) (h o ho)) fun _ _ => rfl]
          simp only [sts, st, ev, evs, evPar, startE, viewD, takeD, lock, clear, reset, lock1, isOwn, slots, slotsL, modeOf, maker, mine, turnF, bindT, bindTs, bind_some, okE, fin, lift, iterD, lamless, tru, tupD, onInt, see, ansO, setAll, deref, Option.bind, Option.map, List.map, List.replicate, List.cons_append, List.nil_append, List.append_nil, List.getElem?_cons_zero, List.getElem?_cons_succ, List.set, List.length_cons, List.length_nil, Nat.sub_self, Nat.reduceAdd, Nat.reduceSub, if_true, Bool.false_eq_true, if_false, reduceCtorEq, Nat.zero_add, mkL_nil, eqnil, filt_sub]
          cases subB o a <;> exact ⟨_, rfl⟩
        · intro x _
          simp only [sts, st, ev, evs, evPar, startE, viewD, takeD, lock, clear, reset, lock1, isOwn, slots, slotsL, modeOf, maker, mine, turnF, bindT, bindTs, bind_some, okE, fin, lift, iterD, lamless, tru, tupD, onInt, see, ansO, setAll, deref, Option.bind, Option.map, List.map, List.replicate, List.cons_append, List.nil_append, List.append_nil, List.getElem?_cons_zero, List.getElem?_cons_succ, List.set, List.length_cons, List.length_nil, Nat.sub_self, Nat.reduceAdd, Nat.reduceSub, if_true, Bool.false_eq_true, if_false, reduceCtorEq, Nat.zero_add, notin_ints]
          by_cases h : x ∈ a
          · simp only [h, decide_true, Bool.not_true, sts, st, ev, evs, evPar, startE, viewD, takeD, lock, clear, reset, lock1, isOwn, slots, slotsL, modeOf, maker, mine, turnF, bindT, bindTs, bind_some, okE, fin, lift, iterD, lamless, tru, tupD, onInt, see, ansO, setAll, deref, Option.bind, Option.map, List.map, List.replicate, List.cons_append, List.nil_append, List.append_nil, List.getElem?_cons_zero, List.getElem?_cons_succ, List.set, List.length_cons, List.length_nil, Nat.sub_self, Nat.reduceAdd, Nat.reduceSub, if_true, Bool.false_eq_true, if_false, reduceCtorEq, Nat.zero_add]
            exact ⟨_, rfl⟩
          · simp only [h, decide_false, Bool.not_false, sts, st, ev, evs, evPar, startE, viewD, takeD, lock, clear, reset, lock1, isOwn, slots, slotsL, modeOf, maker, mine, turnF, bindT, bindTs, bind_some, okE, fin, lift, iterD, lamless, tru, tupD, onInt, see, ansO, setAll, deref, Option.bind, Option.map, List.map, List.replicate, List.cons_append, List.nil_append, List.append_nil, List.getElem?_cons_zero, List.getElem?_cons_succ, List.set, List.length_cons, List.length_nil, Nat.sub_self, Nat.reduceAdd, Nat.reduceSub, if_true, Bool.false_eq_true, if_false, reduceCtorEq, Nat.zero_add]
            exact ⟨_, rfl⟩
theorem l_least_ok (ls : List Lot) (hl : ls.length < 64) (h : ∀ a ∈ ls, a.length ≤ LINE) : Ph ns (n + 2) 31 [.lst (ls.map tupD)] M = some (.ok (.tup ((minL ls).map tupD)) M) := by
  have l1 := len_sm ls
  have l2 : (sm ls).length ≤ LINE := by unfold LINE; omega
  have hm : ∀ a ∈ sm ls, a.length ≤ LINE := fun a ha => h a (by unfold sm at ha; rw [List.mem_mergeSort, mem_nub] at ha; exact ha)
  have sst := sset_tups ls hl
  have ks : ∀ l : List Lot, keysOf (Ph ns (n + 1)) (.lam 40 []) (l.map tupD) M = some (l.map keyD, M) := fun l => keysOf_map fun x _ => (show Ph ns (n + 1) 40 [tupD x] M = _ from lam38_ok x)
  have sk := sortK_len ((sm ls).filter fun a => (sm ls).all fun o => decide (o = a) || !subB o a) (Nat.le_trans (List.length_filter_le _ _) l2)
  refine call_rt (F := F31) rfl rfl rfl ⟨[.fz (.lst (ls.map tupD)), .ow ((sm ls).map tupD), .ow (((sm ls).filter fun a => (sm ls).all fun o => decide (o = a) || !subB o a).map tupD), .un, .un, .un], ?_⟩
  refine (sts_nx (ρ1 := [.fz (.lst (ls.map tupD)), .ow ((sm ls).map tupD), .un, .un, .un, .un]) (M1 := M) ?_).trans ((sts_nx (s2_ok rfl l2 hm)).trans ?_)
  · simp only [sts, st, ev, evs, evPar, startE, viewD, takeD, lock, clear, reset, lock1, isOwn, slots, slotsL, modeOf, maker, mine, turnF, bindT, bindTs, bind_some, okE, fin, lift, iterD, lamless, tru, tupD, onInt, see, ansO, setAll, deref, Option.bind, Option.map, List.map, List.replicate, List.cons_append, List.nil_append, List.append_nil, List.getElem?_cons_zero, List.getElem?_cons_succ, List.set, List.length_cons, List.length_nil, Nat.sub_self, Nat.reduceAdd, Nat.reduceSub, if_true, Bool.false_eq_true, if_false, reduceCtorEq, Nat.zero_add, sst]
    rfl
  · simp only [sts, st, ev, evs, evPar, startE, viewD, takeD, lock, clear, reset, lock1, isOwn, slots, slotsL, modeOf, maker, mine, turnF, bindT, bindTs, bind_some, okE, fin, lift, iterD, lamless, tru, tupD, onInt, see, ansO, setAll, deref, Option.bind, Option.map, List.map, List.replicate, List.cons_append, List.nil_append, List.append_nil, List.getElem?_cons_zero, List.getElem?_cons_succ, List.set, List.length_cons, List.length_nil, Nat.sub_self, Nat.reduceAdd, Nat.reduceSub, if_true, Bool.false_eq_true, if_false, reduceCtorEq, Nat.zero_add, capsOf, ks, sk, biD, seqD, minL_sm]
end
end K24
end
section
set_option Elab.async false
set_option linter.all false
set_option maxRecDepth 100000
set_option maxHeartbeats 1000000
/-! PL9: all lots, families by test, votes. -/
namespace K24
open DV PL
section
variable {ns : List Int} {n : Nat} {M M' : Mem} {ρ ρ' : Ev}
def pw (x : Int) : Int := 2 ^ x.toNat
def bits (k : Nat) (i : Int) : Lot := (range k).filter fun x => decide ((i / pw x) % 2 = 1)
theorem bits_subs : ∀ k : Nat, 1 ≤ k → k ≤ 5 → (range (2 ^ k)).map (bits k) = subs k := by
  intro k h1 h2
  have : k = 1 ∨ k = 2 ∨ k = 3 ∨ k = 4 ∨ k = 5 := by omega
  rcases this with rfl | rfl | rfl | rfl | rfl <;> decide +kernel
theorem ix_pw {x : Int} {k : Nat} (h : x ∈ range k) (hk : k ≤ 5) : idxD (.lst [.int 1, .int 2, .int 4, .int 8, .int 16]) (.int x) = some (.int (pw x)) ∧ 0 < pw x ∧ pw x < 1073741824 := by
  unfold range at h
  obtain ⟨y, hy, rfl⟩ := List.mem_map.mp h
  rw [List.mem_range] at hy
  have : y = 0 ∨ y = 1 ∨ y = 2 ∨ y = 3 ∨ y = 4 := by omega
  rcases this with rfl | rfl | rfl | rfl | rfl <;> exact ⟨rfl, by decide, by decide⟩
theorem ix_p2 {k : Nat} (h1 : 1 ≤ k) (hk : k ≤ 5) : idxD (.lst [.int 1, .int 2, .int 4, .int 8, .int 16, .int 32]) (.int (k : Int)) = some (.int ((2 ^ k : Nat) : Int)) := by
  have : k = 1 ∨ k = 2 ∨ k = 3 ∨ k = 4 ∨ k = 5 := by omega
  rcases this with rfl | rfl | rfl | rfl | rfl <;> rfl
def B5 : List S := [.app 1 (.bi .tuple [.cp (.var 3) (.nm 3) (.range [.var 0]) (.cmp .eq (.bin .mod (.bi .int [.bin .fdiv (.var 2) (.idx (.lst [.lit (.int 1), .lit (.int 2), .lit (.int 4), .lit (.int 8), .lit (.int 16)]) (.var 3))]) (.lit (.int 2))) (.lit (.int 1)))])]
theorem mkL5 : mkL [.int 1, .int 2, .int 4, .int 8, .int 16] = some (.lst [.int 1, .int 2, .int 4, .int 8, .int 16]) := rfl
theorem mkL6 : mkL [.int 1, .int 2, .int 4, .int 8, .int 16, .int 32] = some (.lst [.int 1, .int 2, .int 4, .int 8, .int 16, .int 32]) := rfl
theorem st_app {φ : Phi} {x : Nat} {e : E} {l : List D} {d : D} {ρ1 : Ev} {M1 : Mem} (h0 : ρ[x]? = some (.ow l)) (h : ev (g ns) φ .v e ρ M = some (.ok d ρ1 M1)) (h1 : ρ1[x]? = some (.ow l)) (hl : l.length + 1 ≤ LINE) (hd : lamless d = true) : st (g ns) φ (.app x e) ρ M = some (.ok .nx (ρ1.set x (.ow (l ++ [d]))) M1) := by
  have hf : (fit (l ++ [d]) && lamless d) = true := by
    rw [hd]
    unfold fit
    simp [hl]
  simp only [st, h0, h, bind_some, h1, hf, if_true, okE]
theorem b5_ok {φ : Phi} {k : Nat} (hk : k ≤ 5) {v i : Int} (rg : rangeD [.int v] = some ((range k).map .int)) {acc : List D} (ha : acc.length + 1 ≤ LINE) : sts (g ns) φ B5 [.fz (.int v), .ow acc, .fz (.int i), .un] M = some (.ok .nx [.fz (.int v), .ow (acc ++ [tupD (bits k i)]), .fz (.int i), .un] M) := by
  have ll : (bits k i).length ≤ LINE := Nat.le_trans (List.length_filter_le _ _) (line5 (by rw [len_range]; exact hk))
  refine (sts_nx (st_app rfl (ev_bi (evs_1 (ev_cp (ev_rg (.inl rfl) (evs_1 (ev_varv rfl) nofun) rg) rfl (comp_filter (l := range k) (c := D.int) (f := D.int) (p := fun x => decide ((i / pw x) % 2 = 1)) ?_) (mkL_of (f := D.int) ll fun _ _ => rfl)) nofun) rfl) rfl ha rfl)).trans ?_
  · intro x hx
    obtain ⟨e, h1, h2⟩ := ix_pw hx hk
    simp only [sts, st, ev, evs, evPar, startE, viewD, takeD, lock, clear, reset, lock1, isOwn, slots, slotsL, modeOf, maker, mine, turnF, bindT, bindTs, bind_some, okE, fin, lift, iterD, lamless, tru, tupD, onInt, see, ansO, setAll, deref, Option.bind, Option.map, List.map, List.replicate, List.cons_append, List.nil_append, List.append_nil, List.getElem?_cons_zero, List.getElem?_cons_succ, List.set, List.length_cons, List.length_nil, Nat.sub_self, Nat.reduceAdd, Nat.reduceSub, if_true, Bool.false_eq_true, if_false, reduceCtorEq, Nat.zero_add, mkL5, e, div_ok h1 h2, biD, mod_ok (m := 2) (by decide), eq_int]
    cases q : decide ((i / pw x) % 2 = 1) with
    | true =>
      simp only [sts, st, ev, evs, evPar, startE, viewD, takeD, lock, clear, reset, lock1, isOwn, slots, slotsL, modeOf, maker, mine, turnF, bindT, bindTs, bind_some, okE, fin, lift, iterD, lamless, tru, tupD, onInt, see, ansO, setAll, deref, Option.bind, Option.map, List.map, List.replicate, List.cons_append, List.nil_append, List.append_nil, List.getElem?_cons_zero, List.getElem?_cons_succ, List.set, List.length_cons, List.length_nil, Nat.sub_self, Nat.reduceAdd, Nat.reduceSub, if_true, Bool.false_eq_true, if_false, reduceCtorEq, Nat.zero_add]
      exact ⟨_, rfl⟩
    | false =>
      simp only [sts, st, ev, evs, evPar, startE, viewD, takeD, lock, clear, reset, lock1, isOwn, slots, slotsL, modeOf, maker, mine, turnF, bindT, bindTs, bind_some, okE, fin, lift, iterD, lamless, tru, tupD, onInt, see, ansO, setAll, deref, Option.bind, Option.map, List.map, List.replicate, List.cons_append, List.nil_append, List.append_nil, List.getElem?_cons_zero, List.getElem?_cons_succ, List.set, List.length_cons, List.length_nil, Nat.sub_self, Nat.reduceAdd, Nat.reduceSub, if_true, Bool.false_eq_true, if_false, reduceCtorEq, Nat.zero_add]
      exact ⟨_, rfl⟩
  · exact sts_nil
theorem loop_all {φ : Phi} {k : Nat} (hk : k ≤ 5) {v : Int} (rg : rangeD [.int v] = some ((range k).map .int)) : ∀ {l : List Int} {acc : List D} {e2 : En}, acc.length + l.length ≤ LINE → ∃ e2', forL (fun ρ M => sts (g ns) φ B5 ρ M) (.nm 2) (l.map .int) [.fz (.int v), .ow acc, e2, .un] M = some (.ok .nx [.fz (.int v), .ow (acc ++ l.map fun i => tupD (bits k i)), e2', .un] M)
  | [], acc, e2, h => ⟨e2, by simp [forL, okE]⟩
  | i :: l, acc, e2, h => by
    simp only [List.length_cons] at h
    obtain ⟨e2', ih⟩ := loop_all hk rg (φ := φ) (l := l) (acc := acc ++ [tupD (bits k i)]) (e2 := .fz (.int i)) (by simp only [List.length_append, List.length_cons, List.length_nil]; omega)
    refine ⟨e2', ?_⟩
    rw [List.map_cons]
    unfold forL
    have body := b5_ok (ns := ns) (φ := φ) (M := M) hk (i := i) rg (acc := acc) (by omega)
    simp only [bindT, List.set, body, bind_some]
    rw [ih, List.map_cons, List.append_assoc]
    rfl
theorem l_all_ok {k : Nat} (h1 : 1 ≤ k) (hk : k ≤ 5) : Ph ns (n + 2) 32 [.int (k : Int)] M = some (.ok (.lst ((allB k).map tupD)) M) := by
  have rg := rangeD_ints k (by omega)
  have p5 := pow5 hk
  have rg2 := rangeD_ints (2 ^ k) (by omega)
  have ix := ix_p2 h1 hk
  have ls : (subs k).length ≤ LINE := by rw [len_subs]; exact line32 p5
  have ks : keysOf (Ph ns (n + 1)) (.lam 41 []) ((subs k).map tupD) M = some ((subs k).map keyD, M) := keysOf_map fun x _ => (show Ph ns (n + 1) 41 [tupD x] M = _ from lam39_ok x)
  have sk := sortK_len (subs k) ls
  have bs := bits_subs k h1 hk
  have lr : (range (2 ^ k)).length ≤ LINE := line32 (by rw [len_range]; exact p5)
  generalize (k : Int) = v at rg ix ⊢
  generalize ((2 ^ k : Nat) : Int) = w at rg2 ix
  obtain ⟨e2', lp⟩ := loop_all (ns := ns) (φ := Ph ns (n + 1)) (M := M) hk rg (l := range (2 ^ k)) (acc := []) (e2 := .un) (by simpa using lr)
  have e : (range (2 ^ k)).map (fun i => tupD (bits k i)) = (subs k).map tupD := by
    rw [← bs, List.map_map]
    rfl
  rw [e, List.nil_append] at lp
  have e1 : ev (g ns) (Ph ns (n + 1)) .v (.idx (.lst [.lit (.int 1), .lit (.int 2), .lit (.int 4), .lit (.int 8), .lit (.int 16), .lit (.int 32)]) (.var 0)) [.fz (.int v), .ow [], .un, .un] M = some (.ok (.int w) [.fz (.int v), .ow [], .un, .un] M) := by
    simp only [sts, st, ev, evs, evPar, startE, viewD, takeD, lock, clear, reset, lock1, isOwn, slots, slotsL, modeOf, maker, mine, turnF, bindT, bindTs, bind_some, okE, fin, lift, iterD, lamless, tru, tupD, onInt, see, ansO, setAll, deref, Option.bind, Option.map, List.map, List.replicate, List.cons_append, List.nil_append, List.append_nil, List.getElem?_cons_zero, List.getElem?_cons_succ, List.set, List.length_cons, List.length_nil, Nat.sub_self, Nat.reduceAdd, Nat.reduceSub, if_true, Bool.false_eq_true, if_false, reduceCtorEq, Nat.zero_add, mkL6, ix]
  refine call_rt (F := F32) rfl rfl rfl ⟨[.fz (.int v), .ow ((subs k).map tupD), e2', .un], ?_⟩
  refine (sts_nx (ρ1 := [.fz (.int v), .ow [], .un, .un]) (M1 := M) ?_).trans ((sts_nx (for_of (ev_rg (.inr rfl) (evs_1 e1 nofun) rg2) lp)).trans (sts_ret ?_))
  · simp only [sts, st, ev, evs, evPar, startE, viewD, takeD, lock, clear, reset, lock1, isOwn, slots, slotsL, modeOf, maker, mine, turnF, bindT, bindTs, bind_some, okE, fin, lift, iterD, lamless, tru, tupD, onInt, see, ansO, setAll, deref, Option.bind, Option.map, List.map, List.replicate, List.cons_append, List.nil_append, List.append_nil, List.getElem?_cons_zero, List.getElem?_cons_succ, List.set, List.length_cons, List.length_nil, Nat.sub_self, Nat.reduceAdd, Nat.reduceSub, if_true, Bool.false_eq_true, if_false, reduceCtorEq, Nat.zero_add, mkL_nil]
    rfl
  · simp only [sts, st, ev, evs, evPar, startE, viewD, takeD, lock, clear, reset, lock1, isOwn, slots, slotsL, modeOf, maker, mine, turnF, bindT, bindTs, bind_some, okE, fin, lift, iterD, lamless, tru, tupD, onInt, see, ansO, setAll, deref, Option.bind, Option.map, List.map, List.replicate, List.cons_append, List.nil_append, List.append_nil, List.getElem?_cons_zero, List.getElem?_cons_succ, List.set, List.length_cons, List.length_nil, Nat.sub_self, Nat.reduceAdd, Nat.reduceSub, if_true, Bool.false_eq_true, if_false, reduceCtorEq, Nat.zero_add, capsOf, ks, sk]
    rfl
/-! ### families by a test -/
def votes (ws : List Int) (a : Lot) : Int := (a.map fun x => ws.getD x.toNat 0).sum
theorem intsD_map : ∀ l : List Int, intsD (l.map .int) = some l
  | [] => rfl
  | a :: l => by
    rw [List.map_cons]
    unfold intsD
    rw [intsD_map l]
    rfl
end
end K24
end
section
set_option Elab.async false
set_option linter.all false
set_option maxRecDepth 100000
set_option maxHeartbeats 1000000
/-! PL10: drawn families. -/
namespace K24
open DV PL
section
variable {ns : List Int} {n : Nat} {M M' : Mem} {ρ ρ' : Ev}
theorem comp_penF {α : Type} {turn : D → Mem → R (Option (List D))} {cc f : α → D} : ∀ {l : List α} {acc : List D} {c : Nat} {M : Mem}, (∀ x ∈ l, ∀ c M, Pen ns (c + 1) M → ∃ b : Bool, ∃ ρ M', Pen ns c M' ∧ turn (cc x) M = some (.ok (if b then some [f x] else none) ρ M')) → Pen ns (c + l.length) M → ∃ s : List α, ∃ M', s.Sublist l ∧ Pen ns c M' ∧ compL turn acc (l.map cc) M = some (acc ++ s.map f, M')
  | [], acc, c, M, _, p => ⟨[], M, List.Sublist.refl _, p, by simp [compL]⟩
  | a :: l, acc, c, M, h, p => by
    obtain ⟨b, ρ, M1, p1, e⟩ := h a List.mem_cons_self (c + l.length) M p
    obtain ⟨s, M2, sl, p2, e2⟩ := comp_penF (l := l) (acc := acc ++ if b then [f a] else []) (c := c) (M := M1) (fun x hx => h x (List.mem_cons_of_mem _ hx)) p1
    rw [List.map_cons]
    unfold compL
    rw [e]
    cases b with
    | true => exact ⟨a :: s, M2, sl.cons₂ _, p2, by simp only [if_true]; rw [if_pos rfl] at e2; rw [e2, List.map_cons, List.append_assoc]; rfl⟩
    | false => exact ⟨s, M2, sl.cons _, p2, by simp only [Bool.false_eq_true, if_false] at e2 ⊢; rw [List.append_nil] at e2; exact e2⟩
theorem comp_penM {α β : Type} {turn : D → Mem → R (Option (List D))} {cc : α → D} {f : β → D} {P : β → Prop} {k : Nat} : ∀ {l : List α} {acc : List D} {c : Nat} {M : Mem}, (∀ x ∈ l, ∀ c M, Pen ns (c + k) M → ∃ y ρ M', P y ∧ Pen ns c M' ∧ turn (cc x) M = some (.ok (some [f y]) ρ M')) → Pen ns (c + l.length * k) M → ∃ ys : List β, ∃ M', ys.length = l.length ∧ (∀ y ∈ ys, P y) ∧ Pen ns c M' ∧ compL turn acc (l.map cc) M = some (acc ++ ys.map f, M')
  | [], acc, c, M, _, p => ⟨[], M, rfl, (fun _ z => nomatch z), p.le (by omega), by simp [compL]⟩
  | a :: l, acc, c, M, h, p => by
    obtain ⟨y, ρ, M1, py, p1, e⟩ := h a List.mem_cons_self (c + l.length * k) M (p.le (by rw [List.length_cons, Nat.add_mul]; omega))
    obtain ⟨ys, M2, yl, yp, p2, e2⟩ := comp_penM (l := l) (acc := acc ++ [f y]) (c := c) (M := M1) (fun x hx => h x (List.mem_cons_of_mem _ hx)) p1
    rw [List.map_cons]
    unfold compL
    rw [e]
    refine ⟨y :: ys, M2, by simp [yl], fun z hz => ?_, p2, ?_⟩
    · rcases List.mem_cons.mp hz with rfl | hz
      · exact py
      · exact yp z hz
    · show compL turn (acc ++ [f y]) _ _ = _
      rw [e2, List.map_cons, List.append_assoc]
      rfl
theorem turn_T {fc : Ev → Mem → R D} {fe : Ev → Mem → R (List D)} {t : Tg} {x : D} {d : List D} {ρ1 ρ2 : Ev} {M1 M2 : Mem} (h : bindT t x ρ = some ρ') (h1 : fc ρ' M = some (.ok (.bl true) ρ1 M1)) (h2 : fe ρ' M1 = some (.ok d ρ2 M2)) : turnF fc fe t ρ x M = some (.ok (some d) ρ' M2) := by
  unfold turnF
  simp only [h, h1, bind_some, h2, okE]
theorem turn_F {fc : Ev → Mem → R D} {fe : Ev → Mem → R (List D)} {t : Tg} {x : D} {ρ1 : Ev} {M1 : Mem} (h : bindT t x ρ = some ρ') (h1 : fc ρ' M = some (.ok (.bl false) ρ1 M1)) : turnF fc fe t ρ x M = some (.ok none ρ' M1) := by
  unfold turnF
  simp only [h, h1, bind_some, okE]
theorem el_1 {φ : Phi} {el : E} {d : D} {ρ1 : Ev} {M1 : Mem} (h : ev (g ns) φ .v el ρ M = some (.ok d ρ1 M1)) : ((ev (g ns) φ .v el ρ M).bind fun d ρ M => okE ρ M [d]) = some (.ok [d] ρ1 M1) := by
  rw [h]
  rfl
theorem lot_of_sub {k : Nat} {s : Lot} (h : s.Sublist (range k)) : LotOk k s := by
  have r := rest_ok k []
  have e : rest k [] = range k := by
    unfold PL.rest
    exact List.filter_eq_self.mpr fun x _ => by simp
  rw [e] at r
  exact ⟨r.st.sublist h, fun x hx => r.bd x (h.subset hx)⟩
end
end K24
end
section
set_option Elab.async false
set_option linter.all false
set_option maxRecDepth 100000
set_option maxHeartbeats 1000000
/-! PL11: drawn families, the four ways. -/
namespace K24
open DV PL
section
variable {ns : List Int} {n : Nat} {M M' : Mem} {ρ ρ' : Ev}
theorem ev_idx {φ : Phi} {m : Md} {a j : E} {x y d : D} {ρ1 ρ2 : Ev} {M1 M2 : Mem} (h : ev (g ns) φ .b a ρ M = some (.ok x ρ1 M1)) (h2 : ev (g ns) φ .v j ρ1 M1 = some (.ok y ρ2 M2)) (h3 : ((deref M2 x).bind fun x => idxD x y) = some d) : ev (g ns) φ m (.idx a j) ρ M = fin m d ρ2 M2 := by
  simp only [ev, h, bind_some, h2, h3]
theorem ev_lam {φ : Phi} {f : Nat} {caps : List Nat} {ds : List D} {ρ1 : Ev} (h : capsOf ρ caps = some (ds, ρ1)) : ev (g ns) φ .v (.lam f caps) ρ M = some (.ok (.lam f ds) ρ1 M) := by
  simp only [ev, h, okE]
theorem can_nil (m : Int) : Can m [] := ⟨List.Pairwise.nil, List.nodup_nil, (fun _ z => nomatch z), fun _ z => nomatch z⟩
theorem can_one (m : Int) : Can m [[]] := ⟨List.pairwise_singleton _ _, List.pairwise_singleton _ _, (fun a ha => by rw [List.mem_singleton.mp ha]; exact ⟨List.Pairwise.nil, fun _ z => nomatch z⟩), fun a ha b hb _ => by rw [List.mem_singleton.mp ha, List.mem_singleton.mp hb]⟩
theorem pick_ok (m : Int) {c : Nat} (p : Pen ns (c + 1) M) : ∃ f : List Lot, ∃ M', Can m f ∧ Pen ns c M' ∧ Ph ns (n + 2) 30 [.cell 0, .lst [.tup [], .tup [.tup []]]] M = some (.ok (.tup (f.map tupD)) M') := by
  obtain ⟨v, M', v0, v1, p', e⟩ := draw (ns := ns) (n := n) (m := 2) p (by decide) (by decide)
  have h : v = 0 ∨ v = 1 := by omega
  have go : ∀ f : List Lot, idxD (.lst [.tup [], .tup [.tup []]]) (.int v) = some (.tup (f.map tupD)) → Ph ns (n + 2) 30 [.cell 0, .lst [.tup [], .tup [.tup []]]] M = some (.ok (.tup (f.map tupD)) M') := fun f hf =>
    call_rt (F := F30) rfl rfl rfl ⟨[.fz (.cell 0), .fz (.lst [.tup [], .tup [.tup []]])], sts_ret (ev_idx (ev_var rfl rfl) (ev_call (evs_2 (ev_varv rfl) (ev_bi (evs_1 (ev_var rfl rfl) nofun) rfl) nofun nofun) e) hf)⟩
  rcases h with rfl | rfl
  · exact ⟨[], M', can_nil m, p', go [] rfl⟩
  · exact ⟨[[]], M', can_one m, p', go [[]] rfl⟩
abbrev E4 (i w : Int) : Ev := [.fz (.cell 0), .fz (.int i), .fz (.int w), .un, .un, .un, .un, .un, .un]
def A0 : S := .asg (.nm 2) (.call 29 [.var 0, .lit (.int 8)])
def A1 : S := .ife (.cmp .eq (.var 2) (.lit (.int 0))) [.ret (.call 30 [.var 0, .lst [.tup [], .tup [.tup []]]])] []
def A2 : S := .ife (.cmp .eq (.var 2) (.lit (.int 1))) [.asg (.nm 3) (.bin .add (.lit (.int 1)) (.call 29 [.var 0, .var 1])), .ret (.bi .tuple [.cp (.var 6) (.nm 6) (.call 32 [.var 1]) (.cmp .eq (.bi .len [.var 6]) (.var 3))])] []
theorem way_eq {φ : Phi} {i w z : Int} : ev (g ns) φ .t (.cmp .eq (.var 2) (.lit (.int z))) (E4 i w) M = some (.ok (.bl (decide (w = z))) (E4 i w) M) := ev_cmp (ev_var rfl rfl) ev_lit (eq_int _ _)
theorem way_lt {φ : Phi} {i w z : Int} : ev (g ns) φ .t (.cmp .lt (.var 2) (.lit (.int z))) (E4 i w) M = some (.ok (.bl (decide (w < z))) (E4 i w) M) := ev_cmp (ev_var rfl rfl) ev_lit rfl
theorem a1_ok (m i : Int) {c : Nat} (p : Pen ns (c + 1) M) : ∃ f : List Lot, ∃ M' ρ', Can m f ∧ Pen ns c M' ∧ st (g ns) (Ph ns (n + 2)) A1 (E4 i 0) M = some (.ok (.rt (.tup (f.map tupD))) ρ' M') := by
  obtain ⟨f, M', hc, p', e⟩ := pick_ok (ns := ns) (n := n) m p
  refine ⟨f, M', E4 i 0, hc, p', (st_if way_eq).trans ?_⟩
  rw [if_pos (by decide)]
  have ls : evs (g ns) (Ph ns (n + 2)) .v [.var 0, .lst [.tup [], .tup [.tup []]]] (E4 i 0) M = some (.ok [.cell 0, .lst [.tup [], .tup [.tup []]]] (E4 i 0) M) := by
    have m2 : mkL [.tup [], .tup [.tup []]] = some (.lst [.tup [], .tup [.tup []]]) := rfl
    have m3 : mkT [.tup []] = some (.tup [.tup []]) := rfl
    simp only [sts, st, ev, evs, evPar, startE, viewD, takeD, lock, clear, reset, lock1, isOwn, slots, slotsL, modeOf, maker, mine, turnF, bindT, bindTs, bind_some, okE, fin, lift, iterD, lamless, tru, tupD, onInt, see, ansO, setAll, deref, Option.bind, Option.map, List.map, List.replicate, List.cons_append, List.nil_append, List.append_nil, List.getElem?_cons_zero, List.getElem?_cons_succ, List.set, List.length_cons, List.length_nil, Nat.sub_self, Nat.reduceAdd, Nat.reduceSub, if_true, Bool.false_eq_true, if_false, reduceCtorEq, Nat.zero_add, mkT_nil, m2, m3]
  exact sts_ret (ev_call ls e)
theorem can_size {k : Nat} (z : Int) : Can k ((allB k).filter fun a => decide ((a.length : Int) = z)) := by
  refine ⟨?_, ?_, fun a ha => mem_allB.mp (List.mem_filter.mp ha).1, fun a ha b hb s => ?_⟩
  · exact (sorted_len _).sublist List.filter_sublist
  · refine List.Nodup.sublist List.filter_sublist ?_
    unfold allB
    exact (List.mergeSort_perm _ _).nodup_iff.mpr (nodup_subs k)
  · have h1 := of_decide_eq_true (List.mem_filter.mp ha).2
    have h2 := of_decide_eq_true (List.mem_filter.mp hb).2
    exact sub_eq_len (mem_allB.mp (List.mem_filter.mp ha).1).st (mem_allB.mp (List.mem_filter.mp hb).1).st s (by omega)
theorem a2_ok {k : Nat} {i : Int} (hi : i = k) (h1 : 1 ≤ k) (hk : k ≤ 5) {c : Nat} (p : Pen ns (c + 1) M) : ∃ f : List Lot, ∃ M' ρ', Can k f ∧ Pen ns c M' ∧ st (g ns) (Ph ns (n + 2)) A2 (E4 i 1) M = some (.ok (.rt (.tup (f.map tupD))) ρ' M') := by
  obtain ⟨v, M', v0, v1, p', e⟩ := draw (ns := ns) (n := n + 1) (m := i) p (by omega) (by omega)
  have al : Ph ns (n + 2) 32 [.int i] M' = _ := hi ▸ l_all_ok (ns := ns) (n := n) (M := M') h1 hk
  have fl : ((allB k).filter fun a => decide ((a.length : Int) = 1 + v)).length ≤ LINE := Nat.le_trans (List.length_filter_le _ _) (by rw [len_all]; exact line32 (pow5 hk))
  refine ⟨_, M', [.fz (.cell 0), .fz (.int i), .fz (.int 1), .fz (.int (1 + v)), .un, .un, .un, .un, .un], can_size (1 + v), p', (st_if way_eq).trans ?_⟩
  rw [if_pos (by decide)]
  refine (sts_nx (st_asg (ρ1 := E4 i 1) (x := .fz (.int (1 + v))) (ev_bin (y := .int v) ev_lit (ev_call (m := .b) (evs_2 (ev_varv rfl) (ev_varv rfl) nofun nofun) e) rfl) rfl)).trans (sts_ret (ev_bi (evs_1 (ev_cp (ev_call (m := .i) (evs_1 (ev_varv rfl) nofun) al) rfl (comp_filter (l := allB k) (c := tupD) (f := tupD) (p := fun a => decide ((a.length : Int) = 1 + v)) ?_) (mkL_tups _ fl)) nofun) rfl))
  intro a _
  simp only [sts, st, ev, evs, evPar, startE, viewD, takeD, lock, clear, reset, lock1, isOwn, slots, slotsL, modeOf, maker, mine, turnF, bindT, bindTs, bind_some, okE, fin, lift, iterD, lamless, tru, tupD, onInt, see, ansO, setAll, deref, Option.bind, Option.map, List.map, List.replicate, List.cons_append, List.nil_append, List.append_nil, List.getElem?_cons_zero, List.getElem?_cons_succ, List.set, List.length_cons, List.length_nil, Nat.sub_self, Nat.reduceAdd, Nat.reduceSub, if_true, Bool.false_eq_true, if_false, reduceCtorEq, Nat.zero_add, biD, eq_int, List.length_map]
  cases q : decide ((a.length : Int) = 1 + v) with
  | true =>
    simp only [q, sts, st, ev, evs, evPar, startE, viewD, takeD, lock, clear, reset, lock1, isOwn, slots, slotsL, modeOf, maker, mine, turnF, bindT, bindTs, bind_some, okE, fin, lift, iterD, lamless, tru, tupD, onInt, see, ansO, setAll, deref, Option.bind, Option.map, List.map, List.replicate, List.cons_append, List.nil_append, List.append_nil, List.getElem?_cons_zero, List.getElem?_cons_succ, List.set, List.length_cons, List.length_nil, Nat.sub_self, Nat.reduceAdd, Nat.reduceSub, if_true, Bool.false_eq_true, if_false, reduceCtorEq, Nat.zero_add]
    exact ⟨_, rfl⟩
  | false =>
    simp only [q, sts, st, ev, evs, evPar, startE, viewD, takeD, lock, clear, reset, lock1, isOwn, slots, slotsL, modeOf, maker, mine, turnF, bindT, bindTs, bind_some, okE, fin, lift, iterD, lamless, tru, tupD, onInt, see, ansO, setAll, deref, Option.bind, Option.map, List.map, List.replicate, List.cons_append, List.nil_append, List.append_nil, List.getElem?_cons_zero, List.getElem?_cons_succ, List.set, List.length_cons, List.length_nil, Nat.sub_self, Nat.reduceAdd, Nat.reduceSub, if_true, Bool.false_eq_true, if_false, reduceCtorEq, Nat.zero_add]
    exact ⟨_, rfl⟩
end
end K24
end
section
set_option Elab.async false
set_option linter.all false
set_option maxRecDepth 100000
set_option maxHeartbeats 1000000
/-! PL12: what repr writes of a family; the turn's pieces. -/
namespace K24
open DV PL
section
variable {ns : List Int} {n : Nat} {M M' M1 M2 : Mem} {ρ ρ' ρ1 ρ2 : Ev}
/-- signs below 128 alone -/
def Asc (s : PySem.Str) : Prop := ∀ c ∈ s.cps.toList, c < 128
theorem asc_app {a b : PySem.Str} (h : Asc a) (k : Asc b) : Asc (a ++ b) := by
  intro c hc
  have e : (a ++ b).cps = a.cps ++ b.cps := rfl
  rw [e, Array.toList_append, List.mem_append] at hc
  exact hc.elim (h c) (k c)
theorem asc_join {sep : PySem.Str} (hs : Asc sep) : ∀ {ts : List PySem.Str}, (∀ t ∈ ts, Asc t) → Asc (PySem.Str.join sep ts)
  | [], _ => by intro c hc; cases hc
  | [x], h => h x List.mem_cons_self
  | x :: y :: r, h => by
    have ih := asc_join hs (ts := y :: r) fun t ht => h t (List.mem_cons_of_mem _ ht)
    exact asc_app (asc_app (h x List.mem_cons_self) hs) ih
theorem asc_of {s : PySem.Str} (h : (s.cps.toList.all fun c => decide (c < 128)) = true) : Asc s := fun c hc => of_decide_eq_true (List.all_eq_true.mp h c hc)
theorem asc_tup {ts : List PySem.Str} (h : ∀ t ∈ ts, Asc t) : Asc (PySem.tupleText ts) := by
  unfold PySem.tupleText
  refine asc_app (asc_app (asc_of (by decide +kernel)) (asc_join (asc_of (by decide +kernel)) h)) ?_
  split
  · exact asc_of (by decide +kernel)
  · exact asc_of (by decide +kernel)
theorem one_sign {x : Int} (h0 : 0 ≤ x) (h1 : x < 5) : ((toString x : String) : PySem.Str).length ≤ 1 ∧ x.natAbs.log2 < 1920 ∧ Asc ((toString x : String) : PySem.Str) := by
  have : x = 0 ∨ x = 1 ∨ x = 2 ∨ x = 3 ∨ x = 4 := by omega
  rcases this with rfl | rfl | rfl | rfl | rfl <;> exact ⟨by decide +kernel, by decide, asc_of (by decide +kernel)⟩
theorem piled_le {ts : List PySem.Str} {b : Nat} (h : ∀ t ∈ ts, t.length ≤ b) : PySem.piled ts ≤ ts.length * (b + 2) := by
  induction ts with
  | nil => simp [PySem.piled]
  | cons t ts ih =>
    have h1 := ih fun x hx => h x (List.mem_cons_of_mem _ hx)
    have h2 := h t List.mem_cons_self
    unfold PySem.piled at h1 ⊢
    simp only [List.map_cons, List.sum_cons, List.length_cons, Nat.add_mul] at h1 ⊢
    omega
theorem tup_len {ts : List PySem.Str} {b : Nat} (h : ∀ t ∈ ts, t.length ≤ b) : (PySem.tupleText ts).length ≤ 3 + ts.length * (b + 2) := by
  have hp := piled_le h
  unfold PySem.tupleText
  rw [PySem.Str.length_append, PySem.Str.length_append]
  have e1 : (("(" : String) : PySem.Str).length = 1 := rfl
  have e2 : ((if ts.length == 1 then ",)" else ")" : String) : PySem.Str).length ≤ 2 := by split <;> decide
  have e3 : (PySem.Str.join ", " ts).length ≤ ts.length * (b + 2) := by
    cases q : ts with
    | nil => exact Nat.zero_le _
    | cons t ts' =>
      have := PySem.join_length_add ts (by rw [q]; simp)
      rw [q] at this hp
      omega
  omega
theorem shownAll_map {α : Type} (f : α → PySem.PyData) : ∀ l : List α, PySem.PyData.shownAll (l.map f) = l.map fun x => (f x).shown
  | [] => by simp [PySem.PyData.shownAll]
  | a :: l => by
    rw [List.map_cons, List.map_cons]
    simp only [PySem.PyData.shownAll, shownAll_map f l]
theorem showableAll_map {α : Type} (f : α → PySem.PyData) : ∀ {l : List α}, (∀ x ∈ l, (f x).showable = true) → PySem.PyData.showableAll (l.map f) = true
  | [], _ => by simp [PySem.PyData.showableAll]
  | a :: l, h => by
    rw [List.map_cons]
    simp only [PySem.PyData.showableAll, h a List.mem_cons_self, showableAll_map f fun x hx => h x (List.mem_cons_of_mem _ hx), Bool.and_self]
theorem lot_shown {k : Nat} (hk : k ≤ 5) {a : Lot} (h : LotOk k a) : (toPy (tupD a)).shown.length ≤ 18 ∧ (toPy (tupD a)).showable = true ∧ Asc (toPy (tupD a)).shown := by
  rw [toPy_tup]
  have hl := lot_len h
  refine ⟨?_, ?_, ?_⟩
  · simp only [PySem.PyData.shown]
    rw [shownAll_map]
    have := tup_len (ts := a.map fun x => (PySem.PyData.int x).shown) (b := 1) fun t ht => by
      obtain ⟨x, hx, rfl⟩ := List.mem_map.mp ht
      have := h.bd x hx
      simp only [PySem.PyData.shown]
      exact (one_sign this.1 (by omega)).1
    rw [List.length_map] at this
    omega
  · simp only [PySem.PyData.showable]
    refine showableAll_map _ fun x hx => ?_
    have := h.bd x hx
    simp only [PySem.PyData.showable, decide_eq_true_eq]
    exact (one_sign this.1 (by omega)).2.1
  · simp only [PySem.PyData.shown]
    rw [shownAll_map]
    refine asc_tup fun t ht => ?_
    obtain ⟨x, hx, rfl⟩ := List.mem_map.mp ht
    have := h.bd x hx
    simp only [PySem.PyData.shown]
    exact (one_sign this.1 (by omega)).2.2
theorem toPys_map : ∀ l : List D, toPys l = l.map toPy
  | [] => rfl
  | a :: l => by
    unfold toPys
    rw [toPys_map l]
    rfl
abbrev fam (f : List Lot) : D := .tup (f.map tupD)
theorem show_fam {k : Nat} (hk : k ≤ 5) {f : List Lot} (h : Can k f) : ∃ s : List Nat, D.show (fam f) = some s ∧ (s.all fun c => decide (c < 128)) = true := by
  have hl := can_len h hk
  have e : toPy (fam f) = .tuple (f.map fun a => toPy (tupD a)) := by
    unfold fam toPy
    rw [toPys_map, List.map_map]
    rfl
  refine ⟨(toPy (fam f)).shown.cps.toList, ?_, ?_⟩
  · unfold D.show
    rw [if_pos]
    rw [easy_fam, e]
    simp only [Bool.true_and, Bool.and_eq_true, decide_eq_true_eq]
    constructor
    · simp only [PySem.PyData.showable]
      exact showableAll_map _ fun a ha => (lot_shown hk (h.ok a ha)).2.1
    · simp only [PySem.PyData.shown]
      rw [shownAll_map]
      have := tup_len (ts := f.map fun x => (toPy (tupD x)).shown) (b := 18) fun t ht => by
        obtain ⟨x, hx, rfl⟩ := List.mem_map.mp ht
        exact (lot_shown hk (h.ok x hx)).1
      rw [List.length_map] at this
      rw [Array.length_toList]
      show PySem.Str.length _ ≤ LINE
      unfold LINE
      omega
  · rw [List.all_eq_true]
    rintro c hc
    rw [e] at hc
    simp only [PySem.PyData.shown] at hc
    rw [shownAll_map] at hc
    exact decide_eq_true (asc_tup (fun t ht => by
      obtain ⟨x, hx, rfl⟩ := List.mem_map.mp ht
      exact (lot_shown hk (h.ok x hx)).2.2) c hc)
theorem show_bl (b : Bool) : ∃ s : List Nat, D.show (.bl b) = some s ∧ (s.all fun c => decide (c < 128)) = true := by
  cases b <;> exact ⟨_, rfl, by decide +kernel⟩
theorem rp_ne {φ : Phi} {a b : E} {d : D} (h : ev (g ns) φ .b a ρ M = some (.ok d ρ1 M1)) (h2 : ev (g ns) φ .b b ρ1 M1 = some (.ok d ρ2 M2)) (hs : ∃ s : List Nat, D.show d = some s ∧ (s.all fun c => decide (c < 128)) = true) (ha : ∀ e, a ≠ .star e) (hb : ∀ e, b ≠ .star e) : ev (g ns) φ .t (.cmp .ne (.bi .repr [a]) (.bi .repr [b])) ρ M = some (.ok (.bl false) ρ2 M2) := by
  obtain ⟨s, hs, hc⟩ := hs
  have e : biD cls .repr [d] = some (.str s) := by
    show (D.show d).map D.str = _
    rw [hs]
    rfl
  have q : cmD .ne (.str s) (.str s) = some false := by
    have : easy (.str s) = true := by
      unfold easy
      simp only [D.plain, hc, D.dep]
      rfl
    simp only [cmD, this, Bool.and_self, if_true, D.eq, BEq.rfl, Bool.not_true]
  exact ev_cmp (ev_bi (m := .b) (evs_1 h ha) e) (ev_bi (m := .b) (evs_1 h2 hb) e) q
theorem ev_orF {φ : Phi} {a b : E} (h : ev (g ns) φ .t a ρ M = some (.ok (.bl false) ρ1 M1)) (h2 : ev (g ns) φ .t b ρ1 M1 = some (.ok (.bl false) ρ2 M2)) : ev (g ns) φ .t (.or a b) ρ M = some (.ok (.bl false) ρ2 M2) := by
  simp only [ev, h, bind_some, h2]
section
variable {k : Nat} (hk : k ≤ 5) {f h : List Lot} (hf : Can k f) (hh : Can k h)
include hk hf
theorem five : ∀ e ∈ f, e.length ≤ 5 := fun e he => Nat.le_trans (lot_len (hf.ok e he)) hk
theorem fiveL : ∀ e ∈ f, e.length ≤ LINE := fun e he => line5 (five hk hf e he)
include hh
omit hh
theorem hitsC (h1 : 1 ≤ k) {v : Int} (hv : v = k) : Ph ns (n + 6) 26 [fam f, .int v] M = some (.ok (fam (hitsF k f)) M) := hv ▸ hits_ok true h1 hk hf
theorem hitsL (h1 : 1 ≤ k) {v : Int} (hv : v = k) : Ph ns (n + 6) 26 [.lst (f.map fun a => .lst (a.map .int)), .int v] M = some (.ok (fam (hitsF k f)) M) := hv ▸ hits_ok false h1 hk hf
theorem doesC (a : Lot) : Ph ns (n + 2) 22 [fam f, tupD a] M = some (.ok (.bl (f.any fun e => subB e a)) M) := does_ok f a (line32 (can_len hf hk)) (fiveL hk hf)
end
theorem upB {f : List Lot} {a : Lot} : (f.any fun e => subB e a) = true ↔ up f a := by
  rw [List.any_eq_true]
  constructor
  · rintro ⟨o, ho, h⟩
    exact ⟨o, ho, subB_iff.mp h⟩
  · rintro ⟨o, ho, h⟩
    exact ⟨o, ho, subB_iff.mpr h⟩
theorem bool_iff {a b : Bool} (h : a = true ↔ b = true) : a = b := by cases a <;> cases b <;> simp_all
theorem law_does1 {k : Nat} {f : List Lot} (hf : Can k f) {a : Lot} (ha : LotOk k a) : (!((hitsF k f).any fun e => subB e (rest k a))) = f.any fun e => subB e a := bool_iff (by
  rw [Bool.not_eq_true', ← Bool.not_eq_true, upB, upB, up_hits' hf.ok (rest_ok k a), rest_rest ha, Classical.not_not])
theorem law_does2 {k : Nat} {f : List Lot} (hf : Can k f) {a : Lot} (ha : LotOk k a) : (!((hitsF k f).any fun e => subB e a)) = f.any fun e => subB e (rest k a) := bool_iff (by
  rw [Bool.not_eq_true', ← Bool.not_eq_true, upB, upB, up_hits' hf.ok ha, Classical.not_not])
theorem law_meet {k : Nat} {f h : List Lot} (hf : Can k f) : (f.all fun a => (hitsF k h).any fun e => subB e a) = f.all fun a => h.all fun e => touB a e := by
  refine bool_iff ?_
  rw [List.all_eq_true, List.all_eq_true]
  refine forall_congr' fun a => imp_congr_right fun ha => ?_
  rw [upB, up_hits (hf.ok a ha), List.all_eq_true]
theorem law_mine {k : Nat} (f : List Lot) : minL ((allB k).filter fun a => f.all fun e => touB a e) = hitsF k f := minL_minF (m := k) fun a ha => mem_allB.mp (List.mem_filter.mp ha).1
end
end K24
end
section
set_option Elab.async false
set_option linter.all false
set_option maxRecDepth 100000
set_option maxHeartbeats 1000000
/-! PM13: widened. -/
namespace K24
open DV PL
section
variable {ns : List Int} {n : Nat} {M M' M1 M2 M3 M4 : Mem} {ρ ρ' ρ1 ρ2 ρ3 ρ4 : Ev}
theorem call_ex {i : Nat} {F : Fn} {ds : List D} {x : D} (hT : T[i]? = some F) (hl : ds.length = F.ps) (h : ∃ ρ', sts (g ns) (Ph ns n) F.body (startE ds F.n) M = some (.exc x ρ' M')) : Ph ns (n + 1) i ds M = some (.exc x M') := by
  obtain ⟨ρ', h⟩ := h
  show (match T[i]? with
    | some F => _
    | none => none) = _
  rw [hT]
  simp only [if_pos hl, h]
theorem sts_ex {φ : Phi} {s : S} {r : List S} {x : D} (h : st (g ns) φ s ρ M = some (.exc x ρ1 M1)) : sts (g ns) φ (s :: r) ρ M = some (.exc x ρ1 M1) := by
  simp only [sts, h, R.bind]
theorem st_raise {φ : Phi} {c : Nat} {e : E} {d : D} (h : evs (g ns) φ .v [e] ρ M = some (.ok [d] ρ1 M1)) (hd : lamless d = true) : st (g ns) φ (.raise c [e]) ρ M = some (.exc (.ins c [d]) ρ1 M1) := by
  simp only [st, h, bind_some, List.all_cons, hd, List.all_nil, Bool.and_self, if_true]
theorem evs_4 {φ : Phi} {m : Md} {a b c e : E} {x y z w : D} (h : ev (g ns) φ m a ρ M = some (.ok x ρ1 M1)) (h2 : ev (g ns) φ m b ρ1 M1 = some (.ok y ρ2 M2)) (h3 : ev (g ns) φ m c ρ2 M2 = some (.ok z ρ3 M3)) (h4 : ev (g ns) φ m e ρ3 M3 = some (.ok w ρ4 M4)) : (∀ e, a ≠ .star e) → (∀ e, b ≠ .star e) → (∀ e, c ≠ .star e) → (∀ q, e ≠ .star q) → evs (g ns) φ m [a, b, c, e] ρ M = some (.ok [x, y, z, w] ρ4 M4) := by
  intro k k2 k3 k4
  have := evs_3 (φ := φ) h2 h3 h4 k2 k3 k4
  cases a
  case star e => exact absurd rfl (k e)
  all_goals
    unfold evs
    simp only [h, bind_some]
    rw [this]
    simp only [bind_some, okE]
theorem eqs_tupsB : ∀ f h : List Lot, D.eqs (f.map tupD) (h.map tupD) = decide (f = h)
  | [], [] => by simp [D.eqs]
  | [], _ :: _ => by simp [D.eqs]
  | _ :: _, [] => by simp [D.eqs]
  | a :: f, b :: h => by
    have ih := eqs_tupsB f h
    have e1 : D.eq (tupD a) (tupD b) = decide (a = b) := by
      unfold tupD
      simp only [D.eq, eqs_intsB]
    simp only [List.map_cons, D.eqs, ih, e1]
    by_cases h1 : a = b <;> by_cases h2 : f = h <;> simp [h1, h2]
theorem eq_fam2 (f h : List Lot) : D.eq (fam f) (fam h) = decide (f = h) := by
  simp only [D.eq, eqs_tupsB]
theorem eq_famB (f h : List Lot) : cmD .eq (fam f) (fam h) = some (decide (f = h)) := by
  unfold cmD
  simp only [easy_fam, Bool.and_self, if_true, eq_fam2]
theorem not_in2 (f : List Lot) : cmD .notin (fam f) (.tup [fam [], fam [[]]]) = some (decide (f ≠ [] ∧ f ≠ [[]])) := by
  have e : inD (fam f) (.tup [fam [], fam [[]]]) = some (decide (f = [] ∨ f = [[]])) := by
    unfold inD
    have h1 : (flatD (fam f) && [fam [], fam [[]]].all flatD) = false := rfl
    have h2 : (easy (fam f) && [fam [], fam [[]]].all easy) = true := by
      simp only [List.all_cons, easy_fam, List.all_nil, Bool.and_self]
    simp only [h1, h2, Bool.false_eq_true, if_false, if_true, isIn, eq_fam2]
    by_cases q1 : f = [] <;> by_cases q2 : f = [[]] <;> simp [q1, q2, eq_comm]
  simp only [cmD, e, Option.map]
  by_cases q1 : f = [] <;> by_cases q2 : f = [[]] <;> simp [q1, q2]
/-! ### need_family -/
def N1 (t : List Nat) : S := .ife (.or (.cmp .eq (.var 4) (.tup [])) (.and (.cmp .eq (.var 4) (.tup [.tup []])) (.not (.var 3)))) [.raise 2 [.var 1]] []
theorem mkT_tnil : mkT [.tup []] = some (.tup [.tup []]) := by
  unfold mkT fit
  rw [if_pos]
  simp [lamless, LINE]
theorem ev_t0 {φ : Phi} : ev (g ns) φ .b (.tup []) ρ M = some (.ok (fam []) ρ M) := by
  simp only [sts, st, ev, evs, evPar, startE, viewD, takeD, lock, clear, reset, lock1, isOwn, slots, slotsL, modeOf, maker, mine, turnF, bindT, bindTs, bind_some, okE, fin, lift, iterD, lamless, tru, tupD, onInt, see, ansO, setAll, deref, Option.bind, Option.map, List.map, List.replicate, List.cons_append, List.nil_append, List.append_nil, List.getElem?_cons_zero, List.getElem?_cons_succ, List.set, List.length_cons, List.length_nil, Nat.sub_self, Nat.reduceAdd, Nat.reduceSub, if_true, Bool.false_eq_true, if_false, reduceCtorEq, Nat.zero_add, mkT_nil]
  all_goals rfl
theorem ev_t1 {φ : Phi} : ev (g ns) φ .b (.tup [.tup []]) ρ M = some (.ok (fam [[]]) ρ M) := by
  simp only [sts, st, ev, evs, evPar, startE, viewD, takeD, lock, clear, reset, lock1, isOwn, slots, slotsL, modeOf, maker, mine, turnF, bindT, bindTs, bind_some, okE, fin, lift, iterD, lamless, tru, tupD, onInt, see, ansO, setAll, deref, Option.bind, Option.map, List.map, List.replicate, List.cons_append, List.nil_append, List.append_nil, List.getElem?_cons_zero, List.getElem?_cons_succ, List.set, List.length_cons, List.length_nil, Nat.sub_self, Nat.reduceAdd, Nat.reduceSub, if_true, Bool.false_eq_true, if_false, reduceCtorEq, Nat.zero_add, mkT_nil, mkT_tnil]
  all_goals rfl
theorem ev_andF {φ : Phi} {a b : E} (h : ev (g ns) φ .t a ρ M = some (.ok (.bl false) ρ1 M1)) : ev (g ns) φ .t (.and a b) ρ M = some (.ok (.bl false) ρ1 M1) := by
  simp only [ev, h, bind_some, okE]
theorem ev_andT {φ : Phi} {a b : E} {c : Bool} (h : ev (g ns) φ .t a ρ M = some (.ok (.bl true) ρ1 M1)) (h2 : ev (g ns) φ .t b ρ1 M1 = some (.ok (.bl c) ρ2 M2)) : ev (g ns) φ .t (.and a b) ρ M = some (.ok (.bl c) ρ2 M2) := by
  simp only [ev, h, bind_some, h2]
theorem need_fam_ok (b : Bool) {k : Nat} {f : List Lot} (hc : Can k f) (hk : k ≤ 5) (n1 : f ≠ []) (n2 : f ≠ [[]]) (t : List Nat) : Ph ns (n + 6) 18 [famV b f, .str t, .int (k : Int), .bl false] M = some (.ok (fam f) M) := by
  have nf : Ph ns (n + 5) 17 [famV b f, .str t, .int (k : Int)] M = _ := need_family_ok (ns := ns) (n := n) (M := M) b hc hk t
  have fv : lamless (famV b f) = true := by cases b <;> rfl
  generalize (k : Int) = i at nf ⊢
  generalize famV b f = v at nf fv ⊢
  have e1 : cmD .eq (fam f) (fam []) = some false := by rw [eq_famB]; simp [n1]
  have e2 : cmD .eq (fam f) (fam [[]]) = some false := by rw [eq_famB]; simp [n2]
  refine call_rt (F := F18) rfl rfl rfl ⟨[.fz v, .fz (.str t), .fz (.int i), .fz (.bl false), .fz (fam f)], ?_⟩
  refine (sts_nx (st_asg (ρ1 := [.fz v, .fz (.str t), .fz (.int i), .fz (.bl false), .un]) (x := .fz (fam f)) (ev_call (m := .v) (evs_3 (ev_varv rfl) (ev_varv rfl) (ev_varv rfl) nofun nofun nofun) nf) rfl)).trans ?_
  refine (sts_nx (st_ifF (ev_orF (ev_cmp (m := .t) (ev_var rfl rfl) ev_t0 e1) (ev_andF (ev_cmp (m := .t) (ev_var rfl rfl) ev_t1 e2))))).trans (sts_ret (ev_varv rfl))
/-! ### widened -/
def famS : List Nat := [102, 97, 109, 105, 108, 121]
def MORE : E := .cp (.var 4) (.nm 4) (.call 25 [.var 2, .var 1]) (.not (.call 22 [.var 2, .var 4]))
def NEXT : E := .lst [.star (.var 2), .idx (.var 3) (.lit (.int 0))]
def W1 : S := .ex (.call 16 [.var 1])
def W2 : S := .asg (.nm 2) (.call 18 [.var 0, .lit (.str famS), .var 1, .lit (.bl false)])
def W3 : S := .ife (.not (.call 23 [.var 2, .var 2])) [.raise 6 [.lit (.str famS)]] []
def W4 : S := .asg (.nm 3) MORE
def B0 : List S := [.asg (.nm 2) (.call 13 [NEXT]), W4]
def W5 : S := .whl (.cmp .ne (.var 3) (.lst [])) B0
theorem F27_body : F27.body = [W1, W2, W3, W4, W5, .ret (.var 2)] := rfl
theorem more_ok {k : Nat} (hk : k ≤ 5) {i : Int} (hi : i = k) {f : List Lot} (hc : Can k f) {v : D} {e3 : En} : st (g ns) (Ph ns (n + 6)) W4 [.fz v, .fz (.int i), .fz (fam f), e3, .un] M = some (.ok .nx [.fz v, .fz (.int i), .fz (fam f), .ow ((moreF k f).map tupD), .un] M) := by
  have bl : Ph ns (n + 6) 25 [fam f, .int i] M = _ := hi ▸ blockers_ok (ns := ns) (n := n + 3) (M := M) hk (can_len hc hk) (five hk hc)
  have d : ∀ a, Ph ns (n + 6) 22 [fam f, tupD a] M = _ := fun a => doesC (n := n + 4) hk hc a
  have hl := can_len (hits_can k f) hk
  refine st_asg (ρ1 := [.fz v, .fz (.int i), .fz (fam f), e3, .un]) (x := .ow ((moreF k f).map tupD)) (ev_cp (m := .n) (ρ2 := [.fz v, .fz (.int i), .fz (fam f), lock1 e3, .un]) (xs := (hitsF k f).map tupD) (ev_call (m := .i) (evs_2 (ev_varv rfl) (ev_varv rfl) nofun nofun) bl) rfl (comp_filter (l := hitsF k f) (c := tupD) (f := tupD) (p := fun a => !doesB f a) ?_) (mkL_tups _ (Nat.le_trans (List.length_filter_le _ _) (line32 hl)))) rfl
  intro a ha
  cases q : doesB f a with
  | true => exact ⟨_, turn_F rfl ((ev_notT (ev_call (m := .t) (evs_2 (ev_varv rfl) (ev_varv rfl) nofun nofun) (d a))).trans (by rw [show (f.any fun e => subB e a) = doesB f a from rfl, q]; rfl))⟩
  | false => exact ⟨_, turn_T rfl ((ev_notT (ev_call (m := .t) (evs_2 (ev_varv rfl) (ev_varv rfl) nofun nofun) (d a))).trans (by rw [show (f.any fun e => subB e a) = doesB f a from rfl, q]; rfl)) (el_1 (ev_varv rfl))⟩
theorem next_ok {φ : Phi} {f r : List Lot} {a : Lot} {v : D} {i : Int} (hl : f.length ≤ 32) : ev (g ns) φ .v NEXT [.fz v, .fz (.int i), .fz (fam f), .ow ((a :: r).map tupD), .un] M = some (.ok (.lst ((f ++ [a]).map tupD)) [.fz v, .fz (.int i), .fz (fam f), .ow ((a :: r).map tupD), .un] M) := by
  have ix : idxD (.lst ((a :: r).map tupD)) (.int 0) = some (tupD a) := by
    unfold idxD place
    have h1 : (0 : Int) < ((a :: r).map tupD).length := by simp only [List.length_map, List.length_cons]; omega
    simp only [Int.le_refl, decide_true, if_true, h1]
    rfl
  have mk := mkL_tups (f ++ [a]) (by rw [List.length_append]; unfold LINE; simp only [List.length_cons, List.length_nil]; omega)
  rw [List.map_append] at mk ⊢
  generalize (a :: r).map tupD = l at ix ⊢
  simp only [NEXT, sts, st, ev, evs, evPar, startE, viewD, takeD, lock, clear, reset, lock1, isOwn, slots, slotsL, modeOf, maker, mine, turnF, bindT, bindTs, bind_some, okE, fin, lift, iterD, lamless, tru, tupD, onInt, see, ansO, setAll, deref, Option.bind, Option.map, List.map, List.replicate, List.cons_append, List.nil_append, List.append_nil, List.getElem?_cons_zero, List.getElem?_cons_succ, List.set, List.length_cons, List.length_nil, Nat.sub_self, Nat.reduceAdd, Nat.reduceSub, if_true, Bool.false_eq_true, if_false, reduceCtorEq, Nat.zero_add, seqD, ix]
  have mk2 : mkL (f.map tupD ++ [.tup (a.map .int)]) = some (.lst (f.map tupD ++ [.tup (a.map .int)])) := mk
  rw [mk2]
  all_goals rfl
theorem nl_ok {φ : Phi} : ev (g ns) φ .b (.lst []) ρ M = some (.ok (.lst []) ρ M) := by
  simp only [sts, st, ev, evs, evPar, startE, viewD, takeD, lock, clear, reset, lock1, isOwn, slots, slotsL, modeOf, maker, mine, turnF, bindT, bindTs, bind_some, okE, fin, lift, iterD, lamless, tru, tupD, onInt, see, ansO, setAll, deref, Option.bind, Option.map, List.map, List.replicate, List.cons_append, List.nil_append, List.append_nil, List.getElem?_cons_zero, List.getElem?_cons_succ, List.set, List.length_cons, List.length_nil, Nat.sub_self, Nat.reduceAdd, Nat.reduceSub, if_true, Bool.false_eq_true, if_false, reduceCtorEq, Nat.zero_add, mkL_nil]
theorem widF_nil {k c : Nat} {f : List Lot} (e : moreF k f = []) : widF k (c + 1) f = f := by
  show (match moreF k f with
    | [] => f
    | a :: _ => widF k c (minF (f ++ [a]))) = f
  rw [e]
theorem widF_cons {k c : Nat} {f r : List Lot} {a : Lot} (e : moreF k f = a :: r) : widF k (c + 1) f = widF k c (minF (f ++ [a])) := by
  show (match moreF k f with
    | [] => f
    | a :: _ => widF k c (minF (f ++ [a]))) = _
  rw [e]
theorem wid_loop {k : Nat} (hk : k ≤ 5) {i : Int} (hi : i = k) {v : D} : ∀ {c N : Nat} {f : List Lot}, cnt k f ≤ c → c < N → Mt k f → ∃ e3, whlL (fun ρ M => ev (g ns) (Ph ns (n + 6)) .t (.cmp .ne (.var 3) (.lst [])) ρ M) (fun ρ M => sts (g ns) (Ph ns (n + 6)) B0 ρ M) N [.fz v, .fz (.int i), .fz (fam f), .ow ((moreF k f).map tupD), .un] M = some (.ok .nx [.fz v, .fz (.int i), .fz (fam (widF k c f)), e3, .un] M) := by
  have test : ∀ {f : List Lot}, ev (g ns) (Ph ns (n + 6)) .t (.cmp .ne (.var 3) (.lst [])) [.fz v, .fz (.int i), .fz (fam f), .ow ((moreF k f).map tupD), .un] M = some (.ok (.bl (!(moreF k f).isEmpty)) [.fz v, .fz (.int i), .fz (fam f), .ow ((moreF k f).map tupD), .un] M) := fun {f} => ev_cmp (m := .t) (ev_var rfl rfl) nl_ok (nenilT _)
  have stop : ∀ {f : List Lot} {N : Nat}, moreF k f = [] → whlL (fun ρ M => ev (g ns) (Ph ns (n + 6)) .t (.cmp .ne (.var 3) (.lst [])) ρ M) (fun ρ M => sts (g ns) (Ph ns (n + 6)) B0 ρ M) (N + 1) [.fz v, .fz (.int i), .fz (fam f), .ow ((moreF k f).map tupD), .un] M = some (.ok .nx [.fz v, .fz (.int i), .fz (fam f), .ow ((moreF k f).map tupD), .un] M) := fun {f N} e => by
    have t := test (f := f)
    rw [e] at t ⊢
    unfold whlL
    simp only [t, bind_some, List.isEmpty, Bool.not_true, okE]
  intro c
  induction c with
  | zero =>
    intro N f h1 h2 h3
    obtain ⟨N, rfl⟩ : ∃ N', N = N' + 1 := ⟨N - 1, by omega⟩
    have e : moreF k f = [] := (wid_ok h3 h1).2.1
    exact ⟨_, stop e⟩
  | succ c ih =>
    intro N f h1 h2 h3
    obtain ⟨N, rfl⟩ : ∃ N', N = N' + 1 := ⟨N - 1, by omega⟩
    cases e : moreF k f with
    | nil =>
      have z := stop (N := N) e
      rw [e] at z
      refine ⟨.ow (([] : List Lot).map tupD), z.trans ?_⟩
      rw [widF_nil e]
    | cons a r =>
      have m : a ∈ moreF k f := by rw [e]; exact List.mem_cons_self
      have lt := step_cnt m
      obtain ⟨e3, q⟩ := ih (N := N) (f := minF (f ++ [a])) (by omega) (by omega) (step_mt h3 m)
      have hl := can_len h3.can hk
      have l5 : ∀ x ∈ f ++ [a], x.length ≤ LINE := fun x hx => by
        rcases List.mem_append.mp hx with hx | hx
        · exact fiveL hk h3.can x hx
        · rw [List.mem_singleton.mp hx]
          exact fiveL hk (hits_can k f) a (more_mem m).1
      have li : Ph ns (n + 6) 13 [.lst ((f ++ [a]).map tupD)] M = _ := least_in_ok (ns := ns) (n := n + 4) (M := M) false (f ++ [a]) (by rw [List.length_append]; unfold LINE; simp only [List.length_cons, List.length_nil]; omega) l5
      have t := test (f := f)
      rw [e] at t
      have body : sts (g ns) (Ph ns (n + 6)) B0 [.fz v, .fz (.int i), .fz (fam f), .ow ((a :: r).map tupD), .un] M = some (.ok .nx [.fz v, .fz (.int i), .fz (fam (minF (f ++ [a]))), .ow ((moreF k (minF (f ++ [a]))).map tupD), .un] M) :=
        (sts_nx (st_asg (ρ1 := [.fz v, .fz (.int i), .fz (fam f), .ow ((a :: r).map tupD), .un]) (x := .fz (fam (minF (f ++ [a])))) (ev_call (m := .v) (evs_1 (next_ok hl) nofun) li) rfl)).trans ((sts_nx (more_ok hk hi (step_mt h3 m).can)).trans sts_nil)
      refine ⟨e3, ?_⟩
      unfold whlL
      simp only [t, bind_some, List.isEmpty, Bool.not_false, body]
      rw [q, widF_cons e]
theorem cnt_le {k : Nat} (hk : k ≤ 5) (f : List Lot) : cnt k f ≤ 32 := by
  have h1 : cnt k f ≤ (allB k).length := List.length_filter_le _ _
  have h2 := len_all k
  have h3 := pow5 hk
  omega
def wide (k : Nat) (f : List Lot) : List Lot := widF k 32 f
theorem widened_ok (b : Bool) {k : Nat} (h1 : 1 ≤ k) (hk : k ≤ 5) {f : List Lot} (h : Mt k f) : Ph ns (n + 7) 27 [famV b f, .int (k : Int)] M = some (.ok (fam (wide k f)) M) := by
  have s : Ph ns (n + 6) 16 [.int (k : Int)] M = _ := need_sites_ok (ns := ns) (n := n + 2) (M := M) k (by omega) (by omega)
  have nf := need_fam_ok (ns := ns) (n := n) (M := M) b h.can hk h.ne h.one famS
  have dm : Ph ns (n + 6) 23 [fam f, fam f] M = _ := do_meet_ok (ns := ns) (n := n + 3) (M := M) f f (line32 (can_len h.can hk)) (fiveL hk h.can)
  have fv : lamless (famV b f) = true := by cases b <;> rfl
  have hi : (k : Int) = k := rfl
  generalize hI : (k : Int) = i at s nf ⊢
  generalize famV b f = v at nf fv ⊢
  have al : (f.all fun a => f.all fun e => touB a e) = true := List.all_eq_true.mpr fun a ha => List.all_eq_true.mpr fun e he => h.me a ha e he
  rw [al] at dm
  obtain ⟨e3, lp⟩ := wid_loop (ns := ns) (n := n) (M := M) hk hI.symm (v := v) (c := 32) (N := 1000000) (cnt_le hk f) (by omega) h
  refine call_rt (F := F27) rfl rfl rfl ⟨[.fz v, .fz (.int i), .fz (fam (wide k f)), e3, .un], ?_⟩
  rw [F27_body]
  refine (sts_nx (st_ex (ρ1 := [.fz v, .fz (.int i), .un, .un, .un]) (ev_call (evs_1 (ev_varv rfl) nofun) s))).trans ?_
  refine (sts_nx (st_asg (ρ1 := [.fz v, .fz (.int i), .un, .un, .un]) (x := .fz (fam f)) (ev_call (m := .v) (evs_4 (ev_varv rfl) ev_lit (ev_varv rfl) ev_lit nofun nofun nofun nofun) nf) rfl)).trans ?_
  refine (sts_nx (st_ifF (ρ1 := [.fz v, .fz (.int i), .fz (fam f), .un, .un]) (ev_notT (ev_call (m := .t) (evs_2 (ev_varv rfl) (ev_varv rfl) nofun nofun) dm)))).trans ?_
  refine (sts_nx (more_ok hk hI.symm h.can)).trans ?_
  exact (sts_nx (show st (g ns) (Ph ns (n + 6)) W5 _ M = _ from lp)).trans (sts_ret (ev_varv rfl))
theorem widened_bad {k : Nat} (h1 : 1 ≤ k) (hk : k ≤ 5) {f : List Lot} (h : Can k f) (n1 : f ≠ []) (n2 : f ≠ [[]]) (al : (f.all fun a => f.all fun e => touB a e) = false) : Ph ns (n + 7) 27 [fam f, .int (k : Int)] M = some (.exc (.ins 6 [.str famS]) M) := by
  have s : Ph ns (n + 6) 16 [.int (k : Int)] M = _ := need_sites_ok (ns := ns) (n := n + 2) (M := M) k (by omega) (by omega)
  have nf : Ph ns (n + 6) 18 [fam f, .str famS, .int (k : Int), .bl false] M = _ := need_fam_ok (ns := ns) (n := n) (M := M) true h hk n1 n2 famS
  have dm : Ph ns (n + 6) 23 [fam f, fam f] M = _ := do_meet_ok (ns := ns) (n := n + 3) (M := M) f f (line32 (can_len h hk)) (fiveL hk h)
  generalize (k : Int) = i at s nf ⊢
  rw [al] at dm
  refine call_ex (F := F27) rfl rfl ⟨[.fz (fam f), .fz (.int i), .fz (fam f), .un, .un], ?_⟩
  rw [F27_body]
  refine (sts_nx (st_ex (ρ1 := [.fz (fam f), .fz (.int i), .un, .un, .un]) (ev_call (evs_1 (ev_varv rfl) nofun) s))).trans ?_
  refine (sts_nx (st_asg (ρ1 := [.fz (fam f), .fz (.int i), .un, .un, .un]) (x := .fz (fam f)) (ev_call (m := .v) (evs_4 (ev_varv rfl) ev_lit (ev_varv rfl) ev_lit nofun nofun nofun nofun) nf) rfl)).trans ?_
  refine sts_ex ((st_if (ρ1 := [.fz (fam f), .fz (.int i), .fz (fam f), .un, .un]) (ev_notT (ev_call (m := .t) (evs_2 (ev_varv rfl) (ev_varv rfl) nofun nofun) dm))).trans ?_)
  exact sts_ex (st_raise (evs_1 ev_lit nofun) rfl)
end
end K24
end
section
set_option Elab.async false
set_option linter.all false
set_option maxRecDepth 100000
set_option maxHeartbeats 1000000
/-! PM14: the law's own looks: meets, the word of an error. -/
namespace K24
open DV PL
section
variable {ns : List Int} {n : Nat} {M M' M1 M2 M3 M4 : Mem} {ρ ρ' ρ1 ρ2 ρ3 ρ4 : Ev}
/-! ### the word of an error -/
def misS : List Nat := [109, 105, 115, 102, 105, 116]
def A40 : List S := F33.body.drop 2
theorem F33_body : F33.body = .par [1, 2] [.lit .non, .lst []] :: .tryas [.ex (.callv 0 [])] 0 (some 3) [.asg (.nm 1) (.var 3)] :: A40 := rfl
theorem a40_ok {φ : Phi} {e0 : En} : ∃ ρ', sts (g ns) φ A40 [e0, .fz (.ins 6 [.str famS]), .ow [], .un] M = some (.ok (.rt (.tup [.str misS, .str famS])) ρ' M) := ⟨_, rfl⟩
end
end K24
end
section
set_option Elab.async false
set_option linter.all false
set_option maxRecDepth 100000
set_option maxHeartbeats 1000000
/-! PK15: lots told as tuples and lists; values that are none. -/
namespace K24
open DV PL
section
variable {ns : List Int} {n : Nat} {M M' M1 M2 M3 M4 : Mem} {ρ ρ' ρ1 ρ2 ρ3 ρ4 : Ev}
abbrev It : Type := Bool × Lot
def itD (p : It) : D := sq p.1 (p.2.map .int)
def tos (its : List It) : List Lot := its.map (·.2)
theorem it_lam (p : It) : lamless (itD p) = true := lam_sq _ _
theorem it_seq (p : It) : biD cls .tuple [itD p] = some (tupD p.2) := by
  show (seqD (itD p)).map D.tup = _
  unfold itD
  rw [seq_sq]
  rfl
theorem tys {φ : Phi} : ev (g ns) φ .b (.tup [.lit (.ty .list), .lit (.ty .tuple)]) ρ M = some (.ok (.tup [.ty .list, .ty .tuple]) ρ M) := by
  have m2 : mkT [.ty .list, .ty .tuple] = some (.tup [.ty .list, .ty .tuple]) := mkT2 _ _ rfl rfl
  simp only [sts, st, ev, evs, evPar, startE, viewD, takeD, lock, clear, reset, lock1, isOwn, slots, slotsL, modeOf, maker, mine, turnF, bindT, bindTs, bind_some, okE, fin, lift, iterD, lamless, tru, tupD, onInt, see, ansO, setAll, deref, Option.bind, Option.map, List.map, List.replicate, List.cons_append, List.nil_append, List.append_nil, List.getElem?_cons_zero, List.getElem?_cons_succ, List.set, List.length_cons, List.length_nil, Nat.sub_self, Nat.reduceAdd, Nat.reduceSub, if_true, Bool.false_eq_true, if_false, reduceCtorEq, Nat.zero_add, m2]
theorem ev_isi {φ : Phi} {i : Nat} {d : D} {b : Bool} (h : viewD ρ i = some d) (hl : lamless d = true) (e : biD cls .isi [d, .tup [.ty .list, .ty .tuple]] = some (.bl b)) : ev (g ns) φ .t (.not (.bi .isi [.var i, .tup [.lit (.ty .list), .lit (.ty .tuple)]])) ρ M = some (.ok (.bl (!b)) ρ M) :=
  ev_notT (ev_bi (m := .t) (d := .bl b) (evs_2 (ev_var h hl) tys nofun nofun) e)
theorem len_sq (b : Bool) (l : List D) : biD cls .len [sq b l] = some (.int l.length) := by cases b <;> rfl
theorem ev_orT {φ : Phi} {a b : E} (h : ev (g ns) φ .t a ρ M = some (.ok (.bl true) ρ1 M1)) : ev (g ns) φ .t (.or a b) ρ M = some (.ok (.bl true) ρ1 M1) := by
  simp only [ev, h, bind_some, okE]
theorem ev_orB {φ : Phi} {a b : E} {c : Bool} (h : ev (g ns) φ .t a ρ M = some (.ok (.bl false) ρ1 M1)) (h2 : ev (g ns) φ .t b ρ1 M1 = some (.ok (.bl c) ρ2 M2)) : ev (g ns) φ .t (.or a b) ρ M = some (.ok (.bl c) ρ2 M2) := by
  simp only [ev, h, bind_some, h2]
theorem tos_len (its : List It) : (tos its).length = its.length := List.length_map ..
theorem is_fam_gen (b : Bool) {k : Nat} {its : List It} (ok : ∀ p ∈ its, LotOk k p.2) (hk : k ≤ 5) (hl : its.length ≤ 32) : Ph ns (n + 4) 15 [sq b (its.map itD), .int (k : Int)] M = some (.ok (.bl (decide (tos its = minF (tos its)))) M) := by
  have ll : ∀ p ∈ its, p.2.length ≤ 5 := fun p hp => Nat.le_trans (lot_len (ok p hp)) hk
  have il : ∀ p ∈ its, Ph ns (n + 3) 8 [itD p, .int (k : Int)] M = some (.ok (.bl true) M) := fun p hp => is_lot_ok p.1 p.2 k (ok p hp) (line5 (ll p hp))
  have li : Ph ns (n + 3) 13 [fam (tos its)] M = _ := least_in_ok (ns := ns) (n := n + 1) (M := M) true (tos its) (by rw [tos_len]; exact line32 hl) fun a ha => by
    obtain ⟨p, hp, rfl⟩ := List.mem_map.mp ha
    exact line5 (ll p hp)
  have lt : ¬ (32 : Int) < its.length := by omega
  have vl := lam_sq b (its.map itD)
  have isi := isi_sq b (its.map itD)
  have len := len_sq b (its.map itD)
  have itr := iter_sq b (its.map itD)
  rw [List.length_map] at len
  generalize (k : Int) = i at il ⊢
  generalize sq b (its.map itD) = v at vl isi len itr ⊢
  have it0 : ∀ {e2 e3 : En}, ev (g ns) (Ph ns (n + 3)) .i (.var 0) [.fz v, .fz (.int i), e2, e3] M = some (.ok (.lst (its.map itD)) [.fz v, .fz (.int i), e2, e3] M) := fun {e2 e3} => by
    show (match viewD [.fz v, .fz (.int i), e2, e3] 0 with
      | some d => if lamless d then fin .i d [.fz v, .fz (.int i), e2, e3] M else none
      | none => none) = _
    show (if lamless v then fin .i v [.fz v, .fz (.int i), e2, e3] M else none) = _
    rw [vl]
    show lift ((iterD v).map D.lst) _ _ = _
    rw [itr]
    rfl
  refine call_rt (F := F15) rfl rfl rfl ⟨[.fz v, .fz (.int i), .fz (fam (tos its)), .un], ?_⟩
  refine (sts_nx (st_ifF (ρ1 := [.fz v, .fz (.int i), .un, .un]) (ev_orB (ev_isi rfl vl isi) (ev_cmp (m := .t) (c := false) (ev_bi (m := .b) (evs_1 (ev_var rfl vl) nofun) len) ev_lit (by show some (decide ((32 : Int) < its.length)) = some false; rw [decide_eq_false lt]))))).trans ?_
  have al : biD cls .all [.lst (its.map fun _ => D.bl true)] = some (.bl true) := by
    show (boolsD (its.map fun _ => D.bl true)).map (fun l => D.bl (l.all id)) = _
    rw [all_true]
    show some (D.bl ((its.map fun _ => true).all id)) = _
    rw [all_id]
  refine (sts_nx (st_ifF (ρ1 := [.fz v, .fz (.int i), .un, .un]) (ev_notT (b := true) (ev_bi (m := .t) (d := .bl true) (evs_1 (ev_cp (m := .b) it0 rfl (comp_map (c := itD) (l := its) (f := fun _ => .bl true) fun p hp => ⟨_, turn_T rfl ev_lit (el_1 (ev_call (m := .v) (evs_2 (ev_varv rfl) (ev_varv rfl) nofun nofun) (il p hp)))⟩) (mkL_of (f := fun _ => D.bl true) (line32 hl) fun _ _ => rfl)) nofun) al)))).trans ?_
  refine (sts_nx (st_asg (ρ1 := [.fz v, .fz (.int i), .un, .un]) (x := .fz (fam (tos its))) (ev_bi (m := .v) (d := fam (tos its)) (evs_1 (ev_cp (m := .b) it0 rfl (comp_map (c := itD) (l := its) (f := fun p => tupD p.2) fun p hp => ⟨_, turn_T rfl ev_lit (el_1 (ev_bi (m := .v) (evs_1 (ev_var rfl (it_lam p)) nofun) (it_seq p)))⟩) (mkL_of (f := fun p : It => tupD p.2) (line32 hl) fun _ _ => rfl)) nofun) ?_) rfl)).trans ?_
  · show (seqD (.lst (its.map fun p => tupD p.2))).map D.tup = _
    show some (D.tup (its.map fun p => tupD p.2)) = _
    unfold tos fam
    rw [List.map_map]
    rfl
  · exact sts_ret (ev_cmp (m := .v) (ev_var rfl rfl) (ev_call (m := .b) (evs_1 (ev_varv rfl) nofun) li) (eq_famB _ _))
theorem need_any_gen (b : Bool) {k : Nat} {its : List It} (ok : ∀ p ∈ its, LotOk k p.2) (hk : k ≤ 5) (hl : its.length ≤ 32) (c : tos its = minF (tos its)) (t : List Nat) : Ph ns (n + 5) 17 [sq b (its.map itD), .str t, .int (k : Int)] M = some (.ok (fam (tos its)) M) := by
  have fo := is_fam_gen (ns := ns) (n := n) (M := M) b ok hk hl
  rw [decide_eq_true c] at fo
  have vl := lam_sq b (its.map itD)
  have itr := iter_sq b (its.map itD)
  generalize (k : Int) = i at fo ⊢
  generalize sq b (its.map itD) = v at vl itr fo ⊢
  have it0 : ev (g ns) (Ph ns (n + 4)) .i (.var 0) [.fz v, .fz (.str t), .fz (.int i), .un] M = some (.ok (.lst (its.map itD)) [.fz v, .fz (.str t), .fz (.int i), .un] M) := by
    show (if lamless v then fin .i v [.fz v, .fz (.str t), .fz (.int i), .un] M else none) = _
    rw [vl]
    show lift ((iterD v).map D.lst) _ _ = _
    rw [itr]
    rfl
  refine call_rt (F := F17) rfl rfl rfl ⟨[.fz v, .fz (.str t), .fz (.int i), .un], ?_⟩
  refine (sts_nx (st_ifF (ρ1 := [.fz v, .fz (.str t), .fz (.int i), .un]) (ev_notT (b := true) (ev_call (m := .t) (evs_2 (ev_varv rfl) (ev_varv rfl) nofun nofun) fo)))).trans ?_
  refine sts_ret (ev_bi (m := .v) (d := fam (tos its)) (evs_1 (ev_cp (m := .b) it0 rfl (comp_map (c := itD) (l := its) (f := fun p => tupD p.2) fun p hp => ⟨_, turn_T rfl ev_lit (el_1 (ev_bi (m := .v) (evs_1 (ev_var rfl (it_lam p)) nofun) (it_seq p)))⟩) (mkL_of (f := fun p : It => tupD p.2) (line32 hl) fun _ _ => rfl)) nofun) ?_)
  show some (D.tup (its.map fun p => tupD p.2)) = _
  unfold tos fam
  rw [List.map_map]
  rfl
theorem least_of_gen (b : Bool) {k : Nat} {its : List It} (ok : ∀ p ∈ its, LotOk k p.2) (hk : k ≤ 5) (hl : its.length ≤ 32) : Ph ns (n + 4) 21 [sq b (its.map itD)] M = some (.ok (fam (minF (tos its))) M) := by
  have ll : ∀ p ∈ its, p.2.length ≤ 5 := fun p hp => Nat.le_trans (lot_len (ok p hp)) hk
  have il : ∀ p ∈ its, Ph ns (n + 3) 8 [itD p, .int 5] M = some (.ok (.bl true) M) := fun p hp => is_lot_ok p.1 p.2 5 ⟨(ok p hp).st, fun x hx => by have := (ok p hp).bd x hx; omega⟩ (line5 (ll p hp))
  have li : Ph ns (n + 3) 13 [.lst ((tos its).map tupD)] M = _ := least_in_ok (ns := ns) (n := n + 1) (M := M) false (tos its) (by rw [tos_len]; exact line32 hl) fun a ha => by
    obtain ⟨p, hp, rfl⟩ := List.mem_map.mp ha
    exact line5 (ll p hp)
  have vl := lam_sq b (its.map itD)
  have isi := isi_sq b (its.map itD)
  have itr := iter_sq b (its.map itD)
  generalize sq b (its.map itD) = v at vl isi itr ⊢
  have it0 : ev (g ns) (Ph ns (n + 3)) .i (.var 0) [.fz v, .un] M = some (.ok (.lst (its.map itD)) [.fz v, .un] M) := by
    show (if lamless v then fin .i v [.fz v, .un] M else none) = _
    rw [vl]
    show lift ((iterD v).map D.lst) _ _ = _
    rw [itr]
    rfl
  have al : biD cls .all [.lst (its.map fun _ => D.bl true)] = some (.bl true) := by
    show (boolsD (its.map fun _ => D.bl true)).map (fun l => D.bl (l.all id)) = _
    rw [all_true]
    show some (D.bl ((its.map fun _ => true).all id)) = _
    rw [all_id]
  have e2 : (its.map fun p : It => tupD p.2) = (tos its).map tupD := by
    unfold tos
    rw [List.map_map]
    rfl
  have mk := mkL_of (f := fun p : It => tupD p.2) (l := its) (line32 hl) fun _ _ => rfl
  rw [e2] at mk
  refine call_rt (F := F21) rfl rfl rfl ⟨[.fz v, .un], ?_⟩
  refine (sts_nx (st_ifF (ρ1 := [.fz v, .un]) (ev_orB (ev_isi rfl vl isi) (ev_notT (b := true) (ev_bi (m := .t) (d := .bl true) (evs_1 (ev_cp (m := .b) it0 rfl (comp_map (c := itD) (l := its) (f := fun _ => .bl true) fun p hp => ⟨_, turn_T rfl ev_lit (el_1 (ev_call (m := .v) (evs_2 (ev_varv rfl) ev_lit nofun nofun) (il p hp)))⟩) (mkL_of (f := fun _ => D.bl true) (line32 hl) fun _ _ => rfl)) nofun) al))))).trans ?_
  exact sts_ret (ev_call (m := .v) (evs_1 (ev_cp (m := .v) it0 rfl (comp_map (c := itD) (l := its) (f := fun p => tupD p.2) fun p hp => ⟨_, turn_T rfl ev_lit (el_1 (ev_bi (m := .v) (evs_1 (ev_var rfl (it_lam p)) nofun) (it_seq p)))⟩) (by rw [e2]; exact mk)) nofun) li)
end
end K24
end
section
set_option Elab.async false
set_option linter.all false
set_option maxRecDepth 100000
set_option maxHeartbeats 2000000
/-! PK16: values that are none. -/
namespace K24
open DV PL
section
variable {ns : List Int} {n : Nat} {M M' M1 M2 M3 M4 : Mem} {ρ ρ' ρ1 ρ2 ρ3 ρ4 : Ev}
structure BadNum (ns : List Int) (d : D) : Prop where
  l : lamless d = true
  e : ∀ n M, Ph ns (n + 2) 7 [d, .int 1, .int 5] M = some (.ok (.bl false) M)
structure BadLotP (ns : List Int) (m : Int) (d : D) : Prop where
  l : lamless d = true
  e : ∀ n M, Ph ns (n + 3) 8 [d, .int m] M = some (.ok (.bl false) M)
structure BadFam (ns : List Int) (m : Int) (d : D) : Prop where
  l : lamless d = true
  e : ∀ n M, Ph ns (n + 4) 15 [d, .int m] M = some (.ok (.bl false) M)
def numL : List D := [.non, .int 0, .int 6, .bl true, .str [50], .int (-1), .tup [.int 2], .int 1000000000000000000000000000000]
theorem bad_num : ∀ d ∈ numL, BadNum ns d := by
  intro d h
  simp only [numL, List.mem_cons, List.not_mem_nil, or_false] at h
  rcases h with rfl | rfl | rfl | rfl | rfl | rfl | rfl | rfl <;> exact ⟨rfl, fun n M => rfl⟩
def oddL (m : Int) : List D := [.non, .int 0, .str [48, 49], .tup [.int m], .tup [.int (-1)], .tup [.int 0, .int 0], .tup [.bl true], .tup [.tup [.int 0]], .dct [] [], .tup [.int 1, .int 0]]
theorem bad_lot {k : Nat} (h1 : 1 ≤ k) (hk : k ≤ 5) : ∀ d ∈ oddL k, BadLotP ns k d := by
  intro d h
  simp only [oddL, List.mem_cons, List.not_mem_nil, or_false] at h
  have : k = 1 ∨ k = 2 ∨ k = 3 ∨ k = 4 ∨ k = 5 := by omega
  rcases h with rfl | rfl | rfl | rfl | rfl | rfl | rfl | rfl | rfl | rfl <;> rcases this with rfl | rfl | rfl | rfl | rfl <;> exact ⟨rfl, fun n M => rfl⟩
theorem pick_gen {l : List D} (h0 : l ≠ []) (hl : l.length ≤ 1000) (ll : ∀ d ∈ l, lamless d = true) {c : Nat} (p : Pen ns (c + 1) M) : ∃ d M', d ∈ l ∧ Pen ns c M' ∧ Ph ns (n + 2) 30 [.cell 0, .lst l] M = some (.ok d M') := by
  have hp : 0 < l.length := List.length_pos_iff.mpr h0
  obtain ⟨v, M1, v0, v1, p1, e1⟩ := draw (ns := ns) (n := n) (m := (l.length : Int)) p (by omega) (by omega)
  have lt : v.toNat < l.length := by omega
  have ix : idxD (.lst l) (.int v) = some l[v.toNat] := by
    unfold idxD place
    simp only [v0, v1, decide_true, if_true]
    show (l[v.toNat]?) = _
    rw [List.getElem?_eq_getElem lt]
  refine ⟨l[v.toNat], M1, List.getElem_mem lt, p1, call_rt (F := F30) rfl rfl (ll _ (List.getElem_mem lt)) ⟨[.fz (.cell 0), .fz (.lst l)], ?_⟩⟩
  have ln : biD cls .len [.lst l] = some (.int l.length) := rfl
  exact sts_ret (ev_idx (m := .v) (ρ1 := [.fz (.cell 0), .fz (.lst l)]) (M1 := M) (ev_var rfl rfl) (ev_call (m := .v) (evs_2 (ev_varv rfl) (ev_bi (m := .v) (evs_1 (ev_var rfl rfl) nofun) ln) nofun nofun) e1) ix)
theorem odd_lot_ok {k : Nat} {i : Int} (hi : i = k) (h1 : 1 ≤ k) (hk : k ≤ 5) {c : Nat} (p : Pen ns (c + 1) M) : ∃ d M', BadLotP ns k d ∧ Pen ns c M' ∧ Ph ns (n + 3) 34 [.cell 0, .int i] M = some (.ok d M') := by
  have bl := bad_lot (ns := ns) h1 hk
  rw [← hi] at bl
  obtain ⟨d, M1, hd, p1, e1⟩ := pick_gen (ns := ns) (n := n) (l := oddL i) (List.cons_ne_nil _ _) (by show 10 ≤ 1000; decide) (fun d hd => (bl d hd).l) p
  refine ⟨d, M1, hi ▸ bl d hd, p1, call_rt (F := F34) rfl rfl (bl d hd).l ⟨[.fz (.cell 0), .fz (.int i)], ?_⟩⟩
  exact sts_ret (ev_call (m := .v) (ds := [.cell 0, .lst (oddL i)]) (ρ1 := [.fz (.cell 0), .fz (.int i)]) (M1 := M) rfl e1)
theorem bools_gen {l : List D} {f : D → Bool} : boolsD (l.map fun d => D.bl (f d)) = some (l.map f) := bools_map f l
/-- a row in which something is no lot -/
theorem is_fam_bad (b : Bool) {m : Int} {l : List D} {f : D → Bool} (hl : l.length ≤ 32) (ll : ∀ d ∈ l, lamless d = true) (hf : ∀ d ∈ l, ∀ n M, Ph ns (n + 3) 8 [d, .int m] M = some (.ok (.bl (f d)) M)) (ha : l.all f = false) : BadFam ns m (sq b l) := by
  refine ⟨lam_sq b l, fun n M => ?_⟩
  have lt : ¬ (32 : Int) < l.length := by omega
  have vl := lam_sq b l
  have isi := isi_sq b l
  have len := len_sq b l
  have itr := iter_sq b l
  generalize sq b l = v at vl isi len itr ⊢
  have it0 : ev (g ns) (Ph ns (n + 3)) .i (.var 0) [.fz v, .fz (.int m), .un, .un] M = some (.ok (.lst (l.map id)) [.fz v, .fz (.int m), .un, .un] M) := by
    show (if lamless v then fin .i v [.fz v, .fz (.int m), .un, .un] M else none) = _
    rw [vl]
    show lift ((iterD v).map D.lst) _ _ = _
    rw [itr, List.map_id]
    rfl
  refine call_rt (F := F15) rfl rfl rfl ⟨[.fz v, .fz (.int m), .un, .un], ?_⟩
  refine (sts_nx (st_ifF (ρ1 := [.fz v, .fz (.int m), .un, .un]) (ev_orB (ev_isi rfl vl isi) (ev_cmp (m := .t) (c := false) (ev_bi (m := .b) (evs_1 (ev_var rfl vl) nofun) len) ev_lit (by show some (decide ((32 : Int) < l.length)) = some false; rw [decide_eq_false lt]))))).trans ?_
  have al : biD cls .all [.lst (l.map fun d => D.bl (f d))] = some (.bl false) := by
    show (boolsD (l.map fun d => D.bl (f d))).map (fun l => D.bl (l.all id)) = _
    rw [bools_gen]
    show some (D.bl ((l.map f).all id)) = _
    rw [List.all_map]
    have : l.all (id ∘ f) = l.all f := rfl
    rw [this, ha]
  refine sts_rt ((st_if (c := true) (ρ1 := [.fz v, .fz (.int m), .un, .un]) (ev_notT (b := false) (ev_bi (m := .t) (d := .bl false) (evs_1 (ev_cp (m := .b) it0 rfl (comp_map (c := id) (l := l) (f := fun d => .bl (f d)) fun d hd => ⟨_, turn_T rfl ev_lit (el_1 (ev_call (m := .v) (evs_2 (ev_varv rfl) (ev_varv rfl) nofun nofun) (hf d hd n M)))⟩) (mkL_of (f := fun d => D.bl (f d)) (line32 hl) fun _ _ => rfl)) nofun) al))).trans ?_)
  exact sts_ret ev_lit
theorem is_fam_one {m : Int} {x : D} (h : BadLotP ns m x) : BadFam ns m (.tup [x]) :=
  is_fam_bad true (l := [x]) (f := fun _ => false) (by show 1 ≤ 32; decide) (fun d hd => by rw [List.mem_singleton.mp hd]; exact h.l) (fun d hd n M => by rw [List.mem_singleton.mp hd]; exact h.e n M) rfl
theorem not_can {k : Nat} {ls : List Lot} (ok : ∀ a ∈ ls, LotOk k a) (h : ¬ Can k ls) : decide (ls = minF ls) = false := by
  rw [decide_eq_false_iff_not]
  intro e
  exact h (e ▸ can_minF ok)
theorem bad_its {k : Nat} (hk : k ≤ 5) {ls : List Lot} (hl : ls.length ≤ 32) (ok : ∀ a ∈ ls, LotOk k a) (h : ¬ Can k ls) : BadFam ns k (.tup (ls.map tupD)) := by
  refine ⟨rfl, fun n M => ?_⟩
  have e := is_fam_gen (ns := ns) (n := n) (M := M) true (its := ls.map fun a => (true, a)) (k := k) (fun p hp => by
    obtain ⟨a, ha, rfl⟩ := List.mem_map.mp hp
    exact ok a ha) hk (by rw [List.length_map]; exact hl)
  have e1 : tos (ls.map fun a => (true, a)) = ls := by
    unfold tos
    rw [List.map_map]
    exact List.map_id ls
  have e2 : (ls.map fun a => (true, a)).map itD = ls.map tupD := by
    rw [List.map_map]
    rfl
  rw [e1, e2, not_can ok h] at e
  exact e
theorem lok {k : Nat} {l : Lot} (h : (l.all fun x => decide (0 ≤ x ∧ x < k)) = true) (s : l.Pairwise (· < ·)) : LotOk k l := ⟨s, fun x hx => of_decide_eq_true (List.all_eq_true.mp h x hx)⟩
def oddF (m : Int) (x : D) : List D := [.non, .int 0, .str [48], .dct [] [], .tup [.int 0], .tup [.tup [.int 0], .tup [.int 0]], .tup [.tup [.int 0], .tup []], .tup [.tup [], .tup [.int 0]], .tup [.tup [.int m]]] ++ [.tup [x], .lst [.lst [.int 0], .tup [.int 0, .int 0]]]
def oddG : List D := [.tup [.tup [.int 1], .tup [.int 0]], .tup [.tup [.int 0, .int 1], .tup [.int 0]], .tup [.tup [.int 0], .tup [.int 0, .int 1]], .tup [.tup [.tup [.int 0, .int 1]]], .tup [.tup [.int 1, .int 0]]]
theorem bad_fam {k : Nat} (h1 : 1 ≤ k) (hk : k ≤ 5) {x : D} (hx : BadLotP ns k x) : ∀ d ∈ oddF k x, BadFam ns k d := by
  have l0 : LotOk k [0] := ⟨List.pairwise_singleton _ _, fun y hy => by rw [List.mem_singleton.mp hy]; omega⟩
  have le : LotOk k [] := ⟨List.Pairwise.nil, fun y hy => nomatch hy⟩
  have ks : k = 1 ∨ k = 2 ∨ k = 3 ∨ k = 4 ∨ k = 5 := by omega
  intro d h
  simp only [oddF, List.mem_append, List.mem_cons, List.not_mem_nil, or_false] at h
  rcases h with (rfl | rfl | rfl | rfl | rfl | rfl | rfl | rfl | rfl) | rfl | rfl
  · exact ⟨rfl, fun n M => rfl⟩
  · exact ⟨rfl, fun n M => rfl⟩
  · exact ⟨rfl, fun n M => rfl⟩
  · exact ⟨rfl, fun n M => rfl⟩
  · exact is_fam_one ⟨rfl, fun n M => rfl⟩
  · refine bad_its hk (ls := [[0], [0]]) (by decide) (fun a ha => ?_) fun c => ?_
    · simp only [List.mem_cons, List.not_mem_nil, or_false, or_self] at ha
      rw [ha]
      exact l0
    · exact absurd c.nd (by decide)
  · refine bad_its hk (ls := [[0], []]) (by decide) (fun a ha => ?_) fun c => ?_
    · simp only [List.mem_cons, List.not_mem_nil, or_false] at ha
      rcases ha with rfl | rfl
      · exact l0
      · exact le
    · exact absurd (c.anti [] (by decide) [0] (by decide) fun _ z => nomatch z) (by decide)
  · refine bad_its hk (ls := [[], [0]]) (by decide) (fun a ha => ?_) fun c => ?_
    · simp only [List.mem_cons, List.not_mem_nil, or_false] at ha
      rcases ha with rfl | rfl
      · exact le
      · exact l0
    · exact absurd (c.anti [] (by decide) [0] (by decide) fun _ z => nomatch z) (by decide)
  · exact is_fam_one (bad_lot h1 hk _ (by simp [oddL]))
  · exact is_fam_one hx
  · refine is_fam_bad false (l := [.lst [.int 0], .tup [.int 0, .int 0]]) (f := fun d => match d with | .lst _ => true | _ => false) (by decide) (fun d hd => ?_) (fun d hd n M => ?_) rfl
    · simp only [List.mem_cons, List.not_mem_nil, or_false] at hd
      rcases hd with rfl | rfl <;> rfl
    · simp only [List.mem_cons, List.not_mem_nil, or_false] at hd
      rcases hd with rfl | rfl
      · exact is_lot_ok false [0] k l0 (by decide)
      · exact (bad_lot h1 hk _ (by simp [oddL])).e n M
theorem bad_famG {k : Nat} (h1 : 2 ≤ k) (hk : k ≤ 5) : ∀ d ∈ oddG, BadFam ns k d := by
  have l0 : LotOk k [0] := ⟨List.pairwise_singleton _ _, fun y hy => by rw [List.mem_singleton.mp hy]; omega⟩
  have l1 : LotOk k [1] := ⟨List.pairwise_singleton _ _, fun y hy => by rw [List.mem_singleton.mp hy]; omega⟩
  have l2 : LotOk k [0, 1] := ⟨by decide, fun y hy => by
    simp only [List.mem_cons, List.not_mem_nil, or_false] at hy
    omega⟩
  have ks : k = 2 ∨ k = 3 ∨ k = 4 ∨ k = 5 := by omega
  have two : ∀ {a b c : Lot}, LotOk k a → LotOk k b → c ∈ [a, b] → LotOk k c := fun ha hb hc => by
    simp only [List.mem_cons, List.not_mem_nil, or_false] at hc
    rcases hc with rfl | rfl
    · exact ha
    · exact hb
  intro d h
  simp only [oddG, List.mem_cons, List.not_mem_nil, or_false] at h
  rcases h with rfl | rfl | rfl | rfl | rfl
  · exact bad_its hk (ls := [[1], [0]]) (by decide) (fun a ha => two l1 l0 ha) fun c => absurd c.srt (by decide)
  · exact bad_its hk (ls := [[0, 1], [0]]) (by decide) (fun a ha => two l2 l0 ha) fun c => absurd (c.anti [0] (by decide) [0, 1] (by decide) (fun y hy => by rw [List.mem_singleton.mp hy]; decide)) (by decide)
  · exact bad_its hk (ls := [[0], [0, 1]]) (by decide) (fun a ha => two l0 l2 ha) fun c => absurd (c.anti [0] (by decide) [0, 1] (by decide) (fun y hy => by rw [List.mem_singleton.mp hy]; decide)) (by decide)
  · exact is_fam_one ⟨rfl, fun n M => by rcases ks with rfl | rfl | rfl | rfl <;> rfl⟩
  · exact is_fam_one (bad_lot (by omega) hk _ (by simp [oddL]))
theorem odd_family_ok {k : Nat} {i : Int} (hi : i = k) (h1 : 1 ≤ k) (hk : k ≤ 5) {c : Nat} (p : Pen ns (c + 2) M) : ∃ d M', BadFam ns k d ∧ Pen ns c M' ∧ Ph ns (n + 4) 35 [.cell 0, .int i] M = some (.ok d M') := by
  obtain ⟨x, M1, hx, p1, e1⟩ := odd_lot_ok (ns := ns) (n := n) hi h1 hk (p.le (c' := c + 1 + 1) (by omega))
  have bf := bad_fam h1 hk hx
  rw [← hi] at bf
  have mx : mkT [x] = some (.tup [x]) := by
    unfold mkT fit
    rw [if_pos]
    simp [hx.l, LINE]
  have tail : evs (g ns) (Ph ns (n + 3)) .v [.tup [.call 34 [.var 0, .var 1]], .lst [.lst [.lit (.int 0)], .tup [.lit (.int 0), .lit (.int 0)]]] [.fz (.cell 0), .fz (.int i), .un] M = some (.ok [.tup [x], .lst [.lst [.int 0], .tup [.int 0, .int 0]]] [.fz (.cell 0), .fz (.int i), .un] M1) := by
    refine evs_2 ?_ rfl nofun nofun
    have c1 : evs (g ns) (Ph ns (n + 3)) .v [.call 34 [.var 0, .var 1]] [.fz (.cell 0), .fz (.int i), .un] M = some (.ok [x] [.fz (.cell 0), .fz (.int i), .un] M1) := evs_1 (ev_call (m := .v) (evs_2 (ev_varv rfl) (ev_varv rfl) nofun nofun) e1) nofun
    unfold ev
    simp only [c1, bind_some, mx]
    rfl
  have mk : mkL (oddF i x) = some (.lst (oddF i x)) := by
    unfold mkL fit
    rw [if_pos]
    have : (oddF i x).all lamless = true := List.all_eq_true.mpr fun d hd => (bf d hd).l
    rw [this]
    rfl
  have s1 : st (g ns) (Ph ns (n + 3)) (.asg (.nm 2) (.lst ([.lit .non, .lit (.int 0), .lit (.str [48]), .dict [] [], .tup [.lit (.int 0)], .tup [.tup [.lit (.int 0)], .tup [.lit (.int 0)]], .tup [.tup [.lit (.int 0)], .tup []], .tup [.tup [], .tup [.lit (.int 0)]], .tup [.tup [.var 1]]] ++ [.tup [.call 34 [.var 0, .var 1]], .lst [.lst [.lit (.int 0)], .tup [.lit (.int 0), .lit (.int 0)]]]))) [.fz (.cell 0), .fz (.int i), .un] M = some (.ok .nx [.fz (.cell 0), .fz (.int i), .ow (oddF i x)] M1) := by
    refine st_asg (ρ1 := [.fz (.cell 0), .fz (.int i), .un]) (d := .lst (oddF i x)) (x := .ow (oddF i x)) ?_ rfl
    show ev (g ns) (Ph ns (n + 3)) .n (.lst _) _ _ = _
    unfold ev
    rw [evs_app]
    have hd : evs (g ns) (Ph ns (n + 3)) .v [.lit .non, .lit (.int 0), .lit (.str [48]), .dict [] [], .tup [.lit (.int 0)], .tup [.tup [.lit (.int 0)], .tup [.lit (.int 0)]], .tup [.tup [.lit (.int 0)], .tup []], .tup [.tup [], .tup [.lit (.int 0)]], .tup [.tup [.var 1]]] [.fz (.cell 0), .fz (.int i), .un] M = some (.ok [.non, .int 0, .str [48], .dct [] [], .tup [.int 0], .tup [.tup [.int 0], .tup [.int 0]], .tup [.tup [.int 0], .tup []], .tup [.tup [], .tup [.int 0]], .tup [.tup [.int i]]] [.fz (.cell 0), .fz (.int i), .un] M) := rfl
    rw [hd]
    simp only [bind_some, tail, okE]
    rw [show [D.non, .int 0, .str [48], .dct [] [], .tup [.int 0], .tup [.tup [.int 0], .tup [.int 0]], .tup [.tup [.int 0], .tup []], .tup [.tup [], .tup [.int 0]], .tup [.tup [.int i]]] ++ [.tup [x], .lst [.lst [.int 0], .tup [.int 0, .int 0]]] = oddF i x from rfl, mk]
    rfl
  have cg : ev (g ns) (Ph ns (n + 3)) .t (.cmp .gt (.var 1) (.lit (.int 1))) [.fz (.cell 0), .fz (.int i), .ow (oddF i x)] M1 = some (.ok (.bl (decide (1 < i))) [.fz (.cell 0), .fz (.int i), .ow (oddF i x)] M1) := ev_cmp (m := .t) (ev_var rfl rfl) ev_lit rfl
  have fin : ∀ l : List D, l ≠ [] → l.length ≤ 1000 → (∀ d ∈ l, BadFam ns i d) → ∃ d M', BadFam ns k d ∧ Pen ns c M' ∧ ∃ ρ', sts (g ns) (Ph ns (n + 3)) [.ret (.call 30 [.var 0, .var 2])] [.fz (.cell 0), .fz (.int i), .ow l] M1 = some (.ok (.rt d) ρ' M') := fun l h0 hl hb => by
    obtain ⟨d, M2, hd, p2, e2⟩ := pick_gen (ns := ns) (n := n + 1) h0 hl (fun d hd => (hb d hd).l) p1
    exact ⟨d, M2, hi ▸ hb d hd, p2, _, sts_ret (ev_call (m := .v) (ds := [.cell 0, .lst l]) (ρ1 := [.fz (.cell 0), .fz (.int i), .fz (.lst l)]) (M1 := M1) rfl e2)⟩
  by_cases q : 1 < i
  · rw [decide_eq_true q] at cg
    have bg := bad_famG (ns := ns) (k := k) (by omega) hk
    rw [← hi] at bg
    obtain ⟨d, M2, hd, p2, ρ', e2⟩ := fin (oddF i x ++ oddG) (by simp [oddF]) (by show 16 ≤ 1000; decide) (fun d hd => (List.mem_append.mp hd).elim (bf d) (bg d))
    refine ⟨d, M2, hd, p2, call_rt (F := F35) rfl rfl hd.l ⟨ρ', (sts_nx s1).trans ((sts_nx (ρ1 := [.fz (.cell 0), .fz (.int i), .ow (oddF i x ++ oddG)]) (M1 := M1) ((st_if cg).trans ?_)).trans e2)⟩⟩
    rw [if_pos rfl]
    refine (sts_nx (st_asg (ρ1 := [.fz (.cell 0), .fz (.int i), .ow (oddF i x)]) (d := .lst (oddF i x ++ oddG)) (x := .ow (oddF i x ++ oddG)) (ev_bin (m := .n) (x := .lst (oddF i x)) (y := .lst oddG) (ev_var rfl rfl) rfl ?_) rfl)).trans sts_nil
    have : (oddF i x).length + oddG.length ≤ LINE := by show 16 ≤ 16777216; decide
    simp only [opD, addD, this, decide_true, if_true]
  · rw [decide_eq_false q] at cg
    obtain ⟨d, M2, hd, p2, ρ', e2⟩ := fin (oddF i x) (by simp [oddF]) (by show 11 ≤ 1000; decide) bf
    exact ⟨d, M2, hd, p2, call_rt (F := F35) rfl rfl hd.l ⟨ρ', (sts_nx s1).trans ((sts_nx (st_ifF cg)).trans e2)⟩⟩
end
end K24
end
section
set_option Elab.async false
set_option linter.all false
set_option maxRecDepth 100000
set_option maxHeartbeats 2000000
/-! PK17: what repr writes of lots told as tuples and lists. -/
namespace K24
open DV PL
section
variable {ns : List Int} {n : Nat} {M M' M1 M2 M3 M4 : Mem} {ρ ρ' ρ1 ρ2 ρ3 ρ4 : Ev}
theorem asc_lst {ts : List PySem.Str} (h : ∀ t ∈ ts, Asc t) : Asc (PySem.listText ts) := by
  rw [PySem.listText_eq_join]
  exact asc_app (asc_app (asc_of (by decide +kernel)) (asc_join (asc_of (by decide +kernel)) h)) (asc_of (by decide +kernel))
theorem lst_len {ts : List PySem.Str} {b : Nat} (h : ∀ t ∈ ts, t.length ≤ b) : (PySem.listText ts).length ≤ 3 + ts.length * (b + 2) := by
  have hp := piled_le h
  rw [PySem.listText_eq_join]
  rw [PySem.Str.length_append, PySem.Str.length_append]
  have e1 : (("[" : String) : PySem.Str).length = 1 := rfl
  have e2 : (("]" : String) : PySem.Str).length = 1 := rfl
  have e3 : (PySem.Str.join ", " ts).length ≤ ts.length * (b + 2) := by
    cases q : ts with
    | nil => exact Nat.zero_le _
    | cons t ts' =>
      have := PySem.join_length_add ts (by rw [q]; simp)
      rw [q] at this hp
      omega
  omega
def sqP (b : Bool) (l : List PySem.PyData) : PySem.PyData := if b then .tuple l else .list l
theorem toPy_sq (b : Bool) (l : List D) : toPy (sq b l) = sqP b (l.map toPy) := by
  cases b
  · show toPy (.lst l) = .list _
    unfold toPy
    rw [toPys_map]
  · show toPy (.tup l) = .tuple _
    unfold toPy
    rw [toPys_map]
/-- what is shown of a row -/
theorem row_shown (b : Bool) {α : Type} {l : List α} {f : α → PySem.PyData} {c : Nat} (h : ∀ x ∈ l, (f x).shown.length ≤ c ∧ (f x).showable = true ∧ Asc (f x).shown) : (sqP b (l.map f)).shown.length ≤ 3 + l.length * (c + 2) ∧ (sqP b (l.map f)).showable = true ∧ Asc (sqP b (l.map f)).shown := by
  have h1 : ∀ t ∈ l.map fun x => (f x).shown, t.length ≤ c := fun t ht => by
    obtain ⟨x, hx, rfl⟩ := List.mem_map.mp ht
    exact (h x hx).1
  have h2 : ∀ t ∈ l.map fun x => (f x).shown, Asc t := fun t ht => by
    obtain ⟨x, hx, rfl⟩ := List.mem_map.mp ht
    exact (h x hx).2.2
  have h3 := showableAll_map f fun x hx => (h x hx).2.1
  cases b
  · refine ⟨?_, h3, ?_⟩
    · show (PySem.listText (PySem.PyData.shownAll (l.map f))).length ≤ _
      rw [shownAll_map]
      have := lst_len h1
      rw [List.length_map] at this
      exact this
    · show Asc (PySem.listText (PySem.PyData.shownAll (l.map f)))
      rw [shownAll_map]
      exact asc_lst h2
  · refine ⟨?_, h3, ?_⟩
    · show (PySem.tupleText (PySem.PyData.shownAll (l.map f))).length ≤ _
      rw [shownAll_map]
      have := tup_len h1
      rw [List.length_map] at this
      exact this
    · show Asc (PySem.tupleText (PySem.PyData.shownAll (l.map f)))
      rw [shownAll_map]
      exact asc_tup h2
theorem it_shown {k : Nat} (hk : k ≤ 5) {p : It} (h : LotOk k p.2) : (toPy (itD p)).shown.length ≤ 18 ∧ (toPy (itD p)).showable = true ∧ Asc (toPy (itD p)).shown := by
  have e : toPy (itD p) = sqP p.1 (p.2.map PySem.PyData.int) := by
    unfold itD
    rw [toPy_sq, List.map_map]
    rfl
  rw [e]
  have hl := lot_len h
  obtain ⟨q1, q2, q3⟩ := row_shown p.1 (l := p.2) (f := PySem.PyData.int) (c := 1) fun x hx => by
    have := h.bd x hx
    obtain ⟨z1, z2, z3⟩ := one_sign this.1 (by omega)
    exact ⟨z1, by simp only [PySem.PyData.showable, decide_eq_true_eq]; exact z2, z3⟩
  exact ⟨by omega, q2, q3⟩
theorem plains_its : ∀ its : List It, D.plains (its.map itD) = true
  | [] => rfl
  | p :: its => by
    have e : D.plain (itD p) = true := by
      unfold itD sq
      cases p.1 <;> simp [D.plain, plains_ints]
    rw [List.map_cons]
    simp only [D.plains, e, plains_its its, Bool.and_self]
theorem deps_its : ∀ its : List It, D.deps (its.map itD) ≤ 1
  | [] => Nat.zero_le _
  | p :: its => by
    have e : D.dep (itD p) = 1 := by
      unfold itD sq
      cases p.1 <;> simp [D.dep, deps_ints]
    have := deps_its its
    rw [List.map_cons]
    simp only [D.deps, e]
    omega
theorem easy_its (b : Bool) (its : List It) : easy (sq b (its.map itD)) = true := by
  have h := deps_its its
  have h2 : D.deps (its.map itD) + 1 ≤ 40 := by omega
  unfold easy
  cases b
  · simp [sq, D.plain, plains_its, D.dep, h2]
  · simp [sq, D.plain, plains_its, D.dep, h2]
theorem show_its (b : Bool) {k : Nat} (hk : k ≤ 5) {its : List It} (ok : ∀ p ∈ its, LotOk k p.2) (hl : its.length ≤ 64) : ∃ s : List Nat, D.show (sq b (its.map itD)) = some s ∧ (s.all fun c => decide (c < 128)) = true := by
  have e : toPy (sq b (its.map itD)) = sqP b (its.map fun p => toPy (itD p)) := by
    rw [toPy_sq, List.map_map]
    rfl
  obtain ⟨q1, q2, q3⟩ := row_shown b (l := its) (f := fun p => toPy (itD p)) (c := 18) fun p hp => it_shown hk (ok p hp)
  rw [← e] at q1 q2 q3
  refine ⟨(toPy (sq b (its.map itD))).shown.cps.toList, ?_, ?_⟩
  · unfold D.show
    rw [if_pos]
    rw [easy_its, q2, Array.length_toList]
    simp only [Bool.true_and, decide_eq_true_eq]
    show PySem.Str.length _ ≤ LINE
    unfold LINE
    omega
  · rw [List.all_eq_true]
    exact fun c hc => decide_eq_true (q3 c hc)
theorem fam_its (f : List Lot) : fam f = sq true ((f.map fun a => ((true, a) : It)).map itD) := by
  show D.tup _ = D.tup _
  rw [List.map_map]
  rfl
theorem show_lots {k : Nat} (hk : k ≤ 5) {f : List Lot} (ok : ∀ a ∈ f, LotOk k a) (hl : f.length ≤ 64) : ∃ s : List Nat, D.show (fam f) = some s ∧ (s.all fun c => decide (c < 128)) = true := by
  rw [fam_its]
  exact show_its true hk (fun p hp => by
    obtain ⟨a, ha, rfl⟩ := List.mem_map.mp hp
    exact ok a ha) (by rw [List.length_map]; exact hl)
/-! ### the law's own look at a family; the lots in another order -/
theorem l_is_family_ok (b : Bool) {k : Nat} {its : List It} (ok : ∀ p ∈ its, LotOk k p.2) (hk : k ≤ 5) (hl : its.length ≤ 32) {w : D} : Ph ns (n + 3) 37 [sq b (its.map itD), w] M = some (.ok (.bl (decide (tos its = minF (tos its)))) M) := by
  have le := l_least_ok (ns := ns) (n := n) (M := M) (tos its) (by rw [tos_len]; omega) fun a ha => by
    obtain ⟨p, hp, rfl⟩ := List.mem_map.mp ha
    exact line5 (Nat.le_trans (lot_len (ok p hp)) hk)
  rw [minL_minF (m := k) fun a ha => by
    obtain ⟨p, hp, rfl⟩ := List.mem_map.mp ha
    exact ok p hp] at le
  have vl := lam_sq b (its.map itD)
  have itr := iter_sq b (its.map itD)
  generalize sq b (its.map itD) = v at vl itr ⊢
  have it0 : ev (g ns) (Ph ns (n + 2)) .i (.var 0) [.fz v, .fz w, .un, .un] M = some (.ok (.lst (its.map itD)) [.fz v, .fz w, .un, .un] M) := by
    show (if lamless v then fin .i v [.fz v, .fz w, .un, .un] M else none) = _
    rw [vl]
    show lift ((iterD v).map D.lst) _ _ = _
    rw [itr]
    rfl
  have e2 : (its.map fun p : It => tupD p.2) = (tos its).map tupD := by
    unfold tos
    rw [List.map_map]
    rfl
  have mk := mkL_of (f := fun p : It => tupD p.2) (l := its) (line32 hl) fun _ _ => rfl
  rw [e2] at mk
  refine call_rt (F := F37) rfl rfl rfl ⟨[.fz v, .fz w, .fz (.lst ((tos its).map tupD)), .un], ?_⟩
  refine (sts_nx (st_asg (ρ1 := [.fz v, .fz w, .un, .un]) (x := .ow ((tos its).map tupD)) (ev_cp (m := .n) it0 rfl (comp_map (c := itD) (l := its) (f := fun p => tupD p.2) fun p hp => ⟨_, turn_T rfl ev_lit (el_1 (ev_bi (m := .v) (evs_1 (ev_var rfl (it_lam p)) nofun) (it_seq p)))⟩) (by rw [e2]; exact mk)) rfl)).trans ?_
  exact sts_ret (ev_cmp (m := .v) (ev_bi (m := .b) (d := fam (tos its)) (evs_1 (ev_var rfl rfl) nofun) rfl) (ev_call (m := .b) (ds := [.lst ((tos its).map tupD)]) (ρ1 := [.fz v, .fz w, .fz (.lst ((tos its).map tupD)), .un]) (M1 := M) rfl le) (eq_famB _ _))
theorem sl_hi (l : List D) {j : Int} (h0 : 0 ≤ j) (h1 : j ≤ l.length) : slD (.lst l) .non (.int j) = some (.lst (l.take j.toNat)) := by
  show some (D.lst ((l.take (if decide (0 ≤ j) = true then min j.toNat l.length else (j + l.length).toNat)).drop 0)) = _
  rw [decide_eq_true h0, if_pos rfl, List.drop_zero, Nat.min_eq_left (by omega)]
theorem sl_hi2 (l : List D) {j : Int} (h0 : 0 ≤ j) : slD (.lst l) .non (.int j) = some (.lst (l.take (min j.toNat l.length))) := by
  show some (D.lst ((l.take (if decide (0 ≤ j) = true then min j.toNat l.length else (j + l.length).toNat)).drop 0)) = _
  rw [decide_eq_true h0, if_pos rfl, List.drop_zero]
theorem sl_lo (l : List D) {j : Int} (h0 : 0 ≤ j) (h1 : j ≤ l.length) : slD (.lst l) (.int j) .non = some (.lst (l.drop j.toNat)) := by
  show some (D.lst ((l.take l.length).drop (if decide (0 ≤ j) = true then min j.toNat l.length else (j + l.length).toNat))) = _
  rw [decide_eq_true h0, if_pos rfl, List.take_length, Nat.min_eq_left (by omega)]
theorem add_lst (a b : List D) (h : a.length + b.length ≤ LINE) : opD .add (.lst a) (.lst b) = some (.lst (a ++ b)) := by
  simp only [opD, addD, h, decide_true, if_true]
theorem ev_sl_hi {φ : Phi} {a h : E} {l : List D} {x d : D} {j : Int} (h1 : ev (g ns) φ .b a ρ M = some (.ok x ρ1 M1)) (h2 : ev (g ns) φ .v h ρ1 M1 = some (.ok (.int j) ρ2 M2)) (h3 : slD (see ns x) .non (.int j) = some d) (hn : h ≠ .no) {m : Md} : ev (g ns) φ m (.sl a .no h) ρ M = fin m d ρ2 M2 := by
  unfold ev
  simp only [h1, bind_some, okE]
  cases h <;> first
    | exact absurd rfl hn
    | simp only [h2, bind_some, onInt, okE, h3]
theorem ev_sl_lo {φ : Phi} {a h : E} {x d : D} {j : Int} (h1 : ev (g ns) φ .b a ρ M = some (.ok x ρ1 M1)) (h2 : ev (g ns) φ .v h ρ1 M1 = some (.ok (.int j) ρ2 M2)) (h3 : slD (see ns x) (.int j) .non = some d) (hn : h ≠ .no) {m : Md} : ev (g ns) φ m (.sl a h .no) ρ M = fin m d ρ2 M2 := by
  unfold ev
  simp only [h1, bind_some, okE]
  cases h <;> first
    | exact absurd rfl hn
    | simp only [h2, bind_some, onInt, okE, h3]
def TD : List S := [.asg (.nm 4) (.call 29 [.var 0, .bin .add (.bi .len [.var 2]) (.lit (.int 1))]), .asg (.nm 2) (.bin .add (.bin .add (.sl (.var 2) (.no) (.var 4)) (.lst [.ife (.cmp .eq (.call 29 [.var 0, .lit (.int 2)]) (.lit (.int 0))) (.bi .list [.var 3]) (.var 3)])) (.sl (.var 2) (.var 4) (.no)))]
theorem F36_body : F36.body = [.asg (.nm 2) (.lst []), .for (.nm 3) (.bin .add (.var 1) (.sl (.var 1) (.no) (.call 29 [.var 0, .lit (.int 3)]))) TD, .ret (.ife (.cmp .eq (.call 29 [.var 0, .lit (.int 2)]) (.lit (.int 0))) (.var 2) (.bi .tuple [.var 2]))] := rfl
theorem td_turn {k : Nat} {v1 : D} {its : List It} {a : Lot} (hl : its.length ≤ 100) {e4 : En} {c : Nat} (p : Pen ns (c + 2) M) : ∃ its' : List It, ∃ e4' M', its'.length = its.length + 1 ∧ (∀ q ∈ its', q ∈ its ∨ q.2 = a) ∧ (∀ q ∈ its, q ∈ its') ∧ a ∈ tos its' ∧ Pen ns c M' ∧ sts (g ns) (Ph ns (n + 1)) TD [.fz (.cell 0), .fz v1, .ow (its.map itD), .fz (tupD a), e4] M = some (.ok .nx [.fz (.cell 0), .fz v1, .ow (its'.map itD), .fz (tupD a), e4'] M') := by
  have len : biD cls .len [.lst (its.map itD)] = some (.int its.length) := by
    show some (D.int ((its.map itD).length : Int)) = _
    rw [List.length_map]
  obtain ⟨j, M1, j0, j1, p1, e1⟩ := draw (ns := ns) (n := n) (m := (its.length : Int) + 1) (p.le (c' := c + 1 + 1) (by omega)) (by omega) (by omega)
  obtain ⟨u, M2, u0, u1, p2, e2⟩ := draw (ns := ns) (n := n) (m := 2) p1 (by decide) (by decide)
  have lm : (its.map itD).length = its.length := List.length_map ..
  have jl : j ≤ (its.map itD).length := by rw [lm]; omega
  obtain ⟨b, hb⟩ : ∃ b : Bool, b = decide (u ≠ 0) := ⟨_, rfl⟩
  let R1 : Ev := [.fz (.cell 0), .fz v1, .ow (its.map itD), .fz (tupD a), .fz (.int j)]
  have item : ev (g ns) (Ph ns (n + 1)) .v (.ife (.cmp .eq (.call 29 [.var 0, .lit (.int 2)]) (.lit (.int 0))) (.bi .list [.var 3]) (.var 3)) R1 M1 = some (.ok (itD (b, a)) R1 M2) := by
    have c1 : ev (g ns) (Ph ns (n + 1)) .t (.cmp .eq (.call 29 [.var 0, .lit (.int 2)]) (.lit (.int 0))) R1 M1 = some (.ok (.bl (decide (u = 0))) R1 M2) := ev_cmp (m := .t) (ev_call (m := .b) (evs_2 (ev_varv rfl) ev_lit nofun nofun) e2) ev_lit (eq_int _ _)
    unfold ev
    by_cases q : u = 0
    · rw [decide_eq_true q] at c1
      have : b = false := by rw [hb]; simp [q]
      subst this
      simp only [c1, bind_some]
      exact ev_bi (m := .v) (evs_1 (ev_var (d := tupD a) rfl rfl) nofun) rfl
    · rw [decide_eq_false q] at c1
      have : b = true := by rw [hb]; simp [q]
      subst this
      simp only [c1, bind_some]
      exact ev_varv rfl
  have mk : mkL [itD (b, a)] = some (.lst [itD (b, a)]) := mkL_one _ (it_lam _)
  have one : ev (g ns) (Ph ns (n + 1)) .b (.lst [.ife (.cmp .eq (.call 29 [.var 0, .lit (.int 2)]) (.lit (.int 0))) (.bi .list [.var 3]) (.var 3)]) R1 M1 = some (.ok (.lst [itD (b, a)]) R1 M2) := by
    have c2 := evs_1 (φ := Ph ns (n + 1)) item nofun
    unfold ev
    simp only [c2, bind_some, mk]
    rfl
  refine ⟨its.take j.toNat ++ [(b, a)] ++ its.drop j.toNat, .fz (.int j), M2, ?_, fun q hq => ?_, fun q hq => ?_, ?_, p2, ?_⟩
  · simp only [List.length_append, List.length_take, List.length_drop, List.length_cons, List.length_nil]
    omega
  · rcases List.mem_append.mp hq with hq | hq
    · rcases List.mem_append.mp hq with hq | hq
      · exact .inl (List.mem_of_mem_take hq)
      · rw [List.mem_singleton.mp hq]
        exact .inr rfl
    · exact .inl (List.mem_of_mem_drop hq)
  · rw [← List.take_append_drop j.toNat its] at hq
    rcases List.mem_append.mp hq with hq | hq
    · exact List.mem_append_left _ (List.mem_append_left _ hq)
    · exact List.mem_append_right _ hq
  · exact List.mem_map.mpr ⟨(b, a), List.mem_append_left _ (List.mem_append_right _ (List.mem_singleton.mpr rfl)), rfl⟩
  · refine (sts_nx (st_asg (ρ1 := [.fz (.cell 0), .fz v1, .ow (its.map itD), .fz (tupD a), e4]) (x := .fz (.int j)) (ev_call (m := .v) (evs_2 (ev_varv rfl) (ev_bin (m := .v) (x := .int its.length) (y := .int 1) (ev_bi (m := .b) (evs_1 (ev_var rfl rfl) nofun) len) ev_lit rfl) nofun nofun) e1) rfl)).trans ?_
    have w1 : (its.map itD).take j.toNat = (its.take j.toNat).map itD := List.map_take.symm
    have w2 : (its.map itD).drop j.toNat = (its.drop j.toNat).map itD := List.map_drop.symm
    refine (sts_nx (st_asg (ρ1 := R1) (M1 := M2) (d := .lst ((its.take j.toNat ++ [(b, a)] ++ its.drop j.toNat).map itD)) (x := .ow ((its.take j.toNat ++ [(b, a)] ++ its.drop j.toNat).map itD))
      (ev_bin (m := .n) (ev_bin (m := .b) (ev_sl_hi (m := .b) (l := []) (x := .lst (its.map itD)) (ev_var rfl rfl) (ev_varv rfl) (sl_hi _ j0 jl) (by nofun)) one (add_lst _ _ ?_)) (ev_sl_lo (m := .b) (x := .lst (its.map itD)) (ρ1 := R1) (ev_var rfl rfl) (ev_varv rfl) (sl_lo _ j0 jl) (by nofun)) ?_) rfl)).trans sts_nil
    · rw [List.length_take, lm]
      show _ + 1 ≤ 16777216
      omega
    · rw [add_lst _ _ (by simp only [List.length_append, List.length_take, List.length_drop, lm, List.length_cons, List.length_nil]; unfold LINE; omega), w1, w2]
      simp only [List.map_append, List.map_cons, List.map_nil]
theorem td_loop {k : Nat} {v1 : D} : ∀ {l : List Lot} {its : List It} {e3 e4 : En} {c : Nat} {M : Mem}, its.length + l.length ≤ 100 → Pen ns (c + l.length * 2) M → ∃ its' : List It, ∃ e3' e4' M', its'.length = its.length + l.length ∧ (∀ q ∈ its', q ∈ its ∨ q.2 ∈ l) ∧ (∀ q ∈ its, q ∈ its') ∧ (∀ a ∈ l, a ∈ tos its') ∧ Pen ns c M' ∧ forL (fun ρ M => sts (g ns) (Ph ns (n + 1)) TD ρ M) (.nm 3) (l.map tupD) [.fz (.cell 0), .fz v1, .ow (its.map itD), e3, e4] M = some (.ok .nx [.fz (.cell 0), .fz v1, .ow (its'.map itD), e3', e4'] M')
  | [], its, e3, e4, c, M, _, p => ⟨its, e3, e4, M, by simp, (fun q hq => .inl hq), (fun q hq => hq), (fun a ha => nomatch ha), p.le (by omega), rfl⟩
  | a :: l, its, e3, e4, c, M, hl, p => by
    simp only [List.length_cons] at hl p
    obtain ⟨its1, e41, M1, l1, i1, s1, a1, p1, e1⟩ := td_turn (ns := ns) (n := n) (k := k) (v1 := v1) (its := its) (a := a) (e4 := e4) (by omega) (p.le (c' := c + l.length * 2 + 2) (by omega))
    obtain ⟨its2, e32, e42, M2, l2, i2, s2, a2, p2, e2⟩ := td_loop (k := k) (v1 := v1) (l := l) (its := its1) (e3 := .fz (tupD a)) (e4 := e41) (by omega) p1
    refine ⟨its2, e32, e42, M2, by rw [l2, l1, List.length_cons]; omega, fun q hq => ?_, fun q hq => s2 q (s1 q hq), fun x hx => ?_, p2, ?_⟩
    · rcases i2 q hq with h | h
      · rcases i1 q h with h | h
        · exact .inl h
        · rw [h]
          exact .inr List.mem_cons_self
      · exact .inr (List.mem_cons_of_mem _ h)
    · rcases List.mem_cons.mp hx with rfl | hx
      · obtain ⟨q, hq, e⟩ := List.mem_map.mp a1
        exact List.mem_map.mpr ⟨q, s2 q hq, e⟩
      · exact a2 x hx
    · rw [List.map_cons]
      unfold forL
      simp only [bindT, List.set, e1, bind_some, e2]
theorem turned_ok {k : Nat} {ls : List Lot} (hl : ls.length ≤ 8) {c : Nat} (p : Pen ns (c + 40) M) : ∃ b : Bool, ∃ its : List It, ∃ M', its.length ≤ 16 ∧ (∀ a, a ∈ tos its ↔ a ∈ ls) ∧ Pen ns c M' ∧ Ph ns (n + 2) 36 [.cell 0, .lst (ls.map tupD)] M = some (.ok (sq b (its.map itD)) M') := by
  obtain ⟨d, M1, d0, d1, p1, e1⟩ := draw (ns := ns) (n := n) (m := 3) (p.le (c' := c + 39 + 1) (by omega)) (by decide) (by decide)
  let l2 : List Lot := ls ++ ls.take (min d.toNat ls.length)
  have l2l : l2.length ≤ 16 := by
    show (ls ++ ls.take (min d.toNat ls.length)).length ≤ 16
    simp only [List.length_append, List.length_take]
    omega
  obtain ⟨its, e3, e4, M2, ll, i1, _, a1, p2, e2⟩ := td_loop (ns := ns) (n := n) (k := k) (v1 := .lst (ls.map tupD)) (l := l2) (its := []) (e3 := .un) (e4 := .un) (c := c + 1) (M := M1) (by simpa using (by omega : l2.length ≤ 100)) (p1.le (by omega))
  obtain ⟨u, M3, u0, u1, p3, e5⟩ := draw (ns := ns) (n := n) (m := 2) p2 (by decide) (by decide)
  have mem : ∀ a, a ∈ tos its ↔ a ∈ ls := fun a => by
    constructor
    · intro h
      obtain ⟨q, hq, rfl⟩ := List.mem_map.mp h
      have h2 := (i1 q hq).resolve_left fun z => nomatch z
      exact (List.mem_append.mp h2).elim id List.mem_of_mem_take
    · exact fun h => a1 a (List.mem_append_left _ h)
  have lm : (ls.map tupD).length = ls.length := List.length_map ..
  have it : ev (g ns) (Ph ns (n + 1)) .k (.bin .add (.var 1) (.sl (.var 1) (.no) (.call 29 [.var 0, .lit (.int 3)]))) [.fz (.cell 0), .fz (.lst (ls.map tupD)), .ow (([] : List It).map itD), .un, .un] M = some (.ok (.lst (l2.map tupD)) [.fz (.cell 0), .fz (.lst (ls.map tupD)), .ow (([] : List It).map itD), .un, .un] M1) := by
    refine (ev_bin (m := .k) (d := .lst (l2.map tupD)) (ev_var rfl rfl) (ev_sl_hi (m := .b) (l := []) (x := .lst (ls.map tupD)) (ev_var rfl rfl) (ev_call (m := .v) (evs_2 (ev_varv rfl) ev_lit nofun nofun) e1) (sl_hi2 _ d0) (by nofun)) ?_).trans rfl
    rw [add_lst _ _ (by simp only [List.length_take, lm]; unfold LINE; omega), lm, ← List.map_take, ← List.map_append]
  have c1 : ∀ {r : Ev}, ev (g ns) (Ph ns (n + 1)) .t (.cmp .eq (.call 29 [.var 0, .lit (.int 2)]) (.lit (.int 0))) (.fz (.cell 0) :: r) M2 = some (.ok (.bl (decide (u = 0))) (.fz (.cell 0) :: r) M3) := fun {r} => ev_cmp (m := .t) (ev_call (m := .b) (evs_2 (ev_varv rfl) ev_lit nofun nofun) e5) ev_lit (eq_int _ _)
  have s1 : st (g ns) (Ph ns (n + 1)) (.asg (.nm 2) (.lst [])) [.fz (.cell 0), .fz (.lst (ls.map tupD)), .un, .un, .un] M = some (.ok .nx [.fz (.cell 0), .fz (.lst (ls.map tupD)), .ow (([] : List It).map itD), .un, .un] M) := by
    refine st_asg (ρ1 := [.fz (.cell 0), .fz (.lst (ls.map tupD)), .un, .un, .un]) (d := .lst []) (x := .ow []) ?_ rfl
    simp only [sts, st, ev, evs, evPar, startE, viewD, takeD, lock, clear, reset, lock1, isOwn, slots, slotsL, modeOf, maker, mine, turnF, bindT, bindTs, bind_some, okE, fin, lift, iterD, lamless, tru, tupD, onInt, see, ansO, setAll, deref, Option.bind, Option.map, List.map, List.replicate, List.cons_append, List.nil_append, List.append_nil, List.getElem?_cons_zero, List.getElem?_cons_succ, List.set, List.length_cons, List.length_nil, Nat.sub_self, Nat.reduceAdd, Nat.reduceSub, if_true, Bool.false_eq_true, if_false, reduceCtorEq, Nat.zero_add, mkL_nil]
  by_cases q : u = 0
  · refine ⟨false, its, M3, by simp only [List.length_nil, Nat.zero_add] at ll; omega, mem, p3, call_rt (F := F36) rfl rfl rfl ⟨[.fz (.cell 0), .fz (.lst (ls.map tupD)), .fz (.lst (its.map itD)), e3, e4], ?_⟩⟩
    rw [F36_body]
    refine (sts_nx s1).trans ((sts_nx (for_of it e2)).trans (sts_ret ?_))
    have c2 := c1 (r := [.fz (.lst (ls.map tupD)), .ow (its.map itD), e3, e4])
    rw [decide_eq_true q] at c2
    unfold ev
    simp only [c2, bind_some]
    exact ev_varv rfl
  · refine ⟨true, its, M3, by simp only [List.length_nil, Nat.zero_add] at ll; omega, mem, p3, call_rt (F := F36) rfl rfl rfl ⟨[.fz (.cell 0), .fz (.lst (ls.map tupD)), .ow (its.map itD), e3, e4], ?_⟩⟩
    rw [F36_body]
    refine (sts_nx s1).trans ((sts_nx (for_of it e2)).trans (sts_ret ?_))
    have c2 := c1 (r := [.fz (.lst (ls.map tupD)), .ow (its.map itD), e3, e4])
    rw [decide_eq_false q] at c2
    unfold ev
    simp only [c2, bind_some]
    exact ev_bi (m := .v) (evs_1 (ev_var rfl rfl) nofun) rfl
end
end K24
end
section
set_option Elab.async false
set_option linter.all false
set_option maxRecDepth 100000
set_option maxHeartbeats 2000000
/-! PK18: what is refused, and with which word. -/
namespace K24
open DV PL
section
variable {ns : List Int} {n : Nat} {M M' M1 M2 M3 M4 : Mem} {ρ ρ' ρ1 ρ2 ρ3 ρ4 : Ev}
theorem ev_call_ex {φ : Phi} {m : Md} {i : Nat} {es : List E} {ds : List D} {x : D} (h : evs (g ns) φ .v es ρ M = some (.ok ds ρ1 M1)) (h2 : φ i ds M1 = some (.exc x M2)) : ev (g ns) φ m (.call i es) ρ M = some (.exc x ρ1 M2) := by
  simp only [ev, h, bind_some, h2, ansO]
theorem ev_call_arg {φ : Phi} {m : Md} {i : Nat} {es : List E} {x : D} (h : evs (g ns) φ .v es ρ M = some (.exc x ρ1 M1)) : ev (g ns) φ m (.call i es) ρ M = some (.exc x ρ1 M1) := by
  simp only [ev, h]
  rfl
theorem evs_ex {φ : Phi} {m : Md} {e : E} {es : List E} {x : D} (h : ev (g ns) φ m e ρ M = some (.exc x ρ1 M1)) : (∀ e', e ≠ .star e') → evs (g ns) φ m (e :: es) ρ M = some (.exc x ρ1 M1) := by
  intro k
  cases e
  case star e => exact absurd rfl (k e)
  all_goals
    unfold evs
    rw [h]
    rfl
theorem sts_ret_ex {φ : Phi} {e : E} {r : List S} {x : D} (h : ev (g ns) φ .v e ρ M = some (.exc x ρ1 M1)) : sts (g ns) φ (.ret e :: r) ρ M = some (.exc x ρ1 M1) := sts_ex (by simp only [st, h]; rfl)
theorem st_ex_ex {φ : Phi} {e : E} {x : D} (h : ev (g ns) φ .b e ρ M = some (.exc x ρ1 M1)) : st (g ns) φ (.ex e) ρ M = some (.exc x ρ1 M1) := by
  simp only [st, h]
  rfl
theorem st_asg_ex {φ : Phi} {i : Nat} {e : E} {x : D} (h : ev (g ns) φ (modeOf (maker e)) e ρ M = some (.exc x ρ1 M1)) : st (g ns) φ (.asg (.nm i) e) ρ M = some (.exc x ρ1 M1) := by
  simp only [st, h]
  rfl
def sitS : List Nat := [115, 105, 116, 101, 115]
def lotsS : List Nat := [108, 111, 116, 115]
def numS : List Nat := [110, 117, 109, 98, 101, 114]
def lotS : List Nat := [108, 111, 116]
theorem need_number_bad {d : D} (h : BadNum ns d) {s : List Nat} : Ph ns (n + 3) 9 [d, .str s, .int 1, .int 5] M = some (.exc (.ins 1 [.str s]) M) := by
  have e := h.e n M
  refine call_ex (F := F9) rfl rfl ⟨[.fz d, .fz (.str s), .fz (.int 1), .fz (.int 5)], ?_⟩
  exact sts_ex ((st_if (c := true) (ρ1 := [.fz d, .fz (.str s), .fz (.int 1), .fz (.int 5)]) (ev_notT (b := false) (ev_call (m := .t) (evs_3 (ev_varv rfl) (ev_varv rfl) (ev_varv rfl) nofun nofun nofun) e))).trans (sts_ex (st_raise (evs_1 (ev_varv rfl) nofun) rfl)))
theorem need_sites_bad {d : D} (h : BadNum ns d) : Ph ns (n + 4) 16 [d] M = some (.exc (.ins 1 [.str sitS]) M) := by
  have e := need_number_bad (n := n) (M := M) h (s := sitS)
  refine call_ex (F := F16) rfl rfl ⟨[.fz d], ?_⟩
  exact sts_ex (st_ex_ex (ev_call_ex (evs_4 (ev_varv rfl) ev_lit ev_lit ev_lit nofun nofun nofun nofun) e))
theorem all_lots_ok {k : Nat} (h1 : 1 ≤ k) (hk : k ≤ 5) : Ph ns (n + 5) 20 [.int (k : Int)] M = some (.ok (fam (allB k)) M) := by
  have s : Ph ns (n + 4) 16 [.int (k : Int)] M = _ := need_sites_ok (ns := ns) (n := n) (M := M) k (by omega) (by omega)
  have lb : Ph ns (n + 4) 14 [.int (k : Int)] M = _ := lots_below_ok (ns := ns) (n := n + 2) (M := M) k hk
  generalize (k : Int) = i at s lb ⊢
  refine call_rt (F := F20) rfl rfl rfl ⟨[.fz (.int i)], ?_⟩
  exact (sts_nx (st_ex (ev_call (evs_1 (ev_varv rfl) nofun) s))).trans (sts_ret (ev_call (evs_1 (ev_varv rfl) nofun) lb))
theorem all_lots_bad {d : D} (h : BadNum ns d) : Ph ns (n + 5) 20 [d] M = some (.exc (.ins 1 [.str sitS]) M) := by
  have e := need_sites_bad (n := n) (M := M) h
  exact call_ex (F := F20) rfl rfl ⟨[.fz d], sts_ex (st_ex_ex (ev_call_ex (evs_1 (ev_varv rfl) nofun) e))⟩
theorem is_family_bad {v d : D} (h : BadNum ns d) : Ph ns (n + 5) 19 [v, d] M = some (.exc (.ins 1 [.str sitS]) M) := by
  have e := need_sites_bad (n := n) (M := M) h
  exact call_ex (F := F19) rfl rfl ⟨[.fz v, .fz d], sts_ex (st_ex_ex (ev_call_ex (evs_1 (ev_varv rfl) nofun) e))⟩
theorem hits_bad {v d : D} (h : BadNum ns d) : Ph ns (n + 5) 26 [v, d] M = some (.exc (.ins 1 [.str sitS]) M) := by
  have e := need_sites_bad (n := n) (M := M) h
  exact call_ex (F := F26) rfl rfl ⟨[.fz v, .fz d], sts_ex (st_ex_ex (ev_call_ex (evs_1 (ev_varv rfl) nofun) e))⟩
theorem widened_badN {v d : D} (h : BadNum ns d) : Ph ns (n + 5) 27 [v, d] M = some (.exc (.ins 1 [.str sitS]) M) := by
  have e := need_sites_bad (n := n) (M := M) h
  refine call_ex (F := F27) rfl rfl ⟨[.fz v, .fz d, .un, .un, .un], ?_⟩
  rw [F27_body]
  exact sts_ex (st_ex_ex (ev_call_ex (evs_1 (ev_varv rfl) nofun) e))
theorem is_family_gen (b : Bool) {k : Nat} (h1 : 1 ≤ k) {its : List It} (ok : ∀ p ∈ its, LotOk k p.2) (hk : k ≤ 5) (hl : its.length ≤ 32) : Ph ns (n + 5) 19 [sq b (its.map itD), .int (k : Int)] M = some (.ok (.bl (decide (tos its = minF (tos its)))) M) := by
  have s : Ph ns (n + 4) 16 [.int (k : Int)] M = _ := need_sites_ok (ns := ns) (n := n) (M := M) k (by omega) (by omega)
  have fo := is_fam_gen (ns := ns) (n := n) (M := M) b ok hk hl
  generalize (k : Int) = i at s fo ⊢
  generalize sq b (its.map itD) = v at fo ⊢
  refine call_rt (F := F19) rfl rfl rfl ⟨[.fz v, .fz (.int i)], ?_⟩
  exact (sts_nx (st_ex (ev_call (evs_1 (ev_varv rfl) nofun) s))).trans (sts_ret (ev_call (evs_2 (ev_varv rfl) (ev_varv rfl) nofun nofun) fo))
theorem is_family_odd {k : Nat} (h1 : 1 ≤ k) (hk : k ≤ 5) {d : D} (h : BadFam ns k d) : Ph ns (n + 5) 19 [d, .int (k : Int)] M = some (.ok (.bl false) M) := by
  have s : Ph ns (n + 4) 16 [.int (k : Int)] M = _ := need_sites_ok (ns := ns) (n := n) (M := M) k (by omega) (by omega)
  have fo := h.e n M
  generalize (k : Int) = i at s fo ⊢
  refine call_rt (F := F19) rfl rfl rfl ⟨[.fz d, .fz (.int i)], ?_⟩
  exact (sts_nx (st_ex (ev_call (evs_1 (ev_varv rfl) nofun) s))).trans (sts_ret (ev_call (evs_2 (ev_varv rfl) (ev_varv rfl) nofun nofun) fo))
theorem need_any_bad {m : Int} {d : D} (h : BadFam ns m d) {t : List Nat} : Ph ns (n + 5) 17 [d, .str t, .int m] M = some (.exc (.ins 2 [.str t]) M) := by
  have e := h.e n M
  refine call_ex (F := F17) rfl rfl ⟨[.fz d, .fz (.str t), .fz (.int m), .un], ?_⟩
  exact sts_ex ((st_if (c := true) (ρ1 := [.fz d, .fz (.str t), .fz (.int m), .un]) (ev_notT (b := false) (ev_call (m := .t) (evs_2 (ev_varv rfl) (ev_varv rfl) nofun nofun) e))).trans (sts_ex (st_raise (evs_1 (ev_varv rfl) nofun) rfl)))
theorem need_fam_bad {m : Int} {d : D} (h : BadFam ns m d) {t : List Nat} : Ph ns (n + 6) 18 [d, .str t, .int m, .bl false] M = some (.exc (.ins 2 [.str t]) M) := by
  have e := need_any_bad (n := n) (M := M) h (t := t)
  refine call_ex (F := F18) rfl rfl ⟨[.fz d, .fz (.str t), .fz (.int m), .fz (.bl false), .un], ?_⟩
  exact sts_ex (st_asg_ex (ev_call_ex (evs_3 (ev_varv rfl) (ev_varv rfl) (ev_varv rfl) nofun nofun nofun) e))
/-- a family of no lot, and the empty one, are refused -/
theorem need_fam_none (b : Bool) {k : Nat} (hk : k ≤ 5) {its : List It} (h : tos its = [] ∨ tos its = [[]]) (t : List Nat) : Ph ns (n + 6) 18 [sq b (its.map itD), .str t, .int (k : Int), .bl false] M = some (.exc (.ins 2 [.str t]) M) := by
  have cn : Can k (tos its) := by
    rcases h with h | h
    · rw [h]; exact can_nil k
    · rw [h]; exact can_one k
  have hl : its.length ≤ 32 := by
    rw [← tos_len its]
    rcases h with h | h <;> rw [h] <;> decide
  have nf := need_any_gen (ns := ns) (n := n) (M := M) b (its := its) (fun p hp => cn.ok p.2 (List.mem_map.mpr ⟨p, hp, rfl⟩)) hk hl (minF_can cn).symm t
  generalize (k : Int) = i at nf ⊢
  generalize sq b (its.map itD) = v at nf ⊢
  generalize tos its = f at nf h
  refine call_ex (F := F18) rfl rfl ⟨[.fz v, .fz (.str t), .fz (.int i), .fz (.bl false), .fz (fam f)], ?_⟩
  refine (sts_nx (st_asg (ρ1 := [.fz v, .fz (.str t), .fz (.int i), .fz (.bl false), .un]) (x := .fz (fam f)) (ev_call (m := .v) (evs_3 (ev_varv rfl) (ev_varv rfl) (ev_varv rfl) nofun nofun nofun) nf) rfl)).trans ?_
  have t : ev (g ns) (Ph ns (n + 5)) .t (.or (.cmp .eq (.var 4) (.tup [])) (.and (.cmp .eq (.var 4) (.tup [.tup []])) (.not (.var 3)))) [.fz v, .fz (.str t), .fz (.int i), .fz (.bl false), .fz (fam f)] M = some (.ok (.bl true) [.fz v, .fz (.str t), .fz (.int i), .fz (.bl false), .fz (fam f)] M) := by
    rcases h with rfl | rfl
    · exact ev_orT (ev_cmp (m := .t) (ev_var rfl rfl) ev_t0 rfl)
    · refine ev_orB (ev_cmp (m := .t) (c := false) (ev_var rfl rfl) ev_t0 rfl) (ev_andT (ev_cmp (m := .t) (ev_var rfl rfl) ev_t1 rfl) ?_)
      rfl
  exact sts_ex ((st_if t).trans (sts_ex (st_raise (evs_1 (ev_varv rfl) nofun) rfl)))
theorem hits_odd {k : Nat} (h1 : 1 ≤ k) (hk : k ≤ 5) {d : D} (h : BadFam ns k d) : Ph ns (n + 6) 26 [d, .int (k : Int)] M = some (.exc (.ins 2 [.str famS]) M) := by
  have s : Ph ns (n + 5) 16 [.int (k : Int)] M = _ := need_sites_ok (ns := ns) (n := n + 1) (M := M) k (by omega) (by omega)
  have e := need_any_bad (n := n) (M := M) h (t := famS)
  generalize (k : Int) = i at s e ⊢
  refine call_ex (F := F26) rfl rfl ⟨[.fz d, .fz (.int i)], ?_⟩
  exact (sts_nx (st_ex (ρ1 := [.fz d, .fz (.int i)]) (ev_call (evs_1 (ev_varv rfl) nofun) s))).trans (sts_ret_ex (ev_call_arg (evs_ex (ev_call_ex (evs_3 (ev_varv rfl) ev_lit (ev_varv rfl) nofun nofun nofun) e) nofun)))
theorem widened_exc {k : Nat} (h1 : 1 ≤ k) (hk : k ≤ 5) {d x : D} (h : Ph ns (n + 6) 18 [d, .str famS, .int (k : Int), .bl false] M = some (.exc x M)) : Ph ns (n + 7) 27 [d, .int (k : Int)] M = some (.exc x M) := by
  have s : Ph ns (n + 6) 16 [.int (k : Int)] M = _ := need_sites_ok (ns := ns) (n := n + 2) (M := M) k (by omega) (by omega)
  generalize (k : Int) = i at s h ⊢
  refine call_ex (F := F27) rfl rfl ⟨[.fz d, .fz (.int i), .un, .un, .un], ?_⟩
  rw [F27_body]
  exact (sts_nx (st_ex (ρ1 := [.fz d, .fz (.int i), .un, .un, .un]) (ev_call (evs_1 (ev_varv rfl) nofun) s))).trans (sts_ex (st_asg_ex (ev_call_ex (evs_4 (ev_varv rfl) ev_lit (ev_varv rfl) ev_lit nofun nofun nofun nofun) h)))
theorem least_of_bad {d : D} (h : d ∈ [D.non, .int 5, .str [], .dct [] []]) : Ph ns (n + 4) 21 [d] M = some (.exc (.ins 2 [.str lotsS]) M) := by
  simp only [List.mem_cons, List.not_mem_nil, or_false] at h
  rcases h with rfl | rfl | rfl | rfl <;> rfl
theorem least_of_one {d : D} (h : BadLotP ns 5 d) : Ph ns (n + 4) 21 [.lst [d]] M = some (.exc (.ins 2 [.str lotsS]) M) := by
  have e := h.e n M
  refine call_ex (F := F21) rfl rfl ⟨[.fz (.lst [d]), .un], ?_⟩
  have it0 : ev (g ns) (Ph ns (n + 3)) .i (.var 0) [.fz (.lst [d]), .un] M = some (.ok (.lst ([d].map id)) [.fz (.lst [d]), .un] M) := rfl
  have mk : mkL [.bl false] = some (.lst [.bl false]) := rfl
  exact sts_ex ((st_if (c := true) (ρ1 := [.fz (.lst [d]), .un]) (ev_orB (ev_isi (b := true) rfl rfl rfl) (ev_notT (b := false) (ev_bi (m := .t) (d := .bl false) (evs_1 (ev_cp (m := .b) it0 rfl (comp_map (c := id) (l := [d]) (f := fun _ => .bl false) fun x hx => ⟨_, turn_T rfl ev_lit (el_1 (ev_call (m := .v) (evs_2 (ev_varv rfl) ev_lit nofun nofun) (by rw [List.mem_singleton.mp hx]; exact e)))⟩) mk) nofun) rfl)))).trans (sts_ex (st_raise (evs_1 ev_lit nofun) rfl)))
/-! ### the words -/
theorem a33_1 {φ : Phi} {e0 : En} {s : List Nat} : ∃ ρ', sts (g ns) φ (F33.body.drop 2) [e0, .fz (.ins 1 [.str s]), .ow [], .un] M = some (.ok (.rt (.tup [.str numS, .str s])) ρ' M) := ⟨_, rfl⟩
theorem a33_2 {φ : Phi} {e0 : En} {s : List Nat} : ∃ ρ', sts (g ns) φ (F33.body.drop 2) [e0, .fz (.ins 2 [.str s]), .ow [], .un] M = some (.ok (.rt (.tup [.str lotS, .str s])) ρ' M) := ⟨_, rfl⟩
theorem F33_b : F33.body = .par [1, 2] [.lit .non, .lst []] :: .tryas [.ex (.callv 0 [])] 0 (some 3) [.asg (.nm 1) (.var 3)] :: F33.body.drop 2 := rfl
theorem word_gen {j c : Nat} {s : List Nat} {caps : List D} {w : D} (hb : below cls c 0 = true) (hw : lamless w = true) (h : Ph ns n j caps M = some (.exc (.ins c [.str s]) M')) (a : ∃ ρ', sts (g ns) (Ph ns n) (F33.body.drop 2) [.fz (.lam j caps), .fz (.ins c [.str s]), .ow [], .un] M' = some (.ok (.rt w) ρ' M')) : Ph ns (n + 1) 33 [.lam j caps] M = some (.ok w M') := by
  obtain ⟨ρ', e⟩ := a
  refine call_rt (F := F33) rfl rfl hw ⟨ρ', ?_⟩
  rw [F33_b]
  refine (sts_nx (ρ1 := [.fz (.lam j caps), .fz .non, .ow [], .un]) (M1 := M) ?_).trans ((sts_nx (ρ1 := [.fz (.lam j caps), .fz (.ins c [.str s]), .ow [], .un]) (M1 := M') ?_).trans e)
  · simp only [sts, st, ev, evs, evPar, startE, viewD, takeD, lock, clear, reset, lock1, isOwn, slots, slotsL, modeOf, maker, mine, turnF, bindT, bindTs, bind_some, okE, fin, lift, iterD, lamless, tru, tupD, onInt, see, ansO, setAll, deref, Option.bind, Option.map, List.map, List.replicate, List.cons_append, List.nil_append, List.append_nil, List.getElem?_cons_zero, List.getElem?_cons_succ, List.set, List.length_cons, List.length_nil, Nat.sub_self, Nat.reduceAdd, Nat.reduceSub, if_true, Bool.false_eq_true, if_false, reduceCtorEq, Nat.zero_add, mkL_nil]
    rfl
  · have c1 : ev (g ns) (Ph ns n) .b (.callv 0 []) [.fz (.lam j caps), .fz .non, .ow [], .un] M = some (.exc (.ins c [.str s]) [.fz (.lam j caps), .fz .non, .ow [], .un] M') := by
      simp only [ev, evs, List.getElem?_cons_zero, okE, bind_some, List.nil_append, h, ansO]
    have b : sts (g ns) (Ph ns n) [.ex (.callv 0 [])] [.fz (.lam j caps), .fz .non, .ow [], .un] M = some (.exc (.ins c [.str s]) [.fz (.lam j caps), .fz .non, .ow [], .un] M') := sts_ex (st_ex_ex c1)
    unfold st
    rw [b]
    show (if below cls c 0 = true then _ else _) = _
    rw [hb]
    rfl
theorem word1 {j : Nat} {s : List Nat} {caps : List D} (h : Ph ns n j caps M = some (.exc (.ins 1 [.str s]) M')) : Ph ns (n + 1) 33 [.lam j caps] M = some (.ok (.tup [.str numS, .str s]) M') := word_gen rfl rfl h a33_1
theorem word2 {j : Nat} {s : List Nat} {caps : List D} (h : Ph ns n j caps M = some (.exc (.ins 2 [.str s]) M')) : Ph ns (n + 1) 33 [.lam j caps] M = some (.ok (.tup [.str lotS, .str s]) M') := word_gen rfl rfl h a33_2
theorem xlam42 {d x : D} (h : Ph ns n 20 [d] M = some (.exc x M')) : Ph ns (n + 1) 42 [d] M = some (.exc x M') := call_ex (F := F42) rfl rfl ⟨[.fz d], sts_ret_ex (ev_call_ex (evs_1 (ev_varv rfl) nofun) h)⟩
theorem xlam43 {v d x : D} (h : Ph ns n 19 [v, d] M = some (.exc x M')) : Ph ns (n + 1) 43 [v, d] M = some (.exc x M') := call_ex (F := F43) rfl rfl ⟨[.fz v, .fz d], sts_ret_ex (ev_call_ex (evs_2 (ev_varv rfl) (ev_varv rfl) nofun nofun) h)⟩
theorem xlam44 {v d x : D} (h : Ph ns n 26 [v, d] M = some (.exc x M')) : Ph ns (n + 1) 44 [v, d] M = some (.exc x M') := call_ex (F := F44) rfl rfl ⟨[.fz v, .fz d], sts_ret_ex (ev_call_ex (evs_2 (ev_varv rfl) (ev_varv rfl) nofun nofun) h)⟩
theorem xlam45 {v d x : D} (h : Ph ns n 27 [v, d] M = some (.exc x M')) : Ph ns (n + 1) 45 [v, d] M = some (.exc x M') := call_ex (F := F45) rfl rfl ⟨[.fz v, .fz d], sts_ret_ex (ev_call_ex (evs_2 (ev_varv rfl) (ev_varv rfl) nofun nofun) h)⟩
theorem xlam46 {v d x : D} (h : Ph ns n 26 [v, d] M = some (.exc x M')) : Ph ns (n + 1) 46 [v, d] M = some (.exc x M') := call_ex (F := F46) rfl rfl ⟨[.fz v, .fz d], sts_ret_ex (ev_call_ex (evs_2 (ev_varv rfl) (ev_varv rfl) nofun nofun) h)⟩
theorem xlam47 {v d x : D} (h : Ph ns n 27 [v, d] M = some (.exc x M')) : Ph ns (n + 1) 47 [v, d] M = some (.exc x M') := call_ex (F := F47) rfl rfl ⟨[.fz v, .fz d], sts_ret_ex (ev_call_ex (evs_2 (ev_varv rfl) (ev_varv rfl) nofun nofun) h)⟩
theorem xlam48 {d x : D} (h : Ph ns n 27 [.tup [], d] M = some (.exc x M')) : Ph ns (n + 1) 48 [d] M = some (.exc x M') := call_ex (F := F48) rfl rfl ⟨[.fz d], sts_ret_ex (ev_call_ex (evs_2 (x := .tup []) (ρ1 := [.fz d]) (M1 := M) rfl (ev_varv rfl) nofun nofun) h)⟩
theorem xlam49 {d x : D} (h : Ph ns n 27 [.lst [.tup []], d] M = some (.exc x M')) : Ph ns (n + 1) 49 [d] M = some (.exc x M') := call_ex (F := F49) rfl rfl ⟨[.fz d], sts_ret_ex (ev_call_ex (evs_2 (x := .lst [.tup []]) (ρ1 := [.fz d]) (M1 := M) rfl (ev_varv rfl) nofun nofun) h)⟩
theorem ev_lst {φ : Phi} {m : Md} {es : List E} {ds : List D} {d : D} (h : evs (g ns) φ .v es ρ M = some (.ok ds ρ1 M1)) (h2 : mkL ds = some d) : ev (g ns) φ m (.lst es) ρ M = fin m d ρ1 M1 := by
  simp only [ev, h, bind_some, h2]
theorem xlam50 {c : Nat} (p : Pen ns (c + 1) M) : ∃ M', Pen ns c M' ∧ Ph ns (n + 5) 50 [.cell 0] M = some (.exc (.ins 2 [.str lotsS]) M') := by
  obtain ⟨d, M1, hd, p1, e1⟩ := odd_lot_ok (ns := ns) (n := n + 1) (k := 5) (i := 5) rfl (by decide) (by decide) p
  have lo := least_of_one (n := n) (M := M1) hd
  refine ⟨M1, p1, call_ex (F := F50) rfl rfl ⟨[.fz (.cell 0)], ?_⟩⟩
  exact sts_ret_ex (ev_call_ex (evs_1 (ev_lst (m := .v) (evs_1 (ev_call (m := .v) (evs_2 (ev_varv rfl) ev_lit nofun nofun) e1) nofun) (mkL_one d hd.l)) nofun) lo)
theorem xlam51 {c : Nat} (p : Pen ns (c + 1) M) : ∃ M', Pen ns c M' ∧ Ph ns (n + 5) 51 [.cell 0] M = some (.exc (.ins 2 [.str lotsS]) M') := by
  obtain ⟨d, M1, hd, p1, e1⟩ := pick_gen (ns := ns) (n := n + 2) (l := [D.non, .int 5, .str [], .dct [] []]) (List.cons_ne_nil _ _) (by decide) (fun d hd => by
    simp only [List.mem_cons, List.not_mem_nil, or_false] at hd
    rcases hd with rfl | rfl | rfl | rfl <;> rfl) p
  have lo := least_of_bad (ns := ns) (n := n) (M := M1) hd
  refine ⟨M1, p1, call_ex (F := F51) rfl rfl ⟨[.fz (.cell 0)], ?_⟩⟩
  exact sts_ret_ex (ev_call_ex (evs_1 (ev_call (m := .v) (ds := [.cell 0, .lst [D.non, .int 5, .str [], .dct [] []]]) (ρ1 := [.fz (.cell 0)]) (M1 := M) rfl e1) nofun) lo)
end
end K24
end
section
set_option Elab.async false
set_option linter.all false
set_option maxRecDepth 100000
set_option maxHeartbeats 2000000
/-! PK19: the law of families made and refused. -/
namespace K24
open DV PL
section
variable {ns : List Int} {n : Nat} {M M' M1 M2 M3 M4 : Mem} {ρ ρ' ρ1 ρ2 ρ3 ρ4 : Ev}
theorem ev_callp {φ : Phi} {m : Md} {i : Nat} {es : List E} {ps : List Nat} {ds ds' : List D} {d : D} (h : evs (g ns) φ .v es ρ M = some (.ok ds ρ1 M1)) (h1 : permD ps ds = some ds') (h2 : φ i ds' M1 = some (.ok d M2)) : ev (g ns) φ m (.callp i es ps) ρ M = fin m d ρ1 M2 := by
  simp only [ev, h, bind_some, h1, h2, ansO]
abbrev LF (e2 : En) (v : Int) (e4 e5 e6 e7 e8 e9 e10 : En) : Ev := [.fz .scr, .fz (.cell 0), e2, .fz (.int v), e4, e5, e6, e7, e8, e9, e10, .un, .un]
def U0 : S := .asg (.nm 3) (.bin .add (.lit (.int 1)) (.call 29 [.var 1, .lit (.int 5)]))
def U1 : S := .ife (.or (.cmp .ne (.bi .repr [.call 20 [.var 3]]) (.bi .repr [.bi .tuple [.call 32 [.var 3]]])) (.cmp .ne (.bi .repr [.call 20 [.var 3]]) (.bi .repr [.bi .tuple [.call 32 [.var 3]]]))) [.ret (.lit (.bl false))] []
def U2 : S := .asg (.nm 4) (.cp (.call 30 [.var 1, .call 32 [.var 3]]) (.nm 11) (.range [.call 29 [.var 1, .lit (.int 8)]]) (.lit (.bl true)))
def U3 : S := .asg (.nm 5) (.call 31 [.var 4])
def U4 : S := .asg (.nm 6) (.call 36 [.var 1, .var 4])
def U5 : S := .asg (.nm 7) (.bi .repr [.var 6])
def U6 : S := .ife (.or (.cmp .ne (.bi .repr [.call 21 [.var 6]]) (.bi .repr [.var 5])) (.or (.cmp .ne (.bi .repr [.call 21 [.var 6]]) (.bi .repr [.var 5])) (.cmp .ne (.bi .repr [.var 6]) (.var 7)))) [.ret (.lit (.bl false))] []
def U7 : S := .ife (.or (.cmp .isnot (.call 19 [.var 5, .var 3]) (.lit (.bl true))) (.cmp .isnot (.callp 19 [.var 3, .cp (.bi .list [.var 12]) (.nm 12) (.var 5) (.lit (.bl true))] [1, 0]) (.lit (.bl true)))) [.ret (.lit (.bl false))] []
def U8 : S := .ife (.or (.cmp .ne (.bi .repr [.call 19 [.var 6, .var 3]]) (.bi .repr [.call 37 [.var 6, .var 3]])) (.cmp .isnot (.call 19 [.call 35 [.var 1, .var 3], .var 3]) (.lit (.bl false)))) [.ret (.lit (.bl false))] []
def NUM : E := .lst [.lit .non, .lit (.int 0), .lit (.int 6), .lit (.bl true), .lit (.str [50]), .neg (.lit (.int 1)), .tup [.lit (.int 2)], .bin .pow (.lit (.int 10)) (.lit (.int 30))]
def U9 : S := .par [8, 9] [.call 35 [.var 1, .var 3], .call 30 [.var 1, NUM]]
def U10 : S := .asg (.nm 10) (.lst [.call 33 [.lam 42 [9]], .call 33 [.lam 43 [8, 9]], .call 33 [.lam 44 [8, 9]]])
def U11 : S := .ext 10 (.lst [.call 33 [.lam 45 [8, 9]], .call 33 [.lam 46 [8, 3]], .call 33 [.lam 47 [8, 3]]])
def DUE1 : E := .bin .add (.bin .mul (.lst [.tup [.lit (.str numS), .lit (.str sitS)]]) (.lit (.int 4))) (.bin .mul (.lst [.tup [.lit (.str lotS), .lit (.str famS)]]) (.lit (.int 2)))
def U12 : S := .ife (.cmp .ne (.var 10) DUE1) [.ret (.lit (.bl false))] []
def U13 : S := .asg (.nm 10) (.lst [.call 33 [.lam 48 [3]], .call 33 [.lam 49 [3]], .call 33 [.lam 50 [1]]])
def DUE2 : E := .bin .add (.bin .mul (.lst [.tup [.lit (.str lotS), .lit (.str famS)]]) (.lit (.int 2))) (.lst [.tup [.lit (.str lotS), .lit (.str lotsS)]])
def U14 : S := .ife (.or (.cmp .ne (.var 10) DUE2) (.cmp .ne (.call 33 [.lam 51 [1]]) (.tup [.lit (.str lotS), .lit (.str lotsS)]))) [.ret (.lit (.bl false))] []
def TB : List S := [U0, U1, U2, U3, U4, U5, U6, U7, U8, U9, U10, U11, U12, U13, U14]
theorem F38_body : F38.body = [.asg (.nm 1) (.call 28 [.var 0]), .for (.nm 2) (.range [.lit (.int 5)]) TB, .ret (.lit (.bl true))] := rfl
section
variable {k : Nat} {v : Int} {e2 e3 e4 e5 e6 e7 e8 e9 e10 : En}
theorem u0_ok {c : Nat} (p : Pen ns (c + 1) M) : ∃ v M', 1 ≤ v ∧ v ≤ 5 ∧ Pen ns c M' ∧ st (g ns) (Ph ns (n + 12)) U0 [.fz .scr, .fz (.cell 0), e2, e3, e4, e5, e6, e7, e8, e9, e10, .un, .un] M = some (.ok .nx (LF e2 v e4 e5 e6 e7 e8 e9 e10) M') := by
  obtain ⟨u, M1, u0, u1, p1, e1⟩ := draw (ns := ns) (n := n + 11) (m := 5) p (by decide) (by decide)
  exact ⟨1 + u, M1, by omega, by omega, p1, st_asg (ρ1 := [.fz .scr, .fz (.cell 0), e2, e3, e4, e5, e6, e7, e8, e9, e10, .un, .un]) (x := .fz (.int (1 + u))) (ev_bin (m := .v) (y := .int u) ev_lit (ev_call (m := .b) (evs_2 (ev_varv rfl) ev_lit nofun nofun) e1) rfl) rfl⟩
theorem u1_ok (h1 : 1 ≤ k) (hk : k ≤ 5) (hv : v = k) : st (g ns) (Ph ns (n + 12)) U1 (LF e2 v e4 e5 e6 e7 e8 e9 e10) M = some (.ok .nx (LF e2 v e4 e5 e6 e7 e8 e9 e10) M) := by
  have x1 : Ph ns (n + 12) 20 [.int v] M = some (.ok (fam (allB k)) M) := hv ▸ all_lots_ok (n := n + 7) h1 hk
  have x2 : Ph ns (n + 12) 32 [.int v] M = some (.ok (.lst ((allB k).map tupD)) M) := hv ▸ l_all_ok (n := n + 10) h1 hk
  have sh := show_lots hk (f := allB k) (fun a ha => mem_allB.mp ha) (by have := len_all k; have := pow5 hk; omega)
  have tb : biD cls .tuple [.lst ((allB k).map tupD)] = some (fam (allB k)) := rfl
  have one : ev (g ns) (Ph ns (n + 12)) .t (.cmp .ne (.bi .repr [.call 20 [.var 3]]) (.bi .repr [.bi .tuple [.call 32 [.var 3]]])) (LF e2 v e4 e5 e6 e7 e8 e9 e10) M = some (.ok (.bl false) (LF e2 v e4 e5 e6 e7 e8 e9 e10) M) := rp_ne (ev_call (m := .b) (evs_1 (ev_varv rfl) nofun) x1) (ev_bi (m := .b) (d := fam (allB k)) (evs_1 (ev_call (m := .b) (evs_1 (ev_varv rfl) nofun) x2) nofun) tb) sh nofun nofun
  exact st_ifF (ev_orF one one)
theorem u2_ok (h1 : 1 ≤ k) (hk : k ≤ 5) (hv : v = k) {c : Nat} (p : Pen ns (c + 20) M) : ∃ ls : List Lot, ∃ M', (∀ a ∈ ls, LotOk k a) ∧ ls.length ≤ 7 ∧ Pen ns c M' ∧ st (g ns) (Ph ns (n + 12)) U2 (LF e2 v e4 e5 e6 e7 e8 e9 e10) M = some (.ok .nx (LF e2 v (.ow (ls.map tupD)) e5 e6 e7 e8 e9 e10) M') := by
  obtain ⟨u, M1, u0, u1, p1, e1⟩ := draw (ns := ns) (n := n + 11) (m := 8) (p.le (c' := c + 19 + 1) (by omega)) (by decide) (by decide)
  have rg : rangeD [.int u] = some ((range u.toNat).map .int) := by
    have := rangeD_ints u.toNat (by omega)
    rw [show ((u.toNat : Nat) : Int) = u by omega] at this
    exact this
  have lk := len_range u.toNat
  have al : ∀ M, Ph ns (n + 12) 32 [.int v] M = some (.ok (.lst ((allB k).map tupD)) M) := fun M => hv ▸ l_all_ok (n := n + 10) h1 hk
  have la := len_all k
  have p5 := pow5 hk
  have pos : 0 < 2 ^ k := Nat.pow_pos (by decide)
  obtain ⟨ls, M2, wl, ok, p2, ee⟩ := comp_penM (ns := ns) (P := LotOk k) (turn := turnF (fun ρ M => ev (g ns) (Ph ns (n + 12)) .t (.lit (.bl true)) ρ M) (fun ρ M => (ev (g ns) (Ph ns (n + 12)) .v (.call 30 [.var 1, .call 32 [.var 3]]) ρ M).bind fun d ρ M => okE ρ M [d]) (.nm 11) [.fz .scr, .fz (.cell 0), lock1 e2, .fz (.int v), lock1 e4, lock1 e5, lock1 e6, lock1 e7, lock1 e8, lock1 e9, lock1 e10, .un, .un]) (cc := D.int) (f := tupD) (k := 1) (l := range u.toNat) (acc := []) (c := c) (M := M1) (fun x _ c M p => by
    obtain ⟨d, M', hd, p', e⟩ := pick_gen (ns := ns) (n := n + 10) (M := M) (l := (allB k).map tupD) (by intro z; have := congrArg List.length z; rw [List.length_map, la] at this; simp only [List.length_nil] at this; omega) (by rw [List.length_map]; omega) (fun d hd => by obtain ⟨a, _, rfl⟩ := List.mem_map.mp hd; rfl) p
    obtain ⟨a, ha, rfl⟩ := List.mem_map.mp hd
    exact ⟨a, _, M', mem_allB.mp ha, p', turn_T rfl ev_lit (el_1 (ev_call (m := .v) (evs_2 (ev_varv rfl) (ev_call (m := .v) (evs_1 (ev_varv rfl) nofun) (al M)) nofun nofun) e))⟩) (p1.le (by omega))
  rw [List.nil_append] at ee
  exact ⟨ls, M2, ok, by omega, p2, st_asg (ρ1 := LF e2 v e4 e5 e6 e7 e8 e9 e10) (x := .ow (ls.map tupD)) (ev_cp (m := .n) (ev_rg (m := .i) (.inl rfl) (evs_1 (ev_call (m := .v) (evs_2 (ev_varv rfl) ev_lit nofun nofun) e1) nofun) rg) rfl ee (mkL_tups _ (by unfold LINE; omega))) rfl⟩
theorem u3_ok (hk : k ≤ 5) {ls : List Lot} (ok : ∀ a ∈ ls, LotOk k a) (hl : ls.length ≤ 7) : st (g ns) (Ph ns (n + 12)) U3 (LF e2 v (.ow (ls.map tupD)) e5 e6 e7 e8 e9 e10) M = some (.ok .nx (LF e2 v (.fz (.lst (ls.map tupD))) (.fz (fam (minF ls))) e6 e7 e8 e9 e10) M) := by
  have le : Ph ns (n + 12) 31 [.lst (ls.map tupD)] M = _ := l_least_ok (ns := ns) (n := n + 10) (M := M) ls (by omega) fun a ha => line5 (Nat.le_trans (lot_len (ok a ha)) hk)
  rw [minL_minF ok] at le
  exact st_asg (ρ1 := LF e2 v (.fz (.lst (ls.map tupD))) e5 e6 e7 e8 e9 e10) (M1 := M) (x := .fz (fam (minF ls))) (ev_call (m := .v) (ds := [.lst (ls.map tupD)]) (ρ1 := LF e2 v (.fz (.lst (ls.map tupD))) e5 e6 e7 e8 e9 e10) (M1 := M) rfl le) rfl
theorem u4_ok {ls : List Lot} (hl : ls.length ≤ 7) {c : Nat} (p : Pen ns (c + 40) M) : ∃ b : Bool, ∃ its : List It, ∃ M', its.length ≤ 16 ∧ (∀ a, a ∈ tos its ↔ a ∈ ls) ∧ Pen ns c M' ∧ st (g ns) (Ph ns (n + 12)) U4 (LF e2 v (.fz (.lst (ls.map tupD))) e5 e6 e7 e8 e9 e10) M = some (.ok .nx (LF e2 v (.fz (.lst (ls.map tupD))) e5 (.fz (sq b (its.map itD))) e7 e8 e9 e10) M') := by
  obtain ⟨b, its, M1, il, im, p1, e1⟩ := turned_ok (ns := ns) (n := n + 10) (k := 0) (ls := ls) (by omega) p
  refine ⟨b, its, M1, il, im, p1, st_asg (ρ1 := LF e2 v (.fz (.lst (ls.map tupD))) e5 e6 e7 e8 e9 e10) (x := .fz (sq b (its.map itD))) (ev_call (m := .v) (evs_2 (ev_varv rfl) (ev_varv rfl) nofun nofun) e1) ?_⟩
  cases b <;> rfl
theorem sh_repr {d : D} {s : List Nat} (h : D.show d = some s) : biD cls .repr [d] = some (.str s) := by
  show (D.show d).map D.str = _
  rw [h]
  rfl
theorem ne_str {s : List Nat} (hc : (s.all fun c => decide (c < 128)) = true) : cmD .ne (.str s) (.str s) = some false := by
  have : easy (.str s) = true := by
    unfold easy
    simp only [D.plain, hc, D.dep]
    rfl
  simp only [cmD, this, Bool.and_self, if_true, D.eq, BEq.rfl, Bool.not_true]
theorem u5_ok {w : D} {s : List Nat} (hw : lamless w = true) (h : D.show w = some s) : st (g ns) (Ph ns (n + 12)) U5 (LF e2 v e4 e5 (.fz w) e7 e8 e9 e10) M = some (.ok .nx (LF e2 v e4 e5 (.fz w) (.fz (.str s)) e8 e9 e10) M) :=
  st_asg (ρ1 := LF e2 v e4 e5 (.fz w) e7 e8 e9 e10) (x := .fz (.str s)) (ev_bi (m := .v) (evs_1 (ev_var rfl hw) nofun) (sh_repr h)) rfl
theorem min_same {ls : List Lot} (ok : ∀ a ∈ ls, LotOk k a) {hs : List Lot} (h : ∀ a, a ∈ hs ↔ a ∈ ls) : minF hs = minF ls :=
  can_uniq (can_minF fun a ha => ok a ((h a).mp ha)) (can_minF ok) fun a _ => by
    rw [up_minF, up_minF]
    exact ⟨fun ⟨o, h1, h2⟩ => ⟨o, (h o).mp h1, h2⟩, fun ⟨o, h1, h2⟩ => ⟨o, (h o).mpr h1, h2⟩⟩
theorem u6_ok (hk : k ≤ 5) {ls : List Lot} (ok : ∀ a ∈ ls, LotOk k a) {b : Bool} {its : List It} (il : its.length ≤ 16) (im : ∀ a, a ∈ tos its ↔ a ∈ ls) {s : List Nat} (hs : D.show (sq b (its.map itD)) = some s) (hc : (s.all fun c => decide (c < 128)) = true) : st (g ns) (Ph ns (n + 12)) U6 (LF e2 v e4 (.fz (fam (minF ls))) (.fz (sq b (its.map itD))) (.fz (.str s)) e8 e9 e10) M = some (.ok .nx (LF e2 v e4 (.fz (fam (minF ls))) (.fz (sq b (its.map itD))) (.fz (.str s)) e8 e9 e10) M) := by
  have iok : ∀ p ∈ its, LotOk k p.2 := fun p hp => ok p.2 ((im p.2).mp (List.mem_map.mpr ⟨p, hp, rfl⟩))
  have x1 : Ph ns (n + 12) 21 [sq b (its.map itD)] M = _ := least_of_gen (ns := ns) (n := n + 8) (M := M) b iok hk (by omega)
  rw [min_same ok im] at x1
  have vl := lam_sq b (its.map itD)
  generalize sq b (its.map itD) = w at hs x1 vl ⊢
  have sh := show_fam hk (can_minF ok)
  have y5 : ev (g ns) (Ph ns (n + 12)) .b (.var 5) (LF e2 v e4 (.fz (fam (minF ls))) (.fz w) (.fz (.str s)) e8 e9 e10) M = some (.ok (fam (minF ls)) (LF e2 v e4 (.fz (fam (minF ls))) (.fz w) (.fz (.str s)) e8 e9 e10) M) := ev_var rfl rfl
  have one : ev (g ns) (Ph ns (n + 12)) .t (.cmp .ne (.bi .repr [.call 21 [.var 6]]) (.bi .repr [.var 5])) (LF e2 v e4 (.fz (fam (minF ls))) (.fz w) (.fz (.str s)) e8 e9 e10) M = some (.ok (.bl false) (LF e2 v e4 (.fz (fam (minF ls))) (.fz w) (.fz (.str s)) e8 e9 e10) M) := rp_ne (ev_call (m := .b) (evs_1 (ev_varv rfl) nofun) x1) y5 sh nofun nofun
  exact st_ifF (ev_orF one (ev_orF one (ev_cmp (m := .t) (ev_bi (m := .b) (evs_1 (ev_var rfl vl) nofun) (sh_repr hs)) (ev_var rfl rfl) (ne_str hc))))
theorem u7_ok (h1 : 1 ≤ k) (hk : k ≤ 5) (hv : v = k) {f : List Lot} (hc : Can k f) : st (g ns) (Ph ns (n + 12)) U7 (LF e2 v e4 (.fz (fam f)) e6 e7 e8 e9 e10) M = some (.ok .nx (LF e2 v e4 (.fz (fam f)) e6 e7 e8 e9 e10) M) := by
  have gen : ∀ b : Bool, Ph ns (n + 12) 19 [sq b ((f.map fun a => ((b, a) : It)).map itD), .int v] M = some (.ok (.bl true) M) := fun b => by
    have e := is_family_gen (ns := ns) (n := n + 7) (M := M) b h1 (its := f.map fun a => ((b, a) : It)) (fun p hp => by
      obtain ⟨a, ha, rfl⟩ := List.mem_map.mp hp
      exact hc.ok a ha) hk (by rw [List.length_map]; exact can_len hc hk)
    have t : tos (f.map fun a => ((b, a) : It)) = f := by
      unfold tos
      rw [List.map_map]
      exact List.map_id f
    rw [t, minF_can hc, decide_eq_true rfl] at e
    rw [hv]
    exact e
  have x1 := gen true
  rw [← fam_its] at x1
  have x2 := gen false
  have cpl : ev (g ns) (Ph ns (n + 12)) .v (.cp (.bi .list [.var 12]) (.nm 12) (.var 5) (.lit (.bl true))) (LF e2 v e4 (.fz (fam f)) e6 e7 e8 e9 e10) M = some (.ok (sq false ((f.map fun a => ((false, a) : It)).map itD)) (LF e2 v e4 (.fz (fam f)) e6 e7 e8 e9 e10) M) := by
    have it : ev (g ns) (Ph ns (n + 12)) .i (.var 5) (LF e2 v e4 (.fz (fam f)) e6 e7 e8 e9 e10) M = some (.ok (.lst (f.map tupD)) (LF e2 v e4 (.fz (fam f)) e6 e7 e8 e9 e10) M) := by
      simp only [sts, st, ev, evs, evPar, startE, viewD, takeD, lock, clear, reset, lock1, isOwn, slots, slotsL, modeOf, maker, mine, turnF, bindT, bindTs, bind_some, okE, fin, lift, iterD, lamless, tru, tupD, onInt, see, ansO, setAll, deref, Option.bind, Option.map, List.map, List.replicate, List.cons_append, List.nil_append, List.append_nil, List.getElem?_cons_zero, List.getElem?_cons_succ, List.set, List.length_cons, List.length_nil, Nat.sub_self, Nat.reduceAdd, Nat.reduceSub, if_true, Bool.false_eq_true, if_false, reduceCtorEq, Nat.zero_add]
    have mk := mkL_of (f := fun a : Lot => D.lst (a.map .int)) (l := f) (line32 (can_len hc hk)) fun _ _ => rfl
    have e : sq false ((f.map fun a => ((false, a) : It)).map itD) = .lst (f.map fun a => D.lst (a.map .int)) := by
      show D.lst _ = D.lst _
      rw [List.map_map]
      rfl
    rw [e]
    exact ev_cp (m := .v) it rfl (comp_map (c := tupD) (l := f) (f := fun a => .lst (a.map .int)) fun a ha => ⟨_, turn_T rfl ev_lit (el_1 (ev_bi (m := .v) (evs_1 (ev_var (d := tupD a) rfl rfl) nofun) rfl))⟩) mk
  exact st_ifF (ev_orF (ev_cmp (m := .t) (ev_call (m := .b) (evs_2 (ev_varv rfl) (ev_varv rfl) nofun nofun) x1) ev_lit rfl) (ev_cmp (m := .t) (ev_callp (m := .b) (evs_2 (ev_varv rfl) cpl nofun nofun) rfl x2) ev_lit rfl))
theorem u8_ok (h1 : 1 ≤ k) (hk : k ≤ 5) (hv : v = k) {b : Bool} {its : List It} (iok : ∀ p ∈ its, LotOk k p.2) (il : its.length ≤ 16) {c : Nat} (p : Pen ns (c + 2) M) : ∃ M', Pen ns c M' ∧ st (g ns) (Ph ns (n + 12)) U8 (LF e2 v e4 e5 (.fz (sq b (its.map itD))) e7 e8 e9 e10) M = some (.ok .nx (LF e2 v e4 e5 (.fz (sq b (its.map itD))) e7 e8 e9 e10) M') := by
  obtain ⟨d, M1, hd, p1, e1⟩ := odd_family_ok (ns := ns) (n := n + 8) hv h1 hk p
  have x1 : Ph ns (n + 12) 19 [sq b (its.map itD), .int v] M = _ := hv ▸ is_family_gen (ns := ns) (n := n + 7) (M := M) b h1 iok hk (by omega)
  have x2 : Ph ns (n + 12) 37 [sq b (its.map itD), .int v] M = _ := l_is_family_ok (ns := ns) (n := n + 9) (M := M) b iok hk (by omega)
  have x3 : Ph ns (n + 12) 19 [d, .int v] M1 = _ := hv ▸ is_family_odd (n := n + 7) h1 hk hd
  have vl := lam_sq b (its.map itD)
  generalize sq b (its.map itD) = w at x1 x2 vl ⊢
  exact ⟨M1, p1, st_ifF (ev_orF (rp_ne (ev_call (m := .b) (evs_2 (ev_varv rfl) (ev_varv rfl) nofun nofun) x1) (ev_call (m := .b) (evs_2 (ev_varv rfl) (ev_varv rfl) nofun nofun) x2) (show_bl _) nofun nofun)
    (ev_cmp (m := .t) (ev_call (m := .b) (evs_2 (ev_call (m := .v) (evs_2 (ev_varv rfl) (ev_varv rfl) nofun nofun) e1) (ev_varv rfl) nofun nofun) x3) ev_lit rfl))⟩
theorem mine_lam {d : D} (h : lamless d = true) (hs : ∀ l, d ≠ .set l) : mine false d = some (.fz d) := by
  cases d <;> first | rfl | (cases h; done) | exact absurd rfl (hs _)
structure OddF (ns : List Int) (m : Int) (d : D) : Prop where
  b : BadFam ns m d
  s : ∀ l, d ≠ .set l
theorem odd_not_set {m : Int} {d : D} (h : BadFam ns m d) : ∀ l, d ≠ .set l := by
  rintro l rfl
  have e := h.e 0 []
  have : Ph ns (0 + 4) 15 [.set l, .int m] [] = none := rfl
  rw [this] at e
  cases e
theorem u9_ok (h1 : 1 ≤ k) (hk : k ≤ 5) (hv : v = k) {c : Nat} (p : Pen ns (c + 3) M) : ∃ d w M', BadFam ns k d ∧ BadNum ns w ∧ Pen ns c M' ∧ st (g ns) (Ph ns (n + 12)) U9 (LF e2 v e4 e5 e6 e7 e8 e9 e10) M = some (.ok .nx (LF e2 v e4 e5 e6 e7 (.fz d) (.fz w) e10) M') := by
  obtain ⟨d, M1, hd, p1, e1⟩ := odd_family_ok (ns := ns) (n := n + 8) hv h1 hk (p.le (c' := c + 1 + 2) (by omega))
  obtain ⟨w, M2, hw, p2, ee⟩ := pick_gen (ns := ns) (n := n + 10) (M := M1) (l := numL) (List.cons_ne_nil _ _) (by decide) (fun d hd => (bad_num (ns := ns) d hd).l) p1
  have bw := bad_num (ns := ns) w hw
  have ws : ∀ l, w ≠ .set l := by
    rintro l rfl
    simp [numL] at hw
  have nl : ev (g ns) (Ph ns (n + 12)) .v NUM (LF e2 v e4 e5 e6 e7 e8 e9 e10) M1 = some (.ok (.lst numL) (LF e2 v e4 e5 e6 e7 e8 e9 e10) M1) := rfl
  have ep : evPar (g ns) (Ph ns (n + 12)) [.call 35 [.var 1, .var 3], .call 30 [.var 1, NUM]] (LF e2 v e4 e5 e6 e7 e8 e9 e10) M = some (.ok [.fz d, .fz w] (LF e2 v e4 e5 e6 e7 e8 e9 e10) M2) := by
    have x1 : ev (g ns) (Ph ns (n + 12)) .v (.call 35 [.var 1, .var 3]) (LF e2 v e4 e5 e6 e7 e8 e9 e10) M = some (.ok d (LF e2 v e4 e5 e6 e7 e8 e9 e10) M1) := ev_call (m := .v) (evs_2 (ev_varv rfl) (ev_varv rfl) nofun nofun) e1
    have x2 : ev (g ns) (Ph ns (n + 12)) .v (.call 30 [.var 1, NUM]) (LF e2 v e4 e5 e6 e7 e8 e9 e10) M1 = some (.ok w (LF e2 v e4 e5 e6 e7 e8 e9 e10) M2) := ev_call (m := .v) (evs_2 (ev_varv rfl) nl nofun nofun) ee
    have m1 := mine_lam hd.l (odd_not_set hd)
    have m2 := mine_lam bw.l ws
    simp only [evPar, maker, modeOf, Bool.false_eq_true, if_false, x1, x2, bind_some, m1, m2, okE]
  exact ⟨d, w, M2, hd, bw, p2, st_par2 ep⟩
def wN : D := .tup [.str numS, .str sitS]
def wF : D := .tup [.str lotS, .str famS]
def wL : D := .tup [.str lotS, .str lotsS]
theorem u10_ok {d w : D} (hd : lamless d = true) (hw : BadNum ns w) : st (g ns) (Ph ns (n + 12)) U10 (LF e2 v e4 e5 e6 e7 (.fz d) (.fz w) e10) M = some (.ok .nx (LF e2 v e4 e5 e6 e7 (.fz d) (.fz w) (.ow [wN, wN, wN])) M) := by
  have c1 : Ph ns (n + 12) 33 [.lam 42 [w]] M = some (.ok wN M) := word1 (xlam42 (all_lots_bad (n := n + 5) hw))
  have c2 : Ph ns (n + 12) 33 [.lam 43 [d, w]] M = some (.ok wN M) := word1 (xlam43 (is_family_bad (n := n + 5) hw))
  have c3 : Ph ns (n + 12) 33 [.lam 44 [d, w]] M = some (.ok wN M) := word1 (xlam44 (hits_bad (n := n + 5) hw))
  have k1 : capsOf (LF e2 v e4 e5 e6 e7 (.fz d) (.fz w) e10) [9] = some ([w], LF e2 v e4 e5 e6 e7 (.fz d) (.fz w) e10) := by
    show (if lamless w then _ else none) = _
    rw [hw.l]
    rfl
  have k2 : capsOf (LF e2 v e4 e5 e6 e7 (.fz d) (.fz w) e10) [8, 9] = some ([d, w], LF e2 v e4 e5 e6 e7 (.fz d) (.fz w) e10) := by
    show (if lamless d then (capsOf (LF e2 v e4 e5 e6 e7 (.fz d) (.fz w) e10) [9]).map _ else none) = _
    rw [hd, k1]
    rfl
  refine st_asg (ρ1 := LF e2 v e4 e5 e6 e7 (.fz d) (.fz w) e10) (d := .lst [wN, wN, wN]) (x := .ow [wN, wN, wN]) (ev_lst (m := .n) (evs_3 (ev_call (m := .v) (evs_1 (ev_lam k1) nofun) c1) (ev_call (m := .v) (evs_1 (ev_lam k2) nofun) c2) (ev_call (m := .v) (evs_1 (ev_lam k2) nofun) c3) nofun nofun nofun) rfl) rfl
theorem u11_ok (h1 : 1 ≤ k) (hk : k ≤ 5) (hv : v = k) {d w : D} (hd : BadFam ns k d) (hw : BadNum ns w) : st (g ns) (Ph ns (n + 12)) U11 (LF e2 v e4 e5 e6 e7 (.fz d) (.fz w) (.ow [wN, wN, wN])) M = some (.ok .nx (LF e2 v e4 e5 e6 e7 (.fz d) (.fz w) (.ow [wN, wN, wN, wN, wF, wF])) M) := by
  have c1 : Ph ns (n + 12) 33 [.lam 45 [d, w]] M = some (.ok wN M) := word1 (xlam45 (widened_badN (n := n + 5) hw))
  have c2 : Ph ns (n + 12) 33 [.lam 46 [d, .int v]] M = some (.ok wF M) := hv ▸ word2 (xlam46 (hits_odd (n := n + 4) h1 hk hd))
  have c3 : Ph ns (n + 12) 33 [.lam 47 [d, .int v]] M = some (.ok wF M) := hv ▸ word2 (xlam47 (widened_exc (n := n + 3) h1 hk (need_fam_bad (n := n + 3) hd)))
  have k2 : capsOf (LF e2 v e4 e5 e6 e7 (.fz d) (.fz w) (.ow [wN, wN, wN])) [8, 9] = some ([d, w], LF e2 v e4 e5 e6 e7 (.fz d) (.fz w) (.ow [wN, wN, wN])) := by
    show (if lamless d then ((if lamless w then _ else none : Option (List D × Ev))).map _ else none) = _
    rw [hd.l, hw.l]
    rfl
  have k3 : capsOf (LF e2 v e4 e5 e6 e7 (.fz d) (.fz w) (.ow [wN, wN, wN])) [8, 3] = some ([d, .int v], LF e2 v e4 e5 e6 e7 (.fz d) (.fz w) (.ow [wN, wN, wN])) := by
    show (if lamless d then _ else none) = _
    rw [hd.l]
    rfl
  have el : ev (g ns) (Ph ns (n + 12)) .b (.lst [.call 33 [.lam 45 [8, 9]], .call 33 [.lam 46 [8, 3]], .call 33 [.lam 47 [8, 3]]]) (LF e2 v e4 e5 e6 e7 (.fz d) (.fz w) (.ow [wN, wN, wN])) M = some (.ok (.lst [wN, wF, wF]) (LF e2 v e4 e5 e6 e7 (.fz d) (.fz w) (.ow [wN, wN, wN])) M) :=
    ev_lst (m := .b) (evs_3 (ev_call (m := .v) (evs_1 (ev_lam k2) nofun) c1) (ev_call (m := .v) (evs_1 (ev_lam k3) nofun) c2) (ev_call (m := .v) (evs_1 (ev_lam k3) nofun) c3) nofun nofun nofun) rfl
  show st (g ns) (Ph ns (n + 12)) (.ext 10 _) _ _ = _
  simp only [st, List.getElem?_cons_zero, List.getElem?_cons_succ, el, bind_some]
  rfl
theorem u12_ok {d w : D} : st (g ns) (Ph ns (n + 12)) U12 (LF e2 v e4 e5 e6 e7 (.fz d) (.fz w) (.ow [wN, wN, wN, wN, wF, wF])) M = some (.ok .nx (LF e2 v e4 e5 e6 e7 (.fz d) (.fz w) (.ow [wN, wN, wN, wN, wF, wF])) M) := by
  have du : ev (g ns) (Ph ns (n + 12)) .b DUE1 (LF e2 v e4 e5 e6 e7 (.fz d) (.fz w) (.ow [wN, wN, wN, wN, wF, wF])) M = some (.ok (.lst [wN, wN, wN, wN, wF, wF]) (LF e2 v e4 e5 e6 e7 (.fz d) (.fz w) (.ow [wN, wN, wN, wN, wF, wF])) M) := rfl
  exact st_ifF (ev_cmp (m := .t) (c := false) (ev_var rfl rfl) du (by decide))
theorem u13_ok (h1 : 1 ≤ k) (hk : k ≤ 5) (hv : v = k) {c : Nat} (p : Pen ns (c + 1) M) : ∃ M', Pen ns c M' ∧ st (g ns) (Ph ns (n + 12)) U13 (LF e2 v e4 e5 e6 e7 e8 e9 e10) M = some (.ok .nx (LF e2 v e4 e5 e6 e7 e8 e9 (.ow [wF, wF, wL])) M') := by
  obtain ⟨M1, p1, e1⟩ := xlam50 (ns := ns) (n := n + 6) p
  have x1 : Ph ns (n + 10) 27 [.tup [], .int (k : Int)] M = some (.exc (.ins 2 [.str famS]) M) := widened_exc (n := n + 3) h1 hk (need_fam_none (n := n + 3) true hk (its := []) (.inl rfl) famS)
  have x2 : Ph ns (n + 10) 27 [.lst [.tup []], .int (k : Int)] M = some (.exc (.ins 2 [.str famS]) M) := widened_exc (n := n + 3) h1 hk (need_fam_none (n := n + 3) false hk (its := [(true, [])]) (.inr rfl) famS)
  have c1 : Ph ns (n + 12) 33 [.lam 48 [.int v]] M = some (.ok wF M) := hv ▸ word2 (xlam48 x1)
  have c2 : Ph ns (n + 12) 33 [.lam 49 [.int v]] M = some (.ok wF M) := hv ▸ word2 (xlam49 x2)
  have c3 : Ph ns (n + 12) 33 [.lam 50 [.cell 0]] M = some (.ok wL M1) := word2 e1
  exact ⟨M1, p1, st_asg (ρ1 := LF e2 v e4 e5 e6 e7 e8 e9 e10) (d := .lst [wF, wF, wL]) (x := .ow [wF, wF, wL]) (ev_lst (m := .n) (evs_3 (ev_call (m := .v) (evs_1 (ev_lam rfl) nofun) c1) (ev_call (m := .v) (evs_1 (ev_lam rfl) nofun) c2) (ev_call (m := .v) (evs_1 (ev_lam rfl) nofun) c3) nofun nofun nofun) rfl) rfl⟩
theorem u14_ok {c : Nat} (p : Pen ns (c + 1) M) : ∃ M', Pen ns c M' ∧ st (g ns) (Ph ns (n + 12)) U14 (LF e2 v e4 e5 e6 e7 e8 e9 (.ow [wF, wF, wL])) M = some (.ok .nx (LF e2 v e4 e5 e6 e7 e8 e9 (.ow [wF, wF, wL])) M') := by
  obtain ⟨M1, p1, e1⟩ := xlam51 (ns := ns) (n := n + 6) p
  have c3 : Ph ns (n + 12) 33 [.lam 51 [.cell 0]] M = some (.ok wL M1) := word2 e1
  have du : ev (g ns) (Ph ns (n + 12)) .b DUE2 (LF e2 v e4 e5 e6 e7 e8 e9 (.ow [wF, wF, wL])) M = some (.ok (.lst [wF, wF, wL]) (LF e2 v e4 e5 e6 e7 e8 e9 (.ow [wF, wF, wL])) M) := rfl
  have tw : ev (g ns) (Ph ns (n + 12)) .b (.tup [.lit (.str lotS), .lit (.str lotsS)]) (LF e2 v e4 e5 e6 e7 e8 e9 (.ow [wF, wF, wL])) M1 = some (.ok wL (LF e2 v e4 e5 e6 e7 e8 e9 (.ow [wF, wF, wL])) M1) := rfl
  exact ⟨M1, p1, st_ifF (ev_orF (ev_cmp (m := .t) (c := false) (ev_var rfl rfl) du (by decide)) (ev_cmp (m := .t) (c := false) (ev_call (m := .b) (evs_1 (ev_lam rfl) nofun) c3) tw (by decide)))⟩
theorem turn_ok {c : Nat} (p : Pen ns (c + 200) M) : ∃ e3' e4' e5' e6' e7' e8' e9' e10' M', Pen ns c M' ∧ sts (g ns) (Ph ns (n + 12)) TB [.fz .scr, .fz (.cell 0), e2, e3, e4, e5, e6, e7, e8, e9, e10, .un, .un] M = some (.ok .nx [.fz .scr, .fz (.cell 0), e2, e3', e4', e5', e6', e7', e8', e9', e10', .un, .un] M') := by
  obtain ⟨v, M1, v1, v5, p1, s0⟩ := u0_ok (ns := ns) (n := n) (e2 := e2) (e3 := e3) (e4 := e4) (e5 := e5) (e6 := e6) (e7 := e7) (e8 := e8) (e9 := e9) (e10 := e10) (p.le (c' := c + 150 + 1) (by omega))
  obtain ⟨k, hv⟩ : ∃ k : Nat, v = k := ⟨v.toNat, by omega⟩
  have h1 : 1 ≤ k := by omega
  have hk : k ≤ 5 := by omega
  have s1 := u1_ok (ns := ns) (n := n) (M := M1) (e2 := e2) (e4 := e4) (e5 := e5) (e6 := e6) (e7 := e7) (e8 := e8) (e9 := e9) (e10 := e10) h1 hk hv
  obtain ⟨ls, M2, ok, ll, p2, s2⟩ := u2_ok (ns := ns) (n := n) (e2 := e2) (e4 := e4) (e5 := e5) (e6 := e6) (e7 := e7) (e8 := e8) (e9 := e9) (e10 := e10) h1 hk hv (p1.le (c' := c + 100 + 20) (by omega))
  have s3 := u3_ok (ns := ns) (n := n) (M := M2) (v := v) (e2 := e2) (e5 := e5) (e6 := e6) (e7 := e7) (e8 := e8) (e9 := e9) (e10 := e10) hk ok ll
  obtain ⟨b, its, M3, il, im, p3, s4⟩ := u4_ok (ns := ns) (n := n) (v := v) (e2 := e2) (e5 := .fz (fam (minF ls))) (e6 := e6) (e7 := e7) (e8 := e8) (e9 := e9) (e10 := e10) ll (p2.le (c' := c + 50 + 40) (by omega))
  have iok : ∀ p ∈ its, LotOk k p.2 := fun p hp => ok p.2 ((im p.2).mp (List.mem_map.mpr ⟨p, hp, rfl⟩))
  obtain ⟨s, hs, hc⟩ := show_its b hk iok (by omega)
  have s5 := u5_ok (ns := ns) (n := n) (M := M3) (v := v) (e2 := e2) (e4 := .fz (.lst (ls.map tupD))) (e5 := .fz (fam (minF ls))) (e7 := e7) (e8 := e8) (e9 := e9) (e10 := e10) (lam_sq b (its.map itD)) hs
  have s6 := u6_ok (ns := ns) (n := n) (M := M3) (v := v) (e2 := e2) (e4 := .fz (.lst (ls.map tupD))) (e8 := e8) (e9 := e9) (e10 := e10) hk ok il im hs hc
  have s7 := u7_ok (ns := ns) (n := n) (M := M3) (e2 := e2) (e4 := .fz (.lst (ls.map tupD))) (e6 := .fz (sq b (its.map itD))) (e7 := .fz (.str s)) (e8 := e8) (e9 := e9) (e10 := e10) h1 hk hv (can_minF ok)
  obtain ⟨M4, p4, s8⟩ := u8_ok (ns := ns) (n := n) (M := M3) (b := b) (e2 := e2) (e4 := .fz (.lst (ls.map tupD))) (e5 := .fz (fam (minF ls))) (e7 := .fz (.str s)) (e8 := e8) (e9 := e9) (e10 := e10) h1 hk hv iok il (p3.le (c' := c + 20 + 2) (by omega))
  obtain ⟨d, w, M5, hd, hw, p5, s9⟩ := u9_ok (ns := ns) (n := n) (M := M4) (e2 := e2) (e4 := .fz (.lst (ls.map tupD))) (e5 := .fz (fam (minF ls))) (e6 := .fz (sq b (its.map itD))) (e7 := .fz (.str s)) (e8 := e8) (e9 := e9) (e10 := e10) h1 hk hv (p4.le (c' := c + 10 + 3) (by omega))
  have s10 := u10_ok (ns := ns) (n := n) (M := M5) (v := v) (e2 := e2) (e4 := .fz (.lst (ls.map tupD))) (e5 := .fz (fam (minF ls))) (e6 := .fz (sq b (its.map itD))) (e7 := .fz (.str s)) (e10 := e10) hd.l hw
  have s11 := u11_ok (ns := ns) (n := n) (M := M5) (e2 := e2) (e4 := .fz (.lst (ls.map tupD))) (e5 := .fz (fam (minF ls))) (e6 := .fz (sq b (its.map itD))) (e7 := .fz (.str s)) h1 hk hv hd hw
  have s12 := u12_ok (ns := ns) (n := n) (M := M5) (v := v) (e2 := e2) (e4 := .fz (.lst (ls.map tupD))) (e5 := .fz (fam (minF ls))) (e6 := .fz (sq b (its.map itD))) (e7 := .fz (.str s)) (d := d) (w := w)
  obtain ⟨M6, p6, s13⟩ := u13_ok (ns := ns) (n := n) (M := M5) (e2 := e2) (e4 := .fz (.lst (ls.map tupD))) (e5 := .fz (fam (minF ls))) (e6 := .fz (sq b (its.map itD))) (e7 := .fz (.str s)) (e8 := .fz d) (e9 := .fz w) (e10 := .ow [wN, wN, wN, wN, wF, wF]) h1 hk hv (p5.le (c' := c + 1 + 1) (by omega))
  obtain ⟨M7, p7, s14⟩ := u14_ok (ns := ns) (n := n) (M := M6) (v := v) (e2 := e2) (e4 := .fz (.lst (ls.map tupD))) (e5 := .fz (fam (minF ls))) (e6 := .fz (sq b (its.map itD))) (e7 := .fz (.str s)) (e8 := .fz d) (e9 := .fz w) p6
  exact ⟨_, _, _, _, _, _, _, _, M7, p7, (sts_nx s0).trans ((sts_nx s1).trans ((sts_nx s2).trans ((sts_nx s3).trans ((sts_nx s4).trans ((sts_nx s5).trans ((sts_nx s6).trans ((sts_nx s7).trans ((sts_nx s8).trans ((sts_nx s9).trans ((sts_nx s10).trans ((sts_nx s11).trans ((sts_nx s12).trans ((sts_nx s13).trans ((sts_nx s14).trans sts_nil))))))))))))))⟩
theorem loop_ok : ∀ {l : List Int} {c : Nat} {M : Mem} {e2 e3 e4 e5 e6 e7 e8 e9 e10 : En}, Pen ns (c + l.length * 200) M → ∃ ρ' M', forL (fun ρ M => sts (g ns) (Ph ns (n + 12)) TB ρ M) (.nm 2) (l.map .int) [.fz .scr, .fz (.cell 0), e2, e3, e4, e5, e6, e7, e8, e9, e10, .un, .un] M = some (.ok .nx ρ' M')
  | [], c, M, e2, e3, e4, e5, e6, e7, e8, e9, e10, p => ⟨_, _, rfl⟩
  | x :: l, c, M, e2, e3, e4, e5, e6, e7, e8, e9, e10, p => by
    obtain ⟨e3', e4', e5', e6', e7', e8', e9', e10', M1, p', e⟩ := turn_ok (ns := ns) (n := n) (M := M) (e2 := .fz (.int x)) (e3 := e3) (e4 := e4) (e5 := e5) (e6 := e6) (e7 := e7) (e8 := e8) (e9 := e9) (e10 := e10) (p.le (c' := c + l.length * 200 + 200) (by simp only [List.length_cons]; omega))
    obtain ⟨ρ', M', e'⟩ := loop_ok (l := l) (c := c) (M := M1) (e2 := .fz (.int x)) (e3 := e3') (e4 := e4') (e5 := e5') (e6 := e6') (e7 := e7') (e8 := e8') (e9 := e9') (e10 := e10') p'
    refine ⟨ρ', M', ?_⟩
    rw [List.map_cons]
    unfold forL
    simp only [bindT, List.set, e, bind_some, e']
theorem law_ok (h : ns.length ≤ 63) : ∃ M, Ph ns (n + 13) 38 [.scr] [] = some (.ok (.bl true) M) := by
  have p0 : Pen ns (0 + (range 5).length * 200) (penM ns 0 0) := ⟨0, 0, by decide, by rw [len_range]; decide, by decide, rfl⟩
  obtain ⟨ρ', M', e⟩ := loop_ok (ns := ns) (n := n) (e2 := .un) (e3 := .un) (e4 := .un) (e5 := .un) (e6 := .un) (e7 := .un) (e8 := .un) (e9 := .un) (e10 := .un) p0
  refine ⟨M', call_rt (F := F38) rfl rfl rfl ⟨ρ', ?_⟩⟩
  rw [F38_body]
  exact (sts_nx (st_asg (ρ1 := [.fz .scr, .un, .un, .un, .un, .un, .un, .un, .un, .un, .un, .un, .un]) (x := .fz (.cell 0)) (ev_call (m := .v) (evs_1 (ev_varv rfl) nofun) (pen_ok (n := n + 11) h)) rfl)).trans ((sts_nx (for_of (ev_rg (.inr rfl) (evs_1 ev_lit nofun) (rangeD_ints 5 (by decide))) e)).trans (sts_ret ev_lit))
end
end
end K24
end
section
set_option linter.all false
set_option maxRecDepth 100000
set_option maxHeartbeats 0
namespace K24
open PySem PySem.Spec PyProof.Rows L2 DV
abbrev body : List Stmt := PySem.Challenge.pw_siteladders_k24_families_made_and_refuse.main.body
def fnm0 : List Str := ["",
  "",
  "",
  "",
  "",
  "",
  "is_integer",
  "is_within",
  "is_lot",
  "need_number",
  "holds",
  "touches",
  "by_size",
  "least_in",
  "lots_below",
  "is_family_of",
  "need_sites",
  "need_any_family",
  "need_family",
  "is_family",
  "all_lots",
  "least_of",
  "does",
  "do_meet",
  "apart_from",
  "blockers_of",
  "hits",
  "widened",
  "_law_pen",
  "_law_draw"]
def fnm1 : List Str := ["_law_pick",
  "_law_least",
  "_law_all",
  "_law_word_of",
  "_law_odd_lot",
  "_law_odd_family",
  "_law_turned",
  "_law_is_family",
  "law",
  "",
  "",
  "",
  "",
  "",
  "",
  "",
  "",
  "",
  "",
  "",
  "",
  ""]
abbrev fnm : List Str := fnm0 ++ fnm1
def numC : List (Str × Int) := [("MOST_SITES", 5), ("MOST_LOTS", 32)]
def bi : List Str := ["super", "len", "abs", "all", "any", "sum", "min", "max", "int", "bool", "str", "repr", "tuple", "list", "isinstance", "range", "zip", "enumerate", "sorted", "set"]
def shp0 : List Shp := [⟨6, "is_integer", 1, [], [], []⟩,
  ⟨7, "is_within", 3, [], [], []⟩,
  ⟨12, "by_size", 1, [], [], []⟩,
  ⟨10, "holds", 2, [], [], []⟩,
  ⟨8, "is_lot", 2, [], [], []⟩,
  ⟨13, "least_in", 1, [], [], []⟩,
  ⟨9, "need_number", 4, [], [], []⟩,
  ⟨15, "is_family_of", 2, [], [], []⟩,
  ⟨17, "need_any_family", 3, [], [], []⟩,
  ⟨16, "need_sites", 1, [], [], []⟩,
  ⟨14, "lots_below", 1, [], [], []⟩,
  ⟨24, "apart_from", 2, [], [], []⟩,
  ⟨11, "touches", 2, [], [], []⟩,
  ⟨25, "blockers_of", 2, [], [], []⟩,
  ⟨18, "need_family", 4, [], [], []⟩,
  ⟨23, "do_meet", 2, [], [], []⟩,
  ⟨22, "does", 2, [], [], []⟩,
  ⟨29, "_law_draw", 2, [], [], []⟩,
  ⟨30, "_law_pick", 2, [], [], []⟩,
  ⟨34, "_law_odd_lot", 2, [], [], []⟩,
  ⟨31, "_law_least", 1, [], [], []⟩,
  ⟨28, "_law_pen", 1, [], [], []⟩,
  ⟨20, "all_lots", 1, [], [], []⟩,
  ⟨32, "_law_all", 1, [], [], []⟩,
  ⟨20, "all_lots", 0, ["sites"], [], []⟩,
  ⟨36, "_law_turned", 2, [], [], []⟩,
  ⟨21, "least_of", 1, [], [], []⟩,
  ⟨21, "least_of", 0, ["lots"], [], []⟩,
  ⟨19, "is_family", 2, [], [], []⟩,
  ⟨19, "is_family", 0, ["sites", "value"], [], [1, 0]⟩]
def shp1 : List Shp := [⟨37, "_law_is_family", 2, [], [], []⟩,
  ⟨35, "_law_odd_family", 2, [], [], []⟩,
  ⟨33, "_law_word_of", 1, [], [], []⟩,
  ⟨26, "hits", 2, [], [], []⟩,
  ⟨27, "widened", 2, [], [], []⟩,
  ⟨38, "law", 1, [], [], []⟩]
abbrev shp : List Shp := shp0 ++ shp1
def cnm : List Str := ["LadderError", "BadNumber", "BadLot", "BadKind", "BadRegime", "BadLadder", "Misfit"]
def ers : List (Nat × Str) := [(1, "part"), (2, "part"), (6, "part")]
def cat : List Nat := [0]
def anm : List Str := ["part"]
def lam39 : LamI := (lamIn body "_law_least" 0 []).getD ⟨⟨[], [], none, [], [], none, []⟩, .Tuple [] 0 default, default, "", []⟩
def lam40 : LamI := (lamIn body "_law_least" 0 []).getD ⟨⟨[], [], none, [], [], none, []⟩, .Tuple [] 0 default, default, "", []⟩
def lam41 : LamI := (lamIn body "_law_all" 0 []).getD ⟨⟨[], [], none, [], [], none, []⟩, .Tuple [] 0 default, default, "", []⟩
def lam42 : LamI := (lamIn body "law" 0 ["number"]).getD ⟨⟨[], [], none, [], [], none, []⟩, .Tuple [] 0 default, default, "", []⟩
def lam43 : LamI := (lamIn body "law" 1 ["odd", "number"]).getD ⟨⟨[], [], none, [], [], none, []⟩, .Tuple [] 0 default, default, "", []⟩
def lam44 : LamI := (lamIn body "law" 2 ["odd", "number"]).getD ⟨⟨[], [], none, [], [], none, []⟩, .Tuple [] 0 default, default, "", []⟩
def lam45 : LamI := (lamIn body "law" 3 ["odd", "number"]).getD ⟨⟨[], [], none, [], [], none, []⟩, .Tuple [] 0 default, default, "", []⟩
def lam46 : LamI := (lamIn body "law" 4 ["odd", "sites"]).getD ⟨⟨[], [], none, [], [], none, []⟩, .Tuple [] 0 default, default, "", []⟩
def lam47 : LamI := (lamIn body "law" 5 ["odd", "sites"]).getD ⟨⟨[], [], none, [], [], none, []⟩, .Tuple [] 0 default, default, "", []⟩
def lam48 : LamI := (lamIn body "law" 6 ["sites"]).getD ⟨⟨[], [], none, [], [], none, []⟩, .Tuple [] 0 default, default, "", []⟩
def lam49 : LamI := (lamIn body "law" 7 ["sites"]).getD ⟨⟨[], [], none, [], [], none, []⟩, .Tuple [] 0 default, default, "", []⟩
def lam50 : LamI := (lamIn body "law" 8 ["pen"]).getD ⟨⟨[], [], none, [], [], none, []⟩, .Tuple [] 0 default, default, "", []⟩
def lam51 : LamI := (lamIn body "law" 9 ["pen"]).getD ⟨⟨[], [], none, [], [], none, []⟩, .Tuple [] 0 default, default, "", []⟩
def lam : Nat → Option LamI := fun k => match k with
  | 39 => some lam39
  | 40 => some lam40
  | 41 => some lam41
  | 42 => some lam42
  | 43 => some lam43
  | 44 => some lam44
  | 45 => some lam45
  | 46 => some lam46
  | 47 => some lam47
  | 48 => some lam48
  | 49 => some lam49
  | 50 => some lam50
  | 51 => some lam51
  | _ => none
def top : Ct := { sc := default, N := [], fnm := fnm, cnm := cnm, cst := numC.map fun p => (p.1, .int p.2), bi := bi, fnb := fun _ => false, shp := shp, lam := lam, ers := ers, cat := cat, cls := cls, fl := fl, anm := anm }
def mks : List Str := ["_law_least", "_law_all", "law"]
def rows0 : List Rw := [⟨6, "is_integer", ["value"], ["value"], false⟩,
  ⟨7, "is_within", ["value", "least", "most"], ["value", "least", "most"], false⟩,
  ⟨8, "is_lot", ["value", "many"], ["value", "many", "each", "one", "other"], false⟩,
  ⟨9, "need_number", ["value", "part", "least", "most"], ["value", "part", "least", "most"], false⟩,
  ⟨10, "holds", ["lot", "other"], ["lot", "other", "site"], false⟩,
  ⟨11, "touches", ["lot", "other"], ["lot", "other", "site"], false⟩,
  ⟨12, "by_size", ["lot"], ["lot"], false⟩,
  ⟨13, "least_in", ["lots"], ["lots", "found", "lot", "other"], false⟩,
  ⟨14, "lots_below", ["sites"], ["sites", "found", "site", "lot"], false⟩,
  ⟨15, "is_family_of", ["value", "sites"], ["value", "sites", "lots", "lot"], false⟩,
  ⟨16, "need_sites", ["value"], ["value"], false⟩,
  ⟨17, "need_any_family", ["value", "part", "sites"], ["value", "part", "sites", "lot"], false⟩,
  ⟨18, "need_family", ["value", "part", "sites", "is_empty_let"], ["value", "part", "sites", "is_empty_let", "found"], false⟩,
  ⟨19, "is_family", ["value", "sites"], ["value", "sites"], false⟩,
  ⟨20, "all_lots", ["sites"], ["sites"], false⟩,
  ⟨21, "least_of", ["lots"], ["lots", "lot"], false⟩,
  ⟨22, "does", ["family", "lot"], ["family", "lot", "each"], false⟩,
  ⟨23, "do_meet", ["one", "other"], ["one", "other", "lot"], false⟩,
  ⟨24, "apart_from", ["family", "lot"], ["family", "lot", "each"], false⟩,
  ⟨25, "blockers_of", ["family", "sites"], ["family", "sites", "lot", "each"], false⟩,
  ⟨26, "hits", ["family", "sites"], ["family", "sites"], false⟩,
  ⟨27, "widened", ["family", "sites"], ["family", "sites", "found", "more", "lot"], false⟩,
  ⟨28, "_law_pen", ["script"], ["script"], false⟩,
  ⟨29, "_law_draw", ["pen", "many"], ["pen", "many", "digit", "at", "cell", "great", "blend"], false⟩,
  ⟨30, "_law_pick", ["pen", "some"], ["pen", "some"], false⟩,
  ⟨31, "_law_least", ["lots"], ["lots", "some", "found", "lot", "one", "site"], true⟩,
  ⟨32, "_law_all", ["sites"], ["sites", "found", "number", "site"], true⟩,
  ⟨33, "_law_word_of", ["ask"], ["ask", "caught", "found", "error"], false⟩,
  ⟨34, "_law_odd_lot", ["pen", "sites"], ["pen", "sites"], false⟩,
  ⟨35, "_law_odd_family", ["pen", "sites"], ["pen", "sites", "some"], false⟩]
def rows1 : List Rw := [⟨36, "_law_turned", ["pen", "lots"], ["pen", "lots", "found", "lot", "at"], false⟩,
  ⟨37, "_law_is_family", ["value", "sites"], ["value", "sites", "lots", "lot"], false⟩,
  ⟨38, "law", ["script"], ["script", "pen", "turn", "sites", "lots", "due", "told", "kept", "odd", "number", "heard", "one", "lot"], true⟩]
abbrev rows : List Rw := rows0 ++ rows1
def fn : List He.DefD := rows.map fun r => datum r.x (defOf r.x body)
def fa : List He.Fa := (rows.map fun r => He.Fa.glo r.x) ++ ((bi.map He.Fa.free) ++ ((numC.map fun p => He.Fa.int p.1 p.2) ++ cnm.map He.Fa.glo))
theorem rowsOk : (rows.all fun r => rowB top T body r) = true := by kernel_rfl
theorem rowOk : ∀ r ∈ rows, rowB top T body r = true := fun r hr => List.all_eq_true.mp rowsOk r hr
theorem bnd0 : BindOk "is_integer" (defOf "is_integer" body) ["value"] [] 1 [] := fun kV doc pm an cdv ct us ws h1 h2 => match us, ws, h1, h2 with
  | [_], [], _, _ => by kernel_rfl
theorem bnd1 : BindOk "is_within" (defOf "is_within" body) ["value", "least", "most"] [] 3 [] := fun kV doc pm an cdv ct us ws h1 h2 => match us, ws, h1, h2 with
  | [_, _, _], [], _, _ => by kernel_rfl
theorem bnd2 : BindOk "by_size" (defOf "by_size" body) ["lot"] [] 1 [] := fun kV doc pm an cdv ct us ws h1 h2 => match us, ws, h1, h2 with
  | [_], [], _, _ => by kernel_rfl
theorem bnd3 : BindOk "holds" (defOf "holds" body) ["lot", "other"] [] 2 [] := fun kV doc pm an cdv ct us ws h1 h2 => match us, ws, h1, h2 with
  | [_, _], [], _, _ => by kernel_rfl
theorem bnd4 : BindOk "is_lot" (defOf "is_lot" body) ["value", "many"] [] 2 [] := fun kV doc pm an cdv ct us ws h1 h2 => match us, ws, h1, h2 with
  | [_, _], [], _, _ => by kernel_rfl
theorem bnd5 : BindOk "least_in" (defOf "least_in" body) ["lots"] [] 1 [] := fun kV doc pm an cdv ct us ws h1 h2 => match us, ws, h1, h2 with
  | [_], [], _, _ => by kernel_rfl
theorem bnd6 : BindOk "need_number" (defOf "need_number" body) ["value", "part", "least", "most"] [] 4 [] := fun kV doc pm an cdv ct us ws h1 h2 => match us, ws, h1, h2 with
  | [_, _, _, _], [], _, _ => by kernel_rfl
theorem bnd7 : BindOk "is_family_of" (defOf "is_family_of" body) ["value", "sites"] [] 2 [] := fun kV doc pm an cdv ct us ws h1 h2 => match us, ws, h1, h2 with
  | [_, _], [], _, _ => by kernel_rfl
theorem bnd8 : BindOk "need_any_family" (defOf "need_any_family" body) ["value", "part", "sites"] [] 3 [] := fun kV doc pm an cdv ct us ws h1 h2 => match us, ws, h1, h2 with
  | [_, _, _], [], _, _ => by kernel_rfl
theorem bnd9 : BindOk "need_sites" (defOf "need_sites" body) ["value"] [] 1 [] := fun kV doc pm an cdv ct us ws h1 h2 => match us, ws, h1, h2 with
  | [_], [], _, _ => by kernel_rfl
theorem bnd10 : BindOk "lots_below" (defOf "lots_below" body) ["sites"] [] 1 [] := fun kV doc pm an cdv ct us ws h1 h2 => match us, ws, h1, h2 with
  | [_], [], _, _ => by kernel_rfl
theorem bnd11 : BindOk "apart_from" (defOf "apart_from" body) ["family", "lot"] [] 2 [] := fun kV doc pm an cdv ct us ws h1 h2 => match us, ws, h1, h2 with
  | [_, _], [], _, _ => by kernel_rfl
theorem bnd12 : BindOk "touches" (defOf "touches" body) ["lot", "other"] [] 2 [] := fun kV doc pm an cdv ct us ws h1 h2 => match us, ws, h1, h2 with
  | [_, _], [], _, _ => by kernel_rfl
theorem bnd13 : BindOk "blockers_of" (defOf "blockers_of" body) ["family", "sites"] [] 2 [] := fun kV doc pm an cdv ct us ws h1 h2 => match us, ws, h1, h2 with
  | [_, _], [], _, _ => by kernel_rfl
theorem bnd14 : BindOk "need_family" (defOf "need_family" body) ["value", "part", "sites", "is_empty_let"] [] 4 [] := fun kV doc pm an cdv ct us ws h1 h2 => match us, ws, h1, h2 with
  | [_, _, _, _], [], _, _ => by kernel_rfl
theorem bnd15 : BindOk "do_meet" (defOf "do_meet" body) ["one", "other"] [] 2 [] := fun kV doc pm an cdv ct us ws h1 h2 => match us, ws, h1, h2 with
  | [_, _], [], _, _ => by kernel_rfl
theorem bnd16 : BindOk "does" (defOf "does" body) ["family", "lot"] [] 2 [] := fun kV doc pm an cdv ct us ws h1 h2 => match us, ws, h1, h2 with
  | [_, _], [], _, _ => by kernel_rfl
theorem bnd17 : BindOk "_law_draw" (defOf "_law_draw" body) ["pen", "many"] [] 2 [] := fun kV doc pm an cdv ct us ws h1 h2 => match us, ws, h1, h2 with
  | [_, _], [], _, _ => by kernel_rfl
theorem bnd18 : BindOk "_law_pick" (defOf "_law_pick" body) ["pen", "some"] [] 2 [] := fun kV doc pm an cdv ct us ws h1 h2 => match us, ws, h1, h2 with
  | [_, _], [], _, _ => by kernel_rfl
theorem bnd19 : BindOk "_law_odd_lot" (defOf "_law_odd_lot" body) ["pen", "sites"] [] 2 [] := fun kV doc pm an cdv ct us ws h1 h2 => match us, ws, h1, h2 with
  | [_, _], [], _, _ => by kernel_rfl
theorem bnd20 : BindOk "_law_least" (defOf "_law_least" body) ["lots"] [] 1 [] := fun kV doc pm an cdv ct us ws h1 h2 => match us, ws, h1, h2 with
  | [_], [], _, _ => by kernel_rfl
theorem bnd21 : BindOk "_law_pen" (defOf "_law_pen" body) ["script"] [] 1 [] := fun kV doc pm an cdv ct us ws h1 h2 => match us, ws, h1, h2 with
  | [_], [], _, _ => by kernel_rfl
theorem bnd22 : BindOk "all_lots" (defOf "all_lots" body) ["sites"] [] 1 [] := fun kV doc pm an cdv ct us ws h1 h2 => match us, ws, h1, h2 with
  | [_], [], _, _ => by kernel_rfl
theorem bnd23 : BindOk "_law_all" (defOf "_law_all" body) ["sites"] [] 1 [] := fun kV doc pm an cdv ct us ws h1 h2 => match us, ws, h1, h2 with
  | [_], [], _, _ => by kernel_rfl
theorem bnd24 : BindOk "all_lots" (defOf "all_lots" body) ["sites"] ["sites"] 0 [] := fun kV doc pm an cdv ct us ws h1 h2 => match us, ws, h1, h2 with
  | [], [_], _, _ => by kernel_rfl
theorem bnd25 : BindOk "_law_turned" (defOf "_law_turned" body) ["pen", "lots"] [] 2 [] := fun kV doc pm an cdv ct us ws h1 h2 => match us, ws, h1, h2 with
  | [_, _], [], _, _ => by kernel_rfl
theorem bnd26 : BindOk "least_of" (defOf "least_of" body) ["lots"] [] 1 [] := fun kV doc pm an cdv ct us ws h1 h2 => match us, ws, h1, h2 with
  | [_], [], _, _ => by kernel_rfl
theorem bnd27 : BindOk "least_of" (defOf "least_of" body) ["lots"] ["lots"] 0 [] := fun kV doc pm an cdv ct us ws h1 h2 => match us, ws, h1, h2 with
  | [], [_], _, _ => by kernel_rfl
theorem bnd28 : BindOk "is_family" (defOf "is_family" body) ["value", "sites"] [] 2 [] := fun kV doc pm an cdv ct us ws h1 h2 => match us, ws, h1, h2 with
  | [_, _], [], _, _ => by kernel_rfl
theorem bnd29 : BindOk "is_family" (defOf "is_family" body) ["value", "sites"] ["sites", "value"] 0 [1, 0] := fun kV doc pm an cdv ct us ws h1 h2 => match us, ws, h1, h2 with
  | [], [_, _], _, _ => by kernel_rfl
theorem bnd30 : BindOk "_law_is_family" (defOf "_law_is_family" body) ["value", "sites"] [] 2 [] := fun kV doc pm an cdv ct us ws h1 h2 => match us, ws, h1, h2 with
  | [_, _], [], _, _ => by kernel_rfl
theorem bnd31 : BindOk "_law_odd_family" (defOf "_law_odd_family" body) ["pen", "sites"] [] 2 [] := fun kV doc pm an cdv ct us ws h1 h2 => match us, ws, h1, h2 with
  | [_, _], [], _, _ => by kernel_rfl
theorem bnd32 : BindOk "_law_word_of" (defOf "_law_word_of" body) ["ask"] [] 1 [] := fun kV doc pm an cdv ct us ws h1 h2 => match us, ws, h1, h2 with
  | [_], [], _, _ => by kernel_rfl
theorem bnd33 : BindOk "hits" (defOf "hits" body) ["family", "sites"] [] 2 [] := fun kV doc pm an cdv ct us ws h1 h2 => match us, ws, h1, h2 with
  | [_, _], [], _, _ => by kernel_rfl
theorem bnd34 : BindOk "widened" (defOf "widened" body) ["family", "sites"] [] 2 [] := fun kV doc pm an cdv ct us ws h1 h2 => match us, ws, h1, h2 with
  | [_, _], [], _, _ => by kernel_rfl
theorem bnd35 : BindOk "law" (defOf "law" body) ["script"] [] 1 [] := fun kV doc pm an cdv ct us ws h1 h2 => match us, ws, h1, h2 with
  | [_], [], _, _ => by kernel_rfl
theorem shpOk : ∀ q ∈ shp, ∃ r ∈ rows, r.i = q.i ∧ r.x = q.x ∧ q.dd = [] ∧ BindOk r.x (defOf r.x body) r.ps q.ks q.p q.pm :=
  List.forall_mem_cons.mpr ⟨⟨_, List.mem_of_getElem? (i := 0) (l := rows) rfl, rfl, rfl, rfl, bnd0⟩,
  List.forall_mem_cons.mpr ⟨⟨_, List.mem_of_getElem? (i := 1) (l := rows) rfl, rfl, rfl, rfl, bnd1⟩,
  List.forall_mem_cons.mpr ⟨⟨_, List.mem_of_getElem? (i := 6) (l := rows) rfl, rfl, rfl, rfl, bnd2⟩,
  List.forall_mem_cons.mpr ⟨⟨_, List.mem_of_getElem? (i := 4) (l := rows) rfl, rfl, rfl, rfl, bnd3⟩,
  List.forall_mem_cons.mpr ⟨⟨_, List.mem_of_getElem? (i := 2) (l := rows) rfl, rfl, rfl, rfl, bnd4⟩,
  List.forall_mem_cons.mpr ⟨⟨_, List.mem_of_getElem? (i := 7) (l := rows) rfl, rfl, rfl, rfl, bnd5⟩,
  List.forall_mem_cons.mpr ⟨⟨_, List.mem_of_getElem? (i := 3) (l := rows) rfl, rfl, rfl, rfl, bnd6⟩,
  List.forall_mem_cons.mpr ⟨⟨_, List.mem_of_getElem? (i := 9) (l := rows) rfl, rfl, rfl, rfl, bnd7⟩,
  List.forall_mem_cons.mpr ⟨⟨_, List.mem_of_getElem? (i := 11) (l := rows) rfl, rfl, rfl, rfl, bnd8⟩,
  List.forall_mem_cons.mpr ⟨⟨_, List.mem_of_getElem? (i := 10) (l := rows) rfl, rfl, rfl, rfl, bnd9⟩,
  List.forall_mem_cons.mpr ⟨⟨_, List.mem_of_getElem? (i := 8) (l := rows) rfl, rfl, rfl, rfl, bnd10⟩,
  List.forall_mem_cons.mpr ⟨⟨_, List.mem_of_getElem? (i := 18) (l := rows) rfl, rfl, rfl, rfl, bnd11⟩,
  List.forall_mem_cons.mpr ⟨⟨_, List.mem_of_getElem? (i := 5) (l := rows) rfl, rfl, rfl, rfl, bnd12⟩,
  List.forall_mem_cons.mpr ⟨⟨_, List.mem_of_getElem? (i := 19) (l := rows) rfl, rfl, rfl, rfl, bnd13⟩,
  List.forall_mem_cons.mpr ⟨⟨_, List.mem_of_getElem? (i := 12) (l := rows) rfl, rfl, rfl, rfl, bnd14⟩,
  List.forall_mem_cons.mpr ⟨⟨_, List.mem_of_getElem? (i := 17) (l := rows) rfl, rfl, rfl, rfl, bnd15⟩,
  List.forall_mem_cons.mpr ⟨⟨_, List.mem_of_getElem? (i := 16) (l := rows) rfl, rfl, rfl, rfl, bnd16⟩,
  List.forall_mem_cons.mpr ⟨⟨_, List.mem_of_getElem? (i := 23) (l := rows) rfl, rfl, rfl, rfl, bnd17⟩,
  List.forall_mem_cons.mpr ⟨⟨_, List.mem_of_getElem? (i := 24) (l := rows) rfl, rfl, rfl, rfl, bnd18⟩,
  List.forall_mem_cons.mpr ⟨⟨_, List.mem_of_getElem? (i := 28) (l := rows) rfl, rfl, rfl, rfl, bnd19⟩,
  List.forall_mem_cons.mpr ⟨⟨_, List.mem_of_getElem? (i := 25) (l := rows) rfl, rfl, rfl, rfl, bnd20⟩,
  List.forall_mem_cons.mpr ⟨⟨_, List.mem_of_getElem? (i := 22) (l := rows) rfl, rfl, rfl, rfl, bnd21⟩,
  List.forall_mem_cons.mpr ⟨⟨_, List.mem_of_getElem? (i := 14) (l := rows) rfl, rfl, rfl, rfl, bnd22⟩,
  List.forall_mem_cons.mpr ⟨⟨_, List.mem_of_getElem? (i := 26) (l := rows) rfl, rfl, rfl, rfl, bnd23⟩,
  List.forall_mem_cons.mpr ⟨⟨_, List.mem_of_getElem? (i := 14) (l := rows) rfl, rfl, rfl, rfl, bnd24⟩,
  List.forall_mem_cons.mpr ⟨⟨_, List.mem_of_getElem? (i := 30) (l := rows) rfl, rfl, rfl, rfl, bnd25⟩,
  List.forall_mem_cons.mpr ⟨⟨_, List.mem_of_getElem? (i := 15) (l := rows) rfl, rfl, rfl, rfl, bnd26⟩,
  List.forall_mem_cons.mpr ⟨⟨_, List.mem_of_getElem? (i := 15) (l := rows) rfl, rfl, rfl, rfl, bnd27⟩,
  List.forall_mem_cons.mpr ⟨⟨_, List.mem_of_getElem? (i := 13) (l := rows) rfl, rfl, rfl, rfl, bnd28⟩,
  List.forall_mem_cons.mpr ⟨⟨_, List.mem_of_getElem? (i := 13) (l := rows) rfl, rfl, rfl, rfl, bnd29⟩,
  List.forall_mem_cons.mpr ⟨⟨_, List.mem_of_getElem? (i := 31) (l := rows) rfl, rfl, rfl, rfl, bnd30⟩,
  List.forall_mem_cons.mpr ⟨⟨_, List.mem_of_getElem? (i := 29) (l := rows) rfl, rfl, rfl, rfl, bnd31⟩,
  List.forall_mem_cons.mpr ⟨⟨_, List.mem_of_getElem? (i := 27) (l := rows) rfl, rfl, rfl, rfl, bnd32⟩,
  List.forall_mem_cons.mpr ⟨⟨_, List.mem_of_getElem? (i := 20) (l := rows) rfl, rfl, rfl, rfl, bnd33⟩,
  List.forall_mem_cons.mpr ⟨⟨_, List.mem_of_getElem? (i := 21) (l := rows) rfl, rfl, rfl, rfl, bnd34⟩,
  List.forall_mem_cons.mpr ⟨⟨_, List.mem_of_getElem? (i := 32) (l := rows) rfl, rfl, rfl, rfl, bnd35⟩,
  List.forall_mem_nil _⟩⟩⟩⟩⟩⟩⟩⟩⟩⟩⟩⟩⟩⟩⟩⟩⟩⟩⟩⟩⟩⟩⟩⟩⟩⟩⟩⟩⟩⟩⟩⟩⟩⟩⟩⟩
theorem fnmOk : (fnm.all fun x => decide (x = "") || rows.any fun r => decide (r.x = x)) = true := by kernel_rfl
theorem mkrOk : (rows.all fun r => !r.mkr || mks.contains r.x) = true := by kernel_rfl
theorem lamOk39 : lamRowB top T lam39 39 ["lot"] ["lot"] = true := by kernel_rfl
theorem lamSc39 : lscB ["lot"] ["lot"] lam39.fr lam39.scope = true := by kernel_rfl
theorem lamBn39 (cl : List (Str × Addr)) (pm cv ctv : Value) (us : List Value) (h : us.length = 1) : bindArgs (PySem.W.kla_fn "<lambda>" lam39.qual lam39.params lam39.body lam39.scope cl pm cv ctv) ⟨us, []⟩ = pure (List.zip (["lot"] : List Str) us) := match us, h with
  | [_], _ => by kernel_rfl
theorem lamOk40 : lamRowB top T lam40 40 ["lot"] ["lot"] = true := by kernel_rfl
theorem lamSc40 : lscB ["lot"] ["lot"] lam40.fr lam40.scope = true := by kernel_rfl
theorem lamBn40 (cl : List (Str × Addr)) (pm cv ctv : Value) (us : List Value) (h : us.length = 1) : bindArgs (PySem.W.kla_fn "<lambda>" lam40.qual lam40.params lam40.body lam40.scope cl pm cv ctv) ⟨us, []⟩ = pure (List.zip (["lot"] : List Str) us) := match us, h with
  | [_], _ => by kernel_rfl
theorem lamOk41 : lamRowB top T lam41 41 ["lot"] ["lot"] = true := by kernel_rfl
theorem lamSc41 : lscB ["lot"] ["lot"] lam41.fr lam41.scope = true := by kernel_rfl
theorem lamBn41 (cl : List (Str × Addr)) (pm cv ctv : Value) (us : List Value) (h : us.length = 1) : bindArgs (PySem.W.kla_fn "<lambda>" lam41.qual lam41.params lam41.body lam41.scope cl pm cv ctv) ⟨us, []⟩ = pure (List.zip (["lot"] : List Str) us) := match us, h with
  | [_], _ => by kernel_rfl
theorem lamOk42 : lamRowB top T lam42 42 [] ["number"] = true := by kernel_rfl
theorem lamSc42 : lscB ["number"] [] lam42.fr lam42.scope = true := by kernel_rfl
theorem lamBn42 (cl : List (Str × Addr)) (pm cv ctv : Value) (us : List Value) (h : us.length = 0) : bindArgs (PySem.W.kla_fn "<lambda>" lam42.qual lam42.params lam42.body lam42.scope cl pm cv ctv) ⟨us, []⟩ = pure (List.zip ([] : List Str) us) := match us, h with
  | [], _ => by kernel_rfl
theorem lamOk43 : lamRowB top T lam43 43 [] ["odd", "number"] = true := by kernel_rfl
theorem lamSc43 : lscB ["odd", "number"] [] lam43.fr lam43.scope = true := by kernel_rfl
theorem lamBn43 (cl : List (Str × Addr)) (pm cv ctv : Value) (us : List Value) (h : us.length = 0) : bindArgs (PySem.W.kla_fn "<lambda>" lam43.qual lam43.params lam43.body lam43.scope cl pm cv ctv) ⟨us, []⟩ = pure (List.zip ([] : List Str) us) := match us, h with
  | [], _ => by kernel_rfl
theorem lamOk44 : lamRowB top T lam44 44 [] ["odd", "number"] = true := by kernel_rfl
theorem lamSc44 : lscB ["odd", "number"] [] lam44.fr lam44.scope = true := by kernel_rfl
theorem lamBn44 (cl : List (Str × Addr)) (pm cv ctv : Value) (us : List Value) (h : us.length = 0) : bindArgs (PySem.W.kla_fn "<lambda>" lam44.qual lam44.params lam44.body lam44.scope cl pm cv ctv) ⟨us, []⟩ = pure (List.zip ([] : List Str) us) := match us, h with
  | [], _ => by kernel_rfl
theorem lamOk45 : lamRowB top T lam45 45 [] ["odd", "number"] = true := by kernel_rfl
theorem lamSc45 : lscB ["odd", "number"] [] lam45.fr lam45.scope = true := by kernel_rfl
theorem lamBn45 (cl : List (Str × Addr)) (pm cv ctv : Value) (us : List Value) (h : us.length = 0) : bindArgs (PySem.W.kla_fn "<lambda>" lam45.qual lam45.params lam45.body lam45.scope cl pm cv ctv) ⟨us, []⟩ = pure (List.zip ([] : List Str) us) := match us, h with
  | [], _ => by kernel_rfl
theorem lamOk46 : lamRowB top T lam46 46 [] ["odd", "sites"] = true := by kernel_rfl
theorem lamSc46 : lscB ["odd", "sites"] [] lam46.fr lam46.scope = true := by kernel_rfl
theorem lamBn46 (cl : List (Str × Addr)) (pm cv ctv : Value) (us : List Value) (h : us.length = 0) : bindArgs (PySem.W.kla_fn "<lambda>" lam46.qual lam46.params lam46.body lam46.scope cl pm cv ctv) ⟨us, []⟩ = pure (List.zip ([] : List Str) us) := match us, h with
  | [], _ => by kernel_rfl
theorem lamOk47 : lamRowB top T lam47 47 [] ["odd", "sites"] = true := by kernel_rfl
theorem lamSc47 : lscB ["odd", "sites"] [] lam47.fr lam47.scope = true := by kernel_rfl
theorem lamBn47 (cl : List (Str × Addr)) (pm cv ctv : Value) (us : List Value) (h : us.length = 0) : bindArgs (PySem.W.kla_fn "<lambda>" lam47.qual lam47.params lam47.body lam47.scope cl pm cv ctv) ⟨us, []⟩ = pure (List.zip ([] : List Str) us) := match us, h with
  | [], _ => by kernel_rfl
theorem lamOk48 : lamRowB top T lam48 48 [] ["sites"] = true := by kernel_rfl
theorem lamSc48 : lscB ["sites"] [] lam48.fr lam48.scope = true := by kernel_rfl
theorem lamBn48 (cl : List (Str × Addr)) (pm cv ctv : Value) (us : List Value) (h : us.length = 0) : bindArgs (PySem.W.kla_fn "<lambda>" lam48.qual lam48.params lam48.body lam48.scope cl pm cv ctv) ⟨us, []⟩ = pure (List.zip ([] : List Str) us) := match us, h with
  | [], _ => by kernel_rfl
theorem lamOk49 : lamRowB top T lam49 49 [] ["sites"] = true := by kernel_rfl
theorem lamSc49 : lscB ["sites"] [] lam49.fr lam49.scope = true := by kernel_rfl
theorem lamBn49 (cl : List (Str × Addr)) (pm cv ctv : Value) (us : List Value) (h : us.length = 0) : bindArgs (PySem.W.kla_fn "<lambda>" lam49.qual lam49.params lam49.body lam49.scope cl pm cv ctv) ⟨us, []⟩ = pure (List.zip ([] : List Str) us) := match us, h with
  | [], _ => by kernel_rfl
theorem lamOk50 : lamRowB top T lam50 50 [] ["pen"] = true := by kernel_rfl
theorem lamSc50 : lscB ["pen"] [] lam50.fr lam50.scope = true := by kernel_rfl
theorem lamBn50 (cl : List (Str × Addr)) (pm cv ctv : Value) (us : List Value) (h : us.length = 0) : bindArgs (PySem.W.kla_fn "<lambda>" lam50.qual lam50.params lam50.body lam50.scope cl pm cv ctv) ⟨us, []⟩ = pure (List.zip ([] : List Str) us) := match us, h with
  | [], _ => by kernel_rfl
theorem lamOk51 : lamRowB top T lam51 51 [] ["pen"] = true := by kernel_rfl
theorem lamSc51 : lscB ["pen"] [] lam51.fr lam51.scope = true := by kernel_rfl
theorem lamBn51 (cl : List (Str × Addr)) (pm cv ctv : Value) (us : List Value) (h : us.length = 0) : bindArgs (PySem.W.kla_fn "<lambda>" lam51.qual lam51.params lam51.body lam51.scope cl pm cv ctv) ⟨us, []⟩ = pure (List.zip ([] : List Str) us) := match us, h with
  | [], _ => by kernel_rfl
theorem lamsOk : ∀ i L, lam i = some L → ∃ (F : Fn) (e : E) (ps N : List Str), T[i]? = some F ∧ LamOk top F L e ps N := by
  intro i L h
  unfold lam at h
  split at h
  · cases h
    exact lamRow_ok lamOk39 (lscope_by lamSc39) lamBn39
  · cases h
    exact lamRow_ok lamOk40 (lscope_by lamSc40) lamBn40
  · cases h
    exact lamRow_ok lamOk41 (lscope_by lamSc41) lamBn41
  · cases h
    exact lamRow_ok lamOk42 (lscope_by lamSc42) lamBn42
  · cases h
    exact lamRow_ok lamOk43 (lscope_by lamSc43) lamBn43
  · cases h
    exact lamRow_ok lamOk44 (lscope_by lamSc44) lamBn44
  · cases h
    exact lamRow_ok lamOk45 (lscope_by lamSc45) lamBn45
  · cases h
    exact lamRow_ok lamOk46 (lscope_by lamSc46) lamBn46
  · cases h
    exact lamRow_ok lamOk47 (lscope_by lamSc47) lamBn47
  · cases h
    exact lamRow_ok lamOk48 (lscope_by lamSc48) lamBn48
  · cases h
    exact lamRow_ok lamOk49 (lscope_by lamSc49) lamBn49
  · cases h
    exact lamRow_ok lamOk50 (lscope_by lamSc50) lamBn50
  · cases h
    exact lamRow_ok lamOk51 (lscope_by lamSc51) lamBn51
  · cases h
theorem txt : Txt top T body rows fn fa mks lam := by
  refine ⟨rfl, rfl, fun x hx => List.mem_append_right _ (List.mem_append_right _ (List.mem_append_right _ (List.mem_map.mpr ⟨x, hx, rfl⟩))), by decide, fun _ => by decide, rowOk, fun r hr => ⟨List.mem_map.mpr ⟨r, hr, rfl⟩, List.mem_append_left _ (List.mem_map.mpr ⟨r, hr, rfl⟩)⟩, shpOk, fun i x h hx => ?_, fun x hx => List.mem_append_right _ (List.mem_append_left _ (List.mem_map.mpr ⟨x, hx, rfl⟩)), fun x d hm => ?_, lamsOk, fun r hr hm => ?_⟩
  · have z := List.all_eq_true.mp fnmOk x (List.mem_of_getElem? h)
    rw [Bool.or_eq_true, decide_eq_true_eq] at z
    obtain ⟨r, hr, e⟩ := List.any_eq_true.mp (z.resolve_left hx)
    exact ⟨r, hr, of_decide_eq_true e⟩
  · obtain ⟨p, hp, e⟩ := List.mem_map.mp (show (x, d) ∈ numC.map fun p => (p.1, D.int p.2) from hm)
    cases e
    exact ⟨p.2, rfl, List.mem_append_right _ (List.mem_append_right _ (List.mem_append_left _ (List.mem_map.mpr ⟨p, hp, rfl⟩)))⟩
  · have z := List.all_eq_true.mp mkrOk r hr
    rw [hm] at z
    exact List.contains_iff_mem.mp (by simpa using z)
abbrev R : PySem.W.OpenRow := PySem.W.OpenLaw.row PySem.Challenge.rw_siteladders_k24_families_made_and_refuse
abbrev hk : PySem.W.Hook := hookW 4 fa fn (mks.map fun x => (x, none)) (apart R.prog top mks)
def ob (s : PySem.W.SharedT) : He.AlX := lookW 4 fa fn (mks.map fun x => (x, none)) (apart R.prog top mks) (HandSHeadRun.getT s)
theorem ob_eq (s : PySem.W.SharedT) : ob s = hk.obs s.abs := lookW_eq (HandSHeadRun.getT_eq s)
def loose0 : List Str := ["LadderError",
  "BadNumber",
  "BadLot",
  "BadKind",
  "BadRegime",
  "BadLadder",
  "Misfit",
  "is_integer",
  "is_within",
  "is_lot",
  "need_number",
  "MOST_SITES",
  "MOST_LOTS",
  "holds",
  "touches",
  "by_size",
  "least_in",
  "lots_below",
  "is_family_of",
  "need_sites",
  "need_any_family",
  "need_family",
  "is_family",
  "all_lots",
  "least_of",
  "does",
  "do_meet",
  "apart_from",
  "blockers_of",
  "hits"]
def loose1 : List Str := ["widened",
  "_law_pen",
  "_law_draw",
  "_law_pick",
  "_law_least",
  "_law_all",
  "_law_word_of",
  "_law_odd_lot",
  "_law_odd_family",
  "_law_turned",
  "_law_is_family"]
abbrev loose : List Str := loose0 ++ loose1
theorem run (w : World) : HandSHeadRun.RunEq R (PySem.W.view R.prog [45]) hk ob 6000 loose w := by
  intro os
  kernel_rfl
def r0 : Rw := ⟨38, "law", ["script"], ["script", "pen", "turn", "sites", "lots", "due", "told", "kept", "odd", "number", "heard", "one", "lot"], true⟩
theorem r0_in : r0 ∈ rows := List.mem_of_getElem? (i := 32) rfl
end K24
end
section
set_option Elab.async false
set_option linter.all false
set_option maxRecDepth 100000
set_option maxHeartbeats 0
namespace K24
open PySem PySem.Spec PyProof.Rows L2 DV
theorem val (ns : List Int) (h : ns.length ≤ 63) : ∃ M, callF { cls := top.cls, fl := top.fl, ns := ns } T (12 + 1) r0.i [.scr] [] = some (.ok (.bl true) M) := law_ok (n := 0) h
end K24
open PySem PySem.W PySem.Calls PyProof.Rows
theorem PySem.Challenge.cw_siteladders_k24_families_made_and_refuse_holds : PySem.Challenge.rw_siteladders_k24_families_made_and_refuse.Holds := by
  w_on; o_law
  refine HandSHeadRun.head_any (r := K24.R) (q := view K24.R.prog [45]) (H := K24.hk) (ob := K24.ob) (M := 6000) (loose := K24.loose) (d := HandSHeadRun.topDef K24.R.prog 45) (kwd := []) K24.ob_eq
    (by kernel_rfl) (fun s => by kernel_rfl) K24.run (by kernel_rfl) (by kernel_rfl) (by kernel_rfl) (by rfl) (by first | assumption | decide +kernel) (by decide +kernel) ⟨rfl, rfl, rfl, rfl, rfl, by decide +kernel⟩ ?hw ?hc
  case hw => w_witness2
  case hc =>
    refine DV.walk_G (l := PySem.Challenge.rw_siteladders_k24_families_made_and_refuse) (n := 63) (k := 12 + 1) (x := "script") rfl (by decide) (by kernel_rfl) ⟨rfl, by decide, by decide⟩ ?F
    intro w mg fa h Y G hmg0
    obtain ⟨K, KX, c⟩ := Y
    have hmg : mg ("law" : PySem.Str) = some (.ref fa) := by
      have e : (HandSHeadRun.topDef K24.R.prog 45).name = ("law" : PySem.Str) := by kernel_rfl
      rw [← e]
      exact hmg0
    exact ⟨K, KX, DV.lawG_of (r0 := K24.r0) K24.txt KX G c K24.r0_in rfl (fun kV doc pm an cdv ct us ws h1 h2 => match us, ws, h1, h2 with | [_], [], _, _ => by kernel_rfl) hmg K24.val⟩
end
